import Derived.Test.YtblmdppbbdbbjabGreatQPx8
import Derived.Test.YtblmdppbbdbbjabGreatQPx14
import Derived.Test.YtblmdppbbdbbjabGreatQPx42
import Derived.Test.YtblmdppbbdbbjabGreatQPx67
import Derived.Test.YtblmdppbbdbbjabGreatQPx32
import Derived.Test.YtblmdppbbdbbjabGreatQPx40
import Derived.Test.YtblmdppbbdbbjabGreatQPx55
namespace Go.Proofs.YtblmdppbbdbbjabGreat.QP
set_option maxHeartbeats 8000000
set_option maxRecDepth 100000
open Go.RowKit Go.Proofs.YtblmdppbbdbbjabGreatW.PrintWords Go.Proofs.YtblmdppbbdbbjabGreatW.PrintLast Go.Proofs.YtblmdppbbdbbjabGreatW.PrintMore
attribute [local go_sem] isSome_setCell max2_int min2_int max_two min_two max_three min_three max_four min_four
set_option linter.unusedVariables false
set_option linter.unusedSimpArgs false
/-! ### spec_l10Triangular: function 36 -/
def spec_l10Triangular.f (k:Nat) (a0 a1_0 a1_1 a1_2 a1_3:Int):Option (Int×Int×Int×Int×Bool):=(spec_l04Move.f k a0 a1_0 a1_1 a1_2 a1_3 0 0 0).bind fun bt582=>(if bt582.2.2.2=true then((spec_l01Power.f k a0 (wrap64 (bt582.1+(mx bt582.2.2.1 (wrap64 (-bt582.1)))))).bind fun t587=>((spec_l01Power.f k a0 (wrap64 ((mx bt582.2.2.1 (wrap64 (-bt582.1))) - bt582.2.2.1))).bind fun t588=>((spec_l01Power.f k a0 (mx bt582.2.2.1 (wrap64 (-bt582.1)))).bind fun t589=>((spec_l04Reduce.f k t587 (wrap64 (bt582.2.1*t588)) 0 t589).bind fun bt590=>(some (bt590.1,bt590.2.1,bt590.2.2.1,bt590.2.2.2.1,bt590.2.2.2.2)))))) else(some (0,0,0,0,false)))
def spec_l10Triangular.T5:Bool×List (List Nat×List Nat):=(true,[([],[]),([],[]),([1],[1]),([],[]),([2,3],[2,3]),([0,4],[0,4]),([],[]),([6],[6]),([],[]),([],[]),([],[]),([10],[10]),([9,11],[9,11]),([8,12,5],[8,12]),([7,13],[7,13]),([5,14],[5,14]),([],[]),([],[]),([16,17,13],[16,17]),([18],[18]),([15,19],[15,19]),([20,18],[20]),([21],[21]),([22],[22]),([22],[22]),([],[]),([25,23,21,0,1,2,3,4,5,6,7,8,9,10,11,12,13,14,15,16,17,18,19,20,21,22,23,25],[23,25]),([24,26,0,1,2,3,4,5,6,7,8,9,10,11,12,13,14,15,16,17,18,19,20,21,22,23,24,25,26],[24])])
def spec_l10Triangular.B5:List Nat:=[0,0,2,0,14,31,0,64,0,0,0,1024,3584,7999,16383,32767,0,0,212799,474943,1048575,2097151,4194303,8388607,8388607,0,50331647,134217727]
theorem spec_l10Triangular.tab5:rtab .any (opsOf Tryz.f36 5)=spec_l10Triangular.T5:=by kernel_rfl
theorem spec_l10Triangular.bits5:waitsOk spec_l10Triangular.T5.2 spec_l10Triangular.B5=true:=by kernel_rfl
theorem spec_l10Triangular.calls {k:Nat} {a0 d1 d2 d3 d4 r1 r2 r3 r4:Int} {r5:Bool} (w:World) (h:spec_l10Triangular.f k a0 d1 d2 d3 d4=some (r1,r2,r3,r4,r5)):
  Calls Tryz.prog 36 #[i6 a0,.agg #[i6 d1,i6 d2,i6 d3,i6 d4]] w fun e w'=>e= .returned (.tuple #[.agg #[i6 r1,i6 r2,i6 r3,i6 r4],.bool r5])∧Below w.heap.size w w':=by
 have hu28:=Tryz.underlying28
 have hu42:=Tryz.underlying42
 have hu26:=Tryz.underlying26
 have HB:=Aside0.mk (Below.refl w.heap.size w)
 unfold spec_l10Triangular.f at h;have H:=h;clear h;replace H:=oc_ H;obtain⟨⟨b4,b1,b5,j6⟩,A3,H⟩:=H;replace H:=ib_ H
 rcases H with ⟨rfl,H⟩|⟨rfl,H⟩
 ·obtain⟨g0,d9⟩:∃j_:Int,(mx b5 (wrap64 (-b4)))=j_:=⟨_,rfl⟩
  simp only[d9] at H
  (try rw[d9] at A3)
  have hji5_k: (if b5<(IntKind.i64.wrap (-b4)) then(IntKind.i64.wrap (-b4)) else b5)=g0:=by simp only[i64_w];exact d9
  have j1: (if b5<(wrap64 (-b4)) then(wrap64 (-b4)) else b5)=g0:=d9
  replace H:=oc_ H;obtain⟨d0,A6,H⟩:=H;replace H:=oc_ H;obtain⟨b9,A7,H⟩:=H;replace H:=oc_ H;obtain⟨d5,A8,H⟩:=H;replace H:=oc_ H;obtain⟨⟨f3,f4,f5,f6,f7⟩,A9,H⟩:=H
  simp only[Option.some.injEq,Prod.mk.injEq] at H
  obtain⟨rfl,rfl,rfl,rfl,rfl⟩:=H
  go_enter Tryz.func36,Tryz.ntmps36
  try go_wp2_with (first|((refine gd_ 3 ?_);refine by_ 3 #[i6 d1,i6 d2,i6 d3,i6 d4] 28 HB ?_;intro b7 hg l2 a3 hb g1 HB_;replace HB:=HB_;clear hb hg)|((refine gd_ 4 ?_);refine by_ 4 #[i6 0,i6 0,i6 0,i6 0] 28 HB ?_;intro b6 hg l3 a4 hb g2 HB_;have d6:=bm_ a3 hg;have f8:=bn_ a3 hg;replace a3:=bb_ a3 hb;replace HB:=HB_;clear hb hg;have:=nn_ d6;have hz13:=ch4_ a3)|((refine gc_ 45 ?_);refine ge_ 15 Tryz.func45 #[i6 a0,.agg #[i6 d1,i6 d2,i6 d3,i6 d4],.agg #[i6 0,i6 0,i6 0]] ?_;(with_reducible refine mo_ (spec_l04Move.calls _ A3.out) ?_);intro l4 hb;replace a3:=bb_ a3 hb;replace a4:=bb_ a4 hb;replace HB:=bt_ HB hb;clear hb)|((refine gd_ 6 ?_);refine by_ 6 #[i6 0,i6 0,i6 0] 42 HB ?_;intro a2 hg g3 a1 hb g4 HB_;have f1:=bm_ a3 hg;have d7:=bn_ a3 hg;have f2:=bm_ a4 hg;have d8:=bn_ a4 hg;replace a3:=bb_ a3 hb;replace a4:=bb_ a4 hb;replace HB:=HB_;clear hb hg;have:=nn_ d7;have:=nn_ d8;have hz18:=ch3_ a1))
  have i7:Aside0 ((((g3.setCell ⟨a2,0,none⟩ (i6 b4)).setCell ⟨a2,1,none⟩ (i6 b1)).setCell ⟨a2,2,none⟩ (i6 b5)).heap[b7]?=some (.cells #[i6 d1,i6 d2,i6 d3,i6 d4] 28 (0,0))):=fl_ a3 f1
  have i8:Aside0 ((((g3.setCell ⟨a2,0,none⟩ (i6 b4)).setCell ⟨a2,1,none⟩ (i6 b1)).setCell ⟨a2,2,none⟩ (i6 b5)).heap[b6]?=some (.cells #[i6 0,i6 0,i6 0,i6 0] 28 (0,0))):=fl_ a4 f2
  have i9:Aside0 ((((g3.setCell ⟨a2,0,none⟩ (i6 b4)).setCell ⟨a2,1,none⟩ (i6 b1)).setCell ⟨a2,2,none⟩ (i6 b5)).heap[a2]?=some (.cells #[i6 b4,i6 b1,i6 b5] 42 (0,0))):=bp_ a1
  have j0:Aside0 (Below w.heap.size w (((g3.setCell ⟨a2,0,none⟩ (i6 b4)).setCell ⟨a2,1,none⟩ (i6 b1)).setCell ⟨a2,2,none⟩ (i6 b5))):=bw_ HB
  try clear a3
  try clear a4
  try clear a1
  try clear HB
  generalize (((g3.setCell ⟨a2,0,none⟩ (i6 b4)).setCell ⟨a2,1,none⟩ (i6 b1)).setCell ⟨a2,2,none⟩ (i6 b5))=j7 at i7 i8 i9 j0⊢
  have a3:=i7
  have a4:=i8
  have a1:=i9
  have HB:=j0
  clear i7 i8 i9 j0;replace a3:=bd_ a3;replace a4:=bd_ a4;replace a1:=bd_ a1;replace HB:=be_ HB
  refine start_ (n:=28) (S:=fun w'=>c_ w' a2 0 (i6 b4)∧c_ w' a2 1 (i6 b1)∧c_ w' a2 2 (i6 b5)) (ds:=[]) (bv_ 28 0) (by kernel_rfl) rfl rfl ⟨cz_ a1 0,cz_ a1 1,cz_ a1 2⟩ (fun hHeld=>?_);refine with_tabW spec_l10Triangular.tab5 spec_l10Triangular.bits5 (fun HT_ HW_=>?_)
  generalize j7.drew=l5 at a3 a4 a1 HB hHeld⊢
  refine px_ HT_ 0 28 1 ?_;refine px_ HT_ 1 29 3 ?_;refine px_ HT_ 3 31 11 ?_;refine px_ HT_ 6 34 75 ?_;refine px_ HT_ 8 36 331 ?_;refine px_ HT_ 9 37 843 ?_;refine px_ HT_ 10 38 1867 ?_;refine px_ HT_ 16 44 67403 ?_;refine px_ HT_ 17 45 198475 ?_
  refine ta_ HT_ HW_ 2 (some 30) (bv_ 28 198479) hHeld ?_ (hy:=by rintro w' ⟨s0,s1,s2⟩;go_simp;with_reducible rfl)
  refine px_ HT_ 4 32 198495 ?_
  refine ta_ HT_ HW_ 7 (some 35) (bv_ 28 198623) hHeld ?_ (hy:=by rintro w' ⟨s0,s1,s2⟩;go_simp;with_reducible rfl)
  refine ta_ HT_ HW_ 11 (some 39) (bv_ 28 200671) hHeld ?_ (hy:=by rintro w' ⟨s0,s1,s2⟩;go_simp;with_reducible rfl)
  refine px_ HT_ 12 40 204767 ?_
  refine join_ (σ:=Nat) 2 (bv_ 28 67108863) (fun s_=>[(33,i6 d0),(41,i6 b9),(46,i6 d5),(49,.tuple #[.agg #[i6 f3,i6 f4,i6 f5,i6 f6],.bool f7]),(9,.pointer (some ⟨s_,0,none⟩)),(42,i6 (wrap64 (b1*b9))),(43,.agg #[i6 d0,i6 (wrap64 (b1*b9))]),(47,.agg #[i6 0,i6 d5]),(48,.agg #[i6 d0,i6 (wrap64 (b1*b9)),i6 0,i6 d5]),(27,.tuple #[.agg #[i6 f3,i6 f4,i6 f5,i6 f6],.bool f7]),(50,.agg #[i6 f3,i6 f4,i6 f5,i6 f6]),(51,.bool f7)]) (fun s_ w'=>(c_ w' a2 0 (i6 b4)∧c_ w' a2 1 (i6 b1)∧c_ w' a2 2 (i6 b5))∧(b_ w' b7 #[i6 d1,i6 d2,i6 d3,i6 d4] 28)∧(b_ w' b6 #[i6 0,i6 0,i6 0,i6 0] 28)∧(b_ w' a2 #[i6 b4,i6 b1,i6 b5] 42)∧(b_ w' s_ #[i6 0,i6 0,i6 0,i6 0] 28)∧(w.heap.size≤s_)∧(w.heap.size≤s_)∧(b7≠s_)∧(s_≠b7)∧(b6≠s_)∧(s_≠b6)∧(a2≠s_)∧(s_≠a2)∧(Below w.heap.size w w')) ?_ ?_
  rotate_left
  ·intro hJ5_13_18_21_25
   refine join_ (σ:=Unit) 3 (bv_ 28 33554431) (fun s_=>[(33,i6 d0),(41,i6 b9),(46,i6 d5),(49,.tuple #[.agg #[i6 f3,i6 f4,i6 f5,i6 f6],.bool f7]),(42,i6 (wrap64 (b1*b9))),(43,.agg #[i6 d0,i6 (wrap64 (b1*b9))]),(47,.agg #[i6 0,i6 d5]),(48,.agg #[i6 d0,i6 (wrap64 (b1*b9)),i6 0,i6 d5]),(27,.tuple #[.agg #[i6 f3,i6 f4,i6 f5,i6 f6],.bool f7]),(50,.agg #[i6 f3,i6 f4,i6 f5,i6 f6]),(51,.bool f7)]) (fun s_ w'=>(c_ w' a2 0 (i6 b4)∧c_ w' a2 1 (i6 b1)∧c_ w' a2 2 (i6 b5))∧(b_ w' b7 #[i6 d1,i6 d2,i6 d3,i6 d4] 28)∧(b_ w' b6 #[i6 0,i6 0,i6 0,i6 0] 28)∧(b_ w' a2 #[i6 b4,i6 b1,i6 b5] 42)∧(Below w.heap.size w w')) ?_ ?_
   rotate_left
   ·intro hJ5_13_18_21
    refine join_ (σ:=Nat) 6 (bv_ 28 35651583) (fun s_=>[(33,i6 d0),(41,i6 b9),(46,i6 d5),(9,.pointer (some ⟨s_,0,none⟩)),(42,i6 (wrap64 (b1*b9))),(43,.agg #[i6 d0,i6 (wrap64 (b1*b9))]),(47,.agg #[i6 0,i6 d5]),(48,.agg #[i6 d0,i6 (wrap64 (b1*b9)),i6 0,i6 d5])]) (fun s_ w'=>(c_ w' a2 0 (i6 b4)∧c_ w' a2 1 (i6 b1)∧c_ w' a2 2 (i6 b5))∧(b_ w' b7 #[i6 d1,i6 d2,i6 d3,i6 d4] 28)∧(b_ w' b6 #[i6 0,i6 0,i6 0,i6 0] 28)∧(b_ w' a2 #[i6 b4,i6 b1,i6 b5] 42)∧(b_ w' s_ #[i6 0,i6 0,i6 0,i6 0] 28)∧(w.heap.size≤s_)∧(w.heap.size≤s_)∧(b7≠s_)∧(s_≠b7)∧(b6≠s_)∧(s_≠b6)∧(a2≠s_)∧(s_≠a2)∧(Below w.heap.size w w')) ?_ ?_
    rotate_left
    ·intro hJ5_13_18_25
     refine join_ (σ:=Unit) 7 (bv_ 28 2097151) (fun s_=>[(33,i6 d0),(41,i6 b9),(46,i6 d5),(42,i6 (wrap64 (b1*b9))),(43,.agg #[i6 d0,i6 (wrap64 (b1*b9))]),(47,.agg #[i6 0,i6 d5]),(48,.agg #[i6 d0,i6 (wrap64 (b1*b9)),i6 0,i6 d5])]) (fun s_ w'=>(c_ w' a2 0 (i6 b4)∧c_ w' a2 1 (i6 b1)∧c_ w' a2 2 (i6 b5))∧(b_ w' b7 #[i6 d1,i6 d2,i6 d3,i6 d4] 28)∧(b_ w' b6 #[i6 0,i6 0,i6 0,i6 0] 28)∧(b_ w' a2 #[i6 b4,i6 b1,i6 b5] 42)∧(Below w.heap.size w w')) ?_ ?_
     rotate_left
     ·intro hJ5_13_18
      refine join_ (σ:=Nat) 9 (bv_ 28 33816575) (fun s_=>[(33,i6 d0),(41,i6 b9),(9,.pointer (some ⟨s_,0,none⟩)),(42,i6 (wrap64 (b1*b9))),(43,.agg #[i6 d0,i6 (wrap64 (b1*b9))])]) (fun s_ w'=>(c_ w' a2 0 (i6 b4)∧c_ w' a2 1 (i6 b1)∧c_ w' a2 2 (i6 b5))∧(b_ w' b7 #[i6 d1,i6 d2,i6 d3,i6 d4] 28)∧(b_ w' b6 #[i6 0,i6 0,i6 0,i6 0] 28)∧(b_ w' a2 #[i6 b4,i6 b1,i6 b5] 42)∧(b_ w' s_ #[i6 0,i6 0,i6 0,i6 0] 28)∧(w.heap.size≤s_)∧(w.heap.size≤s_)∧(b7≠s_)∧(s_≠b7)∧(b6≠s_)∧(s_≠b6)∧(a2≠s_)∧(s_≠a2)∧(Below w.heap.size w w')) ?_ ?_
      rotate_left
      ·intro hJ5_13_25
       refine join_ (σ:=Unit) 10 (bv_ 28 262143) (fun s_=>[(33,i6 d0),(41,i6 b9),(42,i6 (wrap64 (b1*b9))),(43,.agg #[i6 d0,i6 (wrap64 (b1*b9))])]) (fun s_ w'=>(c_ w' a2 0 (i6 b4)∧c_ w' a2 1 (i6 b1)∧c_ w' a2 2 (i6 b5))∧(b_ w' b7 #[i6 d1,i6 d2,i6 d3,i6 d4] 28)∧(b_ w' b6 #[i6 0,i6 0,i6 0,i6 0] 28)∧(b_ w' a2 #[i6 b4,i6 b1,i6 b5] 42)∧(Below w.heap.size w w')) ?_ ?_
       rotate_left
       ·intro hJ5_13
        refine join_ (σ:=Nat) 12 (bv_ 28 33759231) (fun s_=>[(33,i6 d0),(9,.pointer (some ⟨s_,0,none⟩))]) (fun s_ w'=>(c_ w' a2 0 (i6 b4)∧c_ w' a2 1 (i6 b1)∧c_ w' a2 2 (i6 b5))∧(b_ w' b7 #[i6 d1,i6 d2,i6 d3,i6 d4] 28)∧(b_ w' b6 #[i6 0,i6 0,i6 0,i6 0] 28)∧(b_ w' a2 #[i6 b4,i6 b1,i6 b5] 42)∧(b_ w' s_ #[i6 0,i6 0,i6 0,i6 0] 28)∧(w.heap.size≤s_)∧(w.heap.size≤s_)∧(b7≠s_)∧(s_≠b7)∧(b6≠s_)∧(s_≠b6)∧(a2≠s_)∧(s_≠a2)∧(Below w.heap.size w w')) ?_ ?_
        rotate_left
        ·intro hJ5_25
         refine join_ (σ:=Unit) 13 (bv_ 28 204799) (fun s_=>[(33,i6 d0)]) (fun s_ w'=>(c_ w' a2 0 (i6 b4)∧c_ w' a2 1 (i6 b1)∧c_ w' a2 2 (i6 b5))∧(b_ w' b7 #[i6 d1,i6 d2,i6 d3,i6 d4] 28)∧(b_ w' b6 #[i6 0,i6 0,i6 0,i6 0] 28)∧(b_ w' a2 #[i6 b4,i6 b1,i6 b5] 42)∧(Below w.heap.size w w')) ?_ ?_
         rotate_left
         ·intro hJ5
          refine join_ (σ:=Nat) 13 (bv_ 28 33759199) (fun s_=>[(9,.pointer (some ⟨s_,0,none⟩))]) (fun s_ w'=>(c_ w' a2 0 (i6 b4)∧c_ w' a2 1 (i6 b1)∧c_ w' a2 2 (i6 b5))∧(b_ w' b7 #[i6 d1,i6 d2,i6 d3,i6 d4] 28)∧(b_ w' b6 #[i6 0,i6 0,i6 0,i6 0] 28)∧(b_ w' a2 #[i6 b4,i6 b1,i6 b5] 42)∧(b_ w' s_ #[i6 0,i6 0,i6 0,i6 0] 28)∧(w.heap.size≤s_)∧(w.heap.size≤s_)∧(b7≠s_)∧(s_≠b7)∧(b6≠s_)∧(s_≠b6)∧(a2≠s_)∧(s_≠a2)∧(Below w.heap.size w w')) ?_ ?_
          rotate_left
          ·intro hJ25
           refine tw_ HT_ 5 25 (some 33) (some 9) (bv_ 28 204799) (bv_ 28 33759199) (fun K hK=>?_) (fun K hK=>?_)
           ·skip
            refine gs_ Tryz.func66 #[i6 a0,i6 (wrap64 (b4+(g0)))] ?_ (hargs:=by(try simp only[List.map_toArray,List.map_cons,List.map_nil]);first|done|(simp only[d9];rfl)|rfl|(simp only[List.length_drop,List.length_take];rfl))
            with_reducible refine mo_ (spec_l01Power.calls _ A6.out) ?_
            rintro w' ⟨nd,rfl⟩
            refine hK.out _ _ ⟨cz_ a1 0,cz_ a1 1,cz_ a1 2⟩ (fun hHeld=>?_)
            clear hK K;refine nm_ (some 33) ?_
            exact norm_ (by first|(simp only[putAll,Act.put,lstS,lstZ,lstC];done)|(simp only[putAll,Act.put,lstS,lstZ,lstC];rfl)) (hJ5 () _ ⟨hHeld,(bl_ a3).out,(bl_ a4).out,(bl_ a1).out,(bw_ HB).out⟩)
           skip
           refine bz_ 9 #[i6 0,i6 0,i6 0,i6 0] 28 ?_
           intro b8 hg f9 b3 hb
           have b2:=bs_ HB hg;have a9:=bm_ a3 hg;have a6:=bn_ a3 hg;have b0:=bm_ a4 hg;have a7:=bn_ a4 hg;have a5:=bm_ a1 hg;have a8:=bn_ a1 hg;replace a3:=bb_ a3 hb;replace a4:=bb_ a4 hb;replace a1:=bb_ a1 hb;replace HB:=bt_ HB hb;clear hb hg
           refine hK.out _ _ ⟨cz_ a1 0,cz_ a1 1,cz_ a1 2⟩ (fun hHeld=>?_)
           clear hK K;refine nm_ (some 9) ?_
           exact norm_ (by first|(simp only[putAll,Act.put,lstS,lstZ,lstC];done)|(simp only[putAll,Act.put,lstS,lstZ,lstC];rfl)) (hJ25 (b8) _ ⟨hHeld,(bl_ a3).out,(bl_ a4).out,(bl_ a1).out,(bl_ b3).out,b2.out,b2.out,a9.out,a6.out,b0.out,a7.out,a5.out,a8.out,(bw_ HB).out⟩)
          skip
          rintro b8 f0 ⟨hS_,h0_,h1_,h2_,h3_,h4_,h5_,h6_,h7_,h8_,h9_,h10_,h11_,h12_⟩
          clear a3 a4 a1 HB;have a3:=Aside0.mk h0_;have a4:=Aside0.mk h1_;have a1:=Aside0.mk h2_;have b3:=Aside0.mk h3_;have b2:=Aside0.mk h4_;have b2:=Aside0.mk h5_;have a9:=Aside0.mk h6_;have a6:=Aside0.mk h7_;have b0:=Aside0.mk h8_;have a7:=Aside0.mk h9_;have a5:=Aside0.mk h10_;have a8:=Aside0.mk h11_;have HB:=Aside0.mk h12_;clear h0_ h1_ h2_ h3_ h4_ h5_ h6_ h7_ h8_ h9_ h10_ h11_ h12_
          have hHeld:c_ f0 a2 0 (i6 b4)∧c_ f0 a2 1 (i6 b1)∧c_ f0 a2 2 (i6 b5):=hS_
          refine norm_ (a':=?_) ?_ ?_
          rotate_left
          ·simp only[putAll,Act.put,lstS,lstZ,lstC]
           rfl
          refine on_ HT_ 5 (some 33) (bv_ 28 33759231) (fun K hK=>?_)
          refine gs_ Tryz.func66 #[i6 a0,i6 (wrap64 (b4+(g0)))] ?_ (hargs:=by(try simp only[List.map_toArray,List.map_cons,List.map_nil]);first|done|(simp only[d9];rfl)|rfl|(simp only[List.length_drop,List.length_take];rfl))
          with_reducible refine mo_ (spec_l01Power.calls _ A6.out) ?_
          rintro w' ⟨nd,rfl⟩
          refine hK.out _ _ ⟨cz_ a1 0,cz_ a1 1,cz_ a1 2⟩ (fun hHeld=>?_)
          clear hK K;refine nm_ (some 33) ?_
          exact norm_ (by first|(simp only[putAll,Act.put,lstS,lstZ,lstC];done)|(simp only[putAll,Act.put,lstS,lstZ,lstC];rfl)) (hJ5_25 (b8) _ ⟨hHeld,(bl_ a3).out,(bl_ a4).out,(bl_ a1).out,(bl_ b3).out,b2.out,b2.out,a9.out,a6.out,b0.out,a7.out,a5.out,a8.out,(bw_ HB).out⟩)
         skip
         rintro _ f9 ⟨hS_,h0_,h1_,h2_,h3_⟩
         clear a3 a4 a1 HB;have a3:=Aside0.mk h0_;have a4:=Aside0.mk h1_;have a1:=Aside0.mk h2_;have HB:=Aside0.mk h3_;clear h0_ h1_ h2_ h3_
         have hHeld:c_ f9 a2 0 (i6 b4)∧c_ f9 a2 1 (i6 b1)∧c_ f9 a2 2 (i6 b5):=hS_
         refine norm_ (a':=?_) ?_ ?_
         rotate_left
         ·simp only[putAll,Act.put,lstS,lstZ,lstC]
          rfl
         refine tw_ HT_ 13 25 (some 41) (some 9) (bv_ 28 212991) (bv_ 28 33759231) (fun K hK=>?_) (fun K hK=>?_)
         ·skip
          refine gs_ Tryz.func66 #[i6 a0,i6 (wrap64 ((g0) - b5))] ?_ (hargs:=by(try simp only[List.map_toArray,List.map_cons,List.map_nil]);first|done|(simp only[d9];rfl)|rfl|(simp only[List.length_drop,List.length_take];rfl))
          with_reducible refine mo_ (spec_l01Power.calls _ A7.out) ?_
          rintro w' ⟨nd,rfl⟩
          refine hK.out _ _ ⟨cz_ a1 0,cz_ a1 1,cz_ a1 2⟩ (fun hHeld=>?_)
          clear hK K;refine nm_ (some 41) ?_;refine px_ HT_ 14 42 229375 ?_;refine px_ HT_ 15 43 262143 ?_
          exact norm_ (by first|(simp only[putAll,Act.put,lstS,lstZ,lstC];done)|(simp only[putAll,Act.put,lstS,lstZ,lstC];rfl)) (hJ5_13 () _ ⟨hHeld,(bl_ a3).out,(bl_ a4).out,(bl_ a1).out,(bw_ HB).out⟩)
         skip
         refine bz_ 9 #[i6 0,i6 0,i6 0,i6 0] 28 ?_
         intro b8 hg f0 b3 hb
         have b2:=bs_ HB hg;have a9:=bm_ a3 hg;have a6:=bn_ a3 hg;have b0:=bm_ a4 hg;have a7:=bn_ a4 hg;have a5:=bm_ a1 hg;have a8:=bn_ a1 hg;replace a3:=bb_ a3 hb;replace a4:=bb_ a4 hb;replace a1:=bb_ a1 hb;replace HB:=bt_ HB hb;clear hb hg
         refine hK.out _ _ ⟨cz_ a1 0,cz_ a1 1,cz_ a1 2⟩ (fun hHeld=>?_)
         clear hK K;refine nm_ (some 9) ?_
         exact norm_ (by first|(simp only[putAll,Act.put,lstS,lstZ,lstC];done)|(simp only[putAll,Act.put,lstS,lstZ,lstC];rfl)) (hJ5_25 (b8) _ ⟨hHeld,(bl_ a3).out,(bl_ a4).out,(bl_ a1).out,(bl_ b3).out,b2.out,b2.out,a9.out,a6.out,b0.out,a7.out,a5.out,a8.out,(bw_ HB).out⟩)
        skip
        rintro b8 f0 ⟨hS_,h0_,h1_,h2_,h3_,h4_,h5_,h6_,h7_,h8_,h9_,h10_,h11_,h12_⟩
        clear a3 a4 a1 HB;have a3:=Aside0.mk h0_;have a4:=Aside0.mk h1_;have a1:=Aside0.mk h2_;have b3:=Aside0.mk h3_;have b2:=Aside0.mk h4_;have b2:=Aside0.mk h5_;have a9:=Aside0.mk h6_;have a6:=Aside0.mk h7_;have b0:=Aside0.mk h8_;have a7:=Aside0.mk h9_;have a5:=Aside0.mk h10_;have a8:=Aside0.mk h11_;have HB:=Aside0.mk h12_;clear h0_ h1_ h2_ h3_ h4_ h5_ h6_ h7_ h8_ h9_ h10_ h11_ h12_
        have hHeld:c_ f0 a2 0 (i6 b4)∧c_ f0 a2 1 (i6 b1)∧c_ f0 a2 2 (i6 b5):=hS_
        refine norm_ (a':=?_) ?_ ?_
        rotate_left
        ·simp only[putAll,Act.put,lstS,lstZ,lstC]
         rfl
        refine on_ HT_ 13 (some 41) (bv_ 28 33767423) (fun K hK=>?_)
        refine gs_ Tryz.func66 #[i6 a0,i6 (wrap64 ((g0) - b5))] ?_ (hargs:=by(try simp only[List.map_toArray,List.map_cons,List.map_nil]);first|done|(simp only[d9];rfl)|rfl|(simp only[List.length_drop,List.length_take];rfl))
        with_reducible refine mo_ (spec_l01Power.calls _ A7.out) ?_
        rintro w' ⟨nd,rfl⟩
        refine hK.out _ _ ⟨cz_ a1 0,cz_ a1 1,cz_ a1 2⟩ (fun hHeld=>?_)
        clear hK K;refine nm_ (some 41) ?_;refine px_ HT_ 14 42 33783807 ?_;refine px_ HT_ 15 43 33816575 ?_
        exact norm_ (by first|(simp only[putAll,Act.put,lstS,lstZ,lstC];done)|(simp only[putAll,Act.put,lstS,lstZ,lstC];rfl)) (hJ5_13_25 (b8) _ ⟨hHeld,(bl_ a3).out,(bl_ a4).out,(bl_ a1).out,(bl_ b3).out,b2.out,b2.out,a9.out,a6.out,b0.out,a7.out,a5.out,a8.out,(bw_ HB).out⟩)
       skip
       rintro _ f9 ⟨hS_,h0_,h1_,h2_,h3_⟩
       clear a3 a4 a1 HB;have a3:=Aside0.mk h0_;have a4:=Aside0.mk h1_;have a1:=Aside0.mk h2_;have HB:=Aside0.mk h3_;clear h0_ h1_ h2_ h3_
       have hHeld:c_ f9 a2 0 (i6 b4)∧c_ f9 a2 1 (i6 b1)∧c_ f9 a2 2 (i6 b5):=hS_
       refine norm_ (a':=?_) ?_ ?_
       rotate_left
       ·simp only[putAll,Act.put,lstS,lstZ,lstC]
        rfl
       refine tw_ HT_ 18 25 (some 46) (some 9) (bv_ 28 524287) (bv_ 28 33816575) (fun K hK=>?_) (fun K hK=>?_)
       ·skip
        refine gs_ Tryz.func66 #[i6 a0,i6 g0] ?_ (hargs:=by(try simp only[List.map_toArray,List.map_cons,List.map_nil]);first|done|(simp only[d9];rfl)|rfl|(simp only[List.length_drop,List.length_take];rfl))
        with_reducible refine mo_ (spec_l01Power.calls _ A8.out) ?_
        rintro w' ⟨nd,rfl⟩
        refine hK.out _ _ ⟨cz_ a1 0,cz_ a1 1,cz_ a1 2⟩ (fun hHeld=>?_)
        clear hK K;refine nm_ (some 46) ?_;refine px_ HT_ 19 47 1048575 ?_;refine px_ HT_ 20 48 2097151 ?_
        exact norm_ (by first|(simp only[putAll,Act.put,lstS,lstZ,lstC];done)|(simp only[putAll,Act.put,lstS,lstZ,lstC];rfl)) (hJ5_13_18 () _ ⟨hHeld,(bl_ a3).out,(bl_ a4).out,(bl_ a1).out,(bw_ HB).out⟩)
       skip
       refine bz_ 9 #[i6 0,i6 0,i6 0,i6 0] 28 ?_
       intro b8 hg f0 b3 hb
       have b2:=bs_ HB hg;have a9:=bm_ a3 hg;have a6:=bn_ a3 hg;have b0:=bm_ a4 hg;have a7:=bn_ a4 hg;have a5:=bm_ a1 hg;have a8:=bn_ a1 hg;replace a3:=bb_ a3 hb;replace a4:=bb_ a4 hb;replace a1:=bb_ a1 hb;replace HB:=bt_ HB hb;clear hb hg
       refine hK.out _ _ ⟨cz_ a1 0,cz_ a1 1,cz_ a1 2⟩ (fun hHeld=>?_)
       clear hK K;refine nm_ (some 9) ?_
       exact norm_ (by first|(simp only[putAll,Act.put,lstS,lstZ,lstC];done)|(simp only[putAll,Act.put,lstS,lstZ,lstC];rfl)) (hJ5_13_25 (b8) _ ⟨hHeld,(bl_ a3).out,(bl_ a4).out,(bl_ a1).out,(bl_ b3).out,b2.out,b2.out,a9.out,a6.out,b0.out,a7.out,a5.out,a8.out,(bw_ HB).out⟩)
      skip
      rintro b8 f0 ⟨hS_,h0_,h1_,h2_,h3_,h4_,h5_,h6_,h7_,h8_,h9_,h10_,h11_,h12_⟩
      clear a3 a4 a1 HB;have a3:=Aside0.mk h0_;have a4:=Aside0.mk h1_;have a1:=Aside0.mk h2_;have b3:=Aside0.mk h3_;have b2:=Aside0.mk h4_;have b2:=Aside0.mk h5_;have a9:=Aside0.mk h6_;have a6:=Aside0.mk h7_;have b0:=Aside0.mk h8_;have a7:=Aside0.mk h9_;have a5:=Aside0.mk h10_;have a8:=Aside0.mk h11_;have HB:=Aside0.mk h12_;clear h0_ h1_ h2_ h3_ h4_ h5_ h6_ h7_ h8_ h9_ h10_ h11_ h12_
      have hHeld:c_ f0 a2 0 (i6 b4)∧c_ f0 a2 1 (i6 b1)∧c_ f0 a2 2 (i6 b5):=hS_
      refine norm_ (a':=?_) ?_ ?_
      rotate_left
      ·simp only[putAll,Act.put,lstS,lstZ,lstC]
       rfl
      refine on_ HT_ 18 (some 46) (bv_ 28 34078719) (fun K hK=>?_)
      refine gs_ Tryz.func66 #[i6 a0,i6 g0] ?_ (hargs:=by(try simp only[List.map_toArray,List.map_cons,List.map_nil]);first|done|(simp only[d9];rfl)|rfl|(simp only[List.length_drop,List.length_take];rfl))
      with_reducible refine mo_ (spec_l01Power.calls _ A8.out) ?_
      rintro w' ⟨nd,rfl⟩
      refine hK.out _ _ ⟨cz_ a1 0,cz_ a1 1,cz_ a1 2⟩ (fun hHeld=>?_)
      clear hK K;refine nm_ (some 46) ?_;refine px_ HT_ 19 47 34603007 ?_;refine px_ HT_ 20 48 35651583 ?_
      exact norm_ (by first|(simp only[putAll,Act.put,lstS,lstZ,lstC];done)|(simp only[putAll,Act.put,lstS,lstZ,lstC];rfl)) (hJ5_13_18_25 (b8) _ ⟨hHeld,(bl_ a3).out,(bl_ a4).out,(bl_ a1).out,(bl_ b3).out,b2.out,b2.out,a9.out,a6.out,b0.out,a7.out,a5.out,a8.out,(bw_ HB).out⟩)
     skip
     rintro _ f9 ⟨hS_,h0_,h1_,h2_,h3_⟩
     clear a3 a4 a1 HB;have a3:=Aside0.mk h0_;have a4:=Aside0.mk h1_;have a1:=Aside0.mk h2_;have HB:=Aside0.mk h3_;clear h0_ h1_ h2_ h3_
     have hHeld:c_ f9 a2 0 (i6 b4)∧c_ f9 a2 1 (i6 b1)∧c_ f9 a2 2 (i6 b5):=hS_
     refine norm_ (a':=?_) ?_ ?_
     rotate_left
     ·simp only[putAll,Act.put,lstS,lstZ,lstC]
      rfl
     refine tw_ HT_ 21 25 (some 49) (some 9) (bv_ 28 4194303) (bv_ 28 35651583) (fun K hK=>?_) (fun K hK=>?_)
     ·skip
      refine gs_ Tryz.func58 #[.agg #[i6 d0,i6 (wrap64 (b1*b9)),i6 0,i6 d5]] ?_
      with_reducible refine mo_ (spec_l04Reduce.calls _ A9.out) ?_
      intro f0 hb;replace a3:=bb_ a3 hb;replace a4:=bb_ a4 hb;replace a1:=bb_ a1 hb;replace HB:=bt_ HB hb
      try clear hb
      refine hK.out _ _ ⟨cz_ a1 0,cz_ a1 1,cz_ a1 2⟩ (fun hHeld=>?_)
      clear hK K;refine nm_ (some 49) ?_;refine px_ HT_ 22 27 8388607 ?_;refine px_ HT_ 23 50 16777215 ?_;refine px_ HT_ 24 51 33554431 ?_
      exact norm_ (by first|(simp only[putAll,Act.put,lstS,lstZ,lstC];done)|(simp only[putAll,Act.put,lstS,lstZ,lstC];rfl)) (hJ5_13_18_21 () _ ⟨hHeld,(bl_ a3).out,(bl_ a4).out,(bl_ a1).out,(bw_ HB).out⟩)
     skip
     refine bz_ 9 #[i6 0,i6 0,i6 0,i6 0] 28 ?_
     intro b8 hg f0 b3 hb
     have b2:=bs_ HB hg;have a9:=bm_ a3 hg;have a6:=bn_ a3 hg;have b0:=bm_ a4 hg;have a7:=bn_ a4 hg;have a5:=bm_ a1 hg;have a8:=bn_ a1 hg;replace a3:=bb_ a3 hb;replace a4:=bb_ a4 hb;replace a1:=bb_ a1 hb;replace HB:=bt_ HB hb;clear hb hg
     refine hK.out _ _ ⟨cz_ a1 0,cz_ a1 1,cz_ a1 2⟩ (fun hHeld=>?_)
     clear hK K;refine nm_ (some 9) ?_
     exact norm_ (by first|(simp only[putAll,Act.put,lstS,lstZ,lstC];done)|(simp only[putAll,Act.put,lstS,lstZ,lstC];rfl)) (hJ5_13_18_25 (b8) _ ⟨hHeld,(bl_ a3).out,(bl_ a4).out,(bl_ a1).out,(bl_ b3).out,b2.out,b2.out,a9.out,a6.out,b0.out,a7.out,a5.out,a8.out,(bw_ HB).out⟩)
    skip
    rintro b8 f0 ⟨hS_,h0_,h1_,h2_,h3_,h4_,h5_,h6_,h7_,h8_,h9_,h10_,h11_,h12_⟩
    clear a3 a4 a1 HB;have a3:=Aside0.mk h0_;have a4:=Aside0.mk h1_;have a1:=Aside0.mk h2_;have b3:=Aside0.mk h3_;have b2:=Aside0.mk h4_;have b2:=Aside0.mk h5_;have a9:=Aside0.mk h6_;have a6:=Aside0.mk h7_;have b0:=Aside0.mk h8_;have a7:=Aside0.mk h9_;have a5:=Aside0.mk h10_;have a8:=Aside0.mk h11_;have HB:=Aside0.mk h12_;clear h0_ h1_ h2_ h3_ h4_ h5_ h6_ h7_ h8_ h9_ h10_ h11_ h12_
    have hHeld:c_ f0 a2 0 (i6 b4)∧c_ f0 a2 1 (i6 b1)∧c_ f0 a2 2 (i6 b5):=hS_
    refine norm_ (a':=?_) ?_ ?_
    rotate_left
    ·simp only[putAll,Act.put,lstS,lstZ,lstC]
     rfl
    refine on_ HT_ 21 (some 49) (bv_ 28 37748735) (fun K hK=>?_)
    refine gs_ Tryz.func58 #[.agg #[i6 d0,i6 (wrap64 (b1*b9)),i6 0,i6 d5]] ?_
    with_reducible refine mo_ (spec_l04Reduce.calls _ A9.out) ?_
    intro g5 hb;replace a3:=bb_ a3 hb;replace a4:=bb_ a4 hb;replace a1:=bb_ a1 hb;replace b3:=bb_ b3 hb;replace HB:=bt_ HB hb
    try clear hb
    refine hK.out _ _ ⟨cz_ a1 0,cz_ a1 1,cz_ a1 2⟩ (fun hHeld=>?_)
    clear hK K;refine nm_ (some 49) ?_;refine px_ HT_ 22 27 41943039 ?_;refine px_ HT_ 23 50 50331647 ?_;refine px_ HT_ 24 51 67108863 ?_
    exact norm_ (by first|(simp only[putAll,Act.put,lstS,lstZ,lstC];done)|(simp only[putAll,Act.put,lstS,lstZ,lstC];rfl)) (hJ5_13_18_21_25 (b8) _ ⟨hHeld,(bl_ a3).out,(bl_ a4).out,(bl_ a1).out,(bl_ b3).out,b2.out,b2.out,a9.out,a6.out,b0.out,a7.out,a5.out,a8.out,(bw_ HB).out⟩)
   skip
   rintro _ f0 ⟨hS_,h0_,h1_,h2_,h3_⟩
   clear a3 a4 a1 HB;have a3:=Aside0.mk h0_;have a4:=Aside0.mk h1_;have a1:=Aside0.mk h2_;have HB:=Aside0.mk h3_;clear h0_ h1_ h2_ h3_
   have hHeld:c_ f0 a2 0 (i6 b4)∧c_ f0 a2 1 (i6 b1)∧c_ f0 a2 2 (i6 b5):=hS_
   refine norm_ (a':=?_) ?_ ?_
   rotate_left
   ·simp only[putAll,Act.put,lstS,lstZ,lstC]
    rfl
   refine on_ HT_ 25 (some 9) (bv_ 28 67108863) (fun K hK=>?_)
   refine bz_ 9 #[i6 0,i6 0,i6 0,i6 0] 28 ?_
   intro b8 hg g5 b3 hb
   have b2:=bs_ HB hg;have a9:=bm_ a3 hg;have a6:=bn_ a3 hg;have b0:=bm_ a4 hg;have a7:=bn_ a4 hg;have a5:=bm_ a1 hg;have a8:=bn_ a1 hg;replace a3:=bb_ a3 hb;replace a4:=bb_ a4 hb;replace a1:=bb_ a1 hb;replace HB:=bt_ HB hb;clear hb hg
   refine hK.out _ _ ⟨cz_ a1 0,cz_ a1 1,cz_ a1 2⟩ (fun hHeld=>?_)
   clear hK K;refine nm_ (some 9) ?_
   exact norm_ (by first|(simp only[putAll,Act.put,lstS,lstZ,lstC];done)|(simp only[putAll,Act.put,lstS,lstZ,lstC];rfl)) (hJ5_13_18_21_25 (b8) _ ⟨hHeld,(bl_ a3).out,(bl_ a4).out,(bl_ a1).out,(bl_ b3).out,b2.out,b2.out,a9.out,a6.out,b0.out,a7.out,a5.out,a8.out,(bw_ HB).out⟩)
  rintro b8 g5 ⟨hS_,h0_,h1_,h2_,h3_,h4_,h5_,h6_,h7_,h8_,h9_,h10_,h11_,h12_⟩
  clear a3 a4 a1 HB;have a3:=Aside0.mk h0_;have a4:=Aside0.mk h1_;have a1:=Aside0.mk h2_;have b3:=Aside0.mk h3_;have b2:=Aside0.mk h4_;have b2:=Aside0.mk h5_;have a9:=Aside0.mk h6_;have a6:=Aside0.mk h7_;have b0:=Aside0.mk h8_;have a7:=Aside0.mk h9_;have a5:=Aside0.mk h10_;have a8:=Aside0.mk h11_;have HB:=Aside0.mk h12_;clear h0_ h1_ h2_ h3_ h4_ h5_ h6_ h7_ h8_ h9_ h10_ h11_ h12_
  have hHeld:c_ g5 a2 0 (i6 b4)∧c_ g5 a2 1 (i6 b1)∧c_ g5 a2 2 (i6 b5):=hS_
  refine norm_ (a':=?_) ?_ ?_
  rotate_left
  ·simp only[putAll,Act.put,lstS,lstZ,lstC]
   rfl
  refine on_ HT_ 26 none (bv_ 28 134217727) (fun K hK=>?_)
  have j8:=cz_ b3 0;have j2:=blk_frozen b3.out 0;have g6:=a9.out;have g7:=b0.out;have g8:=a5.out;have g9:=a6.out;have i4:=a7.out;have i5:=a8.out;have j9:=cz_ b3 1;have j3:=blk_frozen b3.out 1;have l0:=cz_ b3 2;have j4:=blk_frozen b3.out 2;have l1:=cz_ b3 3;have j5:=blk_frozen b3.out 3
  refine skip_ (w1:=?_) (by rfl) rfl ?_ ?_
  rotate_left
  ·go_simp
   rfl
  refine hK.out _ _ ⟨(cg_ a5 ((cg_ a5 ((cg_ a5 ((cg_ a5 (hHeld.1)))))))),(cg_ a5 ((cg_ a5 ((cg_ a5 ((cg_ a5 (hHeld.2.1)))))))),(cg_ a5 ((cg_ a5 ((cg_ a5 ((cg_ a5 (hHeld.2.2))))))))⟩ (fun hHeld=>?_)
  clear hK K;refine px_ HT_ 27 10 268435455 ?_
  refine done_ (done_of HT_.out (by kernel_rfl)) ?_
  have:=nn_ a6;have:=nn_ a7;have:=nn_ a8;have hz31:=ch4_ b3;have hz32:=ch4_ a4
  try go_wp2
  refine bodyPost_ret (results_ct rfl _ _ b6 28 #[i6 f3,i6 f4,i6 f5,i6 f6] (0,0) _ rfl (bp_ a4).out Tryz.underlying28 rfl (by kernel_rfl)) rfl ?_
  exact⟨by first|rfl|(simp[errW_none,errW_some]<;>rfl)|(simp only[←d9];first|rfl|(simp[errW_none,errW_some]<;>rfl))|(simp[*,errW_none,errW_some]<;>rfl),(bw_ HB).out⟩
 simp only[Option.some.injEq,Prod.mk.injEq] at H
 obtain⟨rfl,rfl,rfl,rfl,rfl⟩:=H
 go_enter Tryz.func36,Tryz.ntmps36
 go_wp2_with (first|((refine gd_ 3 ?_);refine by_ 3 #[i6 d1,i6 d2,i6 d3,i6 d4] 28 HB ?_;intro b7 hg l6 a3 hb g1 HB_;replace HB:=HB_;clear hb hg)|((refine gd_ 4 ?_);refine by_ 4 #[i6 0,i6 0,i6 0,i6 0] 28 HB ?_;intro b6 hg l7 a4 hb g2 HB_;have d6:=bm_ a3 hg;have f8:=bn_ a3 hg;replace a3:=bb_ a3 hb;replace HB:=HB_;clear hb hg;have:=nn_ d6;have hz36:=ch4_ a3)|((refine gc_ 45 ?_);refine ge_ 15 Tryz.func45 #[i6 a0,.agg #[i6 d1,i6 d2,i6 d3,i6 d4],.agg #[i6 0,i6 0,i6 0]] ?_;(with_reducible refine mo_ (spec_l04Move.calls _ A3.out) ?_);intro l8 hb;replace a3:=bb_ a3 hb;replace a4:=bb_ a4 hb;replace HB:=bt_ HB hb;clear hb)|((refine gd_ 6 ?_);refine by_ 6 #[i6 0,i6 0,i6 0] 42 HB ?_;intro a2 hg l9 a1 hb g4 HB_;have f1:=bm_ a3 hg;have d7:=bn_ a3 hg;have f2:=bm_ a4 hg;have d8:=bn_ a4 hg;replace a3:=bb_ a3 hb;replace a4:=bb_ a4 hb;replace HB:=HB_;clear hb hg;have:=nn_ d7;have:=nn_ d8;have hz41:=ch3_ a1;have hz42:=ch4_ a4))
 refine bodyPost_ret (results_ct rfl _ _ b6 28 #[i6 0,i6 0,i6 0,i6 0] (0,0) _ rfl (bp_ a4).out Tryz.underlying28 rfl (by kernel_rfl)) rfl ?_
 exact⟨es_,(bw_ HB).out⟩
/-! ### spec_TriangularPart: function 10 -/
def spec_TriangularPart.f (k:Nat) (a0 a1_0 a1_1 a1_2 a1_3:Int):Option (Int×Int×Int×Int×Int):=(spec_l04Code.f k a0 a1_0 a1_1 a1_2 a1_3 ([]:List (S42))).bind fun t598=>(if t598=0 then((spec_l10Triangular.f k a0 a1_0 a1_1 a1_2 a1_3).bind fun bt599=>(if bt599.2.2.2.2=true then(some (bt599.1,bt599.2.1,bt599.2.2.1,bt599.2.2.2.1,0)) else(some (0,0,0,0,3)))) else(some (0,0,0,0,t598)))
theorem spec_TriangularPart.calls {k:Nat} {a0 a6 a7 a8 a9 r1 r2 r3 r4 r5:Int} (w:World) (h:spec_TriangularPart.f k a0 a6 a7 a8 a9=some (r1,r2,r3,r4,r5)):
  Calls Tryz.prog 10 #[i6 a0,.agg #[i6 a6,i6 a7,i6 a8,i6 a9]] w fun e w'=>e= .returned (.tuple #[.agg #[i6 r1,i6 r2,i6 r3,i6 r4],i6 r5])∧Below w.heap.size w w':=by
 have hu28:=Tryz.underlying28
 have HB:=Aside0.mk (Below.refl w.heap.size w)
 unfold spec_TriangularPart.f at h;have H:=h;clear h;replace H:=oc_ H;obtain⟨d8,A3,H⟩:=H;replace H:=ie_ H
 rcases H with ⟨d2,d3,H⟩|⟨c4,d2,d3,H⟩
 ·replace H:=oc_ H
  obtain⟨⟨d4,d5,d6,d7,d9⟩,A5,H⟩:=H;replace H:=ib_ H
  rcases H with ⟨rfl,H⟩|⟨rfl,H⟩
  ·simp only[Option.some.injEq,Prod.mk.injEq] at H
   obtain⟨rfl,rfl,rfl,rfl,rfl⟩:=H
   go_enter Tryz.func10,Tryz.ntmps10
   go_wp2_with (first|((refine gd_ 3 ?_);refine by_ 3 #[i6 a6,i6 a7,i6 a8,i6 a9] 28 HB ?_;intro b7 hg w7 a1 hb b8 HB_;replace HB:=HB_;clear hb hg)|((refine gd_ 4 ?_);refine by_ 4 #[i6 0,i6 0,i6 0,i6 0] 28 HB ?_;intro b1 hg w8 a2 hb b9 HB_;have a3:=bm_ a1 hg;have b0:=bn_ a1 hg;replace a1:=bb_ a1 hb;replace HB:=HB_;clear hb hg;have:=nn_ a3;have hz10:=ch4_ a1)|((refine gc_ 35 ?_);refine ge_ 11 Tryz.func35 #[i6 a0,.agg #[i6 a6,i6 a7,i6 a8,i6 a9],.slice none 0 0] ?_;(refine mo_ (spec_l04Code.calls _ _ _ ?b2 ?b3 A3.out (l2:=([]:List (S42)))) ?_);(case b2=>exact Kd.C_nil _ _);(case b3=>exact Nat.le_refl _);intro f0 hb;replace a1:=bb_ a1 hb;replace a2:=bb_ a2 hb;replace HB:=bt_ HB hb;clear hb;have hz12:=ch4_ a1)|((refine gc_ 36 ?_);refine ge_ 19 Tryz.func36 #[i6 a0,.agg #[i6 a6,i6 a7,i6 a8,i6 a9]] ?_;(with_reducible refine mo_ (spec_l10Triangular.calls _ A5.out) ?_);intro f1 hb;replace a1:=bb_ a1 hb;replace a2:=bb_ a2 hb;replace HB:=bt_ HB hb;clear hb)|((refine gd_ 7 ?_);refine by_ 7 #[i6 0,i6 0,i6 0,i6 0] 28 HB ?_;intro d0 hg f2 b6 hb d1 HB_;have b4:=bm_ a1 hg;have a4:=bn_ a1 hg;have b5:=bm_ a2 hg;have a5:=bn_ a2 hg;replace a1:=bb_ a1 hb;replace a2:=bb_ a2 hb;replace HB:=HB_;clear hb hg;have:=nn_ a4;have:=nn_ a5;have hz17:=ch4_ b6;have hz18:=ch4_ a2))
   refine bodyPost_ret (results_ct rfl _ _ b1 28 #[i6 d4,i6 d5,i6 d6,i6 d7] (0,0) _ rfl (bp_ a2).out Tryz.underlying28 rfl (by kernel_rfl)) rfl ?_
   exact⟨es_,(bw_ HB).out⟩
  simp only[Option.some.injEq,Prod.mk.injEq] at H
  obtain⟨rfl,rfl,rfl,rfl,rfl⟩:=H
  go_enter Tryz.func10,Tryz.ntmps10
  go_wp2_with (first|((refine gd_ 3 ?_);refine by_ 3 #[i6 a6,i6 a7,i6 a8,i6 a9] 28 HB ?_;intro b7 hg f3 a1 hb b8 HB_;replace HB:=HB_;clear hb hg)|((refine gd_ 4 ?_);refine by_ 4 #[i6 0,i6 0,i6 0,i6 0] 28 HB ?_;intro b1 hg f4 a2 hb b9 HB_;have a3:=bm_ a1 hg;have b0:=bn_ a1 hg;replace a1:=bb_ a1 hb;replace HB:=HB_;clear hb hg;have:=nn_ a3;have hz22:=ch4_ a1)|((refine gc_ 35 ?_);refine ge_ 11 Tryz.func35 #[i6 a0,.agg #[i6 a6,i6 a7,i6 a8,i6 a9],.slice none 0 0] ?_;(refine mo_ (spec_l04Code.calls _ _ _ ?b2 ?b3 A3.out (l2:=([]:List (S42)))) ?_);(case b2=>exact Kd.C_nil _ _);(case b3=>exact Nat.le_refl _);intro f5 hb;replace a1:=bb_ a1 hb;replace a2:=bb_ a2 hb;replace HB:=bt_ HB hb;clear hb;have hz24:=ch4_ a1)|((refine gc_ 36 ?_);refine ge_ 19 Tryz.func36 #[i6 a0,.agg #[i6 a6,i6 a7,i6 a8,i6 a9]] ?_;(with_reducible refine mo_ (spec_l10Triangular.calls _ A5.out) ?_);intro f6 hb;replace a1:=bb_ a1 hb;replace a2:=bb_ a2 hb;replace HB:=bt_ HB hb;clear hb)|((refine gd_ 7 ?_);refine by_ 7 #[i6 0,i6 0,i6 0,i6 0] 28 HB ?_;intro d0 hg f7 b6 hb d1 HB_;have b4:=bm_ a1 hg;have a4:=bn_ a1 hg;have b5:=bm_ a2 hg;have a5:=bn_ a2 hg;replace a1:=bb_ a1 hb;replace a2:=bb_ a2 hb;replace HB:=HB_;clear hb hg;have:=nn_ a4;have:=nn_ a5;have hz29:=ch4_ b6;have hz30:=ch4_ a2))
  refine bodyPost_ret (results_ct rfl _ _ b1 28 #[i6 0,i6 0,i6 0,i6 0] (0,0) _ rfl (bp_ a2).out Tryz.underlying28 rfl (by kernel_rfl)) rfl ?_
  exact⟨es_,(bw_ HB).out⟩
 simp only[Option.some.injEq,Prod.mk.injEq] at H
 obtain⟨rfl,rfl,rfl,rfl,rfl⟩:=H
 go_enter Tryz.func10,Tryz.ntmps10
 go_wp2_with (first|((refine gd_ 3 ?_);refine by_ 3 #[i6 a6,i6 a7,i6 a8,i6 a9] 28 HB ?_;intro b7 hg f8 a1 hb b8 HB_;replace HB:=HB_;clear hb hg)|((refine gd_ 4 ?_);refine by_ 4 #[i6 0,i6 0,i6 0,i6 0] 28 HB ?_;intro b1 hg f9 a2 hb b9 HB_;have a3:=bm_ a1 hg;have b0:=bn_ a1 hg;replace a1:=bb_ a1 hb;replace HB:=HB_;clear hb hg;have:=nn_ a3;have hz34:=ch4_ a1)|((refine gc_ 35 ?_);refine ge_ 11 Tryz.func35 #[i6 a0,.agg #[i6 a6,i6 a7,i6 a8,i6 a9],.slice none 0 0] ?_;(refine mo_ (spec_l04Code.calls _ _ _ ?b2 ?b3 A3.out (l2:=([]:List (S42)))) ?_);(case b2=>exact Kd.C_nil _ _);(case b3=>exact Nat.le_refl _);intro g0 hb;replace a1:=bb_ a1 hb;replace a2:=bb_ a2 hb;replace HB:=bt_ HB hb;clear hb;have hz36:=ch4_ a2))
 refine bodyPost_ret (results_ct rfl _ _ b1 28 #[i6 0,i6 0,i6 0,i6 0] (0,0) _ rfl (bp_ a2).out Tryz.underlying28 rfl (by kernel_rfl)) rfl ?_
 exact⟨es_,(bw_ HB).out⟩
/-! ### impl_reduce: function 40 -/
def impl_reduce.f (k:Nat) (a0_0 a0_1 a0_2 a0_3:Int):Option (Int×Int×Int×Int):=(impl_reduced.f k a0_0 a0_1 a0_2 a0_3).bind fun bt607=>(some (bt607.1,bt607.2.1,bt607.2.2.1,bt607.2.2.2.1))
theorem impl_reduce.calls {k:Nat} {a6 a7 a8 a9 r1 r2 r3 r4:Int} (w:World) (h:impl_reduce.f k a6 a7 a8 a9=some (r1,r2,r3,r4)):
  Calls Tryz.prog 40 #[.agg #[i6 a6,i6 a7,i6 a8,i6 a9]] w fun e w'=>e= .returned (.agg #[i6 r1,i6 r2,i6 r3,i6 r4])∧Below w.heap.size w w':=by
 have hu28:=Tryz.underlying28
 have HB:=Aside0.mk (Below.refl w.heap.size w)
 unfold impl_reduce.f at h;have H:=h;clear h;replace H:=oc_ H;obtain⟨⟨b5,b6,b7,b8,d4⟩,A2,H⟩:=H
 simp only[Option.some.injEq,Prod.mk.injEq] at H
 obtain⟨rfl,rfl,rfl,rfl⟩:=H
 go_enter Tryz.func40,Tryz.ntmps40
 go_wp2_with (first|((refine gd_ 1 ?_);refine by_ 1 #[i6 a6,i6 a7,i6 a8,i6 a9] 28 HB ?_;intro b9 hg w3 a1 hb d0 HB_;replace HB:=HB_;clear hb hg)|((refine gd_ 2 ?_);refine by_ 2 #[i6 0,i6 0,i6 0,i6 0] 28 HB ?_;intro b3 hg w4 a2 hb d1 HB_;have a3:=bm_ a1 hg;have b0:=bn_ a1 hg;replace a1:=bb_ a1 hb;replace HB:=HB_;clear hb hg;have:=nn_ a3;have hz6:=ch4_ a1)|((refine gc_ 55 ?_);refine ge_ 7 Tryz.func55 #[.agg #[i6 a6,i6 a7,i6 a8,i6 a9]] ?_;(with_reducible refine mo_ (impl_reduced.calls _ A2.out) ?_);intro w7 hb;replace a1:=bb_ a1 hb;replace a2:=bb_ a2 hb;replace HB:=bt_ HB hb;clear hb)|((refine gd_ 3 ?_);refine by_ 3 #[i6 0,i6 0,i6 0,i6 0] 28 HB ?_;intro d2 hg w8 b4 hb d3 HB_;have b1:=bm_ a1 hg;have a4:=bn_ a1 hg;have b2:=bm_ a2 hg;have a5:=bn_ a2 hg;replace a1:=bb_ a1 hb;replace a2:=bb_ a2 hb;replace HB:=HB_;clear hb hg;have:=nn_ a4;have:=nn_ a5;have hz11:=ch4_ b4;have hz12:=ch4_ a2))
 refine bodyPost_ret (results_cell_row rfl _ _ b3 28 #[i6 b5,i6 b6,i6 b7,i6 b8] (0,0) _ rfl (bp_ a2).out Tryz.underlying28 rfl (by kernel_rfl)) rfl ?_
 exact⟨es_,(bw_ HB).out⟩
/-! ### impl_inverted: function 37 -/
def impl_inverted.f (k:Nat) (a0_0 a0_1 a0_2 a0_3:Int):Option (Int×Int×Int×Int):=(impl_reduce.f k a0_3 (wrap64 (-a0_1)) (wrap64 (-a0_2)) a0_0).bind fun bt615=>(some (bt615.1,bt615.2.1,bt615.2.2.1,bt615.2.2.2))
theorem impl_inverted.calls {k:Nat} {a4 a5 a6 a7 r1 r2 r3 r4:Int} (w:World) (h:impl_inverted.f k a4 a5 a6 a7=some (r1,r2,r3,r4)):
  Calls Tryz.prog 37 #[.agg #[i6 a4,i6 a5,i6 a6,i6 a7]] w fun e w'=>e= .returned (.agg #[i6 r1,i6 r2,i6 r3,i6 r4])∧Below w.heap.size w w':=by
 have hu28:=Tryz.underlying28
 have hu26:=Tryz.underlying26
 have HB:=Aside0.mk (Below.refl w.heap.size w)
 unfold impl_inverted.f at h;have H:=h;clear h;replace H:=oc_ H;obtain⟨⟨b0,b1,b2,b3⟩,A2,H⟩:=H
 simp only[Option.some.injEq,Prod.mk.injEq] at H
 obtain⟨rfl,rfl,rfl,rfl⟩:=H
 go_enter Tryz.func37,Tryz.ntmps37
 go_wp2_with (first|((refine gd_ 1 ?_);refine by_ 1 #[i6 a4,i6 a5,i6 a6,i6 a7] 28 HB ?_;intro b4 hg w3 a1 hb b5 HB_;replace HB:=HB_;clear hb hg)|((refine gd_ 2 ?_);refine by_ 2 #[i6 0,i6 0,i6 0,i6 0] 28 HB ?_;intro a9 hg w4 a2 hb b6 HB_;have a3:=bm_ a1 hg;have a8:=bn_ a1 hg;replace a1:=bb_ a1 hb;replace HB:=HB_;clear hb hg;have:=nn_ a3;have hz6:=ch4_ a1)|((refine gc_ 40 ?_);refine ge_ 20 Tryz.func40 #[.agg #[i6 a7,i6 (wrap64 (-a5)),i6 (wrap64 (-a6)),i6 a4]] ?_;(with_reducible refine mo_ (impl_reduce.calls _ A2.out) ?_);intro w7 hb;replace a1:=bb_ a1 hb;replace a2:=bb_ a2 hb;replace HB:=bt_ HB hb;clear hb;have hz8:=ch4_ a2))
 refine bodyPost_ret (results_cell_row rfl _ _ a9 28 #[i6 b0,i6 b1,i6 b2,i6 b3] (0,0) _ rfl (bp_ a2).out Tryz.underlying28 rfl (by kernel_rfl)) rfl ?_
 exact⟨es_,(bw_ HB).out⟩
/-! ### impl_UnitPart: function 11 -/
def impl_UnitPart.f (k:Nat) (a0 a1_0 a1_1 a1_2 a1_3:Int):Option (Int×Int×Int×Int×Int):=(impl_partCode.f k a0 a1_0 a1_1 a1_2 a1_3).bind fun t621=>(if t621=0 then((impl_triangular.f k a0 a1_0 a1_1 a1_2 a1_3).bind fun bt622=>(if bt622.2.2.2.2=true then((impl_inverted.f k bt622.1 bt622.2.1 bt622.2.2.1 bt622.2.2.2.1).bind fun bt628=>((impl_product.f k bt628.1 bt628.2.1 bt628.2.2.1 bt628.2.2.2 a1_0 a1_1 a1_2 a1_3).bind fun bt632=>((impl_fittedMatrix.f bt632.1 bt632.2.1 bt632.2.2.1 bt632.2.2.2.1 bt632.2.2.2.2).bind fun bt637=>(some (bt637.1,bt637.2.1,bt637.2.2.1,bt637.2.2.2.1,bt637.2.2.2.2))))) else(some (0,0,0,0,3)))) else(some (0,0,0,0,t621)))
def impl_UnitPart.T7:Bool×List (List Nat×List Nat):=(true,[([],[]),([0],[0]),([],[]),([1,2,1],[1,2]),([3],[3]),([3],[3]),([4,5,3],[4,5]),([6],[6]),([6],[6]),([7,6,0,1,2,3,4,5,6,7,8],[7]),([8,9,0,1,2,3,4,5,6,7,8,9],[8])])
def impl_UnitPart.B7:List Nat:=[0,1,0,7,15,15,63,127,127,511,1023]
theorem impl_UnitPart.tab7:rtab .any (opsOf Tryz.f11 7)=impl_UnitPart.T7:=by kernel_rfl
theorem impl_UnitPart.bits7:waitsOk impl_UnitPart.T7.2 impl_UnitPart.B7=true:=by kernel_rfl
theorem impl_UnitPart.calls {k:Nat} {a0 a7 a8 a9 b0 r1 r2 r3 r4 r5:Int} (w:World) (h:impl_UnitPart.f k a0 a7 a8 a9 b0=some (r1,r2,r3,r4,r5)):
  Calls Tryz.prog 11 #[i6 a0,.agg #[i6 a7,i6 a8,i6 a9,i6 b0]] w fun e w'=>e= .returned (.tuple #[.agg #[i6 r1,i6 r2,i6 r3,i6 r4],i6 r5])∧Below w.heap.size w w':=by
 have hu28:=Tryz.underlying28
 have HB:=Aside0.mk (Below.refl w.heap.size w)
 unfold impl_UnitPart.f at h;have H:=h;clear h;replace H:=oc_ H;obtain⟨i7,A3,H⟩:=H;replace H:=ie_ H
 rcases H with ⟨d9,f0,H⟩|⟨c4,d9,f0,H⟩
 ·replace H:=oc_ H
  obtain⟨⟨b7,b8,b9,d0,i8⟩,A5,H⟩:=H;replace H:=ib_ H
  rcases H with ⟨rfl,H⟩|⟨rfl,H⟩
  ·replace H:=oc_ H
   obtain⟨⟨f1,f2,f3,f4⟩,A7,H⟩:=H;replace H:=oc_ H;obtain⟨⟨f5,f6,f7,f8,f9⟩,A8,H⟩:=H;replace H:=oc_ H;obtain⟨⟨g0,g1,g2,g3,i9⟩,A9,H⟩:=H
   simp only[Option.some.injEq,Prod.mk.injEq] at H
   obtain⟨rfl,rfl,rfl,rfl,rfl⟩:=H
   go_enter Tryz.func11,Tryz.ntmps11
   try go_wp2_with (first|((refine gd_ 3 ?_);refine by_ 3 #[i6 a7,i6 a8,i6 a9,i6 b0] 28 HB ?_;intro b4 hg j5 a1 hb d1 HB_;replace HB:=HB_;clear hb hg)|((refine gd_ 4 ?_);refine by_ 4 #[i6 0,i6 0,i6 0,i6 0] 28 HB ?_;intro b5 hg j6 a4 hb d2 HB_;have a2:=bm_ a1 hg;have b1:=bn_ a1 hg;replace a1:=bb_ a1 hb;replace HB:=HB_;clear hb hg;have:=nn_ a2;have hz13:=ch4_ a1)|((refine gc_ 32 ?_);refine ge_ 11 Tryz.func32 #[i6 a0,.agg #[i6 a7,i6 a8,i6 a9,i6 b0]] ?_;(with_reducible refine mo_ (impl_partCode.calls _ A3.out) ?_);intro j7 hb;replace a1:=bb_ a1 hb;replace a4:=bb_ a4 hb;replace HB:=bt_ HB hb;clear hb;have hz15:=ch4_ a1)|((refine gc_ 34 ?_);refine ge_ 19 Tryz.func34 #[i6 a0,.agg #[i6 a7,i6 a8,i6 a9,i6 b0]] ?_;(with_reducible refine mo_ (impl_triangular.calls _ A5.out) ?_);intro j8 hb;replace a1:=bb_ a1 hb;replace a4:=bb_ a4 hb;replace HB:=bt_ HB hb;clear hb)|((refine gd_ 7 ?_);refine by_ 7 #[i6 0,i6 0,i6 0,i6 0] 28 HB ?_;intro a6 hg d3 a5 hb d4 HB_;have b6:=bm_ a1 hg;have b2:=bn_ a1 hg;have b3:=bm_ a4 hg;have a3:=bn_ a4 hg;replace a1:=bb_ a1 hb;replace a4:=bb_ a4 hb;replace HB:=HB_;clear hb hg;have:=nn_ b2;have:=nn_ a3;have hz20:=ch4_ a5))
   have g4:Aside0 (((((d3.setCell ⟨a6,0,none⟩ (i6 b7)).setCell ⟨a6,1,none⟩ (i6 b8)).setCell ⟨a6,2,none⟩ (i6 b9)).setCell ⟨a6,3,none⟩ (i6 d0)).heap[b4]?=some (.cells #[i6 a7,i6 a8,i6 a9,i6 b0] 28 (0,0))):=fl_ a1 b6
   have g5:Aside0 (((((d3.setCell ⟨a6,0,none⟩ (i6 b7)).setCell ⟨a6,1,none⟩ (i6 b8)).setCell ⟨a6,2,none⟩ (i6 b9)).setCell ⟨a6,3,none⟩ (i6 d0)).heap[b5]?=some (.cells #[i6 0,i6 0,i6 0,i6 0] 28 (0,0))):=fl_ a4 b3
   have g6:Aside0 (((((d3.setCell ⟨a6,0,none⟩ (i6 b7)).setCell ⟨a6,1,none⟩ (i6 b8)).setCell ⟨a6,2,none⟩ (i6 b9)).setCell ⟨a6,3,none⟩ (i6 d0)).heap[a6]?=some (.cells #[i6 b7,i6 b8,i6 b9,i6 d0] 28 (0,0))):=bp_ a5
   have g7:Aside0 (Below w.heap.size w ((((d3.setCell ⟨a6,0,none⟩ (i6 b7)).setCell ⟨a6,1,none⟩ (i6 b8)).setCell ⟨a6,2,none⟩ (i6 b9)).setCell ⟨a6,3,none⟩ (i6 d0))):=bw_ HB
   try clear a1
   try clear a4
   try clear a5
   try clear HB
   generalize ((((d3.setCell ⟨a6,0,none⟩ (i6 b7)).setCell ⟨a6,1,none⟩ (i6 b8)).setCell ⟨a6,2,none⟩ (i6 b9)).setCell ⟨a6,3,none⟩ (i6 d0))=j0 at g4 g5 g6 g7⊢
   have a1:=g4
   have a4:=g5
   have a5:=g6
   have HB:=g7
   clear g4 g5 g6 g7;replace a1:=bd_ a1;replace a4:=bd_ a4;replace a5:=bd_ a5;replace HB:=be_ HB
   refine start_ (n:=11) (S:=fun w'=>c_ w' a6 0 (i6 b7)∧c_ w' a6 1 (i6 b8)∧c_ w' a6 2 (i6 b9)∧c_ w' a6 3 (i6 d0)∧c_ w' b4 0 (i6 a7)∧c_ w' b4 1 (i6 a8)∧c_ w' b4 2 (i6 a9)∧c_ w' b4 3 (i6 b0)) (ds:=[]) (bv_ 11 0) (by kernel_rfl) rfl rfl ⟨cz_ a5 0,cz_ a5 1,cz_ a5 2,cz_ a5 3,cz_ a1 0,cz_ a1 1,cz_ a1 2,cz_ a1 3⟩ (fun hHeld=>?_);refine with_tabW impl_UnitPart.tab7 impl_UnitPart.bits7 (fun HT_ HW_=>?_)
   generalize j0.drew=j9 at a1 a4 a5 HB hHeld⊢
   refine ta_ HT_ HW_ 0 (some 25) (bv_ 11 1) hHeld ?_ (hy:=by rintro w' ⟨s0,s1,s2,s3,s4,s5,s6,s7⟩;go_simp;with_reducible rfl)
   refine ta_ HT_ HW_ 2 (some 27) (bv_ 11 5) hHeld ?_ (hy:=by rintro w' ⟨s0,s1,s2,s3,s4,s5,s6,s7⟩;go_simp;with_reducible rfl)
   refine on_ HT_ 1 (some 26) (bv_ 11 7) (fun K hK=>?_)
   refine gs_ Tryz.func37 #[.agg #[i6 b7,i6 b8,i6 b9,i6 d0]] ?_
   with_reducible refine mo_ (impl_inverted.calls _ A7.out) ?_
   intro l0 hb;replace a1:=bb_ a1 hb;replace a4:=bb_ a4 hb;replace a5:=bb_ a5 hb;replace HB:=bt_ HB hb
   try clear hb
   refine hK.out _ _ ⟨cz_ a5 0,cz_ a5 1,cz_ a5 2,cz_ a5 3,cz_ a1 0,cz_ a1 1,cz_ a1 2,cz_ a1 3⟩ (fun hHeld=>?_)
   clear hK K;refine nm_ (some 26) ?_
   refine on_ HT_ 3 (some 28) (bv_ 11 15) (fun K hK=>?_)
   refine gs_ Tryz.func28 #[.agg #[i6 f1,i6 f2,i6 f3,i6 f4],.agg #[i6 a7,i6 a8,i6 a9,i6 b0]] ?_
   with_reducible refine mo_ (impl_product.calls _ A8.out) ?_
   intro l1 hb;replace a1:=bb_ a1 hb;replace a4:=bb_ a4 hb;replace a5:=bb_ a5 hb;replace HB:=bt_ HB hb
   try clear hb
   refine hK.out _ _ ⟨cz_ a5 0,cz_ a5 1,cz_ a5 2,cz_ a5 3,cz_ a1 0,cz_ a1 1,cz_ a1 2,cz_ a1 3⟩ (fun hHeld=>?_)
   clear hK K;refine nm_ (some 28) ?_;refine px_ HT_ 4 29 31 ?_;refine px_ HT_ 5 30 63 ?_
   refine on_ HT_ 6 (some 31) (bv_ 11 127) (fun K hK=>?_)
   refine gs_ Tryz.func33 #[.agg #[i6 f5,i6 f6,i6 f7,i6 f8],.bool f9] ?_
   with_reducible refine mo_ (impl_fittedMatrix.calls _ A9.out) ?_
   intro l2 hb;replace a1:=bb_ a1 hb;replace a4:=bb_ a4 hb;replace a5:=bb_ a5 hb;replace HB:=bt_ HB hb
   try clear hb
   refine hK.out _ _ ⟨cz_ a5 0,cz_ a5 1,cz_ a5 2,cz_ a5 3,cz_ a1 0,cz_ a1 1,cz_ a1 2,cz_ a1 3⟩ (fun hHeld=>?_)
   clear hK K;refine nm_ (some 31) ?_;refine px_ HT_ 7 32 255 ?_;refine px_ HT_ 8 33 511 ?_
   refine on_ HT_ 9 none (bv_ 11 1023) (fun K hK=>?_)
   have j1:=cz_ a4 0;have g8:=blk_frozen a4.out 0;have d5:=a2.out;have d6:=a3.out;have d7:=b1.out;have d8:=b3.out;have j2:=cz_ a4 1;have g9:=blk_frozen a4.out 1;have j3:=cz_ a4 2;have i4:=blk_frozen a4.out 2;have j4:=cz_ a4 3;have i5:=blk_frozen a4.out 3
   refine skip_ (w1:=?_) (by rfl) rfl ?_ ?_
   rotate_left
   ·go_simp
    rfl
   refine hK.out _ _ ⟨(cg_ a3 ((cg_ a3 ((cg_ a3 ((cg_ a3 (hHeld.1)))))))),(cg_ a3 ((cg_ a3 ((cg_ a3 ((cg_ a3 (hHeld.2.1)))))))),(cg_ a3 ((cg_ a3 ((cg_ a3 ((cg_ a3 (hHeld.2.2.1)))))))),(cg_ a3 ((cg_ a3 ((cg_ a3 ((cg_ a3 (hHeld.2.2.2.1)))))))),(cg_ a2 ((cg_ a2 ((cg_ a2 ((cg_ a2 (hHeld.2.2.2.2.1)))))))),(cg_ a2 ((cg_ a2 ((cg_ a2 ((cg_ a2 (hHeld.2.2.2.2.2.1)))))))),(cg_ a2 ((cg_ a2 ((cg_ a2 ((cg_ a2 (hHeld.2.2.2.2.2.2.1)))))))),(cg_ a2 ((cg_ a2 ((cg_ a2 ((cg_ a2 (hHeld.2.2.2.2.2.2.2))))))))⟩ (fun hHeld=>?_)
   clear hK K;refine px_ HT_ 10 5 2047 ?_
   refine done_ (done_of HT_.out (by kernel_rfl)) ?_
   try go_wp2
   refine bodyPost_ret (results_ct rfl _ _ b5 28 #[i6 g0,i6 g1,i6 g2,i6 g3] (0,0) _ rfl (bp_ a4).out Tryz.underlying28 rfl (by kernel_rfl)) rfl ?_
   exact⟨es_,(bw_ HB).out⟩
  simp only[Option.some.injEq,Prod.mk.injEq] at H
  obtain⟨rfl,rfl,rfl,rfl,rfl⟩:=H
  go_enter Tryz.func11,Tryz.ntmps11
  go_wp2_with (first|((refine gd_ 3 ?_);refine by_ 3 #[i6 a7,i6 a8,i6 a9,i6 b0] 28 HB ?_;intro b4 hg l3 a1 hb d1 HB_;replace HB:=HB_;clear hb hg)|((refine gd_ 4 ?_);refine by_ 4 #[i6 0,i6 0,i6 0,i6 0] 28 HB ?_;intro b5 hg l4 a4 hb d2 HB_;have a2:=bm_ a1 hg;have b1:=bn_ a1 hg;replace a1:=bb_ a1 hb;replace HB:=HB_;clear hb hg;have:=nn_ a2;have hz33:=ch4_ a1)|((refine gc_ 32 ?_);refine ge_ 11 Tryz.func32 #[i6 a0,.agg #[i6 a7,i6 a8,i6 a9,i6 b0]] ?_;(with_reducible refine mo_ (impl_partCode.calls _ A3.out) ?_);intro l5 hb;replace a1:=bb_ a1 hb;replace a4:=bb_ a4 hb;replace HB:=bt_ HB hb;clear hb;have hz35:=ch4_ a1)|((refine gc_ 34 ?_);refine ge_ 19 Tryz.func34 #[i6 a0,.agg #[i6 a7,i6 a8,i6 a9,i6 b0]] ?_;(with_reducible refine mo_ (impl_triangular.calls _ A5.out) ?_);intro l6 hb;replace a1:=bb_ a1 hb;replace a4:=bb_ a4 hb;replace HB:=bt_ HB hb;clear hb)|((refine gd_ 7 ?_);refine by_ 7 #[i6 0,i6 0,i6 0,i6 0] 28 HB ?_;intro a6 hg l7 a5 hb d4 HB_;have b6:=bm_ a1 hg;have b2:=bn_ a1 hg;have b3:=bm_ a4 hg;have a3:=bn_ a4 hg;replace a1:=bb_ a1 hb;replace a4:=bb_ a4 hb;replace HB:=HB_;clear hb hg;have:=nn_ b2;have:=nn_ a3;have hz40:=ch4_ a5;have hz41:=ch4_ a4))
  refine bodyPost_ret (results_ct rfl _ _ b5 28 #[i6 0,i6 0,i6 0,i6 0] (0,0) _ rfl (bp_ a4).out Tryz.underlying28 rfl (by kernel_rfl)) rfl ?_
  exact⟨es_,(bw_ HB).out⟩
 simp only[Option.some.injEq,Prod.mk.injEq] at H
 obtain⟨rfl,rfl,rfl,rfl,rfl⟩:=H
 go_enter Tryz.func11,Tryz.ntmps11
 go_wp2_with (first|((refine gd_ 3 ?_);refine by_ 3 #[i6 a7,i6 a8,i6 a9,i6 b0] 28 HB ?_;intro b4 hg l8 a1 hb d1 HB_;replace HB:=HB_;clear hb hg)|((refine gd_ 4 ?_);refine by_ 4 #[i6 0,i6 0,i6 0,i6 0] 28 HB ?_;intro b5 hg l9 a4 hb d2 HB_;have a2:=bm_ a1 hg;have b1:=bn_ a1 hg;replace a1:=bb_ a1 hb;replace HB:=HB_;clear hb hg;have:=nn_ a2;have hz45:=ch4_ a1)|((refine gc_ 32 ?_);refine ge_ 11 Tryz.func32 #[i6 a0,.agg #[i6 a7,i6 a8,i6 a9,i6 b0]] ?_;(with_reducible refine mo_ (impl_partCode.calls _ A3.out) ?_);intro m1 hb;replace a1:=bb_ a1 hb;replace a4:=bb_ a4 hb;replace HB:=bt_ HB hb;clear hb;have hz47:=ch4_ a4))
 refine bodyPost_ret (results_ct rfl _ _ b5 28 #[i6 0,i6 0,i6 0,i6 0] (0,0) _ rfl (bp_ a4).out Tryz.underlying28 rfl (by kernel_rfl)) rfl ?_
 exact⟨es_,(bw_ HB).out⟩
/-! ### spec_l04Inverse: function 38 -/
def spec_l04Inverse.f (k:Nat) (a0_0 a0_1 a0_2 a0_3:Int):Option (Int×Int×Int×Int):=(spec_l04Reduce.f k a0_3 (wrap64 (-a0_1)) (wrap64 (-a0_2)) a0_0).bind fun bt644=>(some (bt644.1,bt644.2.1,bt644.2.2.1,bt644.2.2.2.1))
theorem spec_l04Inverse.calls {k:Nat} {a6 a7 a8 a9 r1 r2 r3 r4:Int} (w:World) (h:spec_l04Inverse.f k a6 a7 a8 a9=some (r1,r2,r3,r4)):
  Calls Tryz.prog 38 #[.agg #[i6 a6,i6 a7,i6 a8,i6 a9]] w fun e w'=>e= .returned (.agg #[i6 r1,i6 r2,i6 r3,i6 r4])∧Below w.heap.size w w':=by
 have hu28:=Tryz.underlying28
 have hu26:=Tryz.underlying26
 have HB:=Aside0.mk (Below.refl w.heap.size w)
 unfold spec_l04Inverse.f at h;have H:=h;clear h;replace H:=oc_ H;obtain⟨⟨b5,b6,b7,b8,d4⟩,A2,H⟩:=H
 simp only[Option.some.injEq,Prod.mk.injEq] at H
 obtain⟨rfl,rfl,rfl,rfl⟩:=H
 go_enter Tryz.func38,Tryz.ntmps38
 go_wp2_with (first|((refine gd_ 1 ?_);refine by_ 1 #[i6 a6,i6 a7,i6 a8,i6 a9] 28 HB ?_;intro b9 hg w3 a1 hb d0 HB_;replace HB:=HB_;clear hb hg)|((refine gd_ 2 ?_);refine by_ 2 #[i6 0,i6 0,i6 0,i6 0] 28 HB ?_;intro b3 hg w4 a2 hb d1 HB_;have a3:=bm_ a1 hg;have b0:=bn_ a1 hg;replace a1:=bb_ a1 hb;replace HB:=HB_;clear hb hg;have:=nn_ a3;have hz6:=ch4_ a1)|((refine gc_ 58 ?_);refine ge_ 23 Tryz.func58 #[.agg #[i6 a9,i6 (wrap64 (-a7)),i6 (wrap64 (-a8)),i6 a6]] ?_;(with_reducible refine mo_ (spec_l04Reduce.calls _ A2.out) ?_);intro w7 hb;replace a1:=bb_ a1 hb;replace a2:=bb_ a2 hb;replace HB:=bt_ HB hb;clear hb)|((refine gd_ 3 ?_);refine by_ 3 #[i6 0,i6 0,i6 0,i6 0] 28 HB ?_;intro d2 hg w8 b4 hb d3 HB_;have b1:=bm_ a1 hg;have a4:=bn_ a1 hg;have b2:=bm_ a2 hg;have a5:=bn_ a2 hg;replace a1:=bb_ a1 hb;replace a2:=bb_ a2 hb;replace HB:=HB_;clear hb hg;have:=nn_ a4;have:=nn_ a5;have hz11:=ch4_ b4;have hz12:=ch4_ a2))
 refine bodyPost_ret (results_cell_row rfl _ _ b3 28 #[i6 b5,i6 b6,i6 b7,i6 b8] (0,0) _ rfl (bp_ a2).out Tryz.underlying28 rfl (by kernel_rfl)) rfl ?_
 exact⟨es_,(bw_ HB).out⟩
end Go.Proofs.YtblmdppbbdbbjabGreat.QP
