import Derived.Test.YtblmdppbbdbbjabGreatQPx8
import Derived.Test.YtblmdppbbdbbjabGreatQPx32
import Derived.Test.YtblmdppbbdbbjabGreatQPx62
import Derived.Test.YtblmdppbbdbbjabGreatQPx55
import Derived.Test.YtblmdppbbdbbjabGreatQPx14
import Derived.Test.YtblmdppbbdbbjabGreatQPx44
import Derived.Test.YtblmdppbbdbbjabGreatQPx40
namespace Go.Proofs.YtblmdppbbdbbjabGreat.QP
set_option maxHeartbeats 8000000
set_option maxRecDepth 100000
open Go.RowKit Go.Proofs.YtblmdppbbdbbjabGreatW.PrintWords Go.Proofs.YtblmdppbbdbbjabGreatW.PrintLast Go.Proofs.YtblmdppbbdbbjabGreatW.PrintMore
attribute [local go_sem] isSome_setCell max2_int min2_int max_two min_two max_three min_three max_four min_four
set_option linter.unusedVariables false
set_option linter.unusedSimpArgs false
/-! ### impl_triangular: function 34 -/
def impl_triangular.f (k:Nat) (a0 a1_0 a1_1 a1_2 a1_3:Int):Option (Int×Int×Int×Int×Bool):=(impl_moveBall.f k a0 a1_0 a1_1 a1_2 a1_3 0 0 0).bind fun bt528=>(if bt528.2.2.2=true then((impl_power.f k a0 (wrap64 (bt528.1+(mx (mx 0 (wrap64 (-bt528.1))) bt528.2.2.1)))).bind fun t533=>((impl_power.f k a0 (wrap64 ((mx (mx 0 (wrap64 (-bt528.1))) bt528.2.2.1) - bt528.2.2.1))).bind fun t534=>((impl_power.f k a0 (mx (mx 0 (wrap64 (-bt528.1))) bt528.2.2.1)).bind fun t535=>((impl_reduced.f k t533 (wrap64 (bt528.2.1*t534)) 0 t535).bind fun bt536=>(some (bt536.1,bt536.2.1,bt536.2.2.1,bt536.2.2.2.1,bt536.2.2.2.2)))))) else(some (0,0,0,0,false)))
def impl_triangular.T5:Bool×List (List Nat×List Nat):=(true,[([],[]),([],[]),([1],[1]),([],[]),([2,3],[2,3]),([0,4],[0,4]),([],[]),([6],[6]),([],[]),([],[]),([],[]),([10],[10]),([9,11],[9,11]),([8,12,5],[8,12]),([7,13],[7,13]),([5,14],[5,14]),([],[]),([],[]),([16,17,13],[16,17]),([18],[18]),([15,19],[15,19]),([20,18],[20]),([21],[21]),([21],[21]),([22,21,0,1,2,3,4,5,6,7,8,9,10,11,12,13,14,15,16,17,18,19,20,21,22,23],[22]),([23,24,0,1,2,3,4,5,6,7,8,9,10,11,12,13,14,15,16,17,18,19,20,21,22,23,24],[23])])
def impl_triangular.B5:List Nat:=[0,0,2,0,14,31,0,64,0,0,0,1024,3584,7999,16383,32767,0,0,212799,474943,1048575,2097151,4194303,4194303,16777215,33554431]
theorem impl_triangular.tab5:rtab .any (opsOf Tryz.f34 5)=impl_triangular.T5:=by kernel_rfl
theorem impl_triangular.bits5:waitsOk impl_triangular.T5.2 impl_triangular.B5=true:=by kernel_rfl
theorem impl_triangular.calls {k:Nat} {a0 b4 b5 b6 b7 r1 r2 r3 r4:Int} {r5:Bool} (w:World) (h:impl_triangular.f k a0 b4 b5 b6 b7=some (r1,r2,r3,r4,r5)):
  Calls Tryz.prog 34 #[i6 a0,.agg #[i6 b4,i6 b5,i6 b6,i6 b7]] w fun e w'=>e= .returned (.tuple #[.agg #[i6 r1,i6 r2,i6 r3,i6 r4],.bool r5])∧Below w.heap.size w w':=by
 have hu28:=Tryz.underlying28
 have hu42:=Tryz.underlying42
 have hu26:=Tryz.underlying26
 have HB:=Aside0.mk (Below.refl w.heap.size w)
 unfold impl_triangular.f at h;have H:=h;clear h;replace H:=oc_ H;obtain⟨⟨a7,b3,b0,g9⟩,A3,H⟩:=H;replace H:=ib_ H
 rcases H with ⟨rfl,H⟩|⟨rfl,H⟩
 ·obtain⟨d2,d0⟩:∃j_:Int,(mx 0 (wrap64 (-a7)))=j_:=⟨_,rfl⟩
  simp only[d0] at H
  (try rw[d0] at A3)
  (try(have hji5l:0≤d2:=by(rw[←d0];unfold mx;(repeat' split)<;>omega)))
  (try(have hji5m:0≤d2:=by omega))
  have hji5_k: (if 0<(IntKind.i64.wrap (-a7)) then(IntKind.i64.wrap (-a7)) else 0)=d2:=by simp only[i64_w];exact d0
  have g3: (if 0<(wrap64 (-a7)) then(wrap64 (-a7)) else 0)=d2:=d0
  obtain⟨d7,b8⟩:∃j_:Int,(mx (d2) b0)=j_:=⟨_,rfl⟩
  simp only[b8] at H
  (try rw[b8] at A3)
  have g4: (if (d2)<b0 then b0 else(d2))=d7:=b8
  replace H:=oc_ H;obtain⟨f2,A7,H⟩:=H;replace H:=oc_ H;obtain⟨f3,A8,H⟩:=H;replace H:=oc_ H;obtain⟨f4,A9,H⟩:=H;replace H:=oc_ H;obtain⟨⟨f5,f6,f7,f8,i4⟩,i5,H⟩:=H
  simp only[Option.some.injEq,Prod.mk.injEq] at H
  obtain⟨rfl,rfl,rfl,rfl,rfl⟩:=H
  go_enter Tryz.func34,Tryz.ntmps34
  try go_wp2_with (first|((refine gd_ 3 ?_);refine by_ 3 #[i6 b4,i6 b5,i6 b6,i6 b7] 28 HB ?_;intro d1 hg j2 a3 hb d3 HB_;replace HB:=HB_;clear hb hg)|((refine gd_ 4 ?_);refine by_ 4 #[i6 0,i6 0,i6 0,i6 0] 28 HB ?_;intro b9 hg j3 a2 hb d4 HB_;have a6:=bm_ a3 hg;have b1:=bn_ a3 hg;replace a3:=bb_ a3 hb;replace HB:=HB_;clear hb hg;have:=nn_ a6;have hz14:=ch4_ a3)|((refine gc_ 43 ?_);refine ge_ 13 Tryz.func43 #[i6 a0,.agg #[i6 b4,i6 b5,i6 b6,i6 b7],.agg #[i6 0,i6 0,i6 0]] ?_;(with_reducible refine mo_ (impl_moveBall.calls _ A3.out) ?_);intro j4 hb;replace a3:=bb_ a3 hb;replace a2:=bb_ a2 hb;replace HB:=bt_ HB hb;clear hb)|((refine gd_ 6 ?_);refine by_ 6 #[i6 0,i6 0,i6 0] 42 HB ?_;intro a5 hg d5 a4 hb d6 HB_;have b2:=bm_ a3 hg;have a8:=bn_ a3 hg;have a9:=bm_ a2 hg;have a1:=bn_ a2 hg;replace a3:=bb_ a3 hb;replace a2:=bb_ a2 hb;replace HB:=HB_;clear hb hg;have:=nn_ a8;have:=nn_ a1;have hz19:=ch3_ a4))
  have f9:Aside0 ((((d5.setCell ⟨a5,0,none⟩ (i6 a7)).setCell ⟨a5,1,none⟩ (i6 b3)).setCell ⟨a5,2,none⟩ (i6 b0)).heap[d1]?=some (.cells #[i6 b4,i6 b5,i6 b6,i6 b7] 28 (0,0))):=fl_ a3 b2
  have g0:Aside0 ((((d5.setCell ⟨a5,0,none⟩ (i6 a7)).setCell ⟨a5,1,none⟩ (i6 b3)).setCell ⟨a5,2,none⟩ (i6 b0)).heap[b9]?=some (.cells #[i6 0,i6 0,i6 0,i6 0] 28 (0,0))):=fl_ a2 a9
  have g1:Aside0 ((((d5.setCell ⟨a5,0,none⟩ (i6 a7)).setCell ⟨a5,1,none⟩ (i6 b3)).setCell ⟨a5,2,none⟩ (i6 b0)).heap[a5]?=some (.cells #[i6 a7,i6 b3,i6 b0] 42 (0,0))):=bp_ a4
  have g2:Aside0 (Below w.heap.size w (((d5.setCell ⟨a5,0,none⟩ (i6 a7)).setCell ⟨a5,1,none⟩ (i6 b3)).setCell ⟨a5,2,none⟩ (i6 b0))):=bw_ HB
  try clear a3
  try clear a2
  try clear a4
  try clear HB
  generalize (((d5.setCell ⟨a5,0,none⟩ (i6 a7)).setCell ⟨a5,1,none⟩ (i6 b3)).setCell ⟨a5,2,none⟩ (i6 b0))=i7 at f9 g0 g1 g2⊢
  have a3:=f9
  have a2:=g0
  have a4:=g1
  have HB:=g2
  clear f9 g0 g1 g2;replace a3:=bd_ a3;replace a2:=bd_ a2;replace a4:=bd_ a4;replace HB:=be_ HB
  refine start_ (n:=26) (S:=fun w'=>c_ w' a5 0 (i6 a7)∧c_ w' a5 1 (i6 b3)∧c_ w' a5 2 (i6 b0)) (ds:=[]) (bv_ 26 0) (by kernel_rfl) rfl rfl ⟨cz_ a4 0,cz_ a4 1,cz_ a4 2⟩ (fun hHeld=>?_);refine with_tabW impl_triangular.tab5 impl_triangular.bits5 (fun HT_ HW_=>?_)
  generalize i7.drew=j5 at a3 a2 a4 HB hHeld⊢
  refine px_ HT_ 0 25 1 ?_;refine px_ HT_ 1 26 3 ?_;refine px_ HT_ 3 28 11 ?_;refine px_ HT_ 6 31 75 ?_;refine px_ HT_ 8 33 331 ?_;refine px_ HT_ 9 34 843 ?_;refine px_ HT_ 10 35 1867 ?_;refine px_ HT_ 16 41 67403 ?_;refine px_ HT_ 17 42 198475 ?_
  refine ta_ HT_ HW_ 2 (some 27) (bv_ 26 198479) hHeld ?_ (hy:=by rintro w' ⟨s0,s1,s2⟩;go_simp;with_reducible rfl)
  refine px_ HT_ 4 29 198495 ?_
  refine ta_ HT_ HW_ 7 (some 32) (bv_ 26 198623) hHeld ?_ (hy:=by rintro w' ⟨s0,s1,s2⟩;go_simp;with_reducible rfl)
  refine ta_ HT_ HW_ 11 (some 36) (bv_ 26 200671) hHeld ?_ (hy:=by rintro w' ⟨s0,s1,s2⟩;go_simp;with_reducible rfl)
  refine px_ HT_ 12 37 204767 ?_
  refine on_ HT_ 5 (some 30) (bv_ 26 204799) (fun K hK=>?_)
  refine gs_ Tryz.func64 #[i6 a0,i6 (wrap64 (a7+(d7)))] ?_ (hargs:=by(try simp only[List.map_toArray,List.map_cons,List.map_nil]);first|done|(simp only[b8];rfl)|rfl|(simp only[List.length_drop,List.length_take];rfl))
  with_reducible refine mo_ (impl_power.calls _ A7.out) ?_
  rintro w' ⟨nd,rfl⟩
  refine hK.out _ _ ⟨cz_ a4 0,cz_ a4 1,cz_ a4 2⟩ (fun hHeld=>?_)
  clear hK K;refine nm_ (some 30) ?_
  refine on_ HT_ 13 (some 38) (bv_ 26 212991) (fun K hK=>?_)
  refine gs_ Tryz.func64 #[i6 a0,i6 (wrap64 ((d7) - b0))] ?_ (hargs:=by(try simp only[List.map_toArray,List.map_cons,List.map_nil]);first|done|(simp only[b8];rfl)|rfl|(simp only[List.length_drop,List.length_take];rfl))
  with_reducible refine mo_ (impl_power.calls _ A8.out) ?_
  rintro w' ⟨nd,rfl⟩
  refine hK.out _ _ ⟨cz_ a4 0,cz_ a4 1,cz_ a4 2⟩ (fun hHeld=>?_)
  clear hK K;refine nm_ (some 38) ?_;refine px_ HT_ 14 39 229375 ?_;refine px_ HT_ 15 40 262143 ?_
  refine on_ HT_ 18 (some 43) (bv_ 26 524287) (fun K hK=>?_)
  refine gs_ Tryz.func64 #[i6 a0,i6 d7] ?_ (hargs:=by(try simp only[List.map_toArray,List.map_cons,List.map_nil]);first|done|(simp only[b8];rfl)|rfl|(simp only[List.length_drop,List.length_take];rfl))
  with_reducible refine mo_ (impl_power.calls _ A9.out) ?_
  rintro w' ⟨nd,rfl⟩
  refine hK.out _ _ ⟨cz_ a4 0,cz_ a4 1,cz_ a4 2⟩ (fun hHeld=>?_)
  clear hK K;refine nm_ (some 43) ?_;refine px_ HT_ 19 44 1048575 ?_;refine px_ HT_ 20 45 2097151 ?_
  refine on_ HT_ 21 (some 46) (bv_ 26 4194303) (fun K hK=>?_)
  refine gs_ Tryz.func55 #[.agg #[i6 f2,i6 (wrap64 (b3*f3)),i6 0,i6 f4]] ?_
  with_reducible refine mo_ (impl_reduced.calls _ i5.out) ?_
  intro j6 hb;replace a3:=bb_ a3 hb;replace a2:=bb_ a2 hb;replace a4:=bb_ a4 hb;replace HB:=bt_ HB hb
  try clear hb
  refine hK.out _ _ ⟨cz_ a4 0,cz_ a4 1,cz_ a4 2⟩ (fun hHeld=>?_)
  clear hK K;refine nm_ (some 46) ?_;refine px_ HT_ 22 47 8388607 ?_;refine px_ HT_ 23 48 16777215 ?_
  refine on_ HT_ 24 none (bv_ 26 33554431) (fun K hK=>?_)
  have i8:=cz_ a2 0;have g5:=blk_frozen a2.out 0;have d8:=a6.out;have d9:=a1.out;have f0:=b1.out;have f1:=a9.out;have i9:=cz_ a2 1;have g6:=blk_frozen a2.out 1;have j0:=cz_ a2 2;have g7:=blk_frozen a2.out 2;have j1:=cz_ a2 3;have g8:=blk_frozen a2.out 3
  refine skip_ (w1:=?_) (by rfl) rfl ?_ ?_
  rotate_left
  ·go_simp
   rfl
  refine hK.out _ _ ⟨(cg_ a1 ((cg_ a1 ((cg_ a1 ((cg_ a1 (hHeld.1)))))))),(cg_ a1 ((cg_ a1 ((cg_ a1 ((cg_ a1 (hHeld.2.1)))))))),(cg_ a1 ((cg_ a1 ((cg_ a1 ((cg_ a1 (hHeld.2.2))))))))⟩ (fun hHeld=>?_)
  clear hK K;refine px_ HT_ 25 5 67108863 ?_
  refine done_ (done_of HT_.out (by kernel_rfl)) ?_
  try go_wp2
  refine bodyPost_ret (results_ct rfl _ _ b9 28 #[i6 f5,i6 f6,i6 f7,i6 f8] (0,0) _ rfl (bp_ a2).out Tryz.underlying28 rfl (by kernel_rfl)) rfl ?_
  exact⟨by first|rfl|(simp[errW_none,errW_some]<;>rfl)|(simp only[←d0,←b8];first|rfl|(simp[errW_none,errW_some]<;>rfl))|(simp[*,errW_none,errW_some]<;>rfl),(bw_ HB).out⟩
 simp only[Option.some.injEq,Prod.mk.injEq] at H
 obtain⟨rfl,rfl,rfl,rfl,rfl⟩:=H
 go_enter Tryz.func34,Tryz.ntmps34
 go_wp2_with (first|((refine gd_ 3 ?_);refine by_ 3 #[i6 b4,i6 b5,i6 b6,i6 b7] 28 HB ?_;intro d1 hg j7 a3 hb d3 HB_;replace HB:=HB_;clear hb hg)|((refine gd_ 4 ?_);refine by_ 4 #[i6 0,i6 0,i6 0,i6 0] 28 HB ?_;intro b9 hg j8 a2 hb d4 HB_;have a6:=bm_ a3 hg;have b1:=bn_ a3 hg;replace a3:=bb_ a3 hb;replace HB:=HB_;clear hb hg;have:=nn_ a6;have hz30:=ch4_ a3)|((refine gc_ 43 ?_);refine ge_ 13 Tryz.func43 #[i6 a0,.agg #[i6 b4,i6 b5,i6 b6,i6 b7],.agg #[i6 0,i6 0,i6 0]] ?_;(with_reducible refine mo_ (impl_moveBall.calls _ A3.out) ?_);intro j9 hb;replace a3:=bb_ a3 hb;replace a2:=bb_ a2 hb;replace HB:=bt_ HB hb;clear hb)|((refine gd_ 6 ?_);refine by_ 6 #[i6 0,i6 0,i6 0] 42 HB ?_;intro a5 hg l0 a4 hb d6 HB_;have b2:=bm_ a3 hg;have a8:=bn_ a3 hg;have a9:=bm_ a2 hg;have a1:=bn_ a2 hg;replace a3:=bb_ a3 hb;replace a2:=bb_ a2 hb;replace HB:=HB_;clear hb hg;have:=nn_ a8;have:=nn_ a1;have hz35:=ch3_ a4;have hz36:=ch4_ a2))
 refine bodyPost_ret (results_ct rfl _ _ b9 28 #[i6 0,i6 0,i6 0,i6 0] (0,0) _ rfl (bp_ a2).out Tryz.underlying28 rfl (by kernel_rfl)) rfl ?_
 exact⟨es_,(bw_ HB).out⟩
/-! ### impl_TriangularPart: function 9 -/
def impl_TriangularPart.f (k:Nat) (a0 a1_0 a1_1 a1_2 a1_3:Int):Option (Int×Int×Int×Int×Int):=(impl_partCode.f k a0 a1_0 a1_1 a1_2 a1_3).bind fun t543=>(if t543=0 then((impl_triangular.f k a0 a1_0 a1_1 a1_2 a1_3).bind fun bt544=>((impl_fittedMatrix.f bt544.1 bt544.2.1 bt544.2.2.1 bt544.2.2.2.1 bt544.2.2.2.2).bind fun bt549=>(some (bt549.1,bt549.2.1,bt549.2.2.1,bt549.2.2.2.1,bt549.2.2.2.2)))) else(some (0,0,0,0,t543)))
theorem impl_TriangularPart.calls {k:Nat} {a0 a4 a5 a6 a7 r1 r2 r3 r4 r5:Int} (w:World) (h:impl_TriangularPart.f k a0 a4 a5 a6 a7=some (r1,r2,r3,r4,r5)):
  Calls Tryz.prog 9 #[i6 a0,.agg #[i6 a4,i6 a5,i6 a6,i6 a7]] w fun e w'=>e= .returned (.tuple #[.agg #[i6 r1,i6 r2,i6 r3,i6 r4],i6 r5])∧Below w.heap.size w w':=by
 have hu28:=Tryz.underlying28
 have HB:=Aside0.mk (Below.refl w.heap.size w)
 unfold impl_TriangularPart.f at h;have H:=h;clear h;replace H:=oc_ H;obtain⟨d4,A3,H⟩:=H;replace H:=ie_ H
 rcases H with ⟨b3,b4,H⟩|⟨c4,b3,b4,H⟩
 ·replace H:=oc_ H
  obtain⟨⟨b5,b6,b7,b8,b9⟩,A5,H⟩:=H;replace H:=oc_ H;obtain⟨⟨d0,d1,d2,d3,d5⟩,A6,H⟩:=H
  simp only[Option.some.injEq,Prod.mk.injEq] at H
  obtain⟨rfl,rfl,rfl,rfl,rfl⟩:=H
  go_enter Tryz.func9,Tryz.ntmps9
  go_wp2_with (first|((refine gd_ 3 ?_);refine by_ 3 #[i6 a4,i6 a5,i6 a6,i6 a7] 28 HB ?_;intro b0 hg w7 a1 hb b1 HB_;replace HB:=HB_;clear hb hg)|((refine gd_ 4 ?_);refine by_ 4 #[i6 0,i6 0,i6 0,i6 0] 28 HB ?_;intro a9 hg w8 a2 hb b2 HB_;have a3:=bm_ a1 hg;have a8:=bn_ a1 hg;replace a1:=bb_ a1 hb;replace HB:=HB_;clear hb hg;have:=nn_ a3;have hz10:=ch4_ a1)|((refine gc_ 32 ?_);refine ge_ 9 Tryz.func32 #[i6 a0,.agg #[i6 a4,i6 a5,i6 a6,i6 a7]] ?_;(with_reducible refine mo_ (impl_partCode.calls _ A3.out) ?_);intro d6 hb;replace a1:=bb_ a1 hb;replace a2:=bb_ a2 hb;replace HB:=bt_ HB hb;clear hb;have hz12:=ch4_ a1)|((refine gc_ 34 ?_);refine ge_ 16 Tryz.func34 #[i6 a0,.agg #[i6 a4,i6 a5,i6 a6,i6 a7]] ?_;(with_reducible refine mo_ (impl_triangular.calls _ A5.out) ?_);intro d7 hb;replace a1:=bb_ a1 hb;replace a2:=bb_ a2 hb;replace HB:=bt_ HB hb;clear hb)|((refine gc_ 33 ?_);refine ge_ 19 Tryz.func33 #[.agg #[i6 b5,i6 b6,i6 b7,i6 b8],.bool b9] ?_;(with_reducible refine mo_ (impl_fittedMatrix.calls _ A6.out) ?_);intro d8 hb;replace a1:=bb_ a1 hb;replace a2:=bb_ a2 hb;replace HB:=bt_ HB hb;clear hb;have hz15:=ch4_ a2))
  refine bodyPost_ret (results_ct rfl _ _ a9 28 #[i6 d0,i6 d1,i6 d2,i6 d3] (0,0) _ rfl (bp_ a2).out Tryz.underlying28 rfl (by kernel_rfl)) rfl ?_
  exact⟨es_,(bw_ HB).out⟩
 simp only[Option.some.injEq,Prod.mk.injEq] at H
 obtain⟨rfl,rfl,rfl,rfl,rfl⟩:=H
 go_enter Tryz.func9,Tryz.ntmps9
 go_wp2_with (first|((refine gd_ 3 ?_);refine by_ 3 #[i6 a4,i6 a5,i6 a6,i6 a7] 28 HB ?_;intro b0 hg d9 a1 hb b1 HB_;replace HB:=HB_;clear hb hg)|((refine gd_ 4 ?_);refine by_ 4 #[i6 0,i6 0,i6 0,i6 0] 28 HB ?_;intro a9 hg f0 a2 hb b2 HB_;have a3:=bm_ a1 hg;have a8:=bn_ a1 hg;replace a1:=bb_ a1 hb;replace HB:=HB_;clear hb hg;have:=nn_ a3;have hz19:=ch4_ a1)|((refine gc_ 32 ?_);refine ge_ 9 Tryz.func32 #[i6 a0,.agg #[i6 a4,i6 a5,i6 a6,i6 a7]] ?_;(with_reducible refine mo_ (impl_partCode.calls _ A3.out) ?_);intro f1 hb;replace a1:=bb_ a1 hb;replace a2:=bb_ a2 hb;replace HB:=bt_ HB hb;clear hb;have hz21:=ch4_ a2))
 refine bodyPost_ret (results_ct rfl _ _ a9 28 #[i6 0,i6 0,i6 0,i6 0] (0,0) _ rfl (bp_ a2).out Tryz.underlying28 rfl (by kernel_rfl)) rfl ?_
 exact⟨es_,(bw_ HB).out⟩
/-! ### spec_l04Is: function 65 -/
mutual
def spec_l04Is.l0:Nat→Int→Int→Int→Int→Int→Option (Bool)
 |0,_,_,_,_,_=>none
 |k+1,x3,x555000,x555001,x555002,x555003=>if x3<2 then(spec_l04Is.l1 k x3 0 x555000 x555001 x555002 x555003) else((spec_l04Det.f x555000 x555001 x555002 x555003).bind fun t555=>(some (t555 !=0)))
def spec_l04Is.l1:Nat→Int→Int→Int→Int→Int→Int→Option (Bool)
 |0,_,_,_,_,_,_=>none
 |k+1,x3,x4,x555000,x555001,x555002,x555003=>if x4<2 then(if x3=0 then(if x4=0 then((spec_l01In.f x555000 (-1000) 1000).bind fun t556=>(if t556=true then(spec_l04Is.l1 k x3 (wrap64 (x4+1)) x555000 x555001 x555002 x555003) else(some false))) else(if x4=1 then((spec_l01In.f x555001 (-1000) 1000).bind fun t557=>(if t557=true then(spec_l04Is.l1 k x3 (wrap64 (x4+1)) x555000 x555001 x555002 x555003) else(some false))) else(none))) else(if x3=1 then(if x4=0 then((spec_l01In.f x555002 (-1000) 1000).bind fun t558=>(if t558=true then(spec_l04Is.l1 k x3 (wrap64 (x4+1)) x555000 x555001 x555002 x555003) else(some false))) else(if x4=1 then((spec_l01In.f x555003 (-1000) 1000).bind fun t559=>(if t559=true then(spec_l04Is.l1 k x3 (wrap64 (x4+1)) x555000 x555001 x555002 x555003) else(some false))) else(none))) else(none))) else(spec_l04Is.l0 k (wrap64 (x3+1)) x555000 x555001 x555002 x555003)
end
def spec_l04Is.f (k:Nat) (a0_0 a0_1 a0_2 a0_3:Int):Option (Bool):=spec_l04Is.l0 k 0 a0_0 a0_1 a0_2 a0_3
theorem spec_l04Is.calls {k:Nat} {a3 a4 a5 a6:Int} {r:Bool} (w:World) (h:spec_l04Is.f k a3 a4 a5 a6=some r):
  Calls Tryz.prog 65 #[.agg #[i6 a3,i6 a4,i6 a5,i6 a6]] w fun e w'=>e= .returned (.bool r)∧Below w.heap.size w w':=by
 have hu28:=Tryz.underlying28
 have hu26:=Tryz.underlying26
 have HB:=Aside0.mk (Below.refl w.heap.size w)
 unfold spec_l04Is.f at h;have H:=h;clear h
 have H':=Aside0.mk H
 clear H
 go_enter Tryz.func65,Tryz.ntmps65
 go_wp2_with (first|((refine gd_ 1 ?_);refine by_ 1 #[i6 a3,i6 a4,i6 a5,i6 a6] 28 HB ?_;intro b0 hg w2 a1 hb b4 HB_;replace HB:=HB_;clear hb hg))
 go_loopg [3] k (fun kq v3 w'=>∃(a7:Int),v3=i6 a7∧Aside0 (spec_l04Is.l0 kq a7 a3 a4 a5 a6=some r)∧Aside0 (kq≤k)∧Aside0 (b_ w' b0 #[i6 a3,i6 a4,i6 a5,i6 a6] 28)∧Aside0 (Below w.heap.size w w'))
 case atStart=>exact⟨(0),en_,H',⟨Nat.le_refl _⟩,bl_ a1,bw_ HB⟩
 clear H';obtain⟨a7,rfl,HA,a8,a1,HB⟩:=hrel
 cases gk with
 |zero=>exact absurd HA.out (by simp[spec_l04Is.l0])
 |succ k1=>
  have H:=HA.out;clear HA
  simp only[spec_l04Is.l0] at H
  replace H:=il_ H
  rcases H with ⟨b1,H⟩|⟨b1,H⟩
  ·have H':=Aside0.mk H
   clear H
   go_wp2
   go_loopg [4] k1 (fun kq v4 w'=>∃(a2:Int),v4=i6 a2∧Aside0 (spec_l04Is.l1 kq a7 a2 a3 a4 a5 a6=some r)∧Aside0 (kq≤k1)∧Aside0 (b_ w' b0 #[i6 a3,i6 a4,i6 a5,i6 a6] 28)∧Aside0 (Below w.heap.size w w'))
   case atStart=>exact⟨(0),en_,H',⟨Nat.le_refl _⟩,bl_ a1,bw_ HB⟩
   clear H'
   try clear b1
   obtain⟨a2,rfl,HA,a9,a1,HB⟩:=hrel
   cases gk with
   |zero=>exact absurd HA.out (by simp[spec_l04Is.l1])
   |succ k2=>
    have H:=HA.out;clear HA
    simp only[spec_l04Is.l1] at H
    replace H:=il_ H
    rcases H with ⟨b3,H⟩|⟨b3,H⟩
    ·by_cases c5:a7=0
     ·subst c5
      replace H:=i1_ H
      by_cases c6:a2=0
      ·subst c6
       replace H:=i1_ H;replace H:=oc_ H;obtain⟨d3,A7,H⟩:=H;replace H:=ib_ H
       rcases H with ⟨rfl,H⟩|⟨rfl,H⟩
       ·have H':=Aside0.mk H
        clear H;have hz9:=ch4_ a1
        go_wp2_with (first|((refine gc_ 85 ?_);refine ge_ 18 Tryz.func85 #[i6 a3,i6 (-1000),i6 1000] ?_;(with_reducible refine mo_ (spec_l01In.calls _ A7.out) ?_);rintro w' ⟨nd,rfl⟩))
        go_roundg k2
        case measure=>have:=a8.out;have:=a9.out;omega
        case rel=>exact⟨(wrap64 (0+1)),en_,H',⟨by have:=a8.out;have:=a9.out;omega⟩,bl_ a1,bw_ HB⟩
       obtain rfl:=si_ H
       have hz10:=ch4_ a1
       go_wp2_with (first|((refine gc_ 85 ?_);refine ge_ 18 Tryz.func85 #[i6 a3,i6 (-1000),i6 1000] ?_;(with_reducible refine mo_ (spec_l01In.calls _ A7.out) ?_);rintro w' ⟨nd,rfl⟩))
       go_ret;exact⟨es_,(bw_ HB).out⟩
      rw[if_neg c6] at H
      have d4: (a2==0)=false:=beq_eq_false_iff_ne.mpr c6
      have d5: (a2 !=0)=true:=bne_iff_ne.mpr c6
      by_cases b5:a2=1
      ·subst b5
       replace H:=i1_ H;replace H:=oc_ H;obtain⟨d6,b6,H⟩:=H;replace H:=ib_ H
       rcases H with ⟨rfl,H⟩|⟨rfl,H⟩
       ·have H':=Aside0.mk H
        clear H;have hz14:=ch4_ a1
        go_wp2_with (first|((refine gc_ 85 ?_);refine ge_ 18 Tryz.func85 #[i6 a4,i6 (-1000),i6 1000] ?_;(with_reducible refine mo_ (spec_l01In.calls _ b6.out) ?_);rintro w' ⟨nd,rfl⟩))
        go_roundg k2
        case measure=>have:=a8.out;have:=a9.out;omega
        case rel=>exact⟨(wrap64 (1+1)),en_,H',⟨by have:=a8.out;have:=a9.out;omega⟩,bl_ a1,bw_ HB⟩
       obtain rfl:=si_ H
       have hz15:=ch4_ a1
       go_wp2_with (first|((refine gc_ 85 ?_);refine ge_ 18 Tryz.func85 #[i6 a4,i6 (-1000),i6 1000] ?_;(with_reducible refine mo_ (spec_l01In.calls _ b6.out) ?_);rintro w' ⟨nd,rfl⟩))
       go_ret;exact⟨es_,(bw_ HB).out⟩
      rw[if_neg b5] at H
      exact absurd H (by simp)
     rw[if_neg c5] at H
     have d7: (a7==0)=false:=beq_eq_false_iff_ne.mpr c5
     have d8: (a7 !=0)=true:=bne_iff_ne.mpr c5
     by_cases b7:a7=1
     ·subst b7
      replace H:=i1_ H
      by_cases b2:a2=0
      ·subst b2
       replace H:=i1_ H;replace H:=oc_ H;obtain⟨d9,b8,H⟩:=H;replace H:=ib_ H
       rcases H with ⟨rfl,H⟩|⟨rfl,H⟩
       ·have H':=Aside0.mk H
        clear H;have hz20:=ch4_ a1
        go_wp2_with (first|((refine gc_ 85 ?_);refine ge_ 18 Tryz.func85 #[i6 a5,i6 (-1000),i6 1000] ?_;(with_reducible refine mo_ (spec_l01In.calls _ b8.out) ?_);rintro w' ⟨nd,rfl⟩))
        go_roundg k2
        case measure=>have:=a8.out;have:=a9.out;omega
        case rel=>exact⟨(wrap64 (0+1)),en_,H',⟨by have:=a8.out;have:=a9.out;omega⟩,bl_ a1,bw_ HB⟩
       obtain rfl:=si_ H
       have hz21:=ch4_ a1
       go_wp2_with (first|((refine gc_ 85 ?_);refine ge_ 18 Tryz.func85 #[i6 a5,i6 (-1000),i6 1000] ?_;(with_reducible refine mo_ (spec_l01In.calls _ b8.out) ?_);rintro w' ⟨nd,rfl⟩))
       go_ret;exact⟨es_,(bw_ HB).out⟩
      rw[if_neg b2] at H
      have b9: (a2==0)=false:=beq_eq_false_iff_ne.mpr b2
      have d0: (a2 !=0)=true:=bne_iff_ne.mpr b2
      by_cases d1:a2=1
      ·subst d1
       replace H:=i1_ H;replace H:=oc_ H;obtain⟨f0,d2,H⟩:=H;replace H:=ib_ H
       rcases H with ⟨rfl,H⟩|⟨rfl,H⟩
       ·have H':=Aside0.mk H
        clear H;have hz25:=ch4_ a1
        go_wp2_with (first|((refine gc_ 85 ?_);refine ge_ 18 Tryz.func85 #[i6 a6,i6 (-1000),i6 1000] ?_;(with_reducible refine mo_ (spec_l01In.calls _ d2.out) ?_);rintro w' ⟨nd,rfl⟩))
        go_roundg k2
        case measure=>have:=a8.out;have:=a9.out;omega
        case rel=>exact⟨(wrap64 (1+1)),en_,H',⟨by have:=a8.out;have:=a9.out;omega⟩,bl_ a1,bw_ HB⟩
       obtain rfl:=si_ H
       have hz26:=ch4_ a1
       go_wp2_with (first|((refine gc_ 85 ?_);refine ge_ 18 Tryz.func85 #[i6 a6,i6 (-1000),i6 1000] ?_;(with_reducible refine mo_ (spec_l01In.calls _ d2.out) ?_);rintro w' ⟨nd,rfl⟩))
       go_ret;exact⟨es_,(bw_ HB).out⟩
      rw[if_neg d1] at H
      exact absurd H (by simp)
     rw[if_neg b7] at H
     exact absurd H (by simp)
    have H':=Aside0.mk H
    clear H
    go_wp2
    go_roundg k2
    case measure=>have:=a8.out;have:=a9.out;omega
    case rel=>exact⟨(wrap64 (a7+1)),en_,H',⟨by have:=a8.out;have:=a9.out;omega⟩,bl_ a1,bw_ HB⟩
  replace H:=oc_ H;obtain⟨f1,f2,H⟩:=H
  obtain rfl:=si_ H
  have hz28:=ch4_ a1
  go_wp2_with (first|((refine gc_ 68 ?_);refine ge_ 21 Tryz.func68 #[.agg #[i6 a3,i6 a4,i6 a5,i6 a6]] ?_;(with_reducible refine mo_ (spec_l04Det.calls _ f2.out) ?_);intro f3 hb;replace a1:=bb_ a1 hb;replace HB:=bt_ HB hb;clear hb))
  go_ret;exact⟨es_,(bw_ HB).out⟩
/-! ### spec_l04Code: function 35 -/
def spec_l04Code.f (k:Nat) (a0 a1_0 a1_1 a1_2 a1_3:Int) (l2:List (S42)):Option (Int):=(spec_l01Code.f k a0 l2).bind fun t561=>(if t561=0 then((spec_l04Is.f k a1_0 a1_1 a1_2 a1_3).bind fun t562=>(if t562=true then(some 0) else(some 1))) else(some 1))
theorem spec_l04Code.calls {k:Nat} {a0 a4 a5 a6 a7:Int} (A2:Option Addr) (c2:Nat) {l2:List (S42)} {r:Int} (w:World) (hr2:Kd.C k42 w A2 l2.length l2) (hc2:l2.length≤c2) (h:spec_l04Code.f k a0 a4 a5 a6 a7 l2=some r):
  Calls Tryz.prog 35 #[i6 a0,.agg #[i6 a4,i6 a5,i6 a6,i6 a7],.slice A2 l2.length c2] w fun e w'=>e= .returned (i6 r)∧Below w.heap.size w w':=by
 have hu28:=Tryz.underlying28
 have b0:=Aside0.mk hr2;have b1:=Aside0.mk hc2;clear hr2 hc2
 have HB:=Aside0.mk (Below.refl w.heap.size w)
 unfold spec_l04Code.f at h;have H:=h;clear h;replace H:=oc_ H;obtain⟨b4,A4,H⟩:=H;replace H:=ie_ H
 rcases H with ⟨b2,b3,H⟩|⟨c5,b2,b3,H⟩
 ·replace H:=oc_ H
  obtain⟨b5,A6,H⟩:=H;replace H:=ib_ H
  rcases H with ⟨rfl,H⟩|⟨rfl,H⟩
  ·obtain rfl:=si_ H
   go_enter Tryz.func35,Tryz.ntmps35
   go_wp2_with (first|((refine gd_ 4 ?_);refine by_ 4 #[i6 a4,i6 a5,i6 a6,i6 a7] 28 HB ?_;intro a8 hg w8 a1 hb a9 HB_;replace HB:=HB_;clear hb hg)|((refine gc_ 56 ?_);refine ge_ 9 Tryz.func56 #[i6 a0,.slice A2 l2.length c2] ?_;(with_reducible refine mo_ (spec_l01Code.calls _ _ _ ?a2 ?a3 A4.out) ?_);(case a2=>exact ca_ (Kd.C_below b0.out HB.out));(case a3=>exact b1.out);intro w9 hb;replace a1:=bb_ a1 hb;replace HB:=bt_ HB hb;clear hb;have hz10:=ch4_ a1)|(go_at_call 65;(with_reducible refine(spec_l04Is.calls _ A6.out).mono ?_);rintro e b6 ⟨rfl,hb⟩;replace a1:=bb_ a1 hb;replace HB:=bt_ HB hb;(try clear hb)))
   go_ret;exact⟨es_,(bw_ HB).out⟩
  obtain rfl:=si_ H
  go_enter Tryz.func35,Tryz.ntmps35
  go_wp2_with (first|((refine gd_ 4 ?_);refine by_ 4 #[i6 a4,i6 a5,i6 a6,i6 a7] 28 HB ?_;intro a8 hg b7 a1 hb a9 HB_;replace HB:=HB_;clear hb hg)|((refine gc_ 56 ?_);refine ge_ 9 Tryz.func56 #[i6 a0,.slice A2 l2.length c2] ?_;(with_reducible refine mo_ (spec_l01Code.calls _ _ _ ?a2 ?a3 A4.out) ?_);(case a2=>exact ca_ (Kd.C_below b0.out HB.out));(case a3=>exact b1.out);intro b8 hb;replace a1:=bb_ a1 hb;replace HB:=bt_ HB hb;clear hb;have hz14:=ch4_ a1)|(go_at_call 65;(with_reducible refine(spec_l04Is.calls _ A6.out).mono ?_);rintro e b9 ⟨rfl,hb⟩;replace a1:=bb_ a1 hb;replace HB:=bt_ HB hb;(try clear hb)))
  go_ret;exact⟨es_,(bw_ HB).out⟩
 obtain rfl:=si_ H
 go_enter Tryz.func35,Tryz.ntmps35
 go_wp2_with (first|((refine gd_ 4 ?_);refine by_ 4 #[i6 a4,i6 a5,i6 a6,i6 a7] 28 HB ?_;intro a8 hg d0 a1 hb a9 HB_;replace HB:=HB_;clear hb hg)|((refine gc_ 56 ?_);refine ge_ 9 Tryz.func56 #[i6 a0,.slice A2 l2.length c2] ?_;(with_reducible refine mo_ (spec_l01Code.calls _ _ _ ?a2 ?a3 A4.out) ?_);(case a2=>exact ca_ (Kd.C_below b0.out HB.out));(case a3=>exact b1.out);intro d1 hb;replace a1:=bb_ a1 hb;replace HB:=bt_ HB hb;clear hb))
 go_ret;exact⟨es_,(bw_ HB).out⟩
/-! ### spec_l04Move: function 45 -/
mutual
def spec_l04Move.j0:Nat→Int→Int→Bool→Int→Int→Int→Int→Int→Int→Int→Int→Int→Int→Int→Option (Int×Int×Int×Bool)
 |0,_,_,_,_,_,_,_,_,_,_,_,_,_,_=>none
 |k+1,x0,x8,x91,x564000,x564001,x564002,x564003,x565000,x565001,x565002,x570000,x570001,x571000,x571001=>if x91=true then(spec_l04Move.j1 k x0 x8 x564000 x564001 x564002 x564003 x565000 x565001 x565002 x570000 x570001) else(spec_l04Move.j1 k x0 x8 x564000 x564001 x564002 x564003 x565000 x565001 x565002 x571000 x571001)
def spec_l04Move.j1:Nat→Int→Int→Int→Int→Int→Int→Int→Int→Int→Int→Int→Option (Int×Int×Int×Bool)
 |0,_,_,_,_,_,_,_,_,_,_,_=>none
 |k+1,x0,x8,x564000,x564001,x564002,x564003,x565000,x565001,x565002,x571000,x571001=>(spec_l04Det.f x564000 x564001 x564002 x564003).bind fun t573=>((spec_l01Val.f k x0 t573).bind fun t574=>((spec_l01Val.f k x0 x571001).bind fun t575=>((spec_l01Of.f k x0 x571000 x571001 (wrap64 ((wrap64 ((wrap64 (t574+x565000))+(wrap64 (2*x8)))) - (wrap64 (2*t575))))).bind fun bt576=>(some (bt576.1,bt576.2.1,bt576.2.2.1,bt576.2.2.2)))))
end
def spec_l04Move.f (k:Nat) (a0 a1_0 a1_1 a1_2 a1_3 a2_0 a2_1 a2_2:Int):Option (Int×Int×Int×Bool):=(spec_l01Power.f k a0 (wrap64 (a2_0+(mx a2_2 (wrap64 (-a2_0)))))).bind fun t566=>((spec_l01Power.f k a0 (mx a2_2 (wrap64 (-a2_0)))).bind fun t567=>((spec_l01Power.f k a0 (wrap64 ((mx a2_2 (wrap64 (-a2_0))) - a2_2))).bind fun t568=>(if (wrap64 ((wrap64 (a1_2*(wrap64 (a2_1*t568))))+(wrap64 (a1_3*t567))))=0 then(spec_l04Move.j0 k a0 (mx a2_2 (wrap64 (-a2_0))) true a1_0 a1_1 a1_2 a1_3 a2_0 a2_1 a2_2 (wrap64 (a1_0*t566)) (wrap64 (a1_2*t566)) (wrap64 ((wrap64 (a1_0*(wrap64 (a2_1*t568))))+(wrap64 (a1_1*t567)))) (wrap64 ((wrap64 (a1_2*(wrap64 (a2_1*t568))))+(wrap64 (a1_3*t567))))) else(if (wrap64 (a1_2*t566))=0 then(spec_l04Move.j0 k a0 (mx a2_2 (wrap64 (-a2_0))) false a1_0 a1_1 a1_2 a1_3 a2_0 a2_1 a2_2 (wrap64 (a1_0*t566)) (wrap64 (a1_2*t566)) (wrap64 ((wrap64 (a1_0*(wrap64 (a2_1*t568))))+(wrap64 (a1_1*t567)))) (wrap64 ((wrap64 (a1_2*(wrap64 (a2_1*t568))))+(wrap64 (a1_3*t567))))) else((spec_l01Val.f k a0 (wrap64 ((wrap64 (a1_2*(wrap64 (a2_1*t568))))+(wrap64 (a1_3*t567))))).bind fun t571=>((spec_l01Val.f k a0 (wrap64 (a1_2*t566))).bind fun t572=>(spec_l04Move.j0 k a0 (mx a2_2 (wrap64 (-a2_0))) (decide (t571>t572)) a1_0 a1_1 a1_2 a1_3 a2_0 a2_1 a2_2 (wrap64 (a1_0*t566)) (wrap64 (a1_2*t566)) (wrap64 ((wrap64 (a1_0*(wrap64 (a2_1*t568))))+(wrap64 (a1_1*t567)))) (wrap64 ((wrap64 (a1_2*(wrap64 (a2_1*t568))))+(wrap64 (a1_3*t567)))))))))))
def spec_l04Move.T3:Bool×List (List Nat×List Nat):=(true,[([],[]),([0],[0]),([],[]),([],[]),([],[]),([4],[4]),([3,5],[3,5]),([2,6],[2,6]),([1,7],[1,7]),([8,7,0,1,2,3,4,5,6,7,8],[8])])
def spec_l04Move.B3:List Nat:=[0,1,0,0,0,16,56,124,255,511]
theorem spec_l04Move.tab3:rtab .any (opsOf Tryz.f45 3)=spec_l04Move.T3:=by kernel_rfl
theorem spec_l04Move.bits3:waitsOk spec_l04Move.T3.2 spec_l04Move.B3=true:=by kernel_rfl
def spec_l04Move.T6:Bool×List (List Nat×List Nat):=(true,[([],[]),([0],[0]),([1],[1]),([2],[2]),([3],[3]),([4,3],[3,4]),([5,3],[3,5]),([6,3,3],[3,6]),([7],[7]),([7],[7]),([9,7],[7,9]),([8,10,7,7],[7,8,10]),([7],[7]),([7],[7]),([13,7],[7,13]),([12,14,11,7],[7,12,14]),([11,15,7],[7,11,15]),([7,16,3],[3,7,16]),([3,17],[3,17])])
def spec_l04Move.B6:List Nat:=[0,1,3,7,15,31,63,127,255,255,767,2047,255,255,8447,32767,65535,131071,262143]
theorem spec_l04Move.tab6:rtab .any (opsOf Tryz.f45 6)=spec_l04Move.T6:=by kernel_rfl
theorem spec_l04Move.bits6:waitsOk spec_l04Move.T6.2 spec_l04Move.B6=true:=by kernel_rfl
def spec_l04Move.T8:Bool×List (List Nat×List Nat):=(true,[([],[]),([],[]),([1],[1]),([0,2,2],[0,2]),([],[]),([4],[4]),([3,5],[3,5]),([],[]),([7],[7]),([6,8],[6,8]),([],[]),([],[]),([11],[11]),([10,12,3],[10,12]),([13],[13]),([9,14],[9,14]),([15,13,0,1,2,3,4,5,6,7,8,9,10,11,12,13,14,15],[15])])
def spec_l04Move.B8:List Nat:=[0,0,2,7,0,16,63,0,128,511,0,0,2048,7183,15375,32767,65535]
theorem spec_l04Move.tab8:rtab .any (opsOf Tryz.f45 8)=spec_l04Move.T8:=by kernel_rfl
theorem spec_l04Move.bits8:waitsOk spec_l04Move.T8.2 spec_l04Move.B8=true:=by kernel_rfl
theorem spec_l04Move.calls {k:Nat} {a0 b1 b3 b0 b2 b9 a6 d0 r1 r2 r3:Int} {r4:Bool} (w:World) (h:spec_l04Move.f k a0 b1 b3 b0 b2 b9 a6 d0=some (r1,r2,r3,r4)):
  Calls Tryz.prog 45 #[i6 a0,.agg #[i6 b1,i6 b3,i6 b0,i6 b2],.agg #[i6 b9,i6 a6,i6 d0]] w fun e w'=>e= .returned (.tuple #[.agg #[i6 r1,i6 r2,i6 r3],.bool r4])∧Below w.heap.size w w':=by
 have hu28:=Tryz.underlying28
 have hu42:=Tryz.underlying42
 have hu26:=Tryz.underlying26
 have HB:=Aside0.mk (Below.refl w.heap.size w)
 unfold spec_l04Move.f at h;have H:=h;clear h
 obtain⟨i8,f8⟩:∃j_:Int,(mx d0 (wrap64 (-b9)))=j_:=⟨_,rfl⟩
 simp only[f8] at H
 have hji4_k: (if d0<(IntKind.i64.wrap (-b9)) then(IntKind.i64.wrap (-b9)) else d0)=i8:=by simp only[i64_w];exact f8
 have l8: (if d0<(wrap64 (-b9)) then(wrap64 (-b9)) else d0)=i8:=f8
 replace H:=oc_ H;obtain⟨b5,A5,H⟩:=H;replace H:=oc_ H;obtain⟨a8,A6,H⟩:=H;replace H:=oc_ H;obtain⟨a9,A7,H⟩:=H;have j9:=Aside0.mk H;clear H
 go_enter Tryz.func45,Tryz.ntmps45
 try go_wp2_with (first|((refine gd_ 4 ?_);refine by_ 4 #[i6 b1,i6 b3,i6 b0,i6 b2] 28 HB ?_;intro d1 hg w9 a1 hb l9 HB_;replace HB:=HB_;clear hb hg)|((refine gd_ 5 ?_);refine by_ 5 #[i6 b9,i6 a6,i6 d0] 42 HB ?_;intro b6 hg n9 a2 hb m1 HB_;have j3:=bm_ a1 hg;have f9:=bn_ a1 hg;replace a1:=bb_ a1 hb;replace HB:=HB_;clear hb hg)|((refine gd_ 6 ?_);refine by_ 6 #[i6 0,i6 0,i6 0] 42 HB ?_;intro d6 hg i9 a5 hb m2 HB_;have g0:=bm_ a1 hg;have j4:=bn_ a1 hg;have g1:=bm_ a2 hg;have j5:=bn_ a2 hg;replace a1:=bb_ a1 hb;replace a2:=bb_ a2 hb;replace HB:=HB_;clear hb hg;have:=nn_ f9;have:=nn_ g1;have hz14:=ch3_ a2)|((refine gc_ 66 ?_);refine ge_ 26 Tryz.func66 #[i6 a0,i6 (wrap64 (b9+(i8)))] ?_ (hargs:=by(try simp only[List.map_toArray,List.map_cons,List.map_nil]);first|done|(simp only[f8];rfl)|rfl|(simp only[List.length_drop,List.length_take];rfl));(with_reducible refine mo_ (spec_l01Power.calls _ A5.out) ?_);rintro w' ⟨nd,rfl⟩;(try(rw[drewN_self i9];generalize hq_:World.drewN i9 _=i9;replace a1:=bq_ a1 hq_;replace a2:=bq_ a2 hq_;replace a5:=bq_ a5 hq_;replace HB:=hq_' HB hq_;clear hq_)))|((refine gc_ 66 ?_);refine ge_ 29 Tryz.func66 #[i6 a0,i6 i8] ?_ (hargs:=by(try simp only[List.map_toArray,List.map_cons,List.map_nil]);first|done|(simp only[f8];rfl)|rfl|(simp only[List.length_drop,List.length_take];rfl));(with_reducible refine mo_ (spec_l01Power.calls _ A6.out) ?_);rintro w' ⟨nd,rfl⟩;(try(rw[drewN_self i9];generalize hq_:World.drewN i9 _=i9;replace a1:=bq_ a1 hq_;replace a2:=bq_ a2 hq_;replace a5:=bq_ a5 hq_;replace HB:=hq_' HB hq_;clear hq_))))
 replace a1:=bd_ a1;replace a2:=bd_ a2;replace a5:=bd_ a5;replace HB:=be_ HB
 refine start_ (n:=10) (S:=fun w'=>c_ w' b6 0 (i6 b9)∧c_ w' b6 1 (i6 a6)∧c_ w' b6 2 (i6 d0)) (ds:=[]) (bv_ 10 0) (by kernel_rfl) rfl rfl ⟨cz_ a2 0,cz_ a2 1,cz_ a2 2⟩ (fun hHeld=>?_);refine with_tabW spec_l04Move.tab3 spec_l04Move.bits3 (fun HT_ HW_=>?_)
 generalize i9.drew=o0 at a1 a2 a5 HB hHeld⊢
 refine px_ HT_ 0 30 1 ?_;refine px_ HT_ 2 32 5 ?_;refine px_ HT_ 3 33 13 ?_;refine px_ HT_ 4 34 29 ?_
 refine ta_ HT_ HW_ 1 (some 31) (bv_ 10 31) hHeld ?_ (hy:=by rintro w' ⟨s0,s1,s2⟩;go_simp;with_reducible rfl)
 refine ta_ HT_ HW_ 5 (some 35) (bv_ 10 63) hHeld ?_ (hy:=by rintro w' ⟨s0,s1,s2⟩;go_simp;with_reducible rfl)
 refine px_ HT_ 6 36 127 ?_
 refine on_ HT_ 7 (some 37) (bv_ 10 255) (fun K hK=>?_)
 refine gs_ Tryz.func66 #[i6 a0,i6 (wrap64 ((i8) - d0))] ?_ (hargs:=by(try simp only[List.map_toArray,List.map_cons,List.map_nil]);first|done|(simp only[f8];rfl)|rfl|(simp only[List.length_drop,List.length_take];rfl))
 with_reducible refine mo_ (spec_l01Power.calls _ A7.out) ?_
 rintro w' ⟨nd,rfl⟩
 refine hK.out _ _ ⟨cz_ a2 0,cz_ a2 1,cz_ a2 2⟩ (fun hHeld=>?_)
 clear hK K;refine nm_ (some 37) ?_;refine px_ HT_ 8 38 511 ?_;refine px_ HT_ 9 11 1023 ?_
 refine done_ (done_of HT_.out (by kernel_rfl)) ?_
 have:=nn_ g0;have hz17:=ch4_ a1
 go_upto_region 6 with (first|((refine gd_ 12 ?_);refine by_ 12 #[i6 0,i6 0] 26 HB ?_;intro b8 hg o1 a7 hb m3 HB_;have d7:=bm_ a1 hg;have f3:=bn_ a1 hg;have d8:=bm_ a2 hg;have f4:=bn_ a2 hg;have d9:=bm_ a5 hg;have f5:=bn_ a5 hg;replace a1:=bb_ a1 hb;replace a2:=bb_ a2 hb;replace a5:=bb_ a5 hb;replace HB:=HB_;clear hb hg;have:=nn_ f3;have:=nn_ f4;have:=nn_ f5;have hz22:=ch2_ a7;have hz23:=ch4_ a1)|((refine gd_ 13 ?_);refine bx_ 13 #[i6 0,i6 0] 26 ?_;intro a3 hg f2 a4 hb;have m4:=bs_ HB hg;have d3:=Aside0.mk ((by rw[hg];exact Nat.ne_of_lt (blk_lt (g:=d1) (o:= .cells #[i6 b1,i6 b3,i6 b0,i6 b2] 28 (0,0)) (fl_ a1 d7).out):d1≠a3));have f6:=Aside0.mk ((by rw[hg];exact Nat.ne_of_gt (blk_lt (g:=d1) (o:= .cells #[i6 b1,i6 b3,i6 b0,i6 b2] 28 (0,0)) (fl_ a1 d7).out):a3≠d1));have d4:=Aside0.mk ((by rw[hg];exact Nat.ne_of_lt (blk_lt (g:=b6) (o:= .cells #[i6 b9,i6 a6,i6 d0] 42 (0,0)) (fl_ a2 d8).out):b6≠a3));have f7:=Aside0.mk ((by rw[hg];exact Nat.ne_of_gt (blk_lt (g:=b6) (o:= .cells #[i6 b9,i6 a6,i6 d0] 42 (0,0)) (fl_ a2 d8).out):a3≠b6));have d5:=Aside0.mk ((by rw[hg];exact Nat.ne_of_lt (blk_lt (g:=d6) (o:= .cells #[i6 0,i6 0,i6 0] 42 (0,0)) (fl_ a5 d9).out):d6≠a3));have f0:=Aside0.mk ((by rw[hg];exact Nat.ne_of_gt (blk_lt (g:=d6) (o:= .cells #[i6 0,i6 0,i6 0] 42 (0,0)) (fl_ a5 d9).out):a3≠d6));have d2:=Aside0.mk ((by rw[hg];exact Nat.ne_of_lt (blk_lt (g:=b8) (o:= .cells #[i6 (wrap64 (b1*b5)),i6 (wrap64 (b0*b5))] 26 (0,0)) (bp_ a7).out):b8≠a3));have g2:=Aside0.mk ((by rw[hg];exact Nat.ne_of_gt (blk_lt (g:=b8) (o:= .cells #[i6 (wrap64 (b1*b5)),i6 (wrap64 (b0*b5))] 26 (0,0)) (bp_ a7).out):a3≠b8));replace a1:=fb_ a1 d7 hb;replace a2:=fb_ a2 d8 hb;replace a5:=fb_ a5 d9 hb;replace a7:=Aside0.mk (blk_below (g:=b8) (o:= .cells #[i6 (wrap64 (b1*b5)),i6 (wrap64 (b0*b5))] 26 (0,0)) (bp_ a7).out hb);replace HB:=bt_ HB hb;clear hb hg;have:=nn_ f6;have:=nn_ f7;have:=nn_ f0;have:=nn_ g2;have hz29:=ch2_ a4))
 (try simp only[Act.put,lstS,lstZ,lstC])
 go_cut [91] (fun m8 wc=>∃(kq:Nat) (g3:Bool),m8= .bool g3∧Aside0 (spec_l04Move.j0 kq a0 i8 g3 b1 b3 b0 b2 b9 a6 d0 (wrap64 (b1*b5)) (wrap64 (b0*b5)) (wrap64 ((wrap64 (b1*(wrap64 (a6*a9))))+(wrap64 (b3*a8)))) (wrap64 ((wrap64 (b0*(wrap64 (a6*a9))))+(wrap64 (b2*a8))))=some (r1,r2,r3,r4))∧Aside0 (kq≤k)∧Aside0 (b_ wc d1 #[i6 b1,i6 b3,i6 b0,i6 b2] 28)∧Aside0 (b_ wc b6 #[i6 b9,i6 a6,i6 d0] 42)∧Aside0 (b_ wc d6 #[i6 0,i6 0,i6 0] 42)∧Aside0 (b_ wc b8 #[i6 (wrap64 (b1*b5)),i6 (wrap64 (b0*b5))] 26)∧Aside0 (b_ wc a3 #[i6 (wrap64 ((wrap64 (b1*(wrap64 (a6*a9))))+(wrap64 (b3*a8)))),i6 (wrap64 ((wrap64 (b0*(wrap64 (a6*a9))))+(wrap64 (b2*a8))))] 26)∧Aside0 (Below w.heap.size w wc))
 case first=>
  have H:=j9.out;clear j9;replace H:=ie_ H
  rcases H with ⟨f1,g4,H⟩|⟨m5,f1,g4,H⟩
  ·(first|rw[f1]|(simp only[i64_w,i32_w];rw[f1])|skip)
   have H':=Aside0.mk H
   clear H
   try go_wp2
   have g5:Aside0 (((f2.setCell ⟨a3,0,none⟩ (i6 (wrap64 ((wrap64 (b1*(wrap64 (a6*a9))))+(wrap64 (b3*a8)))))).setCell ⟨a3,1,none⟩ (i6 (wrap64 ((wrap64 (b0*(wrap64 (a6*a9))))+(wrap64 (b2*a8)))))).heap[d1]?=some (.cells #[i6 b1,i6 b3,i6 b0,i6 b2] 28 (0,0))):=fl_ a1 d3
   have g6:Aside0 (((f2.setCell ⟨a3,0,none⟩ (i6 (wrap64 ((wrap64 (b1*(wrap64 (a6*a9))))+(wrap64 (b3*a8)))))).setCell ⟨a3,1,none⟩ (i6 (wrap64 ((wrap64 (b0*(wrap64 (a6*a9))))+(wrap64 (b2*a8)))))).heap[b6]?=some (.cells #[i6 b9,i6 a6,i6 d0] 42 (0,0))):=fl_ a2 d4
   have g7:Aside0 (((f2.setCell ⟨a3,0,none⟩ (i6 (wrap64 ((wrap64 (b1*(wrap64 (a6*a9))))+(wrap64 (b3*a8)))))).setCell ⟨a3,1,none⟩ (i6 (wrap64 ((wrap64 (b0*(wrap64 (a6*a9))))+(wrap64 (b2*a8)))))).heap[d6]?=some (.cells #[i6 0,i6 0,i6 0] 42 (0,0))):=fl_ a5 d5
   have g8:Aside0 (((f2.setCell ⟨a3,0,none⟩ (i6 (wrap64 ((wrap64 (b1*(wrap64 (a6*a9))))+(wrap64 (b3*a8)))))).setCell ⟨a3,1,none⟩ (i6 (wrap64 ((wrap64 (b0*(wrap64 (a6*a9))))+(wrap64 (b2*a8)))))).heap[b8]?=some (.cells #[i6 (wrap64 (b1*b5)),i6 (wrap64 (b0*b5))] 26 (0,0))):=fl_ a7 d2
   have g9:Aside0 (((f2.setCell ⟨a3,0,none⟩ (i6 (wrap64 ((wrap64 (b1*(wrap64 (a6*a9))))+(wrap64 (b3*a8)))))).setCell ⟨a3,1,none⟩ (i6 (wrap64 ((wrap64 (b0*(wrap64 (a6*a9))))+(wrap64 (b2*a8)))))).heap[a3]?=some (.cells #[i6 (wrap64 ((wrap64 (b1*(wrap64 (a6*a9))))+(wrap64 (b3*a8)))),i6 (wrap64 ((wrap64 (b0*(wrap64 (a6*a9))))+(wrap64 (b2*a8))))] 26 (0,0))):=bp_ a4
   have i4:Aside0 (Below w.heap.size w ((f2.setCell ⟨a3,0,none⟩ (i6 (wrap64 ((wrap64 (b1*(wrap64 (a6*a9))))+(wrap64 (b3*a8)))))).setCell ⟨a3,1,none⟩ (i6 (wrap64 ((wrap64 (b0*(wrap64 (a6*a9))))+(wrap64 (b2*a8))))))):=bw_ HB
   try clear a1
   try clear a2
   try clear a5
   try clear a7
   try clear a4
   try clear HB
   generalize ((f2.setCell ⟨a3,0,none⟩ (i6 (wrap64 ((wrap64 (b1*(wrap64 (a6*a9))))+(wrap64 (b3*a8)))))).setCell ⟨a3,1,none⟩ (i6 (wrap64 ((wrap64 (b0*(wrap64 (a6*a9))))+(wrap64 (b2*a8))))))=j6 at g5 g6 g7 g8 g9 i4⊢
   have a1:=g5
   have a2:=g6
   have a5:=g7
   have a7:=g8
   have a4:=g9
   have HB:=i4
   clear g5 g6 g7 g8 g9 i4
   (try(rw[drewN_self j6];generalize hq_:World.drewN j6 _=j6;replace a1:=bq_ a1 hq_;replace a2:=bq_ a2 hq_;replace a5:=bq_ a5 hq_;replace a7:=bq_ a7 hq_;replace a4:=bq_ a4 hq_;replace HB:=hq_' HB hq_;clear hq_))
   replace a1:=bd_ a1;replace a2:=bd_ a2;replace a5:=bd_ a5;replace a7:=bd_ a7;replace a4:=bd_ a4;replace HB:=be_ HB
   refine start_ (n:=19) (S:=fun w'=>c_ w' a3 0 (i6 (wrap64 ((wrap64 (b1*(wrap64 (a6*a9))))+(wrap64 (b3*a8)))))∧c_ w' a3 1 (i6 (wrap64 ((wrap64 (b0*(wrap64 (a6*a9))))+(wrap64 (b2*a8)))))) (ds:=[]) (bv_ 19 0) (by kernel_rfl) rfl rfl ⟨cz_ a4 0,cz_ a4 1⟩ (fun hHeld=>?_);refine with_tabW spec_l04Move.tab6 spec_l04Move.bits6 (fun HT_ HW_=>?_)
   generalize j6.drew=o2 at a1 a2 a5 a7 a4 HB hHeld⊢
   refine px_ HT_ 0 73 1 ?_
   refine ta_ HT_ HW_ 1 (some 74) (bv_ 19 3) hHeld ?_ (hy:=by rintro w' ⟨s0,s1⟩;go_simp;with_reducible rfl)
   refine px_ HT_ 2 75 7 ?_;refine px_ HT_ 3 76 15 ?_;refine pv_ HT_ 4 (some 77) (bv_ 19 31) ?_;refine pv_ HT_ 5 (some 78) (bv_ 19 63) ?_;refine pv_ HT_ 6 (some 79) (bv_ 19 127) ?_;refine pv_ HT_ 7 (some 80) (bv_ 19 255) ?_;refine pv_ HT_ 8 (some 81) (bv_ 19 511) ?_;refine pv_ HT_ 9 (some 82) (bv_ 19 1023) ?_;refine pv_ HT_ 10 (some 83) (bv_ 19 2047) ?_;refine pv_ HT_ 11 (some 84) (bv_ 19 4095) ?_;refine pv_ HT_ 12 (some 85) (bv_ 19 8191) ?_;refine pv_ HT_ 13 (some 86) (bv_ 19 16383) ?_;refine pv_ HT_ 14 (some 87) (bv_ 19 32767) ?_;refine pv_ HT_ 15 (some 88) (bv_ 19 65535) ?_;refine pv_ HT_ 16 (some 89) (bv_ 19 131071) ?_;refine pv_ HT_ 17 (some 90) (bv_ 19 262143) ?_;refine px_ HT_ 18 91 524287 ?_
   refine done_ (done_of HT_.out (by kernel_rfl)) ?_
   try go_wp2
   go_meet
   case rel=>exact⟨_,(true),en_,H',⟨by first|omega|exact Nat.le_refl _⟩,bl_ a1,bl_ a2,bl_ a5,bl_ a7,bl_ a4,bw_ HB⟩
  (first|rw[f1]|(simp only[i64_w,i32_w];rw[f1])|skip)
  replace H:=ie_ H
  rcases H with ⟨i5,i7,H⟩|⟨m6,i5,i7,H⟩
  ·have H':=Aside0.mk H
   clear H
   try go_wp2
   have g5:Aside0 (((f2.setCell ⟨a3,0,none⟩ (i6 (wrap64 ((wrap64 (b1*(wrap64 (a6*a9))))+(wrap64 (b3*a8)))))).setCell ⟨a3,1,none⟩ (i6 (wrap64 ((wrap64 (b0*(wrap64 (a6*a9))))+(wrap64 (b2*a8)))))).heap[d1]?=some (.cells #[i6 b1,i6 b3,i6 b0,i6 b2] 28 (0,0))):=fl_ a1 d3
   have g6:Aside0 (((f2.setCell ⟨a3,0,none⟩ (i6 (wrap64 ((wrap64 (b1*(wrap64 (a6*a9))))+(wrap64 (b3*a8)))))).setCell ⟨a3,1,none⟩ (i6 (wrap64 ((wrap64 (b0*(wrap64 (a6*a9))))+(wrap64 (b2*a8)))))).heap[b6]?=some (.cells #[i6 b9,i6 a6,i6 d0] 42 (0,0))):=fl_ a2 d4
   have g7:Aside0 (((f2.setCell ⟨a3,0,none⟩ (i6 (wrap64 ((wrap64 (b1*(wrap64 (a6*a9))))+(wrap64 (b3*a8)))))).setCell ⟨a3,1,none⟩ (i6 (wrap64 ((wrap64 (b0*(wrap64 (a6*a9))))+(wrap64 (b2*a8)))))).heap[d6]?=some (.cells #[i6 0,i6 0,i6 0] 42 (0,0))):=fl_ a5 d5
   have g8:Aside0 (((f2.setCell ⟨a3,0,none⟩ (i6 (wrap64 ((wrap64 (b1*(wrap64 (a6*a9))))+(wrap64 (b3*a8)))))).setCell ⟨a3,1,none⟩ (i6 (wrap64 ((wrap64 (b0*(wrap64 (a6*a9))))+(wrap64 (b2*a8)))))).heap[b8]?=some (.cells #[i6 (wrap64 (b1*b5)),i6 (wrap64 (b0*b5))] 26 (0,0))):=fl_ a7 d2
   have g9:Aside0 (((f2.setCell ⟨a3,0,none⟩ (i6 (wrap64 ((wrap64 (b1*(wrap64 (a6*a9))))+(wrap64 (b3*a8)))))).setCell ⟨a3,1,none⟩ (i6 (wrap64 ((wrap64 (b0*(wrap64 (a6*a9))))+(wrap64 (b2*a8)))))).heap[a3]?=some (.cells #[i6 (wrap64 ((wrap64 (b1*(wrap64 (a6*a9))))+(wrap64 (b3*a8)))),i6 (wrap64 ((wrap64 (b0*(wrap64 (a6*a9))))+(wrap64 (b2*a8))))] 26 (0,0))):=bp_ a4
   have i4:Aside0 (Below w.heap.size w ((f2.setCell ⟨a3,0,none⟩ (i6 (wrap64 ((wrap64 (b1*(wrap64 (a6*a9))))+(wrap64 (b3*a8)))))).setCell ⟨a3,1,none⟩ (i6 (wrap64 ((wrap64 (b0*(wrap64 (a6*a9))))+(wrap64 (b2*a8))))))):=bw_ HB
   try clear a1
   try clear a2
   try clear a5
   try clear a7
   try clear a4
   try clear HB
   generalize ((f2.setCell ⟨a3,0,none⟩ (i6 (wrap64 ((wrap64 (b1*(wrap64 (a6*a9))))+(wrap64 (b3*a8)))))).setCell ⟨a3,1,none⟩ (i6 (wrap64 ((wrap64 (b0*(wrap64 (a6*a9))))+(wrap64 (b2*a8))))))=j7 at g5 g6 g7 g8 g9 i4⊢
   have a1:=g5
   have a2:=g6
   have a5:=g7
   have a7:=g8
   have a4:=g9
   have HB:=i4
   clear g5 g6 g7 g8 g9 i4
   (try(rw[drewN_self j7];generalize hq_:World.drewN j7 _=j7;replace a1:=bq_ a1 hq_;replace a2:=bq_ a2 hq_;replace a5:=bq_ a5 hq_;replace a7:=bq_ a7 hq_;replace a4:=bq_ a4 hq_;replace HB:=hq_' HB hq_;clear hq_))
   replace a1:=bd_ a1;replace a2:=bd_ a2;replace a5:=bd_ a5;replace a7:=bd_ a7;replace a4:=bd_ a4;replace HB:=be_ HB
   refine start_ (n:=19) (S:=fun w'=>c_ w' a3 0 (i6 (wrap64 ((wrap64 (b1*(wrap64 (a6*a9))))+(wrap64 (b3*a8)))))∧c_ w' a3 1 (i6 (wrap64 ((wrap64 (b0*(wrap64 (a6*a9))))+(wrap64 (b2*a8)))))∧c_ w' b8 0 (i6 (wrap64 (b1*b5)))∧c_ w' b8 1 (i6 (wrap64 (b0*b5)))) (ds:=[]) (bv_ 19 0) (by kernel_rfl) rfl rfl ⟨cz_ a4 0,cz_ a4 1,cz_ a7 0,cz_ a7 1⟩ (fun hHeld=>?_);refine with_tabW spec_l04Move.tab6 spec_l04Move.bits6 (fun HT_ HW_=>?_)
   generalize j7.drew=o3 at a1 a2 a5 a7 a4 HB hHeld⊢
   refine px_ HT_ 0 73 1 ?_
   refine ta_ HT_ HW_ 1 (some 74) (bv_ 19 3) hHeld ?_ (hy:=by rintro w' ⟨s0,s1,s2,s3⟩;go_simp;with_reducible rfl)
   refine px_ HT_ 2 75 7 ?_;refine px_ HT_ 3 76 15 ?_;refine px_ HT_ 4 77 31 ?_
   refine ta_ HT_ HW_ 5 (some 78) (bv_ 19 63) hHeld ?_ (hy:=by rintro w' ⟨s0,s1,s2,s3⟩;go_simp;with_reducible rfl)
   refine px_ HT_ 6 79 127 ?_;refine px_ HT_ 7 80 255 ?_;refine pv_ HT_ 8 (some 81) (bv_ 19 511) ?_;refine pv_ HT_ 9 (some 82) (bv_ 19 1023) ?_;refine pv_ HT_ 10 (some 83) (bv_ 19 2047) ?_;refine pv_ HT_ 11 (some 84) (bv_ 19 4095) ?_;refine pv_ HT_ 12 (some 85) (bv_ 19 8191) ?_;refine pv_ HT_ 13 (some 86) (bv_ 19 16383) ?_;refine pv_ HT_ 14 (some 87) (bv_ 19 32767) ?_;refine pv_ HT_ 15 (some 88) (bv_ 19 65535) ?_;refine pv_ HT_ 16 (some 89) (bv_ 19 131071) ?_;refine px_ HT_ 17 90 262143 ?_;refine px_ HT_ 18 91 524287 ?_
   refine done_ (done_of HT_.out (by kernel_rfl)) ?_
   try go_wp2
   go_meet
   case rel=>exact⟨_,(false),en_,H',⟨by first|omega|exact Nat.le_refl _⟩,bl_ a1,bl_ a2,bl_ a5,bl_ a7,bl_ a4,bw_ HB⟩
  replace H:=oc_ H;obtain⟨l0,m9,H⟩:=H;replace H:=oc_ H;obtain⟨l1,n0,H⟩:=H
  have H':=Aside0.mk H
  clear H
  try go_wp2
  have g5:Aside0 (((f2.setCell ⟨a3,0,none⟩ (i6 (wrap64 ((wrap64 (b1*(wrap64 (a6*a9))))+(wrap64 (b3*a8)))))).setCell ⟨a3,1,none⟩ (i6 (wrap64 ((wrap64 (b0*(wrap64 (a6*a9))))+(wrap64 (b2*a8)))))).heap[d1]?=some (.cells #[i6 b1,i6 b3,i6 b0,i6 b2] 28 (0,0))):=fl_ a1 d3
  have g6:Aside0 (((f2.setCell ⟨a3,0,none⟩ (i6 (wrap64 ((wrap64 (b1*(wrap64 (a6*a9))))+(wrap64 (b3*a8)))))).setCell ⟨a3,1,none⟩ (i6 (wrap64 ((wrap64 (b0*(wrap64 (a6*a9))))+(wrap64 (b2*a8)))))).heap[b6]?=some (.cells #[i6 b9,i6 a6,i6 d0] 42 (0,0))):=fl_ a2 d4
  have g7:Aside0 (((f2.setCell ⟨a3,0,none⟩ (i6 (wrap64 ((wrap64 (b1*(wrap64 (a6*a9))))+(wrap64 (b3*a8)))))).setCell ⟨a3,1,none⟩ (i6 (wrap64 ((wrap64 (b0*(wrap64 (a6*a9))))+(wrap64 (b2*a8)))))).heap[d6]?=some (.cells #[i6 0,i6 0,i6 0] 42 (0,0))):=fl_ a5 d5
  have g8:Aside0 (((f2.setCell ⟨a3,0,none⟩ (i6 (wrap64 ((wrap64 (b1*(wrap64 (a6*a9))))+(wrap64 (b3*a8)))))).setCell ⟨a3,1,none⟩ (i6 (wrap64 ((wrap64 (b0*(wrap64 (a6*a9))))+(wrap64 (b2*a8)))))).heap[b8]?=some (.cells #[i6 (wrap64 (b1*b5)),i6 (wrap64 (b0*b5))] 26 (0,0))):=fl_ a7 d2
  have g9:Aside0 (((f2.setCell ⟨a3,0,none⟩ (i6 (wrap64 ((wrap64 (b1*(wrap64 (a6*a9))))+(wrap64 (b3*a8)))))).setCell ⟨a3,1,none⟩ (i6 (wrap64 ((wrap64 (b0*(wrap64 (a6*a9))))+(wrap64 (b2*a8)))))).heap[a3]?=some (.cells #[i6 (wrap64 ((wrap64 (b1*(wrap64 (a6*a9))))+(wrap64 (b3*a8)))),i6 (wrap64 ((wrap64 (b0*(wrap64 (a6*a9))))+(wrap64 (b2*a8))))] 26 (0,0))):=bp_ a4
  have i4:Aside0 (Below w.heap.size w ((f2.setCell ⟨a3,0,none⟩ (i6 (wrap64 ((wrap64 (b1*(wrap64 (a6*a9))))+(wrap64 (b3*a8)))))).setCell ⟨a3,1,none⟩ (i6 (wrap64 ((wrap64 (b0*(wrap64 (a6*a9))))+(wrap64 (b2*a8))))))):=bw_ HB
  try clear a1
  try clear a2
  try clear a5
  try clear a7
  try clear a4
  try clear HB
  generalize ((f2.setCell ⟨a3,0,none⟩ (i6 (wrap64 ((wrap64 (b1*(wrap64 (a6*a9))))+(wrap64 (b3*a8)))))).setCell ⟨a3,1,none⟩ (i6 (wrap64 ((wrap64 (b0*(wrap64 (a6*a9))))+(wrap64 (b2*a8))))))=j8 at g5 g6 g7 g8 g9 i4⊢
  have a1:=g5
  have a2:=g6
  have a5:=g7
  have a7:=g8
  have a4:=g9
  have HB:=i4
  clear g5 g6 g7 g8 g9 i4
  (try(rw[drewN_self j8];generalize hq_:World.drewN j8 _=j8;replace a1:=bq_ a1 hq_;replace a2:=bq_ a2 hq_;replace a5:=bq_ a5 hq_;replace a7:=bq_ a7 hq_;replace a4:=bq_ a4 hq_;replace HB:=hq_' HB hq_;clear hq_))
  replace a1:=bd_ a1;replace a2:=bd_ a2;replace a5:=bd_ a5;replace a7:=bd_ a7;replace a4:=bd_ a4;replace HB:=be_ HB
  refine start_ (n:=19) (S:=fun w'=>c_ w' a3 0 (i6 (wrap64 ((wrap64 (b1*(wrap64 (a6*a9))))+(wrap64 (b3*a8)))))∧c_ w' a3 1 (i6 (wrap64 ((wrap64 (b0*(wrap64 (a6*a9))))+(wrap64 (b2*a8)))))∧c_ w' b8 0 (i6 (wrap64 (b1*b5)))∧c_ w' b8 1 (i6 (wrap64 (b0*b5)))) (ds:=[]) (bv_ 19 0) (by kernel_rfl) rfl rfl ⟨cz_ a4 0,cz_ a4 1,cz_ a7 0,cz_ a7 1⟩ (fun hHeld=>?_);refine with_tabW spec_l04Move.tab6 spec_l04Move.bits6 (fun HT_ HW_=>?_)
  generalize j8.drew=o4 at a1 a2 a5 a7 a4 HB hHeld⊢
  refine px_ HT_ 0 73 1 ?_
  refine ta_ HT_ HW_ 1 (some 74) (bv_ 19 3) hHeld ?_ (hy:=by rintro w' ⟨s0,s1,s2,s3⟩;go_simp;with_reducible rfl)
  refine px_ HT_ 2 75 7 ?_;refine px_ HT_ 3 76 15 ?_;refine px_ HT_ 4 77 31 ?_
  refine ta_ HT_ HW_ 5 (some 78) (bv_ 19 63) hHeld ?_ (hy:=by rintro w' ⟨s0,s1,s2,s3⟩;go_simp;with_reducible rfl)
  refine px_ HT_ 6 79 127 ?_;refine px_ HT_ 7 80 255 ?_;refine px_ HT_ 8 81 511 ?_;refine px_ HT_ 9 82 1023 ?_;refine px_ HT_ 12 85 5119 ?_;refine px_ HT_ 13 86 13311 ?_
  refine ta_ HT_ HW_ 10 (some 83) (bv_ 19 14335) hHeld ?_ (hy:=by rintro w' ⟨s0,s1,s2,s3⟩;go_simp;with_reducible rfl)
  refine ta_ HT_ HW_ 14 (some 87) (bv_ 19 30719) hHeld ?_ (hy:=by rintro w' ⟨s0,s1,s2,s3⟩;go_simp;with_reducible rfl)
  refine on_ HT_ 11 (some 84) (bv_ 19 32767) (fun K hK=>?_)
  refine gs_ Tryz.func67 #[i6 a0,i6 (wrap64 ((wrap64 (b0*(wrap64 (a6*a9))))+(wrap64 (b2*a8))))] ?_
  with_reducible refine mo_ (spec_l01Val.calls _ m9.out) ?_
  rintro w' ⟨nd,rfl⟩
  refine hK.out _ _ ⟨cz_ a4 0,cz_ a4 1,cz_ a7 0,cz_ a7 1⟩ (fun hHeld=>?_)
  clear hK K;refine nm_ (some 84) ?_
  refine on_ HT_ 15 (some 88) (bv_ 19 65535) (fun K hK=>?_)
  refine gs_ Tryz.func67 #[i6 a0,i6 (wrap64 (b0*b5))] ?_
  with_reducible refine mo_ (spec_l01Val.calls _ n0.out) ?_
  rintro w' ⟨nd,rfl⟩
  refine hK.out _ _ ⟨cz_ a4 0,cz_ a4 1,cz_ a7 0,cz_ a7 1⟩ (fun hHeld=>?_)
  clear hK K;refine nm_ (some 88) ?_;refine px_ HT_ 16 89 131071 ?_;refine px_ HT_ 17 90 262143 ?_;refine px_ HT_ 18 91 524287 ?_
  refine done_ (done_of HT_.out (by kernel_rfl)) ?_
  try go_wp2
  go_meet
  case rel=>exact⟨_,(decide (l0>l1)),en_,H',⟨by first|omega|exact Nat.le_refl _⟩,bl_ a1,bl_ a2,bl_ a5,bl_ a7,bl_ a4,bw_ HB⟩
 clear j9
 try clear m5 f1 g4
 try clear m6 i5 i7
 try clear hz17
 try clear hz22
 try clear hz23
 try clear hz29
 obtain⟨kq,g3,rfl,HA,m7,a1,a2,a5,a7,a4,HB⟩:=hcut
 cases kq with
 |zero=>exact absurd HA.out (by simp[spec_l04Move.j0])
 |succ n1=>
  have H:=HA.out;clear HA
  simp only[spec_l04Move.j0] at H
  have j2:=Aside0.mk H;clear H
  go_upto_if 91 with (fail)
  go_cut [] (fun wc=>∃(kq:Nat) (b7:Int) (b4:Int),Aside0 (spec_l04Move.j1 kq a0 i8 b1 b3 b0 b2 b9 a6 d0 b7 b4=some (r1,r2,r3,r4))∧Aside0 (kq≤n1)∧Aside0 (b_ wc d1 #[i6 b1,i6 b3,i6 b0,i6 b2] 28)∧Aside0 (b_ wc b6 #[i6 b9,i6 a6,i6 d0] 42)∧Aside0 (b_ wc d6 #[i6 0,i6 0,i6 0] 42)∧Aside0 (b_ wc b8 #[i6 (wrap64 (b1*b5)),i6 (wrap64 (b0*b5))] 26)∧Aside0 (b_ wc a3 #[i6 b7,i6 b4] 26)∧Aside0 (Below w.heap.size w wc))
  case first=>
   have H:=j2.out;clear j2;replace H:=ib_ H
   rcases H with ⟨rfl,H⟩|⟨rfl,H⟩
   ·have H':=Aside0.mk H
    clear H;have:=nn_ f3;have:=nn_ f4;have:=nn_ f5;have:=nn_ d2;have hz46:=ch2_ a7;have:=nn_ f6;have:=nn_ f7;have:=nn_ f0;have hz50:=ch2_ a4
    go_wp2
    go_meet
    case rel=>exact⟨_,((wrap64 (b1*b5))),((wrap64 (b0*b5))),H',⟨by have:=m7.out;first|omega|exact Nat.le_refl _⟩,fl_ a1 d3,fl_ a2 d4,fl_ a5 d5,fl_ a7 d2,bp_ a4,bw_ HB⟩
   have H':=Aside0.mk H
   clear H
   go_wp2
   go_meet
   case rel=>exact⟨_,((wrap64 ((wrap64 (b1*(wrap64 (a6*a9))))+(wrap64 (b3*a8))))),((wrap64 ((wrap64 (b0*(wrap64 (a6*a9))))+(wrap64 (b2*a8))))),H',⟨by have:=m7.out;first|omega|exact Nat.le_refl _⟩,bl_ a1,bl_ a2,bl_ a5,bl_ a7,bl_ a4,bw_ HB⟩
  clear j2
  try clear m5 f1 g4
  try clear m6 i5 i7
  try clear hz17
  try clear hz22
  try clear hz23
  try clear hz29
  try clear hz46
  try clear hz50
  obtain⟨kq,b7,b4,HA,n2,a1,a2,a5,a7,a4,HB⟩:=hcut
  cases kq with
  |zero=>exact absurd HA.out (by simp[spec_l04Move.j1])
  |succ n3=>
   have H:=HA.out;clear HA
   simp only[spec_l04Move.j1] at H
   replace H:=oc_ H;obtain⟨l2,n4,H⟩:=H;replace H:=oc_ H;obtain⟨l3,n5,H⟩:=H;replace H:=oc_ H;obtain⟨l4,n6,H⟩:=H;replace H:=oc_ H;obtain⟨⟨l5,l6,l7,n7⟩,n8,H⟩:=H
   simp only[Option.some.injEq,Prod.mk.injEq] at H
   obtain⟨rfl,rfl,rfl,rfl⟩:=H
   try go_wp2
   replace a1:=bd_ a1;replace a2:=bd_ a2;replace a5:=bd_ a5;replace a4:=bd_ a4;replace HB:=be_ HB
   refine start_ (n:=17) (S:=fun w'=>c_ w' d1 0 (i6 b1)∧c_ w' d1 1 (i6 b3)∧c_ w' d1 2 (i6 b0)∧c_ w' d1 3 (i6 b2)∧c_ w' b6 0 (i6 b9)∧c_ w' b6 1 (i6 a6)∧c_ w' b6 2 (i6 d0)∧c_ w' a3 0 (i6 b7)∧c_ w' a3 1 (i6 b4)) (ds:=[]) (bv_ 17 0) (by kernel_rfl) rfl rfl ⟨cz_ a1 0,cz_ a1 1,cz_ a1 2,cz_ a1 3,cz_ a2 0,cz_ a2 1,cz_ a2 2,cz_ a4 0,cz_ a4 1⟩ (fun hHeld=>?_);refine with_tabW spec_l04Move.tab8 spec_l04Move.bits8 (fun HT_ HW_=>?_)
   generalize wc.drew=o5 at a1 a2 a5 a4 HB hHeld⊢
   refine px_ HT_ 0 93 1 ?_;refine px_ HT_ 4 97 17 ?_;refine px_ HT_ 7 100 145 ?_;refine px_ HT_ 8 101 401 ?_;refine px_ HT_ 10 103 1425 ?_;refine px_ HT_ 11 104 3473 ?_
   refine ta_ HT_ HW_ 1 (some 94) (bv_ 17 3475) hHeld ?_ (hy:=by rintro w' ⟨s0,s1,s2,s3,s4,s5,s6,s7,s8⟩;go_simp;with_reducible rfl)
   refine ta_ HT_ HW_ 5 (some 98) (bv_ 17 3507) hHeld ?_ (hy:=by rintro w' ⟨s0,s1,s2,s3,s4,s5,s6,s7,s8⟩;go_simp;with_reducible rfl)
   refine ta_ HT_ HW_ 12 (some 105) (bv_ 17 7603) hHeld ?_ (hy:=by rintro w' ⟨s0,s1,s2,s3,s4,s5,s6,s7,s8⟩;go_simp;with_reducible rfl)
   refine on_ HT_ 2 (some 95) (bv_ 17 7607) (fun K hK=>?_)
   refine gs_ Tryz.func68 #[.agg #[i6 b1,i6 b3,i6 b0,i6 b2]] ?_
   with_reducible refine mo_ (spec_l04Det.calls _ n4.out) ?_
   intro o6 hb;replace a1:=bb_ a1 hb;replace a2:=bb_ a2 hb;replace a5:=bb_ a5 hb;replace a4:=bb_ a4 hb;replace HB:=bt_ HB hb
   try clear hb
   refine hK.out _ _ ⟨cz_ a1 0,cz_ a1 1,cz_ a1 2,cz_ a1 3,cz_ a2 0,cz_ a2 1,cz_ a2 2,cz_ a4 0,cz_ a4 1⟩ (fun hHeld=>?_)
   clear hK K;refine nm_ (some 95) ?_
   refine on_ HT_ 3 (some 96) (bv_ 17 7615) (fun K hK=>?_)
   refine gs_ Tryz.func67 #[i6 a0,i6 l2] ?_
   with_reducible refine mo_ (spec_l01Val.calls _ n5.out) ?_
   rintro w' ⟨nd,rfl⟩
   refine hK.out _ _ ⟨cz_ a1 0,cz_ a1 1,cz_ a1 2,cz_ a1 3,cz_ a2 0,cz_ a2 1,cz_ a2 2,cz_ a4 0,cz_ a4 1⟩ (fun hHeld=>?_)
   clear hK K;refine nm_ (some 96) ?_;refine px_ HT_ 6 99 7679 ?_;refine px_ HT_ 9 102 8191 ?_
   refine on_ HT_ 13 (some 106) (bv_ 17 16383) (fun K hK=>?_)
   refine gs_ Tryz.func67 #[i6 a0,i6 b4] ?_
   with_reducible refine mo_ (spec_l01Val.calls _ n6.out) ?_
   rintro w' ⟨nd,rfl⟩
   refine hK.out _ _ ⟨cz_ a1 0,cz_ a1 1,cz_ a1 2,cz_ a1 3,cz_ a2 0,cz_ a2 1,cz_ a2 2,cz_ a4 0,cz_ a4 1⟩ (fun hHeld=>?_)
   clear hK K;refine nm_ (some 106) ?_;refine px_ HT_ 14 107 32767 ?_;refine px_ HT_ 15 108 65535 ?_;refine px_ HT_ 16 14 131071 ?_
   refine done_ (done_of HT_.out (by kernel_rfl)) ?_
   have:=nn_ f0;have hz58:=ch2_ a4
   try go_wp2_with (first|((refine gc_ 73 ?_);refine ge_ 115 Tryz.func73 #[i6 a0,i6 b7,i6 b4,i6 (wrap64 ((wrap64 ((wrap64 (l3+b9))+(wrap64 (2*i8)))) - (wrap64 (2*l4))))] ?_ (hargs:=by(try simp only[List.map_toArray,List.map_cons,List.map_nil]);first|done|(simp only[f8];rfl)|rfl|(simp only[List.length_drop,List.length_take];rfl));(with_reducible refine mo_ (spec_l01Of.calls _ n8.out) ?_);intro o7 hb;replace a5:=bb_ a5 hb;replace a4:=bb_ a4 hb;replace HB:=bt_ HB hb;clear hb;have hz60:=ch3_ a5))
   refine bodyPost_ret (results_ct rfl _ _ d6 42 #[i6 l5,i6 l6,i6 l7] (0,0) _ rfl (bp_ a5).out Tryz.underlying42 rfl (by kernel_rfl)) rfl ?_
   exact⟨by first|rfl|(simp[errW_none,errW_some]<;>rfl)|(simp only[←f8];first|rfl|(simp[errW_none,errW_some]<;>rfl))|(simp[*,errW_none,errW_some]<;>rfl),(bw_ HB).out⟩
end Go.Proofs.YtblmdppbbdbbjabGreat.QP
