import Derived.Test.YtblmdppbbdbbjabGreatQPx8
import Derived.Test.YtblmdppbbdbbjabGreatQPx14
import Derived.Test.YtblmdppbbdbbjabGreatQPx91
import Derived.Test.YtblmdppbbdbbjabGreatQPx67
import Derived.Test.YtblmdppbbdbbjabGreatQPx73
namespace Go.Proofs.YtblmdppbbdbbjabGreat.QP
set_option maxHeartbeats 8000000
set_option maxRecDepth 100000
open Go.RowKit Go.Proofs.YtblmdppbbdbbjabGreatW.PrintWords Go.Proofs.YtblmdppbbdbbjabGreatW.PrintLast Go.Proofs.YtblmdppbbdbbjabGreatW.PrintMore
attribute [local go_sem] isSome_setCell max2_int min2_int max_two min_two max_three min_three max_four min_four
set_option linter.unusedVariables false
set_option linter.unusedSimpArgs false
/-! ### spec_l02Up: function 75 -/
def spec_l02Up.f (k:Nat) (a0 a1_0 a1_1 a1_2 a2:Int):Option (Int×Int×Int×Bool):=(spec_l01Power.f k a0 a1_2).bind fun t804=>((spec_l01Of.f k a0 a1_1 t804 a2).bind fun bt805=>(some (bt805.1,bt805.2.1,bt805.2.2.1,bt805.2.2.2)))
def spec_l02Up.T1:Bool×List (List Nat×List Nat):=(true,[([],[]),([],[]),([1],[1]),([],[]),([],[]),([4],[4]),([3,5],[3,5]),([],[]),([0,2,6,7,6],[0,2,6,7]),([8],[8]),([8],[8]),([9,8,0,1,2,3,4,5,6,7,8,9,10],[9]),([10,11,0,1,2,3,4,5,6,7,8,9,10,11],[10])])
def spec_l02Up.B1:List Nat:=[0,0,2,0,0,16,56,0,255,511,511,2047,4095]
theorem spec_l02Up.tab1:rtab .any (opsOf Tryz.f75 1)=spec_l02Up.T1:=by kernel_rfl
theorem spec_l02Up.bits1:waitsOk spec_l02Up.T1.2 spec_l02Up.B1=true:=by kernel_rfl
theorem spec_l02Up.calls {k:Nat} {a0 a9 a6 a7 a2 r1 r2 r3:Int} {r4:Bool} (w:World) (h:spec_l02Up.f k a0 a9 a6 a7 a2=some (r1,r2,r3,r4)):
  Calls Tryz.prog 75 #[i6 a0,.agg #[i6 a9,i6 a6,i6 a7],i6 a2] w fun e w'=>e= .returned (.tuple #[.agg #[i6 r1,i6 r2,i6 r3],.bool r4])∧Below w.heap.size w w':=by
 have hu42:=Tryz.underlying42
 have HB:=Aside0.mk (Below.refl w.heap.size w)
 unfold spec_l02Up.f at h;have H:=h;clear h;replace H:=oc_ H;obtain⟨b3,A4,H⟩:=H;replace H:=oc_ H;obtain⟨⟨b4,b5,b6,d2⟩,A5,H⟩:=H
 simp only[Option.some.injEq,Prod.mk.injEq] at H
 obtain⟨rfl,rfl,rfl,rfl⟩:=H
 go_enter Tryz.func75,Tryz.ntmps75
 try go_wp2_with (first|((refine gd_ 4 ?_);refine by_ 4 #[i6 a9,i6 a6,i6 a7] 42 HB ?_;intro a8 hg w6 a3 hb b7 HB_;replace HB:=HB_;clear hb hg)|((refine gd_ 6 ?_);refine by_ 6 #[i6 0,i6 0,i6 0] 42 HB ?_;intro b0 hg w7 a4 hb b8 HB_;have a1:=bm_ a3 hg;have a5:=bn_ a3 hg;replace a3:=bb_ a3 hb;replace HB:=HB_;clear hb hg))
 replace a3:=bd_ a3;replace a4:=bd_ a4;replace HB:=be_ HB
 refine start_ (n:=13) (S:=fun w'=>c_ w' a8 0 (i6 a9)∧c_ w' a8 1 (i6 a6)∧c_ w' a8 2 (i6 a7)) (ds:=[]) (bv_ 13 0) (by kernel_rfl) rfl rfl ⟨cz_ a3 0,cz_ a3 1,cz_ a3 2⟩ (fun hHeld=>?_);refine with_tabW spec_l02Up.tab1 spec_l02Up.bits1 (fun HT_ HW_=>?_)
 generalize w7.drew=w8 at a3 a4 HB hHeld⊢
 refine px_ HT_ 0 8 1 ?_;refine px_ HT_ 1 9 3 ?_;refine px_ HT_ 3 11 11 ?_;refine px_ HT_ 4 12 27 ?_;refine px_ HT_ 7 15 155 ?_
 refine ta_ HT_ HW_ 2 (some 10) (bv_ 13 159) hHeld ?_ (hy:=by rintro w' ⟨s0,s1,s2⟩;go_simp;with_reducible rfl)
 refine ta_ HT_ HW_ 5 (some 13) (bv_ 13 191) hHeld ?_ (hy:=by rintro w' ⟨s0,s1,s2⟩;go_simp;with_reducible rfl)
 refine on_ HT_ 6 (some 14) (bv_ 13 255) (fun K hK=>?_)
 refine gs_ Tryz.func66 #[i6 a0,i6 a7] ?_
 with_reducible refine mo_ (spec_l01Power.calls _ A4.out) ?_
 rintro w' ⟨nd,rfl⟩
 refine hK.out _ _ ⟨cz_ a3 0,cz_ a3 1,cz_ a3 2⟩ (fun hHeld=>?_)
 clear hK K;refine nm_ (some 14) ?_
 refine on_ HT_ 8 (some 16) (bv_ 13 511) (fun K hK=>?_)
 refine gs_ Tryz.func73 #[i6 a0,i6 a6,i6 b3,i6 a2] ?_
 with_reducible refine mo_ (spec_l01Of.calls _ A5.out) ?_
 intro w9 hb;replace a3:=bb_ a3 hb;replace a4:=bb_ a4 hb;replace HB:=bt_ HB hb
 try clear hb
 refine hK.out _ _ ⟨cz_ a3 0,cz_ a3 1,cz_ a3 2⟩ (fun hHeld=>?_)
 clear hK K;refine nm_ (some 16) ?_;refine px_ HT_ 9 17 1023 ?_;refine px_ HT_ 10 18 2047 ?_
 refine on_ HT_ 11 none (bv_ 13 4095) (fun K hK=>?_)
 have d3:=cz_ a4 0;have b9:=blk_frozen a4.out 0;have b1:=a1.out;have b2:=a5.out;have d4:=cz_ a4 1;have d0:=blk_frozen a4.out 1;have d5:=cz_ a4 2;have d1:=blk_frozen a4.out 2
 refine skip_ (w1:=?_) (by rfl) rfl ?_ ?_
 rotate_left
 ·go_simp
  rfl
 refine hK.out _ _ ⟨(cg_ a1 ((cg_ a1 ((cg_ a1 (hHeld.1)))))),(cg_ a1 ((cg_ a1 ((cg_ a1 (hHeld.2.1)))))),(cg_ a1 ((cg_ a1 ((cg_ a1 (hHeld.2.2))))))⟩ (fun hHeld=>?_)
 clear hK K;refine px_ HT_ 12 7 8191 ?_
 refine done_ (done_of HT_.out (by kernel_rfl)) ?_
 try go_wp2
 refine bodyPost_ret (results_ct rfl _ _ b0 42 #[i6 b4,i6 b5,i6 b6] (0,0) _ rfl (bp_ a4).out Tryz.underlying42 rfl (by kernel_rfl)) rfl ?_
 exact⟨es_,(bw_ HB).out⟩
/-! ### spec_l01Parent: function 100 -/
def spec_l01Parent.f (k:Nat) (a0 a1_0 a1_1 a1_2:Int):Option (Int×Int×Int×Bool):=(spec_l01Power.f k a0 a1_2).bind fun t811=>((spec_l01Of.f k a0 a1_1 t811 (wrap64 (a1_0 - 1))).bind fun bt812=>(some (bt812.1,bt812.2.1,bt812.2.2.1,bt812.2.2.2)))
def spec_l01Parent.T1:Bool×List (List Nat×List Nat):=(true,[([],[]),([],[]),([1],[1]),([],[]),([],[]),([4],[4]),([3,5],[3,5]),([],[]),([7],[7]),([8],[8]),([0,2,6,9,6],[0,2,6,9]),([10],[10]),([11],[11]),([11],[11]),([],[]),([14,12,10,0,1,2,3,4,5,6,7,8,9,10,11,12,14],[12,14]),([13,15,0,1,2,3,4,5,6,7,8,9,10,11,12,13,14,15],[13])])
def spec_l01Parent.B1:List Nat:=[0,0,2,0,0,16,56,0,128,384,1023,2047,4095,4095,0,24575,65535]
theorem spec_l01Parent.tab1:rtab .any (opsOf Tryz.f100 1)=spec_l01Parent.T1:=by kernel_rfl
theorem spec_l01Parent.bits1:waitsOk spec_l01Parent.T1.2 spec_l01Parent.B1=true:=by kernel_rfl
theorem spec_l01Parent.calls {k:Nat} {a0 b0 b1 b3 r1 r2 r3:Int} {r4:Bool} (w:World) (h:spec_l01Parent.f k a0 b0 b1 b3=some (r1,r2,r3,r4)):
  Calls Tryz.prog 100 #[i6 a0,.agg #[i6 b0,i6 b1,i6 b3]] w fun e w'=>e= .returned (.tuple #[.agg #[i6 r1,i6 r2,i6 r3],.bool r4])∧Below w.heap.size w w':=by
 have hu42:=Tryz.underlying42
 have HB:=Aside0.mk (Below.refl w.heap.size w)
 unfold spec_l01Parent.f at h;have H:=h;clear h;replace H:=oc_ H;obtain⟨b6,A3,H⟩:=H;replace H:=oc_ H;obtain⟨⟨b7,b8,b9,d0⟩,A4,H⟩:=H
 simp only[Option.some.injEq,Prod.mk.injEq] at H
 obtain⟨rfl,rfl,rfl,rfl⟩:=H
 go_enter Tryz.func100,Tryz.ntmps100
 try go_wp2_with (first|((refine gd_ 3 ?_);refine by_ 3 #[i6 b0,i6 b1,i6 b3] 42 HB ?_;intro a8 hg w5 a1 hb d7 HB_;replace HB:=HB_;clear hb hg)|((refine gd_ 4 ?_);refine by_ 4 #[i6 0,i6 0,i6 0] 42 HB ?_;intro b4 hg w6 a3 hb d8 HB_;have d1:=bm_ a1 hg;have b5:=bn_ a1 hg;replace a1:=bb_ a1 hb;replace HB:=HB_;clear hb hg))
 replace a1:=bd_ a1;replace a3:=bd_ a3;replace HB:=be_ HB
 refine start_ (n:=17) (S:=fun w'=>c_ w' a8 0 (i6 b0)∧c_ w' a8 1 (i6 b1)∧c_ w' a8 2 (i6 b3)) (ds:=[]) (bv_ 17 0) (by kernel_rfl) rfl rfl ⟨cz_ a1 0,cz_ a1 1,cz_ a1 2⟩ (fun hHeld=>?_);refine with_tabW spec_l01Parent.tab1 spec_l01Parent.bits1 (fun HT_ HW_=>?_)
 generalize w6.drew=w7 at a1 a3 HB hHeld⊢
 refine px_ HT_ 0 9 1 ?_;refine px_ HT_ 1 10 3 ?_;refine px_ HT_ 3 12 11 ?_;refine px_ HT_ 4 13 27 ?_;refine px_ HT_ 7 16 155 ?_
 refine ta_ HT_ HW_ 2 (some 11) (bv_ 17 159) hHeld ?_ (hy:=by rintro w' ⟨s0,s1,s2⟩;go_simp;with_reducible rfl)
 refine ta_ HT_ HW_ 5 (some 14) (bv_ 17 191) hHeld ?_ (hy:=by rintro w' ⟨s0,s1,s2⟩;go_simp;with_reducible rfl)
 refine ta_ HT_ HW_ 8 (some 17) (bv_ 17 447) hHeld ?_ (hy:=by rintro w' ⟨s0,s1,s2⟩;go_simp;with_reducible rfl)
 refine px_ HT_ 9 18 959 ?_
 refine join_ (σ:=Nat) 2 (bv_ 17 32767) (fun s_=>[(15,i6 b6),(19,.tuple #[.agg #[i6 b7,i6 b8,i6 b9],.bool d0]),(6,.pointer (some ⟨s_,0,none⟩)),(8,.tuple #[.agg #[i6 b7,i6 b8,i6 b9],.bool d0]),(20,.agg #[i6 b7,i6 b8,i6 b9]),(21,.bool d0)]) (fun s_ w'=>(c_ w' a8 0 (i6 b0)∧c_ w' a8 1 (i6 b1)∧c_ w' a8 2 (i6 b3))∧(b_ w' a8 #[i6 b0,i6 b1,i6 b3] 42)∧(b_ w' b4 #[i6 0,i6 0,i6 0] 42)∧(b_ w' s_ #[i6 0,i6 0,i6 0] 42)∧(w.heap.size≤s_)∧(w.heap.size≤s_)∧(a8≠s_)∧(s_≠a8)∧(b4≠s_)∧(s_≠b4)∧(Below w.heap.size w w')) ?_ ?_
 rotate_left
 ·intro hCont
  refine tw_ HT_ 6 14 (some 15) (some 6) (bv_ 17 1023) (bv_ 17 17343) (fun K hK=>?_) (fun K hK=>?_)
  ·skip
   refine gs_ Tryz.func66 #[i6 a0,i6 b3] ?_
   with_reducible refine mo_ (spec_l01Power.calls _ A3.out) ?_
   rintro w' ⟨nd,rfl⟩
   refine hK.out _ _ ⟨cz_ a1 0,cz_ a1 1,cz_ a1 2⟩ (fun hHeld=>?_)
   clear hK K;refine nm_ (some 15) ?_
   refine tw_ HT_ 10 14 (some 19) (some 6) (bv_ 17 2047) (bv_ 17 17407) (fun K hK=>?_) (fun K hK=>?_)
   ·skip
    refine gs_ Tryz.func73 #[i6 a0,i6 b1,i6 b6,i6 (wrap64 (b0 - 1))] ?_
    with_reducible refine mo_ (spec_l01Of.calls _ A4.out) ?_
    intro w8 hb;replace a1:=bb_ a1 hb;replace a3:=bb_ a3 hb;replace HB:=bt_ HB hb
    try clear hb
    refine hK.out _ _ ⟨cz_ a1 0,cz_ a1 1,cz_ a1 2⟩ (fun hHeld=>?_)
    clear hK K;refine nm_ (some 19) ?_;refine px_ HT_ 11 8 4095 ?_;refine px_ HT_ 12 20 8191 ?_;refine px_ HT_ 13 21 16383 ?_
    refine on_ HT_ 14 (some 6) (bv_ 17 32767) (fun K hK=>?_)
    refine bz_ 6 #[i6 0,i6 0,i6 0] 42 ?_
    intro b2 hg w9 a7 hb
    have a9:=bs_ HB hg;have a2:=bm_ a1 hg;have a4:=bn_ a1 hg;have a6:=bm_ a3 hg;have a5:=bn_ a3 hg;replace a1:=bb_ a1 hb;replace a3:=bb_ a3 hb;replace HB:=bt_ HB hb;clear hb hg
    refine hK.out _ _ ⟨cz_ a1 0,cz_ a1 1,cz_ a1 2⟩ (fun hHeld=>?_)
    clear hK K;refine nm_ (some 6) ?_
    exact norm_ (by simp only[putAll,Act.put,lstS,lstZ,lstC]) (hCont (b2) _ ⟨hHeld,(bl_ a1).out,(bl_ a3).out,(bl_ a7).out,a9.out,a9.out,a2.out,a4.out,a6.out,a5.out,(bw_ HB).out⟩)
   skip
   refine bz_ 6 #[i6 0,i6 0,i6 0] 42 ?_
   intro b2 hg w8 a7 hb
   have a9:=bs_ HB hg;have a2:=bm_ a1 hg;have a4:=bn_ a1 hg;have a6:=bm_ a3 hg;have a5:=bn_ a3 hg;replace a1:=bb_ a1 hb;replace a3:=bb_ a3 hb;replace HB:=bt_ HB hb;clear hb hg
   refine hK.out _ _ ⟨cz_ a1 0,cz_ a1 1,cz_ a1 2⟩ (fun hHeld=>?_)
   clear hK K;refine nm_ (some 6) ?_
   refine on_ HT_ 10 (some 19) (bv_ 17 18431) (fun K hK=>?_)
   refine gs_ Tryz.func73 #[i6 a0,i6 b1,i6 b6,i6 (wrap64 (b0 - 1))] ?_
   with_reducible refine mo_ (spec_l01Of.calls _ A4.out) ?_
   intro w9 hb;replace a1:=bb_ a1 hb;replace a3:=bb_ a3 hb;replace a7:=bb_ a7 hb;replace HB:=bt_ HB hb
   try clear hb
   refine hK.out _ _ ⟨cz_ a1 0,cz_ a1 1,cz_ a1 2⟩ (fun hHeld=>?_)
   clear hK K;refine nm_ (some 19) ?_;refine px_ HT_ 11 8 20479 ?_;refine px_ HT_ 12 20 24575 ?_;refine px_ HT_ 13 21 32767 ?_
   exact norm_ (by simp only[putAll,Act.put,lstS,lstZ,lstC]) (hCont (b2) _ ⟨hHeld,(bl_ a1).out,(bl_ a3).out,(bl_ a7).out,a9.out,a9.out,a2.out,a4.out,a6.out,a5.out,(bw_ HB).out⟩)
  skip
  refine bz_ 6 #[i6 0,i6 0,i6 0] 42 ?_
  intro b2 hg w8 a7 hb
  have a9:=bs_ HB hg;have a2:=bm_ a1 hg;have a4:=bn_ a1 hg;have a6:=bm_ a3 hg;have a5:=bn_ a3 hg;replace a1:=bb_ a1 hb;replace a3:=bb_ a3 hb;replace HB:=bt_ HB hb;clear hb hg
  refine hK.out _ _ ⟨cz_ a1 0,cz_ a1 1,cz_ a1 2⟩ (fun hHeld=>?_)
  clear hK K;refine nm_ (some 6) ?_
  refine on_ HT_ 6 (some 15) (bv_ 17 17407) (fun K hK=>?_)
  refine gs_ Tryz.func66 #[i6 a0,i6 b3] ?_
  with_reducible refine mo_ (spec_l01Power.calls _ A3.out) ?_
  rintro w' ⟨nd,rfl⟩
  refine hK.out _ _ ⟨cz_ a1 0,cz_ a1 1,cz_ a1 2⟩ (fun hHeld=>?_)
  clear hK K;refine nm_ (some 15) ?_
  refine on_ HT_ 10 (some 19) (bv_ 17 18431) (fun K hK=>?_)
  refine gs_ Tryz.func73 #[i6 a0,i6 b1,i6 b6,i6 (wrap64 (b0 - 1))] ?_
  with_reducible refine mo_ (spec_l01Of.calls _ A4.out) ?_
  intro w9 hb;replace a1:=bb_ a1 hb;replace a3:=bb_ a3 hb;replace a7:=bb_ a7 hb;replace HB:=bt_ HB hb
  try clear hb
  refine hK.out _ _ ⟨cz_ a1 0,cz_ a1 1,cz_ a1 2⟩ (fun hHeld=>?_)
  clear hK K;refine nm_ (some 19) ?_;refine px_ HT_ 11 8 20479 ?_;refine px_ HT_ 12 20 24575 ?_;refine px_ HT_ 13 21 32767 ?_
  exact norm_ (by simp only[putAll,Act.put,lstS,lstZ,lstC]) (hCont (b2) _ ⟨hHeld,(bl_ a1).out,(bl_ a3).out,(bl_ a7).out,a9.out,a9.out,a2.out,a4.out,a6.out,a5.out,(bw_ HB).out⟩)
 rintro b2 d6 ⟨hS_,h0_,h1_,h2_,h3_,h4_,h5_,h6_,h7_,h8_,h9_⟩
 clear a1 a3 HB;have a1:=Aside0.mk h0_;have a3:=Aside0.mk h1_;have a7:=Aside0.mk h2_;have a9:=Aside0.mk h3_;have a9:=Aside0.mk h4_;have a2:=Aside0.mk h5_;have a4:=Aside0.mk h6_;have a6:=Aside0.mk h7_;have a5:=Aside0.mk h8_;have HB:=Aside0.mk h9_;clear h0_ h1_ h2_ h3_ h4_ h5_ h6_ h7_ h8_ h9_
 have hHeld:c_ d6 a8 0 (i6 b0)∧c_ d6 a8 1 (i6 b1)∧c_ d6 a8 2 (i6 b3):=hS_
 refine norm_ (a':=?_) ?_ ?_
 rotate_left
 ·simp only[putAll,Act.put,lstS,lstZ,lstC]
  rfl
 refine on_ HT_ 15 none (bv_ 17 65535) (fun K hK=>?_)
 have f2:=cz_ a7 0;have d9:=blk_frozen a7.out 0;have d2:=a2.out;have d3:=a6.out;have d4:=a4.out;have d5:=a5.out;have f3:=cz_ a7 1;have f0:=blk_frozen a7.out 1;have f4:=cz_ a7 2;have f1:=blk_frozen a7.out 2
 refine skip_ (w1:=?_) (by rfl) rfl ?_ ?_
 rotate_left
 ·go_simp
  rfl
 refine hK.out _ _ ⟨(cg_ a2 ((cg_ a2 ((cg_ a2 (hHeld.1)))))),(cg_ a2 ((cg_ a2 ((cg_ a2 (hHeld.2.1)))))),(cg_ a2 ((cg_ a2 ((cg_ a2 (hHeld.2.2))))))⟩ (fun hHeld=>?_)
 clear hK K;refine px_ HT_ 16 7 131071 ?_
 refine done_ (done_of HT_.out (by kernel_rfl)) ?_
 have:=nn_ a4;have:=nn_ a5;have hz16:=ch3_ a7;have:=nn_ b5;have hz18:=ch3_ a3
 try go_wp2
 refine bodyPost_ret (results_ct rfl _ _ b4 42 #[i6 b7,i6 b8,i6 b9] (0,0) _ rfl (bp_ a3).out Tryz.underlying42 rfl (by kernel_rfl)) rfl ?_
 exact⟨es_,(bw_ HB).out⟩
/-! ### spec_l01Child: function 101 -/
def spec_l01Child.f (k:Nat) (a0 a1_0 a1_1 a1_2 a2:Int):Option (Int×Int×Int×Bool):=if a1_0=6 then(some (0,0,0,false)) else((spec_l01Power.f k a0 a1_2).bind fun t819=>(if a1_0≥0 then((spec_l01Power.f k a0 a1_0).bind fun t820=>((spec_l01Of.f k a0 (wrap64 (a1_1+(wrap64 ((wrap64 (a2*t819))*t820)))) t819 (wrap64 (a1_0+1))).bind fun bt821=>(some (bt821.1,bt821.2.1,bt821.2.2.1,bt821.2.2.2)))) else((spec_l01Power.f k a0 (wrap64 (-a1_0))).bind fun t826=>(if t819=0 then(none) else(if t826=0 then(none) else((spec_l01Of.f k a0 (wrap64 ((wrap64 (a1_1*(wrap64 (Int.tdiv (mx t819 t826) t819))))+(wrap64 (a2*(wrap64 (Int.tdiv (mx t819 t826) t826)))))) (mx t819 t826) (wrap64 (a1_0+1))).bind fun bt827=>(some (bt827.1,bt827.2.1,bt827.2.2.1,bt827.2.2.2))))))))
theorem spec_l01Child.calls {k:Nat} {a0 b4 b5 b6 a2 r1 r2 r3:Int} {r4:Bool} (w:World) (h:spec_l01Child.f k a0 b4 b5 b6 a2=some (r1,r2,r3,r4)):
  Calls Tryz.prog 101 #[i6 a0,.agg #[i6 b4,i6 b5,i6 b6],i6 a2] w fun e w'=>e= .returned (.tuple #[.agg #[i6 r1,i6 r2,i6 r3],.bool r4])∧Below w.heap.size w w':=by
 have hu42:=Tryz.underlying42
 have HB:=Aside0.mk (Below.refl w.heap.size w)
 unfold spec_l01Child.f at h;have H:=h;clear h;replace H:=ie_ H
 rcases H with ⟨f3,f4,H⟩|⟨c4,f3,f4,H⟩
 ·simp only[Option.some.injEq,Prod.mk.injEq] at H
  obtain⟨rfl,rfl,rfl,rfl⟩:=H
  go_enter Tryz.func101,Tryz.ntmps101
  go_wp2_with (first|((refine gd_ 4 ?_);refine by_ 4 #[i6 b4,i6 b5,i6 b6] 42 HB ?_;intro b1 hg w5 a1 hb b2 HB_;replace HB:=HB_;clear hb hg)|((refine gd_ 6 ?_);refine by_ 6 #[i6 0,i6 0,i6 0] 42 HB ?_;intro b0 hg w6 a3 hb b3 HB_;have a4:=bm_ a1 hg;have a5:=bn_ a1 hg;replace a1:=bb_ a1 hb;replace HB:=HB_;clear hb hg;have:=nn_ a4;have hz8:=ch3_ a1;have hz9:=ch3_ a3))
  repeat(go_quiet (first|((refine gd_ 4 ?_);refine by_ 4 #[i6 b4,i6 b5,i6 b6] 42 HB ?_;intro b1 hg w5 a1 hb b2 HB_;replace HB:=HB_;clear hb hg)|((refine gd_ 6 ?_);refine by_ 6 #[i6 0,i6 0,i6 0] 42 HB ?_;intro b0 hg w6 a3 hb b3 HB_;have a4:=bm_ a1 hg;have a5:=bn_ a1 hg;replace a1:=bb_ a1 hb;replace HB:=HB_;clear hb hg;have:=nn_ a4;have hz8:=ch3_ a1;have hz9:=ch3_ a3));try go_wp2_with (first|((refine gd_ 4 ?_);refine by_ 4 #[i6 b4,i6 b5,i6 b6] 42 HB ?_;intro b1 hg w5 a1 hb b2 HB_;replace HB:=HB_;clear hb hg)|((refine gd_ 6 ?_);refine by_ 6 #[i6 0,i6 0,i6 0] 42 HB ?_;intro b0 hg w6 a3 hb b3 HB_;have a4:=bm_ a1 hg;have a5:=bn_ a1 hg;replace a1:=bb_ a1 hb;replace HB:=HB_;clear hb hg;have:=nn_ a4;have hz8:=ch3_ a1;have hz9:=ch3_ a3)))
  refine bodyPost_ret (results_ct rfl _ _ b0 42 #[i6 0,i6 0,i6 0] (0,0) _ rfl (bp_ a3).out Tryz.underlying42 rfl (by kernel_rfl)) rfl ?_
  exact⟨es_,(bw_ HB).out⟩
 replace H:=oc_ H;obtain⟨d8,d9,H⟩:=H;replace H:=in_ H
 rcases H with ⟨f1,H⟩|⟨f1,H⟩
 ·replace H:=oc_ H
  obtain⟨j3,f5,H⟩:=H;replace H:=oc_ H;obtain⟨⟨f6,f7,f8,j4⟩,f9,H⟩:=H
  simp only[Option.some.injEq,Prod.mk.injEq] at H
  obtain⟨rfl,rfl,rfl,rfl⟩:=H
  go_enter Tryz.func101,Tryz.ntmps101
  go_wp2_with (first|((refine gd_ 4 ?_);refine by_ 4 #[i6 b4,i6 b5,i6 b6] 42 HB ?_;intro b1 hg g6 a1 hb b2 HB_;replace HB:=HB_;clear hb hg)|((refine gd_ 6 ?_);refine by_ 6 #[i6 0,i6 0,i6 0] 42 HB ?_;intro b0 hg g7 a3 hb b3 HB_;have a4:=bm_ a1 hg;have a5:=bn_ a1 hg;replace a1:=bb_ a1 hb;replace HB:=HB_;clear hb hg;have:=nn_ a4;have hz17:=ch3_ a1)|(go_at_call 66;(with_reducible refine(spec_l01Power.calls _ d9.out).mono ?_);rintro e w' ⟨rfl,⟨nd,rfl⟩⟩;(try exact dd_))|(go_at_call 66;(with_reducible refine(spec_l01Power.calls _ f5.out).mono ?_);rintro e w' ⟨rfl,⟨nd,rfl⟩⟩;(try exact dd_))|(go_at_call 73;(with_reducible refine(spec_l01Of.calls _ f9.out).mono ?_);rintro e g8 ⟨rfl,hb⟩;replace a1:=bb_ a1 hb;replace a3:=bb_ a3 hb;replace HB:=bt_ HB hb;(try clear hb))|((refine gd_ 11 ?_);refine by_ 11 #[i6 0,i6 0,i6 0] 42 HB ?_;intro d4 hg g9 d1 hb d5 HB_;have b7:=bm_ a1 hg;have a6:=bn_ a1 hg;have b8:=bm_ a3 hg;have a7:=bn_ a3 hg;replace a1:=bb_ a1 hb;replace a3:=bb_ a3 hb;replace HB:=HB_;clear hb hg;have:=nn_ a6;have:=nn_ a7;have hz22:=ch3_ d1;have hz23:=ch3_ a3))
  repeat(go_quiet (first|((refine gd_ 4 ?_);refine by_ 4 #[i6 b4,i6 b5,i6 b6] 42 HB ?_;intro b1 hg g6 a1 hb b2 HB_;replace HB:=HB_;clear hb hg)|((refine gd_ 6 ?_);refine by_ 6 #[i6 0,i6 0,i6 0] 42 HB ?_;intro b0 hg g7 a3 hb b3 HB_;have a4:=bm_ a1 hg;have a5:=bn_ a1 hg;replace a1:=bb_ a1 hb;replace HB:=HB_;clear hb hg;have:=nn_ a4;have hz17:=ch3_ a1)|(go_at_call 66;(with_reducible refine(spec_l01Power.calls _ d9.out).mono ?_);rintro e w' ⟨rfl,⟨nd,rfl⟩⟩;(try exact dd_))|(go_at_call 66;(with_reducible refine(spec_l01Power.calls _ f5.out).mono ?_);rintro e w' ⟨rfl,⟨nd,rfl⟩⟩;(try exact dd_))|(go_at_call 73;(with_reducible refine(spec_l01Of.calls _ f9.out).mono ?_);rintro e g8 ⟨rfl,hb⟩;replace a1:=bb_ a1 hb;replace a3:=bb_ a3 hb;replace HB:=bt_ HB hb;(try clear hb))|((refine gd_ 11 ?_);refine by_ 11 #[i6 0,i6 0,i6 0] 42 HB ?_;intro d4 hg g9 d1 hb d5 HB_;have b7:=bm_ a1 hg;have a6:=bn_ a1 hg;have b8:=bm_ a3 hg;have a7:=bn_ a3 hg;replace a1:=bb_ a1 hb;replace a3:=bb_ a3 hb;replace HB:=HB_;clear hb hg;have:=nn_ a6;have:=nn_ a7;have hz22:=ch3_ d1;have hz23:=ch3_ a3));try go_wp2_with (first|((refine gd_ 4 ?_);refine by_ 4 #[i6 b4,i6 b5,i6 b6] 42 HB ?_;intro b1 hg g6 a1 hb b2 HB_;replace HB:=HB_;clear hb hg)|((refine gd_ 6 ?_);refine by_ 6 #[i6 0,i6 0,i6 0] 42 HB ?_;intro b0 hg g7 a3 hb b3 HB_;have a4:=bm_ a1 hg;have a5:=bn_ a1 hg;replace a1:=bb_ a1 hb;replace HB:=HB_;clear hb hg;have:=nn_ a4;have hz17:=ch3_ a1)|(go_at_call 66;(with_reducible refine(spec_l01Power.calls _ d9.out).mono ?_);rintro e w' ⟨rfl,⟨nd,rfl⟩⟩;(try exact dd_))|(go_at_call 66;(with_reducible refine(spec_l01Power.calls _ f5.out).mono ?_);rintro e w' ⟨rfl,⟨nd,rfl⟩⟩;(try exact dd_))|(go_at_call 73;(with_reducible refine(spec_l01Of.calls _ f9.out).mono ?_);rintro e g8 ⟨rfl,hb⟩;replace a1:=bb_ a1 hb;replace a3:=bb_ a3 hb;replace HB:=bt_ HB hb;(try clear hb))|((refine gd_ 11 ?_);refine by_ 11 #[i6 0,i6 0,i6 0] 42 HB ?_;intro d4 hg g9 d1 hb d5 HB_;have b7:=bm_ a1 hg;have a6:=bn_ a1 hg;have b8:=bm_ a3 hg;have a7:=bn_ a3 hg;replace a1:=bb_ a1 hb;replace a3:=bb_ a3 hb;replace HB:=HB_;clear hb hg;have:=nn_ a6;have:=nn_ a7;have hz22:=ch3_ d1;have hz23:=ch3_ a3)))
  refine bodyPost_ret (results_ct rfl _ _ b0 42 #[i6 f6,i6 f7,i6 f8] (0,0) _ rfl (bp_ a3).out Tryz.underlying42 rfl (by kernel_rfl)) rfl ?_
  exact⟨es_,(bw_ HB).out⟩
 replace H:=oc_ H;obtain⟨f0,f2,H⟩:=H
 obtain⟨g0,d2⟩:∃j_:Int,(mx d8 f0)=j_:=⟨_,rfl⟩
 simp only[d2] at H
 (try rw[d2] at d9)
 (try rw[d2] at f2)
 have g1: (if d8<f0 then f0 else d8)=g0:=d2
 replace H:=ief_ H;obtain⟨j6,i4,i5,H⟩:=H;replace H:=ief_ H;obtain⟨j7,i7,i8,H⟩:=H;replace H:=oc_ H;obtain⟨⟨g2,g3,g4,j5⟩,g5,H⟩:=H
 simp only[Option.some.injEq,Prod.mk.injEq] at H
 obtain⟨rfl,rfl,rfl,rfl⟩:=H
 go_enter Tryz.func101,Tryz.ntmps101
 go_wp2_with (first|((refine gd_ 4 ?_);refine by_ 4 #[i6 b4,i6 b5,i6 b6] 42 HB ?_;intro b1 hg i9 a1 hb b2 HB_;replace HB:=HB_;clear hb hg)|((refine gd_ 6 ?_);refine by_ 6 #[i6 0,i6 0,i6 0] 42 HB ?_;intro b0 hg j0 a3 hb b3 HB_;have a4:=bm_ a1 hg;have a5:=bn_ a1 hg;replace a1:=bb_ a1 hb;replace HB:=HB_;clear hb hg;have:=nn_ a4;have hz32:=ch3_ a1)|(go_at_call 66;(with_reducible refine(spec_l01Power.calls _ d9.out).mono ?_);rintro e w' ⟨rfl,⟨nd,rfl⟩⟩;(try exact dd_))|(go_at_call 66;(with_reducible refine(spec_l01Power.calls _ f2.out).mono ?_);rintro e w' ⟨rfl,⟨nd,rfl⟩⟩;(try exact dd_))|(go_at_call 73;(with_reducible refine(spec_l01Of.calls _ g5.out).mono ?_);rintro e j1 ⟨rfl,hb⟩;replace a1:=bb_ a1 hb;replace a3:=bb_ a3 hb;replace HB:=bt_ HB hb;(try clear hb))|((refine gd_ 11 ?_);refine by_ 11 #[i6 0,i6 0,i6 0] 42 HB ?_;intro d6 hg j2 d3 hb d7 HB_;have b9:=bm_ a1 hg;have a8:=bn_ a1 hg;have d0:=bm_ a3 hg;have a9:=bn_ a3 hg;replace a1:=bb_ a1 hb;replace a3:=bb_ a3 hb;replace HB:=HB_;clear hb hg;have:=nn_ a8;have:=nn_ a9;have hz37:=ch3_ d3;have hz38:=ch3_ a3))
 repeat(go_quiet (first|((refine gd_ 4 ?_);refine by_ 4 #[i6 b4,i6 b5,i6 b6] 42 HB ?_;intro b1 hg i9 a1 hb b2 HB_;replace HB:=HB_;clear hb hg)|((refine gd_ 6 ?_);refine by_ 6 #[i6 0,i6 0,i6 0] 42 HB ?_;intro b0 hg j0 a3 hb b3 HB_;have a4:=bm_ a1 hg;have a5:=bn_ a1 hg;replace a1:=bb_ a1 hb;replace HB:=HB_;clear hb hg;have:=nn_ a4;have hz32:=ch3_ a1)|(go_at_call 66;(with_reducible refine(spec_l01Power.calls _ d9.out).mono ?_);rintro e w' ⟨rfl,⟨nd,rfl⟩⟩;(try exact dd_))|(go_at_call 66;(with_reducible refine(spec_l01Power.calls _ f2.out).mono ?_);rintro e w' ⟨rfl,⟨nd,rfl⟩⟩;(try exact dd_))|(go_at_call 73;(with_reducible refine(spec_l01Of.calls _ g5.out).mono ?_);rintro e j1 ⟨rfl,hb⟩;replace a1:=bb_ a1 hb;replace a3:=bb_ a3 hb;replace HB:=bt_ HB hb;(try clear hb))|((refine gd_ 11 ?_);refine by_ 11 #[i6 0,i6 0,i6 0] 42 HB ?_;intro d6 hg j2 d3 hb d7 HB_;have b9:=bm_ a1 hg;have a8:=bn_ a1 hg;have d0:=bm_ a3 hg;have a9:=bn_ a3 hg;replace a1:=bb_ a1 hb;replace a3:=bb_ a3 hb;replace HB:=HB_;clear hb hg;have:=nn_ a8;have:=nn_ a9;have hz37:=ch3_ d3;have hz38:=ch3_ a3));try go_wp2_with (first|((refine gd_ 4 ?_);refine by_ 4 #[i6 b4,i6 b5,i6 b6] 42 HB ?_;intro b1 hg i9 a1 hb b2 HB_;replace HB:=HB_;clear hb hg)|((refine gd_ 6 ?_);refine by_ 6 #[i6 0,i6 0,i6 0] 42 HB ?_;intro b0 hg j0 a3 hb b3 HB_;have a4:=bm_ a1 hg;have a5:=bn_ a1 hg;replace a1:=bb_ a1 hb;replace HB:=HB_;clear hb hg;have:=nn_ a4;have hz32:=ch3_ a1)|(go_at_call 66;(with_reducible refine(spec_l01Power.calls _ d9.out).mono ?_);rintro e w' ⟨rfl,⟨nd,rfl⟩⟩;(try exact dd_))|(go_at_call 66;(with_reducible refine(spec_l01Power.calls _ f2.out).mono ?_);rintro e w' ⟨rfl,⟨nd,rfl⟩⟩;(try exact dd_))|(go_at_call 73;(with_reducible refine(spec_l01Of.calls _ g5.out).mono ?_);rintro e j1 ⟨rfl,hb⟩;replace a1:=bb_ a1 hb;replace a3:=bb_ a3 hb;replace HB:=bt_ HB hb;(try clear hb))|((refine gd_ 11 ?_);refine by_ 11 #[i6 0,i6 0,i6 0] 42 HB ?_;intro d6 hg j2 d3 hb d7 HB_;have b9:=bm_ a1 hg;have a8:=bn_ a1 hg;have d0:=bm_ a3 hg;have a9:=bn_ a3 hg;replace a1:=bb_ a1 hb;replace a3:=bb_ a3 hb;replace HB:=HB_;clear hb hg;have:=nn_ a8;have:=nn_ a9;have hz37:=ch3_ d3;have hz38:=ch3_ a3)))
 refine bodyPost_ret (results_ct rfl _ _ b0 42 #[i6 g2,i6 g3,i6 g4] (0,0) _ rfl (bp_ a3).out Tryz.underlying42 rfl (by kernel_rfl)) rfl ?_
 exact⟨by first|rfl|(simp[errW_none,errW_some]<;>rfl)|(simp only[←d2];first|rfl|(simp[errW_none,errW_some]<;>rfl))|(simp[*,errW_none,errW_some]<;>rfl),(bw_ HB).out⟩
attribute [local go_sem high] eqA42
/-! ### spec_l10Digit: function 76 -/
def spec_l10Digit.l0:Nat→Int→Int→Int→Int→Int→Int→Int→Int→Option (Int)
 |0,_,_,_,_,_,_,_,_=>none
 |k+1,x0,x7,x833000,x833001,x833002,x838000,x838001,x838002=>if x7<x0 then((spec_l01Child.f k x0 x838000 x838001 x838002 x7).bind fun bt838=>(if bt838.2.2.2=true then(if (bt838.1==x833000&&(bt838.2.1==x833001&&(bt838.2.2.1==x833002)))=true then(some x7) else(spec_l10Digit.l0 k x0 (wrap64 (x7+1)) x833000 x833001 x833002 x838000 x838001 x838002)) else(spec_l10Digit.l0 k x0 (wrap64 (x7+1)) x833000 x833001 x833002 x838000 x838001 x838002))) else(some 0)
def spec_l10Digit.f (k:Nat) (a0 a1_0 a1_1 a1_2:Int):Option (Int):=(spec_l01Parent.f k a0 a1_0 a1_1 a1_2).bind fun bt833=>(spec_l10Digit.l0 k a0 0 a1_0 a1_1 a1_2 bt833.1 bt833.2.1 bt833.2.2.1)
theorem spec_l10Digit.calls {k:Nat} {a0 a8 a9 b0 r:Int} (w:World) (h:spec_l10Digit.f k a0 a8 a9 b0=some r):
  Calls Tryz.prog 76 #[i6 a0,.agg #[i6 a8,i6 a9,i6 b0]] w fun e w'=>e= .returned (i6 r)∧Below w.heap.size w w':=by
 have hu42:=Tryz.underlying42
 have HB:=Aside0.mk (Below.refl w.heap.size w)
 unfold spec_l10Digit.f at h;have H:=h;clear h;replace H:=oc_ H;obtain⟨⟨b7,b8,b9,f4⟩,A3,H⟩:=H
 have H':=Aside0.mk H
 clear H
 go_enter Tryz.func76,Tryz.ntmps76
 go_wp2_with (first|((refine gd_ 3 ?_);refine by_ 3 #[i6 a8,i6 a9,i6 b0] 42 HB ?_;intro d3 hg w4 a1 hb f1 HB_;replace HB:=HB_;clear hb hg;have hz5:=ch3_ a1)|((refine gc_ 100 ?_);refine ge_ 13 Tryz.func100 #[i6 a0,.agg #[i6 a8,i6 a9,i6 b0]] ?_;(with_reducible refine mo_ (spec_l01Parent.calls _ A3.out) ?_);intro w6 hb;replace a1:=bb_ a1 hb;replace HB:=bt_ HB hb;clear hb)|((refine gd_ 5 ?_);refine by_ 5 #[i6 0,i6 0,i6 0] 42 HB ?_;intro d4 hg w7 a2 hb f2 HB_;have b6:=bm_ a1 hg;have a5:=bn_ a1 hg;replace a1:=bb_ a1 hb;replace HB:=HB_;clear hb hg;have:=nn_ a5;have hz9:=ch3_ a2))
 go_loopg [7] k (fun kq v7 w'=>∃(b1:Int),v7=i6 b1∧Aside0 (spec_l10Digit.l0 kq a0 b1 a8 a9 b0 b7 b8 b9=some r)∧Aside0 (kq≤k)∧Aside0 (b_ w' d3 #[i6 a8,i6 a9,i6 b0] 42)∧Aside0 (b_ w' d4 #[i6 b7,i6 b8,i6 b9] 42)∧Aside0 (Below w.heap.size w w'))
 case atStart=>exact⟨(0),en_,H',⟨Nat.le_refl _⟩,fl_ a1 b6,bp_ a2,bw_ HB⟩
 clear H'
 try clear hz5
 try clear hz9
 obtain⟨b1,rfl,HA,d9,a1,a2,HB⟩:=hrel
 cases gk with
 |zero=>exact absurd HA.out (by simp[spec_l10Digit.l0])
 |succ k1=>
  have H:=HA.out;clear HA
  simp only[spec_l10Digit.l0] at H
  replace H:=il_ H
  rcases H with ⟨d5,H⟩|⟨d5,H⟩
  ·replace H:=oc_ H
   obtain⟨⟨b2,b3,b4,f5⟩,f0,H⟩:=H;replace H:=ib_ H
   rcases H with ⟨rfl,H⟩|⟨rfl,H⟩
   ·by_cases d0: (b2==a8&&(b3==a9&&(b4==b0)))=true
    ·rw[if_pos d0] at H
     have d6: (b2==a8&&(b3==a9&&(b4==b0)))=true:=d0
     (try(have d7:decide (b2=a8&&(b3==a9&&(b4==b0)))=true:=by simpa using d0))
     (try(have d8: (b2==a8&&(b3==a9&&(b4==b0)))=true:=by simpa using d0))
     clear d0
     obtain rfl:=si_ H
     have:=nn_ a5;have hz15:=ch3_ a2
     go_wp2_with (first|((refine gc_ 101 ?_);refine ge_ 25 Tryz.func101 #[i6 a0,.agg #[i6 b7,i6 b8,i6 b9],i6 b1] ?_;(with_reducible refine mo_ (spec_l01Child.calls _ f0.out) ?_);intro f6 hb;replace a1:=bb_ a1 hb;replace a2:=bb_ a2 hb;replace HB:=bt_ HB hb;clear hb)|((refine gd_ 8 ?_);refine by_ 8 #[i6 0,i6 0,i6 0] 42 HB ?_;intro d1 hg f7 b5 hb d2 HB_;have a6:=bm_ a1 hg;have a3:=bn_ a1 hg;have a7:=bm_ a2 hg;have a4:=bn_ a2 hg;replace a1:=bb_ a1 hb;replace a2:=bb_ a2 hb;replace HB:=HB_;clear hb hg;have:=nn_ a3;have:=nn_ a4;have hz20:=ch3_ b5;have hz21:=ch3_ a1))
     go_ret;exact⟨es_,(bw_ HB).out⟩
    rw[if_neg d0] at H
    have d6: (b2==a8&&(b3==a9&&(b4==b0)))=false:=by simpa using d0
    (try(have d7:decide (b2=a8&&(b3==a9&&(b4==b0)))=false:=by simpa using d0))
    (try(have d8: (b2==a8&&(b3==a9&&(b4==b0)))=false:=by simpa using d0))
    (try(have f3:¬(b2=a8&&(b3==a9&&(b4==b0))):=by simpa using d0))
    clear d0
    have H':=Aside0.mk H
    clear H;have:=nn_ a5;have hz23:=ch3_ a2
    go_wp2_with (first|((refine gc_ 101 ?_);refine ge_ 25 Tryz.func101 #[i6 a0,.agg #[i6 b7,i6 b8,i6 b9],i6 b1] ?_;(with_reducible refine mo_ (spec_l01Child.calls _ f0.out) ?_);intro f8 hb;replace a1:=bb_ a1 hb;replace a2:=bb_ a2 hb;replace HB:=bt_ HB hb;clear hb)|((refine gd_ 8 ?_);refine by_ 8 #[i6 0,i6 0,i6 0] 42 HB ?_;intro d1 hg f9 b5 hb d2 HB_;have a6:=bm_ a1 hg;have a3:=bn_ a1 hg;have a7:=bm_ a2 hg;have a4:=bn_ a2 hg;replace a1:=bb_ a1 hb;replace a2:=bb_ a2 hb;replace HB:=HB_;clear hb hg;have:=nn_ a3;have:=nn_ a4;have hz28:=ch3_ b5;have hz29:=ch3_ a1))
    go_roundg k1
    case measure=>have:=d9.out;omega
    case rel=>exact⟨(wrap64 (b1+1)),en_,H',⟨by have:=d9.out;omega⟩,fl_ a1 a6,fl_ a2 a7,bw_ HB⟩
   have H':=Aside0.mk H
   clear H;have:=nn_ a5;have hz31:=ch3_ a2
   go_wp2_with (first|((refine gc_ 101 ?_);refine ge_ 25 Tryz.func101 #[i6 a0,.agg #[i6 b7,i6 b8,i6 b9],i6 b1] ?_;(with_reducible refine mo_ (spec_l01Child.calls _ f0.out) ?_);intro g0 hb;replace a1:=bb_ a1 hb;replace a2:=bb_ a2 hb;replace HB:=bt_ HB hb;clear hb)|((refine gd_ 8 ?_);refine by_ 8 #[i6 0,i6 0,i6 0] 42 HB ?_;intro d1 hg g1 b5 hb d2 HB_;have a6:=bm_ a1 hg;have a3:=bn_ a1 hg;have a7:=bm_ a2 hg;have a4:=bn_ a2 hg;replace a1:=bb_ a1 hb;replace a2:=bb_ a2 hb;replace HB:=HB_;clear hb hg;have:=nn_ a3;have:=nn_ a4;have hz36:=ch3_ b5))
   go_roundg k1
   case measure=>have:=d9.out;omega
   case rel=>exact⟨(wrap64 (b1+1)),en_,H',⟨by have:=d9.out;omega⟩,fl_ a1 a6,fl_ a2 a7,bw_ HB⟩
  obtain rfl:=si_ H
  go_wp2
  go_ret;exact⟨es_,(bw_ HB).out⟩
/-! ### spec_l10Way: function 46 -/
mutual
def spec_l10Way.l0:Nat→Int→Int→List Int→Int→Int→Int→Int→Option (ByteArray×Bool)
 |0,_,_,_,_,_,_,_=>none
 |k+1,x0,x8,x9,x10,x845000,x845001,x845002=>if x10>x8 then(if x9.length<140737488355328 then(spec_l10Way.l0 k x0 x8 (x9++[117]) (wrap64 (x10 - 1)) x845000 x845001 x845002) else(none)) else(spec_l10Way.l1 k x0 x9 (wrap64 (x8+1)) x845000 x845001 x845002)
def spec_l10Way.l1:Nat→Int→List Int→Int→Int→Int→Int→Option (ByteArray×Bool)
 |0,_,_,_,_,_,_=>none
 |k+1,x0,x9,x11,x845000,x845001,x845002=>if x11≤x845000 then((spec_l02Up.f k x0 x845000 x845001 x845002 x11).bind fun bt852=>(if bt852.2.2.2=true then((spec_l10Digit.f k x0 bt852.1 bt852.2.1 bt852.2.2.1).bind fun t857=>(if x9.length<140737488355328 then(spec_l10Way.l1 k x0 (x9++[(wrap64 (48+t857))%256]) (wrap64 (x11+1)) x845000 x845001 x845002) else(none))) else(some ((⟨#[]⟩:ByteArray),false)))) else(some (strOfNums x9,true))
end
def spec_l10Way.f (k:Nat) (a0 a1_0 a1_1 a1_2 a2_0 a2_1 a2_2:Int):Option (ByteArray×Bool):=(spec_l02Join.f k a0 a1_0 a1_1 a1_2 a2_0 a2_1 a2_2).bind fun t845=>(spec_l10Way.l0 k a0 t845 (([]:List Int)) a1_0 a2_0 a2_1 a2_2)
theorem spec_l10Way.calls {k:Nat} {a0 b3 b9 d0 a4 a5 a6:Int} (r1:ByteArray) {r2:Bool} (w:World) (h:spec_l10Way.f k a0 b3 b9 d0 a4 a5 a6=some (r1,r2)):
  Calls Tryz.prog 46 #[i6 a0,.agg #[i6 b3,i6 b9,i6 d0],.agg #[i6 a4,i6 a5,i6 a6]] w fun e w'=>e= .returned (.tuple #[.string r1,.bool r2])∧Below w.heap.size w w':=by
 have hu42:=Tryz.underlying42
 have HB:=Aside0.mk (Below.refl w.heap.size w)
 unfold spec_l10Way.f at h;have H:=h;clear h;replace H:=oc_ H;obtain⟨d5,A4,H⟩:=H
 obtain⟨f1,b0⟩:∃y_:List Int,y_=(([]:List Int)):=⟨_,rfl⟩
 replace H: (spec_l10Way.l0 k a0 d5 f1 b3 a4 a5 a6)=some (r1,r2):=by first|(rw[b0];with_reducible exact H)|(have H2_:=(Option.bind_some _ _).symm.trans H;rw[b0];with_reducible exact H2_)|(have H2_:=(Option.bind_some _ _).symm.trans H;with_reducible exact H2_)|with_reducible exact H|(rw[b0];exact H)|exact H
 have d3:=Aside0.mk b0;clear b0
 have H':=Aside0.mk H
 clear H
 go_enter Tryz.func46,Tryz.ntmps46
 go_wp2_with (first|((refine gd_ 4 ?_);refine by_ 4 #[i6 b3,i6 b9,i6 d0] 42 HB ?_;intro f2 hg w5 a2 hb g8 HB_;replace HB:=HB_;clear hb hg)|((refine gd_ 5 ?_);refine by_ 5 #[i6 a4,i6 a5,i6 a6] 42 HB ?_;intro b5 hg w6 a1 hb g9 HB_;have b7:=bm_ a2 hg;have f0:=bn_ a2 hg;replace a2:=bb_ a2 hb;replace HB:=HB_;clear hb hg;have:=nn_ b7;have hz8:=ch3_ a2;have hz9:=ch3_ a1)|((refine gc_ 74 ?_);refine ge_ 17 Tryz.func74 #[i6 a0,.agg #[i6 b3,i6 b9,i6 d0],.agg #[i6 a4,i6 a5,i6 a6]] ?_;(with_reducible refine mo_ (spec_l02Join.calls _ A4.out) ?_);intro j5 hb;replace a2:=bb_ a2 hb;replace a1:=bb_ a1 hb;replace HB:=bt_ HB hb;clear hb)|((refine gd_ 18 ?_);refine Kd.R_lit (Kd.int .u8) _ 5 ?hg (N:=18) ?hd (xs:=([]:List Int)) (inner:=[]) (ok:=fun _=>True) (okp:=fun _=>True) ?hr ?hp (fun _ hk=>hk) trivial (Below.refl _ _) (Nat.le_refl _) (by simp) ?_;(case hd=>rfl);(case hg=>rfl);(case hr=>first|(go_simp;done)|(go_simp;rfl));(case hp=>exact(Reps.none _ _));intro i8 j6 d1 hb hg_ hnew_;clear hg_ hnew_;(first|rw[←d3.out] at d1|(simp only[Int.reduceToNat] at d1;rw[←d3.out] at d1));have f3:=Aside0.mk (Kd.R_lower d1 (below_size (bw_ HB).out));replace a2:=bb_ a2 hb;replace a1:=bb_ a1 hb;replace HB:=bt_ HB hb;clear hb d1;have hz13:=ch3_ a2))
 go_loopg [9,10] k (fun kq v9 i9 w'=>∃(b4:List Int) (b6:Int),i9=i6 b6∧Aside0 (spec_l10Way.l0 kq a0 d5 b4 b6 a4 a5 a6=some (r1,r2))∧Aside0 (kq≤k)∧Aside0 (Kd.R (Kd.int .u8) 5 w' w.heap.size (fun _=>True) v9 b4)∧Aside0 (b_ w' b5 #[i6 a4,i6 a5,i6 a6] 42)∧Aside0 (Below w.heap.size w w'))
 case atStart=>exact⟨(f1),(b3),en_,H',⟨Nat.le_refl _⟩,⟨by(with_reducible repeat(first|apply Kd.R_alloc|apply Kd.R_drewN|apply Kd.R_drew));exact f3.out⟩,bl_ a1,bw_ HB⟩
 clear H'
 try clear hz13
 try clear hz8
 try clear hz9
 clear a2
 obtain⟨b4,b6,rfl,HA,g4,HO_9,a1,HB⟩:=hrel
 cases gk with
 |zero=>exact absurd HA.out (by simp[spec_l10Way.l0])
 |succ k1=>
  have H:=HA.out;clear HA
  simp only[spec_l10Way.l0] at H
  replace H:=ig_ H
  rcases H with ⟨d4,H⟩|⟨d4,H⟩
  ·by_cases f4:b4.length<140737488355328
   ·rw[if_pos f4] at H
    have LMc15:=Aside0.mk f4;clear f4
    obtain⟨g6,b1⟩:∃y_:List Int,y_=(b4++[117]):=⟨_,rfl⟩
    first|rw[←b1,Option.bind_some] at H|rw[←b1] at H|(dsimp only at H;rw[←b1] at H)
    have f5:=Aside0.mk b1;clear b1
    have H':=Aside0.mk H
    clear H
    go_wp2_with (first|((with_reducible refine gate_builtin (b:= .append) (xs:=#[.tmp 26,.tmp 27]) rfl ?_);at_builtin;refine Kd.R_append (Kd.int .u8) (w0:=w) w.heap.size rfl (.tmp 26) (.tmp 27) 22 5 (.int .u8 0) 1 rfl Tryz.underlying22 info5 rfl (by decide) (by omega) u9 b4 117 [.int .u8 117] (fun _=>True) (fun _=>False) rfl rfl ?aP (fun _ hk=>hk.elim) ?aF ?aO ?aB ?aS ?aL ?_;(case aP=>exact rfl);(case aB=>exact(bw_ HB).out);(case aF=>exact(fun _ _=>trivial));(case aO=>exact(ra_ HO_9.out));(case aS=>exact(below_size (bw_ HB).out));(case aL=>have:=LMc15.out;omega);intro j0 j7 ho hb hg hat;rw[←f5.out] at ho;have f6:=Aside0.mk (blk_grown (g:=b5) (o:= .cells #[i6 a4,i6 a5,i6 a6] 42 (0,0)) (bl_ a1).out hg (Kd.R_ne HO_9.out a1.out (by decide)));have f7:=Aside0.mk (hb);have f8:=Aside0.mk (ho);clear a1;clear HB;clear HO_9;have a1:=f6;have HB:=f7;have f9:=f8;clear f6 f7 f8;clear ho hb hg hat))
    go_roundg k1
    case measure=>have:=g4.out;omega
    case rel=>exact⟨(g6),(wrap64 (b6 - 1)),en_,H',⟨by have:=g4.out;omega⟩,⟨by(with_reducible repeat(first|apply Kd.R_alloc|apply Kd.R_drewN|apply Kd.R_drew));exact f9.out⟩,bl_ a1,bw_ HB⟩
   rw[if_neg f4] at H
   exact absurd H (by simp)
  have H':=Aside0.mk H
  clear H
  go_wp2
  go_loopg [9,11] k1 (fun kq v9 j1 w'=>∃(b8:List Int) (a8:Int),j1=i6 a8∧Aside0 (spec_l10Way.l1 kq a0 b8 a8 a4 a5 a6=some (r1,r2))∧Aside0 (kq≤k1)∧Aside0 (Kd.R (Kd.int .u8) 5 w' w.heap.size (fun _=>True) v9 b8)∧Aside0 (b_ w' b5 #[i6 a4,i6 a5,i6 a6] 42)∧Aside0 (Below w.heap.size w w'))
  case atStart=>exact⟨(b4),(wrap64 (d5+1)),en_,H',⟨Nat.le_refl _⟩,⟨by(with_reducible repeat(first|apply Kd.R_alloc|apply Kd.R_drewN|apply Kd.R_drew));exact HO_9.out⟩,bl_ a1,bw_ HB⟩
  clear H'
  try clear d4
  try clear f4
  try clear hz13
  try clear hz8
  try clear hz9
  obtain⟨b8,a8,rfl,HA,i4,HO_9,a1,HB⟩:=hrel
  cases gk with
  |zero=>exact absurd HA.out (by simp[spec_l10Way.l1])
  |succ k2=>
   have H:=HA.out;clear HA
   simp only[spec_l10Way.l1] at H
   replace H:=im_ H
   rcases H with ⟨g0,H⟩|⟨g0,H⟩
   ·replace H:=oc_ H
    obtain⟨⟨d6,d7,d8,j2⟩,i5,H⟩:=H;replace H:=ib_ H
    rcases H with ⟨rfl,H⟩|⟨rfl,H⟩
    ·replace H:=oc_ H
     obtain⟨d9,j3,H⟩:=H
     by_cases g5:b8.length<140737488355328
     ·rw[if_pos g5] at H
      have LMc21:=Aside0.mk g5;clear g5
      obtain⟨g7,b2⟩:∃y_:List Int,y_=(b8++[(wrap64 (48+d9))%256]):=⟨_,rfl⟩
      first|rw[←b2,Option.bind_some] at H|rw[←b2] at H|(dsimp only at H;rw[←b2] at H)
      have g1:=Aside0.mk b2;clear b2
      have H':=Aside0.mk H
      clear H;have hz22:=ch3_ a1
      go_wp2_with (first|((refine gc_ 75 ?_);refine ge_ 41 Tryz.func75 #[i6 a0,.agg #[i6 a4,i6 a5,i6 a6],i6 a8] ?_;(with_reducible refine mo_ (spec_l02Up.calls _ i5.out) ?_);intro j8 hb;replace HO_9:=rb_ HO_9 hb;replace a1:=bb_ a1 hb;replace HB:=bt_ HB hb;clear hb)|((refine gd_ 12 ?_);refine bx_ 12 #[i6 0,i6 0,i6 0] 42 ?_;intro d2 hg j9 a3 hb;have g2:=bs_ HB hg;have a9:=bm_ a1 hg;have a7:=bn_ a1 hg;replace HO_9:=rb_ HO_9 hb;replace a1:=bb_ a1 hb;replace HB:=bt_ HB hb;clear hb hg;have:=nn_ a7;have hz26:=ch3_ a3)|((refine gc_ 76 ?_);refine ge_ 49 Tryz.func76 #[i6 a0,.agg #[i6 d6,i6 d7,i6 d8]] ?_;(with_reducible refine mo_ (spec_l10Digit.calls _ j3.out) ?_);intro l2 hb;replace HO_9:=Aside0.mk (Kd.R_below (ra_ (rs3_ HO_9.out a3.out)) hb);replace a1:=fb_ a1 a9 hb;replace a3:=Aside0.mk (blk_below (g:=d2) (o:= .cells #[i6 d6,i6 d7,i6 d8] 42 (0,0)) (bp_ a3).out hb);replace HB:=bt_ HB hb;(try clear hb))|((with_reducible refine gate_builtin (b:= .append) (xs:=#[.tmp 46,.tmp 52]) rfl ?_);at_builtin;refine Kd.R_append (Kd.int .u8) (w0:=w) w.heap.size rfl (.tmp 46) (.tmp 52) 22 5 (.int .u8 0) 1 rfl Tryz.underlying22 info5 rfl (by decide) (by omega) u9 b8 ((wrap64 (48+d9))%256) [.int .u8 ((wrap64 (48+d9))%256)] (fun _=>True) (fun _=>False) rfl rfl ?aP (fun _ hk=>hk.elim) ?aF ?aO ?aB ?aS ?aL ?_;(case aP=>exact rfl);(case aB=>exact(bw_ HB).out);(case aF=>exact(fun _ _=>trivial));(case aO=>exact(ra_ HO_9.out));(case aS=>exact(below_size (bw_ HB).out));(case aL=>have:=LMc21.out;omega);intro j4 l3 ho hb hg hat;rw[←g1.out] at ho;have f6:=Aside0.mk (blk_grown (g:=b5) (o:= .cells #[i6 a4,i6 a5,i6 a6] 42 (0,0)) (bl_ a1).out hg (Kd.R_ne HO_9.out a1.out (by decide)));have f7:=Aside0.mk (blk_grown (g:=d2) (o:= .cells #[i6 d6,i6 d7,i6 d8] 42 (0,0)) (bl_ a3).out hg (Kd.R_ne HO_9.out a3.out (by decide)));have f8:=Aside0.mk (hb);have i7:=Aside0.mk (ho);clear a1;clear a3;clear HB;clear HO_9;have a1:=f6;have a3:=f7;have HB:=f8;have g3:=i7;clear f6 f7 f8 i7;clear ho hb hg hat))
      go_roundg k2
      case measure=>have:=g4.out;have:=i4.out;omega
      case rel=>exact⟨(g7),(wrap64 (a8+1)),en_,H',⟨by have:=g4.out;have:=i4.out;omega⟩,⟨by(with_reducible repeat(first|apply Kd.R_alloc|apply Kd.R_drewN|apply Kd.R_drew));exact g3.out⟩,bl_ a1,bw_ HB⟩
     rw[if_neg g5] at H
     exact absurd H (by simp)
    simp only[Option.some.injEq,Prod.mk.injEq] at H
    obtain⟨rfl,rfl⟩:=H;have hz29:=ch3_ a1
    go_wp2_with (first|((refine gc_ 75 ?_);refine ge_ 41 Tryz.func75 #[i6 a0,.agg #[i6 a4,i6 a5,i6 a6],i6 a8] ?_;(with_reducible refine mo_ (spec_l02Up.calls _ i5.out) ?_);intro l4 hb;replace HO_9:=rb_ HO_9 hb;replace a1:=bb_ a1 hb;replace HB:=bt_ HB hb;clear hb)|((refine gd_ 12 ?_);refine bx_ 12 #[i6 0,i6 0,i6 0] 42 ?_;intro d2 hg l5 a3 hb;have g2:=bs_ HB hg;have a9:=bm_ a1 hg;have a7:=bn_ a1 hg;replace HO_9:=rb_ HO_9 hb;replace a1:=bb_ a1 hb;replace HB:=bt_ HB hb;clear hb hg;have:=nn_ a7;have hz33:=ch3_ a3))
    go_ret2
    exact⟨es_,(bw_ HB).out⟩
   simp only[Option.some.injEq,Prod.mk.injEq] at H
   obtain⟨rfl,rfl⟩:=H;have hz34:=ch3_ a1
   have hcv35:=own_string (P:=Tryz.prog) Tryz.underlying22 Tryz.underlying5 Tryz.underlying9 (Kd.own_of_R HO_9.out)
   go_wp2
   go_ret2
   exact⟨es_,(bw_ HB).out⟩
/-! ### spec_StepsOfMatrix: function 18 -/
def spec_StepsOfMatrix.j0:Nat→Int→Bool→Int→Int→Int→Option (ByteArray×Int)
 |0,_,_,_,_,_=>none
 |k+1,x0,x37,x868000,x868001,x868002=>if x37=true then(some ((⟨#[]⟩:ByteArray),3)) else((spec_l10Way.f k x0 0 0 0 x868000 x868001 x868002).bind fun bt874=>(if bt874.2=true then(some (bt874.1,0)) else(some ((⟨#[]⟩:ByteArray),3))))
def spec_StepsOfMatrix.f (k:Nat) (a0 a1_0 a1_1 a1_2 a1_3:Int):Option (ByteArray×Int):=(spec_l04Code.f k a0 a1_0 a1_1 a1_2 a1_3 ([]:List (S42))).bind fun t862=>(if t862=0 then((spec_l04Move.f k a0 a1_0 a1_1 a1_2 a1_3 0 0 0).bind fun bt863=>((spec_l10Triangular.f k a0 a1_0 a1_1 a1_2 a1_3).bind fun bt868=>(if bt863.2.2.2=true then(spec_StepsOfMatrix.j0 k a0 (!bt868.2.2.2.2) bt863.1 bt863.2.1 bt863.2.2.1) else(spec_StepsOfMatrix.j0 k a0 true bt863.1 bt863.2.1 bt863.2.2.1)))) else(some ((⟨#[]⟩:ByteArray),t862)))
theorem spec_StepsOfMatrix.calls {k:Nat} {a0 a4 a5 a6 a7:Int} (r1:ByteArray) {r2:Int} (w:World) (h:spec_StepsOfMatrix.f k a0 a4 a5 a6 a7=some (r1,r2)):
  Calls Tryz.prog 18 #[i6 a0,.agg #[i6 a4,i6 a5,i6 a6,i6 a7]] w fun e w'=>e= .returned (.tuple #[.string r1,i6 r2])∧Below w.heap.size w w':=by
 have hu28:=Tryz.underlying28
 have hu42:=Tryz.underlying42
 have HB:=Aside0.mk (Below.refl w.heap.size w)
 unfold spec_StepsOfMatrix.f at h;have H:=h;clear h;replace H:=oc_ H;obtain⟨f2,A3,H⟩:=H;replace H:=ie_ H
 rcases H with ⟨d0,d1,H⟩|⟨c4,d0,d1,H⟩
 ·replace H:=oc_ H
  obtain⟨⟨b2,b3,b4,f3⟩,A5,H⟩:=H;replace H:=oc_ H;obtain⟨⟨f4,f5,f6,f7,d6⟩,A6,H⟩:=H;have d7:=Aside0.mk H;clear H
  go_enter Tryz.func18,Tryz.ntmps18
  go_upto_region 6 with (first|((refine gd_ 3 ?_);refine by_ 3 #[i6 a4,i6 a5,i6 a6,i6 a7] 28 HB ?_;intro d2 hg w8 a1 hb d3 HB_;replace HB:=HB_;clear hb hg;have hz9:=ch4_ a1)|((refine gc_ 35 ?_);refine ge_ 15 Tryz.func35 #[i6 a0,.agg #[i6 a4,i6 a5,i6 a6,i6 a7],.slice none 0 0] ?_;(refine mo_ (spec_l04Code.calls _ _ _ ?b5 ?b6 A3.out (l2:=([]:List (S42)))) ?_);(case b5=>exact Kd.C_nil _ _);(case b6=>exact Nat.le_refl _);intro g0 hb;replace a1:=bb_ a1 hb;replace HB:=bt_ HB hb;clear hb;have hz11:=ch4_ a1)|((refine gc_ 45 ?_);refine ge_ 23 Tryz.func45 #[i6 a0,.agg #[i6 a4,i6 a5,i6 a6,i6 a7],.agg #[i6 0,i6 0,i6 0]] ?_;(with_reducible refine mo_ (spec_l04Move.calls _ A5.out) ?_);intro g1 hb;replace a1:=bb_ a1 hb;replace HB:=bt_ HB hb;clear hb)|((refine gd_ 7 ?_);refine by_ 7 #[i6 0,i6 0,i6 0] 42 HB ?_;intro b8 hg g2 a2 hb d8 HB_;have a8:=bm_ a1 hg;have a9:=bn_ a1 hg;replace a1:=bb_ a1 hb;replace HB:=HB_;clear hb hg;have:=nn_ a9;have hz15:=ch3_ a2;have hz16:=ch4_ a1)|((refine gc_ 36 ?_);refine ge_ 29 Tryz.func36 #[i6 a0,.agg #[i6 a4,i6 a5,i6 a6,i6 a7]] ?_;(with_reducible refine mo_ (spec_l10Triangular.calls _ A6.out) ?_);intro g3 hb;replace a1:=fb_ a1 a8 hb;replace a2:=Aside0.mk (blk_below (g:=b8) (o:= .cells #[i6 b2,i6 b3,i6 b4] 42 (0,0)) (bp_ a2).out hb);replace HB:=bt_ HB hb;(try clear hb))|((refine gd_ 9 ?_);refine by_ 9 #[i6 0,i6 0,i6 0,i6 0] 28 HB ?_;intro d9 hg g4 d4 hb f0 HB_;have b9:=bm_ a1 hg;have b0:=bn_ a1 hg;have a3:=bm_ a2 hg;have b1:=bn_ a2 hg;replace a1:=bb_ a1 hb;replace a2:=bb_ a2 hb;replace HB:=HB_;clear hb hg;have:=nn_ b0;have:=nn_ b1;have hz21:=ch4_ d4))
  (try simp only[Act.put,lstS,lstZ,lstC])
  go_cut [37] (fun f8 wc=>∃(kq:Nat) (b7:Bool),f8= .bool b7∧Aside0 (spec_StepsOfMatrix.j0 kq a0 b7 b2 b3 b4=some (r1,r2))∧Aside0 (kq≤k)∧Aside0 (b_ wc b8 #[i6 b2,i6 b3,i6 b4] 42)∧Aside0 (Below w.heap.size w wc))
  case first=>
   have H:=d7.out;clear d7;replace H:=ib_ H
   rcases H with ⟨rfl,H⟩|⟨rfl,H⟩
   ·have H':=Aside0.mk H
    clear H
    go_wp2
    go_meet
    case rel=>exact⟨_,(!d6),en_,H',⟨by first|omega|exact Nat.le_refl _⟩,fl_ a2 a3,bw_ HB⟩
   have H':=Aside0.mk H
   clear H
   go_wp2
   go_meet
   case rel=>exact⟨_,(true),en_,H',⟨by first|omega|exact Nat.le_refl _⟩,fl_ a2 a3,bw_ HB⟩
  clear d7
  try clear c4 d0 d1
  try clear hz11
  try clear hz15
  try clear hz16
  try clear hz21
  try clear hz9
  obtain⟨kq,b7,rfl,HA,g5,a2,HB⟩:=hcut
  cases kq with
  |zero=>exact absurd HA.out (by simp[spec_StepsOfMatrix.j0])
  |succ g6=>
   have H:=HA.out;clear HA
   simp only[spec_StepsOfMatrix.j0] at H
   replace H:=ib_ H
   rcases H with ⟨rfl,H⟩|⟨rfl,H⟩
   ·simp only[Option.some.injEq,Prod.mk.injEq] at H
    obtain⟨rfl,rfl⟩:=H
    go_wp2
    go_ret2
    exact⟨es_,(bw_ HB).out⟩
   replace H:=oc_ H;obtain⟨⟨d5,f9⟩,f1,H⟩:=H;replace H:=ib_ H
   rcases H with ⟨rfl,H⟩|⟨rfl,H⟩
   ·simp only[Option.some.injEq,Prod.mk.injEq] at H
    obtain⟨rfl,rfl⟩:=H;have hz26:=ch3_ a2
    go_wp2_with (first|((refine gc_ 46 ?_);refine ge_ 42 Tryz.func46 #[i6 a0,.agg #[i6 0,i6 0,i6 0],.agg #[i6 b2,i6 b3,i6 b4]] ?_;(with_reducible refine mo_ (spec_l10Way.calls d5 _ f1.out) ?_);intro g7 hb;replace a2:=bb_ a2 hb;replace HB:=bt_ HB hb;clear hb))
    go_ret2
    exact⟨es_,(bw_ HB).out⟩
   simp only[Option.some.injEq,Prod.mk.injEq] at H
   obtain⟨rfl,rfl⟩:=H;have hz28:=ch3_ a2
   go_wp2_with (first|((refine gc_ 46 ?_);refine ge_ 42 Tryz.func46 #[i6 a0,.agg #[i6 0,i6 0,i6 0],.agg #[i6 b2,i6 b3,i6 b4]] ?_;(with_reducible refine mo_ (spec_l10Way.calls d5 _ f1.out) ?_);intro g8 hb;replace a2:=bb_ a2 hb;replace HB:=bt_ HB hb;clear hb))
   go_ret2
   exact⟨es_,(bw_ HB).out⟩
 simp only[Option.some.injEq,Prod.mk.injEq] at H
 obtain⟨rfl,rfl⟩:=H
 go_enter Tryz.func18,Tryz.ntmps18
 go_wp2_with (first|((refine gd_ 3 ?_);refine by_ 3 #[i6 a4,i6 a5,i6 a6,i6 a7] 28 HB ?_;intro d2 hg g9 a1 hb d3 HB_;replace HB:=HB_;clear hb hg;have hz31:=ch4_ a1)|((refine gc_ 35 ?_);refine ge_ 15 Tryz.func35 #[i6 a0,.agg #[i6 a4,i6 a5,i6 a6,i6 a7],.slice none 0 0] ?_;(refine mo_ (spec_l04Code.calls _ _ _ ?b5 ?b6 A3.out (l2:=([]:List (S42)))) ?_);(case b5=>exact Kd.C_nil _ _);(case b6=>exact Nat.le_refl _);intro i4 hb;replace a1:=bb_ a1 hb;replace HB:=bt_ HB hb;clear hb))
 go_ret2
 exact⟨es_,(bw_ HB).out⟩
end Go.Proofs.YtblmdppbbdbbjabGreat.QP
