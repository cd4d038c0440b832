import Derived.Test.YtblmdppbbdbbjabGreatQPx8
import Derived.Test.YtblmdppbbdbbjabGreatQPx42
import Derived.Test.YtblmdppbbdbbjabGreatQPx67
import Derived.Test.YtblmdppbbdbbjabGreatQPx73
import Derived.Test.YtblmdppbbdbbjabGreatQPx32
import Derived.Test.YtblmdppbbdbbjabGreatQPx55
import Derived.Test.YtblmdppbbdbbjabGreatQPx14
import Derived.Test.YtblmdppbbdbbjabGreatQPx44
import Derived.Test.YtblmdppbbdbbjabGreatQPx62
namespace Go.Proofs.YtblmdppbbdbbjabGreat.QP
set_option maxHeartbeats 8000000
set_option maxRecDepth 100000
open Go.RowKit Go.Proofs.YtblmdppbbdbbjabGreatW.PrintWords Go.Proofs.YtblmdppbbdbbjabGreatW.PrintLast Go.Proofs.YtblmdppbbdbbjabGreatW.PrintMore
attribute [local go_sem] isSome_setCell max2_int min2_int max_two min_two max_three min_three max_four min_four
set_option linter.unusedVariables false
set_option linter.unusedSimpArgs false
/-! ### spec_UnitPart: function 12 -/
def spec_UnitPart.f (k:Nat) (a0 a1_0 a1_1 a1_2 a1_3:Int):Option (Int×Int×Int×Int×Int):=(spec_l04Code.f k a0 a1_0 a1_1 a1_2 a1_3 ([]:List (S42))).bind fun t652=>(if t652=0 then((spec_l10Triangular.f k a0 a1_0 a1_1 a1_2 a1_3).bind fun bt653=>(if bt653.2.2.2.2=true then((spec_l04Inverse.f k bt653.1 bt653.2.1 bt653.2.2.1 bt653.2.2.2.1).bind fun bt659=>((spec_l04Times.f k bt659.1 bt659.2.1 bt659.2.2.1 bt659.2.2.2 a1_0 a1_1 a1_2 a1_3).bind fun bt663=>(if bt663.2.2.2.2=true then(some (bt663.1,bt663.2.1,bt663.2.2.1,bt663.2.2.2.1,0)) else(some (0,0,0,0,3))))) else(some (0,0,0,0,3)))) else(some (0,0,0,0,t652)))
def spec_UnitPart.T7:Bool×List (List Nat×List Nat):=(true,[([],[]),([0],[0]),([],[]),([1,2,1],[1,2]),([3],[3]),([4],[4]),([4],[4]),([],[]),([7,5,3,0,1,2,3,4,5,7],[5,7]),([6,8,0,1,2,3,4,5,6,7,8],[6])])
def spec_UnitPart.B7:List Nat:=[0,1,0,7,15,31,31,0,191,511]
theorem spec_UnitPart.tab7:rtab .any (opsOf Tryz.f12 7)=spec_UnitPart.T7:=by kernel_rfl
theorem spec_UnitPart.bits7:waitsOk spec_UnitPart.T7.2 spec_UnitPart.B7=true:=by kernel_rfl
theorem spec_UnitPart.calls {k:Nat} {a0 b4 b5 b6 b7 r1 r2 r3 r4 r5:Int} (w:World) (h:spec_UnitPart.f k a0 b4 b5 b6 b7=some (r1,r2,r3,r4,r5)):
  Calls Tryz.prog 12 #[i6 a0,.agg #[i6 b4,i6 b5,i6 b6,i6 b7]] w fun e w'=>e= .returned (.tuple #[.agg #[i6 r1,i6 r2,i6 r3,i6 r4],i6 r5])∧Below w.heap.size w w':=by
 have hu28:=Tryz.underlying28
 have HB:=Aside0.mk (Below.refl w.heap.size w)
 unfold spec_UnitPart.f at h;have H:=h;clear h;replace H:=oc_ H;obtain⟨m4,A3,H⟩:=H;replace H:=ie_ H
 rcases H with ⟨j8,j9,H⟩|⟨c4,j8,j9,H⟩
 ·replace H:=oc_ H
  obtain⟨⟨b9,d0,d1,d2,m5⟩,A5,H⟩:=H;replace H:=ib_ H
  rcases H with ⟨rfl,H⟩|⟨rfl,H⟩
  ·replace H:=oc_ H
   obtain⟨⟨f2,f3,f4,f5⟩,A7,H⟩:=H;replace H:=oc_ H;obtain⟨⟨f6,f7,f8,f9,m6⟩,A8,H⟩:=H;replace H:=ib_ H
   rcases H with ⟨rfl,H⟩|⟨rfl,H⟩
   ·simp only[Option.some.injEq,Prod.mk.injEq] at H
    obtain⟨rfl,rfl,rfl,rfl,rfl⟩:=H
    go_enter Tryz.func12,Tryz.ntmps12
    try go_wp2_with (first|((refine gd_ 3 ?_);refine by_ 3 #[i6 b4,i6 b5,i6 b6,i6 b7] 28 HB ?_;intro b2 hg n9 a1 hb g0 HB_;replace HB:=HB_;clear hb hg)|((refine gd_ 4 ?_);refine by_ 4 #[i6 0,i6 0,i6 0,i6 0] 28 HB ?_;intro d3 hg o0 a5 hb g1 HB_;have b8:=bm_ a1 hg;have d9:=bn_ a1 hg;replace a1:=bb_ a1 hb;replace HB:=HB_;clear hb hg;have:=nn_ b8;have hz13:=ch4_ a1)|((refine gc_ 35 ?_);refine ge_ 13 Tryz.func35 #[i6 a0,.agg #[i6 b4,i6 b5,i6 b6,i6 b7],.slice none 0 0] ?_;(refine mo_ (spec_l04Code.calls _ _ _ ?f0 ?f1 A3.out (l2:=([]:List (S42)))) ?_);(case f0=>exact Kd.C_nil _ _);(case f1=>exact Nat.le_refl _);intro o1 hb;replace a1:=bb_ a1 hb;replace a5:=bb_ a5 hb;replace HB:=bt_ HB hb;clear hb;have hz15:=ch4_ a1)|((refine gc_ 36 ?_);refine ge_ 21 Tryz.func36 #[i6 a0,.agg #[i6 b4,i6 b5,i6 b6,i6 b7]] ?_;(with_reducible refine mo_ (spec_l10Triangular.calls _ A5.out) ?_);intro o2 hb;replace a1:=bb_ a1 hb;replace a5:=bb_ a5 hb;replace HB:=bt_ HB hb;clear hb)|((refine gd_ 7 ?_);refine by_ 7 #[i6 0,i6 0,i6 0,i6 0] 28 HB ?_;intro a6 hg g9 a2 hb g2 HB_;have d7:=bm_ a1 hg;have d4:=bn_ a1 hg;have d8:=bm_ a5 hg;have d5:=bn_ a5 hg;replace a1:=bb_ a1 hb;replace a5:=bb_ a5 hb;replace HB:=HB_;clear hb hg;have:=nn_ d4;have:=nn_ d5;have hz20:=ch4_ a2))
    have g5:Aside0 (((((g9.setCell ⟨a6,0,none⟩ (i6 b9)).setCell ⟨a6,1,none⟩ (i6 d0)).setCell ⟨a6,2,none⟩ (i6 d1)).setCell ⟨a6,3,none⟩ (i6 d2)).heap[b2]?=some (.cells #[i6 b4,i6 b5,i6 b6,i6 b7] 28 (0,0))):=fl_ a1 d7
    have g6:Aside0 (((((g9.setCell ⟨a6,0,none⟩ (i6 b9)).setCell ⟨a6,1,none⟩ (i6 d0)).setCell ⟨a6,2,none⟩ (i6 d1)).setCell ⟨a6,3,none⟩ (i6 d2)).heap[d3]?=some (.cells #[i6 0,i6 0,i6 0,i6 0] 28 (0,0))):=fl_ a5 d8
    have g7:Aside0 (((((g9.setCell ⟨a6,0,none⟩ (i6 b9)).setCell ⟨a6,1,none⟩ (i6 d0)).setCell ⟨a6,2,none⟩ (i6 d1)).setCell ⟨a6,3,none⟩ (i6 d2)).heap[a6]?=some (.cells #[i6 b9,i6 d0,i6 d1,i6 d2] 28 (0,0))):=bp_ a2
    have g8:Aside0 (Below w.heap.size w ((((g9.setCell ⟨a6,0,none⟩ (i6 b9)).setCell ⟨a6,1,none⟩ (i6 d0)).setCell ⟨a6,2,none⟩ (i6 d1)).setCell ⟨a6,3,none⟩ (i6 d2))):=bw_ HB
    try clear a1
    try clear a5
    try clear a2
    try clear HB
    generalize ((((g9.setCell ⟨a6,0,none⟩ (i6 b9)).setCell ⟨a6,1,none⟩ (i6 d0)).setCell ⟨a6,2,none⟩ (i6 d1)).setCell ⟨a6,3,none⟩ (i6 d2))=m7 at g5 g6 g7 g8⊢
    have a1:=g5
    have a5:=g6
    have a2:=g7
    have HB:=g8
    clear g5 g6 g7 g8;replace a1:=bd_ a1;replace a5:=bd_ a5;replace a2:=bd_ a2;replace HB:=be_ HB
    refine start_ (n:=10) (S:=fun w'=>c_ w' a6 0 (i6 b9)∧c_ w' a6 1 (i6 d0)∧c_ w' a6 2 (i6 d1)∧c_ w' a6 3 (i6 d2)∧c_ w' b2 0 (i6 b4)∧c_ w' b2 1 (i6 b5)∧c_ w' b2 2 (i6 b6)∧c_ w' b2 3 (i6 b7)) (ds:=[]) (bv_ 10 0) (by kernel_rfl) rfl rfl ⟨cz_ a2 0,cz_ a2 1,cz_ a2 2,cz_ a2 3,cz_ a1 0,cz_ a1 1,cz_ a1 2,cz_ a1 3⟩ (fun hHeld=>?_);refine with_tabW spec_UnitPart.tab7 spec_UnitPart.bits7 (fun HT_ HW_=>?_)
    generalize m7.drew=o3 at a1 a5 a2 HB hHeld⊢
    refine ta_ HT_ HW_ 0 (some 28) (bv_ 10 1) hHeld ?_ (hy:=by rintro w' ⟨s0,s1,s2,s3,s4,s5,s6,s7⟩;go_simp;with_reducible rfl)
    refine ta_ HT_ HW_ 2 (some 30) (bv_ 10 5) hHeld ?_ (hy:=by rintro w' ⟨s0,s1,s2,s3,s4,s5,s6,s7⟩;go_simp;with_reducible rfl)
    refine join_ (σ:=Nat) 2 (bv_ 10 255) (fun s_=>[(29,.agg #[i6 f2,i6 f3,i6 f4,i6 f5]),(31,.tuple #[.agg #[i6 f6,i6 f7,i6 f8,i6 f9],.bool true]),(9,.pointer (some ⟨s_,0,none⟩)),(27,.tuple #[.agg #[i6 f6,i6 f7,i6 f8,i6 f9],.bool true]),(32,.agg #[i6 f6,i6 f7,i6 f8,i6 f9]),(33,.bool true)]) (fun s_ w'=>(c_ w' a6 0 (i6 b9)∧c_ w' a6 1 (i6 d0)∧c_ w' a6 2 (i6 d1)∧c_ w' a6 3 (i6 d2)∧c_ w' b2 0 (i6 b4)∧c_ w' b2 1 (i6 b5)∧c_ w' b2 2 (i6 b6)∧c_ w' b2 3 (i6 b7))∧(b_ w' b2 #[i6 b4,i6 b5,i6 b6,i6 b7] 28)∧(b_ w' d3 #[i6 0,i6 0,i6 0,i6 0] 28)∧(b_ w' a6 #[i6 b9,i6 d0,i6 d1,i6 d2] 28)∧(b_ w' s_ #[i6 0,i6 0,i6 0,i6 0] 28)∧(w.heap.size≤s_)∧(w.heap.size≤s_)∧(b2≠s_)∧(s_≠b2)∧(d3≠s_)∧(s_≠d3)∧(a6≠s_)∧(s_≠a6)∧(Below w.heap.size w w')) ?_ ?_
    rotate_left
    ·intro hCont
     refine tw_ HT_ 1 7 (some 29) (some 9) (bv_ 10 7) (bv_ 10 133) (fun K hK=>?_) (fun K hK=>?_)
     ·skip
      refine gs_ Tryz.func38 #[.agg #[i6 b9,i6 d0,i6 d1,i6 d2]] ?_
      with_reducible refine mo_ (spec_l04Inverse.calls _ A7.out) ?_
      intro m8 hb;replace a1:=bb_ a1 hb;replace a5:=bb_ a5 hb;replace a2:=bb_ a2 hb;replace HB:=bt_ HB hb
      try clear hb
      refine hK.out _ _ ⟨cz_ a2 0,cz_ a2 1,cz_ a2 2,cz_ a2 3,cz_ a1 0,cz_ a1 1,cz_ a1 2,cz_ a1 3⟩ (fun hHeld=>?_)
      clear hK K;refine nm_ (some 29) ?_
      refine tw_ HT_ 3 7 (some 31) (some 9) (bv_ 10 15) (bv_ 10 135) (fun K hK=>?_) (fun K hK=>?_)
      ·skip
       refine gs_ Tryz.func30 #[.agg #[i6 f2,i6 f3,i6 f4,i6 f5],.agg #[i6 b4,i6 b5,i6 b6,i6 b7]] ?_
       with_reducible refine mo_ (spec_l04Times.calls _ A8.out) ?_
       intro l0 hb;replace a1:=bb_ a1 hb;replace a5:=bb_ a5 hb;replace a2:=bb_ a2 hb;replace HB:=bt_ HB hb
       try clear hb
       refine hK.out _ _ ⟨cz_ a2 0,cz_ a2 1,cz_ a2 2,cz_ a2 3,cz_ a1 0,cz_ a1 1,cz_ a1 2,cz_ a1 3⟩ (fun hHeld=>?_)
       clear hK K;refine nm_ (some 31) ?_;refine px_ HT_ 4 27 31 ?_;refine px_ HT_ 5 32 63 ?_;refine px_ HT_ 6 33 127 ?_
       refine on_ HT_ 7 (some 9) (bv_ 10 255) (fun K hK=>?_)
       refine bz_ 9 #[i6 0,i6 0,i6 0,i6 0] 28 ?_
       intro d6 hg l1 a7 hb
       have b3:=bs_ HB hg;have a3:=bm_ a1 hg;have a8:=bn_ a1 hg;have a9:=bm_ a5 hg;have b0:=bn_ a5 hg;have a4:=bm_ a2 hg;have b1:=bn_ a2 hg;replace a1:=bb_ a1 hb;replace a5:=bb_ a5 hb;replace a2:=bb_ a2 hb;replace HB:=bt_ HB hb;clear hb hg
       refine hK.out _ _ ⟨cz_ a2 0,cz_ a2 1,cz_ a2 2,cz_ a2 3,cz_ a1 0,cz_ a1 1,cz_ a1 2,cz_ a1 3⟩ (fun hHeld=>?_)
       clear hK K;refine nm_ (some 9) ?_
       exact norm_ (by simp only[putAll,Act.put,lstS,lstZ,lstC]) (hCont (d6) _ ⟨hHeld,(bl_ a1).out,(bl_ a5).out,(bl_ a2).out,(bl_ a7).out,b3.out,b3.out,a3.out,a8.out,a9.out,b0.out,a4.out,b1.out,(bw_ HB).out⟩)
      skip
      refine bz_ 9 #[i6 0,i6 0,i6 0,i6 0] 28 ?_
      intro d6 hg l0 a7 hb
      have b3:=bs_ HB hg;have a3:=bm_ a1 hg;have a8:=bn_ a1 hg;have a9:=bm_ a5 hg;have b0:=bn_ a5 hg;have a4:=bm_ a2 hg;have b1:=bn_ a2 hg;replace a1:=bb_ a1 hb;replace a5:=bb_ a5 hb;replace a2:=bb_ a2 hb;replace HB:=bt_ HB hb;clear hb hg
      refine hK.out _ _ ⟨cz_ a2 0,cz_ a2 1,cz_ a2 2,cz_ a2 3,cz_ a1 0,cz_ a1 1,cz_ a1 2,cz_ a1 3⟩ (fun hHeld=>?_)
      clear hK K;refine nm_ (some 9) ?_
      refine on_ HT_ 3 (some 31) (bv_ 10 143) (fun K hK=>?_)
      refine gs_ Tryz.func30 #[.agg #[i6 f2,i6 f3,i6 f4,i6 f5],.agg #[i6 b4,i6 b5,i6 b6,i6 b7]] ?_
      with_reducible refine mo_ (spec_l04Times.calls _ A8.out) ?_
      intro l1 hb;replace a1:=bb_ a1 hb;replace a5:=bb_ a5 hb;replace a2:=bb_ a2 hb;replace a7:=bb_ a7 hb;replace HB:=bt_ HB hb
      try clear hb
      refine hK.out _ _ ⟨cz_ a2 0,cz_ a2 1,cz_ a2 2,cz_ a2 3,cz_ a1 0,cz_ a1 1,cz_ a1 2,cz_ a1 3⟩ (fun hHeld=>?_)
      clear hK K;refine nm_ (some 31) ?_;refine px_ HT_ 4 27 159 ?_;refine px_ HT_ 5 32 191 ?_;refine px_ HT_ 6 33 255 ?_
      exact norm_ (by simp only[putAll,Act.put,lstS,lstZ,lstC]) (hCont (d6) _ ⟨hHeld,(bl_ a1).out,(bl_ a5).out,(bl_ a2).out,(bl_ a7).out,b3.out,b3.out,a3.out,a8.out,a9.out,b0.out,a4.out,b1.out,(bw_ HB).out⟩)
     skip
     refine bz_ 9 #[i6 0,i6 0,i6 0,i6 0] 28 ?_
     intro d6 hg m8 a7 hb
     have b3:=bs_ HB hg;have a3:=bm_ a1 hg;have a8:=bn_ a1 hg;have a9:=bm_ a5 hg;have b0:=bn_ a5 hg;have a4:=bm_ a2 hg;have b1:=bn_ a2 hg;replace a1:=bb_ a1 hb;replace a5:=bb_ a5 hb;replace a2:=bb_ a2 hb;replace HB:=bt_ HB hb;clear hb hg
     refine hK.out _ _ ⟨cz_ a2 0,cz_ a2 1,cz_ a2 2,cz_ a2 3,cz_ a1 0,cz_ a1 1,cz_ a1 2,cz_ a1 3⟩ (fun hHeld=>?_)
     clear hK K;refine nm_ (some 9) ?_
     refine on_ HT_ 1 (some 29) (bv_ 10 135) (fun K hK=>?_)
     refine gs_ Tryz.func38 #[.agg #[i6 b9,i6 d0,i6 d1,i6 d2]] ?_
     with_reducible refine mo_ (spec_l04Inverse.calls _ A7.out) ?_
     intro l0 hb;replace a1:=bb_ a1 hb;replace a5:=bb_ a5 hb;replace a2:=bb_ a2 hb;replace a7:=bb_ a7 hb;replace HB:=bt_ HB hb
     try clear hb
     refine hK.out _ _ ⟨cz_ a2 0,cz_ a2 1,cz_ a2 2,cz_ a2 3,cz_ a1 0,cz_ a1 1,cz_ a1 2,cz_ a1 3⟩ (fun hHeld=>?_)
     clear hK K;refine nm_ (some 29) ?_
     refine on_ HT_ 3 (some 31) (bv_ 10 143) (fun K hK=>?_)
     refine gs_ Tryz.func30 #[.agg #[i6 f2,i6 f3,i6 f4,i6 f5],.agg #[i6 b4,i6 b5,i6 b6,i6 b7]] ?_
     with_reducible refine mo_ (spec_l04Times.calls _ A8.out) ?_
     intro l1 hb;replace a1:=bb_ a1 hb;replace a5:=bb_ a5 hb;replace a2:=bb_ a2 hb;replace a7:=bb_ a7 hb;replace HB:=bt_ HB hb
     try clear hb
     refine hK.out _ _ ⟨cz_ a2 0,cz_ a2 1,cz_ a2 2,cz_ a2 3,cz_ a1 0,cz_ a1 1,cz_ a1 2,cz_ a1 3⟩ (fun hHeld=>?_)
     clear hK K;refine nm_ (some 31) ?_;refine px_ HT_ 4 27 159 ?_;refine px_ HT_ 5 32 191 ?_;refine px_ HT_ 6 33 255 ?_
     exact norm_ (by simp only[putAll,Act.put,lstS,lstZ,lstC]) (hCont (d6) _ ⟨hHeld,(bl_ a1).out,(bl_ a5).out,(bl_ a2).out,(bl_ a7).out,b3.out,b3.out,a3.out,a8.out,a9.out,b0.out,a4.out,b1.out,(bw_ HB).out⟩)
    rintro d6 g3 ⟨hS_,h0_,h1_,h2_,h3_,h4_,h5_,h6_,h7_,h8_,h9_,h10_,h11_,h12_⟩
    clear a1 a5 a2 HB;have a1:=Aside0.mk h0_;have a5:=Aside0.mk h1_;have a2:=Aside0.mk h2_;have a7:=Aside0.mk h3_;have b3:=Aside0.mk h4_;have b3:=Aside0.mk h5_;have a3:=Aside0.mk h6_;have a8:=Aside0.mk h7_;have a9:=Aside0.mk h8_;have b0:=Aside0.mk h9_;have a4:=Aside0.mk h10_;have b1:=Aside0.mk h11_;have HB:=Aside0.mk h12_;clear h0_ h1_ h2_ h3_ h4_ h5_ h6_ h7_ h8_ h9_ h10_ h11_ h12_
    have hHeld:c_ g3 a6 0 (i6 b9)∧c_ g3 a6 1 (i6 d0)∧c_ g3 a6 2 (i6 d1)∧c_ g3 a6 3 (i6 d2)∧c_ g3 b2 0 (i6 b4)∧c_ g3 b2 1 (i6 b5)∧c_ g3 b2 2 (i6 b6)∧c_ g3 b2 3 (i6 b7):=hS_
    refine norm_ (a':=?_) ?_ ?_
    rotate_left
    ·simp only[putAll,Act.put,lstS,lstZ,lstC]
     rfl
    refine on_ HT_ 8 none (bv_ 10 511) (fun K hK=>?_)
    have m9:=cz_ a7 0;have l3:=blk_frozen a7.out 0;have i5:=a3.out;have i7:=a9.out;have i8:=a4.out;have i9:=a8.out;have j0:=b0.out;have j1:=b1.out;have n0:=cz_ a7 1;have l4:=blk_frozen a7.out 1;have n1:=cz_ a7 2;have l5:=blk_frozen a7.out 2;have n2:=cz_ a7 3;have l6:=blk_frozen a7.out 3
    refine skip_ (w1:=?_) (by rfl) rfl ?_ ?_
    rotate_left
    ·go_simp
     rfl
    refine hK.out _ _ ⟨(cg_ a4 ((cg_ a4 ((cg_ a4 ((cg_ a4 (hHeld.1)))))))),(cg_ a4 ((cg_ a4 ((cg_ a4 ((cg_ a4 (hHeld.2.1)))))))),(cg_ a4 ((cg_ a4 ((cg_ a4 ((cg_ a4 (hHeld.2.2.1)))))))),(cg_ a4 ((cg_ a4 ((cg_ a4 ((cg_ a4 (hHeld.2.2.2.1)))))))),(cg_ a3 ((cg_ a3 ((cg_ a3 ((cg_ a3 (hHeld.2.2.2.2.1)))))))),(cg_ a3 ((cg_ a3 ((cg_ a3 ((cg_ a3 (hHeld.2.2.2.2.2.1)))))))),(cg_ a3 ((cg_ a3 ((cg_ a3 ((cg_ a3 (hHeld.2.2.2.2.2.2.1)))))))),(cg_ a3 ((cg_ a3 ((cg_ a3 ((cg_ a3 (hHeld.2.2.2.2.2.2.2))))))))⟩ (fun hHeld=>?_)
    clear hK K;refine px_ HT_ 9 10 1023 ?_
    refine done_ (done_of HT_.out (by kernel_rfl)) ?_
    have:=nn_ a8;have:=nn_ b0;have:=nn_ b1;have hz34:=ch4_ a7;have hz35:=ch4_ a5
    try go_wp2
    refine bodyPost_ret (results_ct rfl _ _ d3 28 #[i6 f6,i6 f7,i6 f8,i6 f9] (0,0) _ rfl (bp_ a5).out Tryz.underlying28 rfl (by kernel_rfl)) rfl ?_
    exact⟨es_,(bw_ HB).out⟩
   simp only[Option.some.injEq,Prod.mk.injEq] at H
   obtain⟨rfl,rfl,rfl,rfl,rfl⟩:=H
   go_enter Tryz.func12,Tryz.ntmps12
   try go_wp2_with (first|((refine gd_ 3 ?_);refine by_ 3 #[i6 b4,i6 b5,i6 b6,i6 b7] 28 HB ?_;intro b2 hg o4 a1 hb g0 HB_;replace HB:=HB_;clear hb hg)|((refine gd_ 4 ?_);refine by_ 4 #[i6 0,i6 0,i6 0,i6 0] 28 HB ?_;intro d3 hg o5 a5 hb g1 HB_;have b8:=bm_ a1 hg;have d9:=bn_ a1 hg;replace a1:=bb_ a1 hb;replace HB:=HB_;clear hb hg;have:=nn_ b8;have hz39:=ch4_ a1)|((refine gc_ 35 ?_);refine ge_ 13 Tryz.func35 #[i6 a0,.agg #[i6 b4,i6 b5,i6 b6,i6 b7],.slice none 0 0] ?_;(refine mo_ (spec_l04Code.calls _ _ _ ?f0 ?f1 A3.out (l2:=([]:List (S42)))) ?_);(case f0=>exact Kd.C_nil _ _);(case f1=>exact Nat.le_refl _);intro o6 hb;replace a1:=bb_ a1 hb;replace a5:=bb_ a5 hb;replace HB:=bt_ HB hb;clear hb;have hz41:=ch4_ a1)|((refine gc_ 36 ?_);refine ge_ 21 Tryz.func36 #[i6 a0,.agg #[i6 b4,i6 b5,i6 b6,i6 b7]] ?_;(with_reducible refine mo_ (spec_l10Triangular.calls _ A5.out) ?_);intro o7 hb;replace a1:=bb_ a1 hb;replace a5:=bb_ a5 hb;replace HB:=bt_ HB hb;clear hb)|((refine gd_ 7 ?_);refine by_ 7 #[i6 0,i6 0,i6 0,i6 0] 28 HB ?_;intro a6 hg i4 a2 hb g2 HB_;have d7:=bm_ a1 hg;have d4:=bn_ a1 hg;have d8:=bm_ a5 hg;have d5:=bn_ a5 hg;replace a1:=bb_ a1 hb;replace a5:=bb_ a5 hb;replace HB:=HB_;clear hb hg;have:=nn_ d4;have:=nn_ d5;have hz46:=ch4_ a2))
   have g5:Aside0 (((((i4.setCell ⟨a6,0,none⟩ (i6 b9)).setCell ⟨a6,1,none⟩ (i6 d0)).setCell ⟨a6,2,none⟩ (i6 d1)).setCell ⟨a6,3,none⟩ (i6 d2)).heap[b2]?=some (.cells #[i6 b4,i6 b5,i6 b6,i6 b7] 28 (0,0))):=fl_ a1 d7
   have g6:Aside0 (((((i4.setCell ⟨a6,0,none⟩ (i6 b9)).setCell ⟨a6,1,none⟩ (i6 d0)).setCell ⟨a6,2,none⟩ (i6 d1)).setCell ⟨a6,3,none⟩ (i6 d2)).heap[d3]?=some (.cells #[i6 0,i6 0,i6 0,i6 0] 28 (0,0))):=fl_ a5 d8
   have g7:Aside0 (((((i4.setCell ⟨a6,0,none⟩ (i6 b9)).setCell ⟨a6,1,none⟩ (i6 d0)).setCell ⟨a6,2,none⟩ (i6 d1)).setCell ⟨a6,3,none⟩ (i6 d2)).heap[a6]?=some (.cells #[i6 b9,i6 d0,i6 d1,i6 d2] 28 (0,0))):=bp_ a2
   have g8:Aside0 (Below w.heap.size w ((((i4.setCell ⟨a6,0,none⟩ (i6 b9)).setCell ⟨a6,1,none⟩ (i6 d0)).setCell ⟨a6,2,none⟩ (i6 d1)).setCell ⟨a6,3,none⟩ (i6 d2))):=bw_ HB
   try clear a1
   try clear a5
   try clear a2
   try clear HB
   generalize ((((i4.setCell ⟨a6,0,none⟩ (i6 b9)).setCell ⟨a6,1,none⟩ (i6 d0)).setCell ⟨a6,2,none⟩ (i6 d1)).setCell ⟨a6,3,none⟩ (i6 d2))=n3 at g5 g6 g7 g8⊢
   have a1:=g5
   have a5:=g6
   have a2:=g7
   have HB:=g8
   clear g5 g6 g7 g8;replace a1:=bd_ a1;replace a5:=bd_ a5;replace a2:=bd_ a2;replace HB:=be_ HB
   refine start_ (n:=10) (S:=fun w'=>c_ w' a6 0 (i6 b9)∧c_ w' a6 1 (i6 d0)∧c_ w' a6 2 (i6 d1)∧c_ w' a6 3 (i6 d2)∧c_ w' b2 0 (i6 b4)∧c_ w' b2 1 (i6 b5)∧c_ w' b2 2 (i6 b6)∧c_ w' b2 3 (i6 b7)) (ds:=[]) (bv_ 10 0) (by kernel_rfl) rfl rfl ⟨cz_ a2 0,cz_ a2 1,cz_ a2 2,cz_ a2 3,cz_ a1 0,cz_ a1 1,cz_ a1 2,cz_ a1 3⟩ (fun hHeld=>?_);refine with_tabW spec_UnitPart.tab7 spec_UnitPart.bits7 (fun HT_ HW_=>?_)
   generalize n3.drew=o8 at a1 a5 a2 HB hHeld⊢
   refine ta_ HT_ HW_ 0 (some 28) (bv_ 10 1) hHeld ?_ (hy:=by rintro w' ⟨s0,s1,s2,s3,s4,s5,s6,s7⟩;go_simp;with_reducible rfl)
   refine ta_ HT_ HW_ 2 (some 30) (bv_ 10 5) hHeld ?_ (hy:=by rintro w' ⟨s0,s1,s2,s3,s4,s5,s6,s7⟩;go_simp;with_reducible rfl)
   refine join_ (σ:=Nat) 2 (bv_ 10 255) (fun s_=>[(29,.agg #[i6 f2,i6 f3,i6 f4,i6 f5]),(31,.tuple #[.agg #[i6 f6,i6 f7,i6 f8,i6 f9],.bool false]),(9,.pointer (some ⟨s_,0,none⟩)),(27,.tuple #[.agg #[i6 f6,i6 f7,i6 f8,i6 f9],.bool false]),(32,.agg #[i6 f6,i6 f7,i6 f8,i6 f9]),(33,.bool false)]) (fun s_ w'=>(c_ w' a6 0 (i6 b9)∧c_ w' a6 1 (i6 d0)∧c_ w' a6 2 (i6 d1)∧c_ w' a6 3 (i6 d2)∧c_ w' b2 0 (i6 b4)∧c_ w' b2 1 (i6 b5)∧c_ w' b2 2 (i6 b6)∧c_ w' b2 3 (i6 b7))∧(b_ w' b2 #[i6 b4,i6 b5,i6 b6,i6 b7] 28)∧(b_ w' d3 #[i6 0,i6 0,i6 0,i6 0] 28)∧(b_ w' a6 #[i6 b9,i6 d0,i6 d1,i6 d2] 28)∧(b_ w' s_ #[i6 0,i6 0,i6 0,i6 0] 28)∧(w.heap.size≤s_)∧(w.heap.size≤s_)∧(b2≠s_)∧(s_≠b2)∧(d3≠s_)∧(s_≠d3)∧(a6≠s_)∧(s_≠a6)∧(Below w.heap.size w w')) ?_ ?_
   rotate_left
   ·intro hCont
    refine tw_ HT_ 1 7 (some 29) (some 9) (bv_ 10 7) (bv_ 10 133) (fun K hK=>?_) (fun K hK=>?_)
    ·skip
     refine gs_ Tryz.func38 #[.agg #[i6 b9,i6 d0,i6 d1,i6 d2]] ?_
     with_reducible refine mo_ (spec_l04Inverse.calls _ A7.out) ?_
     intro n4 hb;replace a1:=bb_ a1 hb;replace a5:=bb_ a5 hb;replace a2:=bb_ a2 hb;replace HB:=bt_ HB hb
     try clear hb
     refine hK.out _ _ ⟨cz_ a2 0,cz_ a2 1,cz_ a2 2,cz_ a2 3,cz_ a1 0,cz_ a1 1,cz_ a1 2,cz_ a1 3⟩ (fun hHeld=>?_)
     clear hK K;refine nm_ (some 29) ?_
     refine tw_ HT_ 3 7 (some 31) (some 9) (bv_ 10 15) (bv_ 10 135) (fun K hK=>?_) (fun K hK=>?_)
     ·skip
      refine gs_ Tryz.func30 #[.agg #[i6 f2,i6 f3,i6 f4,i6 f5],.agg #[i6 b4,i6 b5,i6 b6,i6 b7]] ?_
      with_reducible refine mo_ (spec_l04Times.calls _ A8.out) ?_
      intro l7 hb;replace a1:=bb_ a1 hb;replace a5:=bb_ a5 hb;replace a2:=bb_ a2 hb;replace HB:=bt_ HB hb
      try clear hb
      refine hK.out _ _ ⟨cz_ a2 0,cz_ a2 1,cz_ a2 2,cz_ a2 3,cz_ a1 0,cz_ a1 1,cz_ a1 2,cz_ a1 3⟩ (fun hHeld=>?_)
      clear hK K;refine nm_ (some 31) ?_;refine px_ HT_ 4 27 31 ?_;refine px_ HT_ 5 32 63 ?_;refine px_ HT_ 6 33 127 ?_
      refine on_ HT_ 7 (some 9) (bv_ 10 255) (fun K hK=>?_)
      refine bz_ 9 #[i6 0,i6 0,i6 0,i6 0] 28 ?_
      intro d6 hg l8 a7 hb
      have b3:=bs_ HB hg;have a3:=bm_ a1 hg;have a8:=bn_ a1 hg;have a9:=bm_ a5 hg;have b0:=bn_ a5 hg;have a4:=bm_ a2 hg;have b1:=bn_ a2 hg;replace a1:=bb_ a1 hb;replace a5:=bb_ a5 hb;replace a2:=bb_ a2 hb;replace HB:=bt_ HB hb;clear hb hg
      refine hK.out _ _ ⟨cz_ a2 0,cz_ a2 1,cz_ a2 2,cz_ a2 3,cz_ a1 0,cz_ a1 1,cz_ a1 2,cz_ a1 3⟩ (fun hHeld=>?_)
      clear hK K;refine nm_ (some 9) ?_
      exact norm_ (by simp only[putAll,Act.put,lstS,lstZ,lstC]) (hCont (d6) _ ⟨hHeld,(bl_ a1).out,(bl_ a5).out,(bl_ a2).out,(bl_ a7).out,b3.out,b3.out,a3.out,a8.out,a9.out,b0.out,a4.out,b1.out,(bw_ HB).out⟩)
     skip
     refine bz_ 9 #[i6 0,i6 0,i6 0,i6 0] 28 ?_
     intro d6 hg l7 a7 hb
     have b3:=bs_ HB hg;have a3:=bm_ a1 hg;have a8:=bn_ a1 hg;have a9:=bm_ a5 hg;have b0:=bn_ a5 hg;have a4:=bm_ a2 hg;have b1:=bn_ a2 hg;replace a1:=bb_ a1 hb;replace a5:=bb_ a5 hb;replace a2:=bb_ a2 hb;replace HB:=bt_ HB hb;clear hb hg
     refine hK.out _ _ ⟨cz_ a2 0,cz_ a2 1,cz_ a2 2,cz_ a2 3,cz_ a1 0,cz_ a1 1,cz_ a1 2,cz_ a1 3⟩ (fun hHeld=>?_)
     clear hK K;refine nm_ (some 9) ?_
     refine on_ HT_ 3 (some 31) (bv_ 10 143) (fun K hK=>?_)
     refine gs_ Tryz.func30 #[.agg #[i6 f2,i6 f3,i6 f4,i6 f5],.agg #[i6 b4,i6 b5,i6 b6,i6 b7]] ?_
     with_reducible refine mo_ (spec_l04Times.calls _ A8.out) ?_
     intro l8 hb;replace a1:=bb_ a1 hb;replace a5:=bb_ a5 hb;replace a2:=bb_ a2 hb;replace a7:=bb_ a7 hb;replace HB:=bt_ HB hb
     try clear hb
     refine hK.out _ _ ⟨cz_ a2 0,cz_ a2 1,cz_ a2 2,cz_ a2 3,cz_ a1 0,cz_ a1 1,cz_ a1 2,cz_ a1 3⟩ (fun hHeld=>?_)
     clear hK K;refine nm_ (some 31) ?_;refine px_ HT_ 4 27 159 ?_;refine px_ HT_ 5 32 191 ?_;refine px_ HT_ 6 33 255 ?_
     exact norm_ (by simp only[putAll,Act.put,lstS,lstZ,lstC]) (hCont (d6) _ ⟨hHeld,(bl_ a1).out,(bl_ a5).out,(bl_ a2).out,(bl_ a7).out,b3.out,b3.out,a3.out,a8.out,a9.out,b0.out,a4.out,b1.out,(bw_ HB).out⟩)
    skip
    refine bz_ 9 #[i6 0,i6 0,i6 0,i6 0] 28 ?_
    intro d6 hg n4 a7 hb
    have b3:=bs_ HB hg;have a3:=bm_ a1 hg;have a8:=bn_ a1 hg;have a9:=bm_ a5 hg;have b0:=bn_ a5 hg;have a4:=bm_ a2 hg;have b1:=bn_ a2 hg;replace a1:=bb_ a1 hb;replace a5:=bb_ a5 hb;replace a2:=bb_ a2 hb;replace HB:=bt_ HB hb;clear hb hg
    refine hK.out _ _ ⟨cz_ a2 0,cz_ a2 1,cz_ a2 2,cz_ a2 3,cz_ a1 0,cz_ a1 1,cz_ a1 2,cz_ a1 3⟩ (fun hHeld=>?_)
    clear hK K;refine nm_ (some 9) ?_
    refine on_ HT_ 1 (some 29) (bv_ 10 135) (fun K hK=>?_)
    refine gs_ Tryz.func38 #[.agg #[i6 b9,i6 d0,i6 d1,i6 d2]] ?_
    with_reducible refine mo_ (spec_l04Inverse.calls _ A7.out) ?_
    intro l7 hb;replace a1:=bb_ a1 hb;replace a5:=bb_ a5 hb;replace a2:=bb_ a2 hb;replace a7:=bb_ a7 hb;replace HB:=bt_ HB hb
    try clear hb
    refine hK.out _ _ ⟨cz_ a2 0,cz_ a2 1,cz_ a2 2,cz_ a2 3,cz_ a1 0,cz_ a1 1,cz_ a1 2,cz_ a1 3⟩ (fun hHeld=>?_)
    clear hK K;refine nm_ (some 29) ?_
    refine on_ HT_ 3 (some 31) (bv_ 10 143) (fun K hK=>?_)
    refine gs_ Tryz.func30 #[.agg #[i6 f2,i6 f3,i6 f4,i6 f5],.agg #[i6 b4,i6 b5,i6 b6,i6 b7]] ?_
    with_reducible refine mo_ (spec_l04Times.calls _ A8.out) ?_
    intro l8 hb;replace a1:=bb_ a1 hb;replace a5:=bb_ a5 hb;replace a2:=bb_ a2 hb;replace a7:=bb_ a7 hb;replace HB:=bt_ HB hb
    try clear hb
    refine hK.out _ _ ⟨cz_ a2 0,cz_ a2 1,cz_ a2 2,cz_ a2 3,cz_ a1 0,cz_ a1 1,cz_ a1 2,cz_ a1 3⟩ (fun hHeld=>?_)
    clear hK K;refine nm_ (some 31) ?_;refine px_ HT_ 4 27 159 ?_;refine px_ HT_ 5 32 191 ?_;refine px_ HT_ 6 33 255 ?_
    exact norm_ (by simp only[putAll,Act.put,lstS,lstZ,lstC]) (hCont (d6) _ ⟨hHeld,(bl_ a1).out,(bl_ a5).out,(bl_ a2).out,(bl_ a7).out,b3.out,b3.out,a3.out,a8.out,a9.out,b0.out,a4.out,b1.out,(bw_ HB).out⟩)
   rintro d6 g4 ⟨hS_,h0_,h1_,h2_,h3_,h4_,h5_,h6_,h7_,h8_,h9_,h10_,h11_,h12_⟩
   clear a1 a5 a2 HB;have a1:=Aside0.mk h0_;have a5:=Aside0.mk h1_;have a2:=Aside0.mk h2_;have a7:=Aside0.mk h3_;have b3:=Aside0.mk h4_;have b3:=Aside0.mk h5_;have a3:=Aside0.mk h6_;have a8:=Aside0.mk h7_;have a9:=Aside0.mk h8_;have b0:=Aside0.mk h9_;have a4:=Aside0.mk h10_;have b1:=Aside0.mk h11_;have HB:=Aside0.mk h12_;clear h0_ h1_ h2_ h3_ h4_ h5_ h6_ h7_ h8_ h9_ h10_ h11_ h12_
   have hHeld:c_ g4 a6 0 (i6 b9)∧c_ g4 a6 1 (i6 d0)∧c_ g4 a6 2 (i6 d1)∧c_ g4 a6 3 (i6 d2)∧c_ g4 b2 0 (i6 b4)∧c_ g4 b2 1 (i6 b5)∧c_ g4 b2 2 (i6 b6)∧c_ g4 b2 3 (i6 b7):=hS_
   refine norm_ (a':=?_) ?_ ?_
   rotate_left
   ·simp only[putAll,Act.put,lstS,lstZ,lstC]
    rfl
   refine on_ HT_ 8 none (bv_ 10 511) (fun K hK=>?_)
   have n5:=cz_ a7 0;have l9:=blk_frozen a7.out 0;have j2:=a3.out;have j3:=a9.out;have j4:=a4.out;have j5:=a8.out;have j6:=b0.out;have j7:=b1.out;have n6:=cz_ a7 1;have m1:=blk_frozen a7.out 1;have n7:=cz_ a7 2;have m2:=blk_frozen a7.out 2;have n8:=cz_ a7 3;have m3:=blk_frozen a7.out 3
   refine skip_ (w1:=?_) (by rfl) rfl ?_ ?_
   rotate_left
   ·go_simp
    rfl
   refine hK.out _ _ ⟨(cg_ a4 ((cg_ a4 ((cg_ a4 ((cg_ a4 (hHeld.1)))))))),(cg_ a4 ((cg_ a4 ((cg_ a4 ((cg_ a4 (hHeld.2.1)))))))),(cg_ a4 ((cg_ a4 ((cg_ a4 ((cg_ a4 (hHeld.2.2.1)))))))),(cg_ a4 ((cg_ a4 ((cg_ a4 ((cg_ a4 (hHeld.2.2.2.1)))))))),(cg_ a3 ((cg_ a3 ((cg_ a3 ((cg_ a3 (hHeld.2.2.2.2.1)))))))),(cg_ a3 ((cg_ a3 ((cg_ a3 ((cg_ a3 (hHeld.2.2.2.2.2.1)))))))),(cg_ a3 ((cg_ a3 ((cg_ a3 ((cg_ a3 (hHeld.2.2.2.2.2.2.1)))))))),(cg_ a3 ((cg_ a3 ((cg_ a3 ((cg_ a3 (hHeld.2.2.2.2.2.2.2))))))))⟩ (fun hHeld=>?_)
   clear hK K;refine px_ HT_ 9 10 1023 ?_
   refine done_ (done_of HT_.out (by kernel_rfl)) ?_
   have:=nn_ a9;have hz58:=ch4_ a5
   try go_wp2
   refine bodyPost_ret (results_ct rfl _ _ d3 28 #[i6 0,i6 0,i6 0,i6 0] (0,0) _ rfl (bp_ a5).out Tryz.underlying28 rfl (by kernel_rfl)) rfl ?_
   exact⟨es_,(bw_ HB).out⟩
  simp only[Option.some.injEq,Prod.mk.injEq] at H
  obtain⟨rfl,rfl,rfl,rfl,rfl⟩:=H
  go_enter Tryz.func12,Tryz.ntmps12
  go_wp2_with (first|((refine gd_ 3 ?_);refine by_ 3 #[i6 b4,i6 b5,i6 b6,i6 b7] 28 HB ?_;intro b2 hg o9 a1 hb g0 HB_;replace HB:=HB_;clear hb hg)|((refine gd_ 4 ?_);refine by_ 4 #[i6 0,i6 0,i6 0,i6 0] 28 HB ?_;intro d3 hg p0 a5 hb g1 HB_;have b8:=bm_ a1 hg;have d9:=bn_ a1 hg;replace a1:=bb_ a1 hb;replace HB:=HB_;clear hb hg;have:=nn_ b8;have hz62:=ch4_ a1)|((refine gc_ 35 ?_);refine ge_ 13 Tryz.func35 #[i6 a0,.agg #[i6 b4,i6 b5,i6 b6,i6 b7],.slice none 0 0] ?_;(refine mo_ (spec_l04Code.calls _ _ _ ?f0 ?f1 A3.out (l2:=([]:List (S42)))) ?_);(case f0=>exact Kd.C_nil _ _);(case f1=>exact Nat.le_refl _);intro p1 hb;replace a1:=bb_ a1 hb;replace a5:=bb_ a5 hb;replace HB:=bt_ HB hb;clear hb;have hz64:=ch4_ a1)|((refine gc_ 36 ?_);refine ge_ 21 Tryz.func36 #[i6 a0,.agg #[i6 b4,i6 b5,i6 b6,i6 b7]] ?_;(with_reducible refine mo_ (spec_l10Triangular.calls _ A5.out) ?_);intro p2 hb;replace a1:=bb_ a1 hb;replace a5:=bb_ a5 hb;replace HB:=bt_ HB hb;clear hb)|((refine gd_ 7 ?_);refine by_ 7 #[i6 0,i6 0,i6 0,i6 0] 28 HB ?_;intro a6 hg p3 a2 hb g2 HB_;have d7:=bm_ a1 hg;have d4:=bn_ a1 hg;have d8:=bm_ a5 hg;have d5:=bn_ a5 hg;replace a1:=bb_ a1 hb;replace a5:=bb_ a5 hb;replace HB:=HB_;clear hb hg;have:=nn_ d4;have:=nn_ d5;have hz69:=ch4_ a2;have hz70:=ch4_ a5))
  refine bodyPost_ret (results_ct rfl _ _ d3 28 #[i6 0,i6 0,i6 0,i6 0] (0,0) _ rfl (bp_ a5).out Tryz.underlying28 rfl (by kernel_rfl)) rfl ?_
  exact⟨es_,(bw_ HB).out⟩
 simp only[Option.some.injEq,Prod.mk.injEq] at H
 obtain⟨rfl,rfl,rfl,rfl,rfl⟩:=H
 go_enter Tryz.func12,Tryz.ntmps12
 go_wp2_with (first|((refine gd_ 3 ?_);refine by_ 3 #[i6 b4,i6 b5,i6 b6,i6 b7] 28 HB ?_;intro b2 hg p4 a1 hb g0 HB_;replace HB:=HB_;clear hb hg)|((refine gd_ 4 ?_);refine by_ 4 #[i6 0,i6 0,i6 0,i6 0] 28 HB ?_;intro d3 hg p5 a5 hb g1 HB_;have b8:=bm_ a1 hg;have d9:=bn_ a1 hg;replace a1:=bb_ a1 hb;replace HB:=HB_;clear hb hg;have:=nn_ b8;have hz74:=ch4_ a1)|((refine gc_ 35 ?_);refine ge_ 13 Tryz.func35 #[i6 a0,.agg #[i6 b4,i6 b5,i6 b6,i6 b7],.slice none 0 0] ?_;(refine mo_ (spec_l04Code.calls _ _ _ ?f0 ?f1 A3.out (l2:=([]:List (S42)))) ?_);(case f0=>exact Kd.C_nil _ _);(case f1=>exact Nat.le_refl _);intro p6 hb;replace a1:=bb_ a1 hb;replace a5:=bb_ a5 hb;replace HB:=bt_ HB hb;clear hb;have hz76:=ch4_ a5))
 refine bodyPost_ret (results_ct rfl _ _ d3 28 #[i6 0,i6 0,i6 0,i6 0] (0,0) _ rfl (bp_ a5).out Tryz.underlying28 rfl (by kernel_rfl)) rfl ?_
 exact⟨es_,(bw_ HB).out⟩
/-! ### impl_IsUnitMatrix: function 13 -/
def impl_IsUnitMatrix.f (k:Nat) (a0 a1_0 a1_1 a1_2 a1_3:Int):Option (Bool×Int):=(impl_partCode.f k a0 a1_0 a1_1 a1_2 a1_3).bind fun t670=>(if t670=0 then((impl_reduce.f k a1_0 a1_1 a1_2 a1_3).bind fun bt671=>((impl_determinant.f bt671.1 bt671.2.1 bt671.2.2.1 bt671.2.2.2).bind fun t675=>(if a0=0 then(none) else(some (((Int.tmod t675 a0)!=0),0))))) else(some (false,t670)))
theorem impl_IsUnitMatrix.calls {k:Nat} {a0 a2 a3 a4 a5:Int} {r1:Bool} {r2:Int} (w:World) (h:impl_IsUnitMatrix.f k a0 a2 a3 a4 a5=some (r1,r2)):
  Calls Tryz.prog 13 #[i6 a0,.agg #[i6 a2,i6 a3,i6 a4,i6 a5]] w fun e w'=>e= .returned (.tuple #[.bool r1,i6 r2])∧Below w.heap.size w w':=by
 have hu28:=Tryz.underlying28
 have HB:=Aside0.mk (Below.refl w.heap.size w)
 unfold impl_IsUnitMatrix.f at h;have H:=h;clear h;replace H:=oc_ H;obtain⟨b4,A3,H⟩:=H;replace H:=ie_ H
 rcases H with ⟨a8,a9,H⟩|⟨c4,a8,a9,H⟩
 ·replace H:=oc_ H
  obtain⟨⟨b0,b1,b2,b3⟩,A5,H⟩:=H;replace H:=oc_ H;obtain⟨b5,A6,H⟩:=H;replace H:=ief_ H;obtain⟨c7,b6,b7,H⟩:=H
  simp only[Option.some.injEq,Prod.mk.injEq] at H
  obtain⟨rfl,rfl⟩:=H
  go_enter Tryz.func13,Tryz.ntmps13
  go_wp2_with (first|((refine gd_ 3 ?_);refine by_ 3 #[i6 a2,i6 a3,i6 a4,i6 a5] 28 HB ?_;intro a6 hg w8 a1 hb a7 HB_;replace HB:=HB_;clear hb hg;have hz9:=ch4_ a1)|((refine gc_ 32 ?_);refine ge_ 9 Tryz.func32 #[i6 a0,.agg #[i6 a2,i6 a3,i6 a4,i6 a5]] ?_;(with_reducible refine mo_ (impl_partCode.calls _ A3.out) ?_);intro b8 hb;replace a1:=bb_ a1 hb;replace HB:=bt_ HB hb;clear hb;have hz11:=ch4_ a1)|((refine gc_ 40 ?_);refine ge_ 14 Tryz.func40 #[.agg #[i6 a2,i6 a3,i6 a4,i6 a5]] ?_;(with_reducible refine mo_ (impl_reduce.calls _ A5.out) ?_);intro b9 hb;replace a1:=bb_ a1 hb;replace HB:=bt_ HB hb;clear hb)|((refine gc_ 39 ?_);refine ge_ 15 Tryz.func39 #[.agg #[i6 b0,i6 b1,i6 b2,i6 b3]] ?_;(with_reducible refine mo_ (impl_determinant.calls _ A6.out) ?_);intro d0 hb;replace a1:=bb_ a1 hb;replace HB:=bt_ HB hb;clear hb))
  go_ret2
  exact⟨es_,(bw_ HB).out⟩
 simp only[Option.some.injEq,Prod.mk.injEq] at H
 obtain⟨rfl,rfl⟩:=H
 go_enter Tryz.func13,Tryz.ntmps13
 go_wp2_with (first|((refine gd_ 3 ?_);refine by_ 3 #[i6 a2,i6 a3,i6 a4,i6 a5] 28 HB ?_;intro a6 hg d1 a1 hb a7 HB_;replace HB:=HB_;clear hb hg;have hz15:=ch4_ a1)|((refine gc_ 32 ?_);refine ge_ 9 Tryz.func32 #[i6 a0,.agg #[i6 a2,i6 a3,i6 a4,i6 a5]] ?_;(with_reducible refine mo_ (impl_partCode.calls _ A3.out) ?_);intro d2 hb;replace a1:=bb_ a1 hb;replace HB:=bt_ HB hb;clear hb))
 go_ret2
 exact⟨es_,(bw_ HB).out⟩
/-! ### spec_l10Position: function 41 -/
def spec_l10Position.f (k:Nat) (a0 a1_0 a1_1 a1_2 a1_3:Int):Option (Int):=(spec_l04Reduce.f k a1_0 a1_1 a1_2 a1_3).bind fun bt677=>((spec_l04Det.f bt677.1 bt677.2.1 bt677.2.2.1 bt677.2.2.2.1).bind fun t683=>((spec_l01Val.f k a0 t683).bind fun t684=>(some t684)))
theorem spec_l10Position.calls {k:Nat} {a0 a5 a6 a7 a8 r:Int} (w:World) (h:spec_l10Position.f k a0 a5 a6 a7 a8=some r):
  Calls Tryz.prog 41 #[i6 a0,.agg #[i6 a5,i6 a6,i6 a7,i6 a8]] w fun e w'=>e= .returned (i6 r)∧Below w.heap.size w w':=by
 have hu28:=Tryz.underlying28
 have HB:=Aside0.mk (Below.refl w.heap.size w)
 unfold spec_l10Position.f at h;have H:=h;clear h;replace H:=oc_ H;obtain⟨⟨a9,b0,b1,b2,b8⟩,A3,H⟩:=H;replace H:=oc_ H;obtain⟨b4,A4,H⟩:=H;replace H:=oc_ H;obtain⟨b9,A5,H⟩:=H
 obtain rfl:=si_ H
 go_enter Tryz.func41,Tryz.ntmps41
 go_wp2_with (first|((refine gd_ 3 ?_);refine by_ 3 #[i6 a5,i6 a6,i6 a7,i6 a8] 28 HB ?_;intro b5 hg w6 a1 hb b6 HB_;replace HB:=HB_;clear hb hg;have hz7:=ch4_ a1)|((refine gc_ 58 ?_);refine ge_ 9 Tryz.func58 #[.agg #[i6 a5,i6 a6,i6 a7,i6 a8]] ?_;(with_reducible refine mo_ (spec_l04Reduce.calls _ A3.out) ?_);intro w8 hb;replace a1:=bb_ a1 hb;replace HB:=bt_ HB hb;clear hb)|((refine gd_ 5 ?_);refine by_ 5 #[i6 0,i6 0,i6 0,i6 0] 28 HB ?_;intro b3 hg w9 a4 hb b7 HB_;have a2:=bm_ a1 hg;have a3:=bn_ a1 hg;replace a1:=bb_ a1 hb;replace HB:=HB_;clear hb hg;have:=nn_ a3;have hz11:=ch4_ a4)|((refine gc_ 68 ?_);refine ge_ 14 Tryz.func68 #[.agg #[i6 a9,i6 b0,i6 b1,i6 b2]] ?_;(with_reducible refine mo_ (spec_l04Det.calls _ A4.out) ?_);intro d0 hb;replace a1:=fb_ a1 a2 hb;replace a4:=Aside0.mk (blk_below (g:=b3) (o:= .cells #[i6 a9,i6 b0,i6 b1,i6 b2] 28 (0,0)) (bp_ a4).out hb);replace HB:=bt_ HB hb;(try clear hb))|((refine gc_ 67 ?_);refine ge_ 15 Tryz.func67 #[i6 a0,i6 b4] ?_;(with_reducible refine mo_ (spec_l01Val.calls _ A5.out) ?_);rintro w' ⟨nd,rfl⟩))
 go_ret;exact⟨es_,(bw_ HB).out⟩
/-! ### spec_IsUnitMatrix: function 14 -/
def spec_IsUnitMatrix.f (k:Nat) (a0 a1_0 a1_1 a1_2 a1_3:Int):Option (Bool×Int):=(spec_l04Code.f k a0 a1_0 a1_1 a1_2 a1_3 ([]:List (S42))).bind fun t686=>(if t686=0 then((spec_l10Position.f k a0 a1_0 a1_1 a1_2 a1_3).bind fun t687=>(some ((t687==0),0))) else(some (false,t686)))
theorem spec_IsUnitMatrix.calls {k:Nat} {a0 a2 a3 a4 a5:Int} {r1:Bool} {r2:Int} (w:World) (h:spec_IsUnitMatrix.f k a0 a2 a3 a4 a5=some (r1,r2)):
  Calls Tryz.prog 14 #[i6 a0,.agg #[i6 a2,i6 a3,i6 a4,i6 a5]] w fun e w'=>e= .returned (.tuple #[.bool r1,i6 r2])∧Below w.heap.size w w':=by
 have hu28:=Tryz.underlying28
 have HB:=Aside0.mk (Below.refl w.heap.size w)
 unfold spec_IsUnitMatrix.f at h;have H:=h;clear h;replace H:=oc_ H;obtain⟨b2,A3,H⟩:=H;replace H:=ie_ H
 rcases H with ⟨b0,b1,H⟩|⟨c4,b0,b1,H⟩
 ·replace H:=oc_ H
  obtain⟨b3,A5,H⟩:=H
  simp only[Option.some.injEq,Prod.mk.injEq] at H
  obtain⟨rfl,rfl⟩:=H
  go_enter Tryz.func14,Tryz.ntmps14
  go_wp2_with (first|((refine gd_ 3 ?_);refine by_ 3 #[i6 a2,i6 a3,i6 a4,i6 a5] 28 HB ?_;intro a8 hg w6 a1 hb a9 HB_;replace HB:=HB_;clear hb hg;have hz7:=ch4_ a1)|((refine gc_ 35 ?_);refine ge_ 9 Tryz.func35 #[i6 a0,.agg #[i6 a2,i6 a3,i6 a4,i6 a5],.slice none 0 0] ?_;(refine mo_ (spec_l04Code.calls _ _ _ ?a6 ?a7 A3.out (l2:=([]:List (S42)))) ?_);(case a6=>exact Kd.C_nil _ _);(case a7=>exact Nat.le_refl _);intro w8 hb;replace a1:=bb_ a1 hb;replace HB:=bt_ HB hb;clear hb;have hz9:=ch4_ a1)|((refine gc_ 41 ?_);refine ge_ 15 Tryz.func41 #[i6 a0,.agg #[i6 a2,i6 a3,i6 a4,i6 a5]] ?_;(with_reducible refine mo_ (spec_l10Position.calls _ A5.out) ?_);intro b4 hb;replace a1:=bb_ a1 hb;replace HB:=bt_ HB hb;clear hb))
  go_ret2
  exact⟨es_,(bw_ HB).out⟩
 simp only[Option.some.injEq,Prod.mk.injEq] at H
 obtain⟨rfl,rfl⟩:=H
 go_enter Tryz.func14,Tryz.ntmps14
 go_wp2_with (first|((refine gd_ 3 ?_);refine by_ 3 #[i6 a2,i6 a3,i6 a4,i6 a5] 28 HB ?_;intro a8 hg b5 a1 hb a9 HB_;replace HB:=HB_;clear hb hg;have hz12:=ch4_ a1)|((refine gc_ 35 ?_);refine ge_ 9 Tryz.func35 #[i6 a0,.agg #[i6 a2,i6 a3,i6 a4,i6 a5],.slice none 0 0] ?_;(refine mo_ (spec_l04Code.calls _ _ _ ?a6 ?a7 A3.out (l2:=([]:List (S42)))) ?_);(case a6=>exact Kd.C_nil _ _);(case a7=>exact Nat.le_refl _);intro b6 hb;replace a1:=bb_ a1 hb;replace HB:=bt_ HB hb;clear hb))
 go_ret2
 exact⟨es_,(bw_ HB).out⟩
/-! ### impl_MatrixPosition: function 15 -/
def impl_MatrixPosition.f (k:Nat) (a0 a1_0 a1_1 a1_2 a1_3:Int):Option (Int×Int):=(impl_partCode.f k a0 a1_0 a1_1 a1_2 a1_3).bind fun t689=>(if t689=0 then((impl_reduce.f k a1_0 a1_1 a1_2 a1_3).bind fun bt690=>((impl_determinant.f bt690.1 bt690.2.1 bt690.2.2.1 bt690.2.2.2).bind fun t694=>((impl_valuation.f k a0 t694).bind fun t695=>(some (t695,0))))) else(some (0,t689)))
theorem impl_MatrixPosition.calls {k:Nat} {a0 a2 a3 a4 a5 r1 r2:Int} (w:World) (h:impl_MatrixPosition.f k a0 a2 a3 a4 a5=some (r1,r2)):
  Calls Tryz.prog 15 #[i6 a0,.agg #[i6 a2,i6 a3,i6 a4,i6 a5]] w fun e w'=>e= .returned (.tuple #[i6 r1,i6 r2])∧Below w.heap.size w w':=by
 have hu28:=Tryz.underlying28
 have HB:=Aside0.mk (Below.refl w.heap.size w)
 unfold impl_MatrixPosition.f at h;have H:=h;clear h;replace H:=oc_ H;obtain⟨b5,A3,H⟩:=H;replace H:=ie_ H
 rcases H with ⟨a8,a9,H⟩|⟨c4,a8,a9,H⟩
 ·replace H:=oc_ H
  obtain⟨⟨b0,b1,b2,b3⟩,A5,H⟩:=H;replace H:=oc_ H;obtain⟨b4,A6,H⟩:=H;replace H:=oc_ H;obtain⟨b6,A7,H⟩:=H
  simp only[Option.some.injEq,Prod.mk.injEq] at H
  obtain⟨rfl,rfl⟩:=H
  go_enter Tryz.func15,Tryz.ntmps15
  go_wp2_with (first|((refine gd_ 3 ?_);refine by_ 3 #[i6 a2,i6 a3,i6 a4,i6 a5] 28 HB ?_;intro a6 hg w8 a1 hb a7 HB_;replace HB:=HB_;clear hb hg;have hz9:=ch4_ a1)|((refine gc_ 32 ?_);refine ge_ 9 Tryz.func32 #[i6 a0,.agg #[i6 a2,i6 a3,i6 a4,i6 a5]] ?_;(with_reducible refine mo_ (impl_partCode.calls _ A3.out) ?_);intro b7 hb;replace a1:=bb_ a1 hb;replace HB:=bt_ HB hb;clear hb;have hz11:=ch4_ a1)|((refine gc_ 40 ?_);refine ge_ 15 Tryz.func40 #[.agg #[i6 a2,i6 a3,i6 a4,i6 a5]] ?_;(with_reducible refine mo_ (impl_reduce.calls _ A5.out) ?_);intro b8 hb;replace a1:=bb_ a1 hb;replace HB:=bt_ HB hb;clear hb)|((refine gc_ 39 ?_);refine ge_ 16 Tryz.func39 #[.agg #[i6 b0,i6 b1,i6 b2,i6 b3]] ?_;(with_reducible refine mo_ (impl_determinant.calls _ A6.out) ?_);intro b9 hb;replace a1:=bb_ a1 hb;replace HB:=bt_ HB hb;clear hb)|((refine gc_ 42 ?_);refine ge_ 17 Tryz.func42 #[i6 a0,i6 b4] ?_;(with_reducible refine mo_ (impl_valuation.calls _ A7.out) ?_);rintro w' ⟨nd,rfl⟩))
  go_ret2
  exact⟨es_,(bw_ HB).out⟩
 simp only[Option.some.injEq,Prod.mk.injEq] at H
 obtain⟨rfl,rfl⟩:=H
 go_enter Tryz.func15,Tryz.ntmps15
 go_wp2_with (first|((refine gd_ 3 ?_);refine by_ 3 #[i6 a2,i6 a3,i6 a4,i6 a5] 28 HB ?_;intro a6 hg d0 a1 hb a7 HB_;replace HB:=HB_;clear hb hg;have hz15:=ch4_ a1)|((refine gc_ 32 ?_);refine ge_ 9 Tryz.func32 #[i6 a0,.agg #[i6 a2,i6 a3,i6 a4,i6 a5]] ?_;(with_reducible refine mo_ (impl_partCode.calls _ A3.out) ?_);intro d1 hb;replace a1:=bb_ a1 hb;replace HB:=bt_ HB hb;clear hb))
 go_ret2
 exact⟨es_,(bw_ HB).out⟩
/-! ### spec_MatrixPosition: function 16 -/
def spec_MatrixPosition.f (k:Nat) (a0 a1_0 a1_1 a1_2 a1_3:Int):Option (Int×Int):=(spec_l04Code.f k a0 a1_0 a1_1 a1_2 a1_3 ([]:List (S42))).bind fun t697=>(if t697=0 then((spec_l10Position.f k a0 a1_0 a1_1 a1_2 a1_3).bind fun t698=>(some (t698,0))) else(some (0,t697)))
theorem spec_MatrixPosition.calls {k:Nat} {a0 a2 a3 a4 a5 r1 r2:Int} (w:World) (h:spec_MatrixPosition.f k a0 a2 a3 a4 a5=some (r1,r2)):
  Calls Tryz.prog 16 #[i6 a0,.agg #[i6 a2,i6 a3,i6 a4,i6 a5]] w fun e w'=>e= .returned (.tuple #[i6 r1,i6 r2])∧Below w.heap.size w w':=by
 have hu28:=Tryz.underlying28
 have HB:=Aside0.mk (Below.refl w.heap.size w)
 unfold spec_MatrixPosition.f at h;have H:=h;clear h;replace H:=oc_ H;obtain⟨b2,A3,H⟩:=H;replace H:=ie_ H
 rcases H with ⟨b0,b1,H⟩|⟨c4,b0,b1,H⟩
 ·replace H:=oc_ H
  obtain⟨b3,A5,H⟩:=H
  simp only[Option.some.injEq,Prod.mk.injEq] at H
  obtain⟨rfl,rfl⟩:=H
  go_enter Tryz.func16,Tryz.ntmps16
  go_wp2_with (first|((refine gd_ 3 ?_);refine by_ 3 #[i6 a2,i6 a3,i6 a4,i6 a5] 28 HB ?_;intro a8 hg w6 a1 hb a9 HB_;replace HB:=HB_;clear hb hg;have hz7:=ch4_ a1)|((refine gc_ 35 ?_);refine ge_ 9 Tryz.func35 #[i6 a0,.agg #[i6 a2,i6 a3,i6 a4,i6 a5],.slice none 0 0] ?_;(refine mo_ (spec_l04Code.calls _ _ _ ?a6 ?a7 A3.out (l2:=([]:List (S42)))) ?_);(case a6=>exact Kd.C_nil _ _);(case a7=>exact Nat.le_refl _);intro w8 hb;replace a1:=bb_ a1 hb;replace HB:=bt_ HB hb;clear hb;have hz9:=ch4_ a1)|((refine gc_ 41 ?_);refine ge_ 15 Tryz.func41 #[i6 a0,.agg #[i6 a2,i6 a3,i6 a4,i6 a5]] ?_;(with_reducible refine mo_ (spec_l10Position.calls _ A5.out) ?_);intro b4 hb;replace a1:=bb_ a1 hb;replace HB:=bt_ HB hb;clear hb))
  go_ret2
  exact⟨es_,(bw_ HB).out⟩
 simp only[Option.some.injEq,Prod.mk.injEq] at H
 obtain⟨rfl,rfl⟩:=H
 go_enter Tryz.func16,Tryz.ntmps16
 go_wp2_with (first|((refine gd_ 3 ?_);refine by_ 3 #[i6 a2,i6 a3,i6 a4,i6 a5] 28 HB ?_;intro a8 hg b5 a1 hb a9 HB_;replace HB:=HB_;clear hb hg;have hz12:=ch4_ a1)|((refine gc_ 35 ?_);refine ge_ 9 Tryz.func35 #[i6 a0,.agg #[i6 a2,i6 a3,i6 a4,i6 a5],.slice none 0 0] ?_;(refine mo_ (spec_l04Code.calls _ _ _ ?a6 ?a7 A3.out (l2:=([]:List (S42)))) ?_);(case a6=>exact Kd.C_nil _ _);(case a7=>exact Nat.le_refl _);intro b6 hb;replace a1:=bb_ a1 hb;replace HB:=bt_ HB hb;clear hb))
 go_ret2
 exact⟨es_,(bw_ HB).out⟩
/-! ### impl_joinLevel: function 80 -/
def impl_joinLevel.f (k:Nat) (a0 a1_0 a1_1 a1_2 a2_0 a2_1 a2_2:Int):Option (Int):=(impl_mark.f k a0 a1_0 a1_1 a1_2).bind fun t701=>((impl_mark.f k a0 a2_0 a2_1 a2_2).bind fun t702=>((impl_valuation.f k a0 (wrap64 (t701 - t702))).bind fun t703=>(some (mn (mn a1_0 a2_0) (wrap64 (t703 - 6))))))
def impl_joinLevel.T1:Bool×List (List Nat×List Nat):=(true,[([],[]),([0],[0]),([],[]),([2],[2]),([],[]),([],[]),([],[]),([5,6],[5,6]),([],[]),([],[]),([8,9,7],[8,9]),([7,10],[7,10]),([4,11,10],[4,11]),([12],[12]),([1,3,13],[1,3,13]),([14,12,0,1,2,3,4,5,6,7,8,9,10,11,12,13,14],[14])])
def impl_joinLevel.B1:List Nat:=[0,1,0,4,0,0,0,96,0,0,992,2016,4080,8176,16383,32767]
theorem impl_joinLevel.tab1:rtab .any (opsOf Tryz.f80 1)=impl_joinLevel.T1:=by kernel_rfl
theorem impl_joinLevel.bits1:waitsOk impl_joinLevel.T1.2 impl_joinLevel.B1=true:=by kernel_rfl
theorem impl_joinLevel.calls {k:Nat} {a0 a3 a7 a8 a4 a9 b0 r:Int} (w:World) (h:impl_joinLevel.f k a0 a3 a7 a8 a4 a9 b0=some r):
  Calls Tryz.prog 80 #[i6 a0,.agg #[i6 a3,i6 a7,i6 a8],.agg #[i6 a4,i6 a9,i6 b0]] w fun e w'=>e= .returned (i6 r)∧Below w.heap.size w w':=by
 have hu42:=Tryz.underlying42
 have HB:=Aside0.mk (Below.refl w.heap.size w)
 unfold impl_joinLevel.f at h;have H:=h;clear h;replace H:=oc_ H;obtain⟨b7,A4,H⟩:=H;replace H:=oc_ H;obtain⟨b8,A5,H⟩:=H;replace H:=oc_ H;obtain⟨b3,A6,H⟩:=H
 obtain⟨b6,a5⟩:∃j_:Int,(mn a3 a4)=j_:=⟨_,rfl⟩
 simp only[a5] at H
 (try rw[a5] at A4)
 (try rw[a5] at A5)
 (try rw[a5] at A6)
 have b9: (if a4<a3 then a4 else a3)=b6:=a5
 obtain⟨d3,a6⟩:∃j_:Int,(mn (b6) (wrap64 (b3 - 6)))=j_:=⟨_,rfl⟩
 simp only[a6] at H
 (try rw[a6] at A4)
 (try rw[a6] at A5)
 (try rw[a6] at A6)
 have d0: (if (wrap64 (b3 - 6))<(b6) then(wrap64 (b3 - 6)) else(b6))=d3:=a6
 obtain rfl:=si_ H
 go_enter Tryz.func80,Tryz.ntmps80
 try go_wp2_with (first|((refine gd_ 4 ?_);refine by_ 4 #[i6 a3,i6 a7,i6 a8] 42 HB ?_;intro b1 hg w9 a1 hb d1 HB_;replace HB:=HB_;clear hb hg)|((refine gd_ 5 ?_);refine by_ 5 #[i6 a4,i6 a9,i6 b0] 42 HB ?_;intro b2 hg d4 a2 hb d2 HB_;have b4:=bm_ a1 hg;have b5:=bn_ a1 hg;replace a1:=bb_ a1 hb;replace HB:=HB_;clear hb hg))
 replace a1:=bd_ a1;replace a2:=bd_ a2;replace HB:=be_ HB
 refine start_ (n:=16) (S:=fun w'=>c_ w' b1 0 (i6 a3)∧c_ w' b1 1 (i6 a7)∧c_ w' b1 2 (i6 a8)∧c_ w' b2 0 (i6 a4)∧c_ w' b2 1 (i6 a9)∧c_ w' b2 2 (i6 b0)) (ds:=[]) (bv_ 16 0) (by kernel_rfl) rfl rfl ⟨cz_ a1 0,cz_ a1 1,cz_ a1 2,cz_ a2 0,cz_ a2 1,cz_ a2 2⟩ (fun hHeld=>?_);refine with_tabW impl_joinLevel.tab1 impl_joinLevel.bits1 (fun HT_ HW_=>?_)
 generalize d4.drew=d5 at a1 a2 HB hHeld⊢
 refine px_ HT_ 0 7 1 ?_;refine px_ HT_ 2 9 5 ?_;refine px_ HT_ 4 11 21 ?_;refine px_ HT_ 5 12 53 ?_;refine px_ HT_ 8 15 309 ?_
 refine ta_ HT_ HW_ 1 (some 8) (bv_ 16 311) hHeld ?_ (hy:=by rintro w' ⟨s0,s1,s2,s3,s4,s5⟩;go_simp;with_reducible rfl)
 refine ta_ HT_ HW_ 3 (some 10) (bv_ 16 319) hHeld ?_ (hy:=by rintro w' ⟨s0,s1,s2,s3,s4,s5⟩;go_simp;with_reducible rfl)
 refine ta_ HT_ HW_ 6 (some 13) (bv_ 16 383) hHeld ?_ (hy:=by rintro w' ⟨s0,s1,s2,s3,s4,s5⟩;go_simp;with_reducible rfl)
 refine ta_ HT_ HW_ 9 (some 16) (bv_ 16 895) hHeld ?_ (hy:=by rintro w' ⟨s0,s1,s2,s3,s4,s5⟩;go_simp;with_reducible rfl)
 refine on_ HT_ 7 (some 14) (bv_ 16 1023) (fun K hK=>?_)
 refine gs_ Tryz.func69 #[i6 a0,.agg #[i6 a3,i6 a7,i6 a8]] ?_
 with_reducible refine mo_ (impl_mark.calls _ A4.out) ?_
 intro d6 hb;replace a1:=bb_ a1 hb;replace a2:=bb_ a2 hb;replace HB:=bt_ HB hb
 try clear hb
 refine hK.out _ _ ⟨cz_ a1 0,cz_ a1 1,cz_ a1 2,cz_ a2 0,cz_ a2 1,cz_ a2 2⟩ (fun hHeld=>?_)
 clear hK K;refine nm_ (some 14) ?_
 refine on_ HT_ 10 (some 17) (bv_ 16 2047) (fun K hK=>?_)
 refine gs_ Tryz.func69 #[i6 a0,.agg #[i6 a4,i6 a9,i6 b0]] ?_
 with_reducible refine mo_ (impl_mark.calls _ A5.out) ?_
 intro d7 hb;replace a1:=bb_ a1 hb;replace a2:=bb_ a2 hb;replace HB:=bt_ HB hb
 try clear hb
 refine hK.out _ _ ⟨cz_ a1 0,cz_ a1 1,cz_ a1 2,cz_ a2 0,cz_ a2 1,cz_ a2 2⟩ (fun hHeld=>?_)
 clear hK K;refine nm_ (some 17) ?_;refine px_ HT_ 11 18 4095 ?_
 refine on_ HT_ 12 (some 19) (bv_ 16 8191) (fun K hK=>?_)
 refine gs_ Tryz.func42 #[i6 a0,i6 (wrap64 (b7 - b8))] ?_
 with_reducible refine mo_ (impl_valuation.calls _ A6.out) ?_
 rintro w' ⟨nd,rfl⟩
 refine hK.out _ _ ⟨cz_ a1 0,cz_ a1 1,cz_ a1 2,cz_ a2 0,cz_ a2 1,cz_ a2 2⟩ (fun hHeld=>?_)
 clear hK K;refine nm_ (some 19) ?_;refine px_ HT_ 13 20 16383 ?_;refine px_ HT_ 14 21 32767 ?_;refine px_ HT_ 15 6 65535 ?_
 refine done_ (done_of HT_.out (by kernel_rfl)) ?_
 try go_wp2
 go_ret
 exact⟨by first|rfl|(simp[errW_none,errW_some]<;>rfl)|(simp only[←a5,←a6];first|rfl|(simp[errW_none,errW_some]<;>rfl))|(simp[*,errW_none,errW_some]<;>rfl),(bw_ HB).out⟩
/-! ### impl_above: function 95 -/
def impl_above.f (k:Nat) (a0 a1_0 a1_1 a1_2 a2:Int):Option (Int×Int×Int):=(impl_mark.f k a0 a1_0 a1_1 a1_2).bind fun t706=>((impl_ofMark.f k a0 a2 t706).bind fun bt707=>(some (bt707.1,bt707.2.1,bt707.2.2.1)))
theorem impl_above.calls {k:Nat} {a0 a7 a8 a9 a2 r1 r2 r3:Int} (w:World) (h:impl_above.f k a0 a7 a8 a9 a2=some (r1,r2,r3)):
  Calls Tryz.prog 95 #[i6 a0,.agg #[i6 a7,i6 a8,i6 a9],i6 a2] w fun e w'=>e= .returned (.agg #[i6 r1,i6 r2,i6 r3])∧Below w.heap.size w w':=by
 have hu42:=Tryz.underlying42
 have HB:=Aside0.mk (Below.refl w.heap.size w)
 unfold impl_above.f at h;have H:=h;clear h;replace H:=oc_ H;obtain⟨b5,A4,H⟩:=H;replace H:=oc_ H;obtain⟨⟨b6,b7,b8,d4⟩,A5,H⟩:=H
 simp only[Option.some.injEq,Prod.mk.injEq] at H
 obtain⟨rfl,rfl,rfl⟩:=H
 go_enter Tryz.func95,Tryz.ntmps95
 go_wp2_with (first|((refine gd_ 4 ?_);refine by_ 4 #[i6 a7,i6 a8,i6 a9] 42 HB ?_;intro b9 hg w6 a1 hb d0 HB_;replace HB:=HB_;clear hb hg)|((refine gd_ 6 ?_);refine by_ 6 #[i6 0,i6 0,i6 0] 42 HB ?_;intro b3 hg w7 a3 hb d1 HB_;have a4:=bm_ a1 hg;have b0:=bn_ a1 hg;replace a1:=bb_ a1 hb;replace HB:=HB_;clear hb hg;have:=nn_ a4;have hz9:=ch3_ a1)|((refine gc_ 69 ?_);refine ge_ 14 Tryz.func69 #[i6 a0,.agg #[i6 a7,i6 a8,i6 a9]] ?_;(with_reducible refine mo_ (impl_mark.calls _ A4.out) ?_);intro d5 hb;replace a1:=bb_ a1 hb;replace a3:=bb_ a3 hb;replace HB:=bt_ HB hb;clear hb)|((refine gc_ 94 ?_);refine ge_ 15 Tryz.func94 #[i6 a0,i6 a2,i6 b5] ?_;(with_reducible refine mo_ (impl_ofMark.calls _ A5.out) ?_);intro d6 hb;replace a1:=bb_ a1 hb;replace a3:=bb_ a3 hb;replace HB:=bt_ HB hb;clear hb)|((refine gd_ 7 ?_);refine by_ 7 #[i6 0,i6 0,i6 0] 42 HB ?_;intro d2 hg d7 b4 hb d3 HB_;have b1:=bm_ a1 hg;have a5:=bn_ a1 hg;have b2:=bm_ a3 hg;have a6:=bn_ a3 hg;replace a1:=bb_ a1 hb;replace a3:=bb_ a3 hb;replace HB:=HB_;clear hb hg;have:=nn_ a5;have:=nn_ a6;have hz15:=ch3_ b4;have hz16:=ch3_ a3))
 refine bodyPost_ret (results_cell_row rfl _ _ b3 42 #[i6 b6,i6 b7,i6 b8] (0,0) _ rfl (bp_ a3).out Tryz.underlying42 rfl (by kernel_rfl)) rfl ?_
 exact⟨es_,(bw_ HB).out⟩
end Go.Proofs.YtblmdppbbdbbjabGreat.QP
