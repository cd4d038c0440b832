import Derived.Test.YtblmdppbbdbbjabGreatQPx8
import Derived.Test.YtblmdppbbdbbjabGreatQPx40
import Derived.Test.YtblmdppbbdbbjabGreatQPx42
namespace Go.Proofs.YtblmdppbbdbbjabGreat.QP
set_option maxHeartbeats 8000000
set_option maxRecDepth 100000
open Go.RowKit Go.Proofs.YtblmdppbbdbbjabGreatW.PrintWords Go.Proofs.YtblmdppbbdbbjabGreatW.PrintLast Go.Proofs.YtblmdppbbdbbjabGreatW.PrintMore
attribute [local go_sem] isSome_setCell max2_int min2_int max_two min_two max_three min_three max_four min_four
set_option linter.unusedVariables false
set_option linter.unusedSimpArgs false
/-! ### spec_MatrixOfSteps: function 7 -/
def spec_MatrixOfSteps.l0:Nat→Int→ByteArray→Int→Int→Int→Int→Int→Option (Int×Int×Int×Int×Int)
 |0,_,_,_,_,_,_,_=>none
 |k+1,x0,x1,x8,x368000,x368001,x368002,x368003=>if x8<(x1.size:Int) then(if 0≤x8 then(if (bt x1 x8)=117 then((spec_l04Times.f k x368000 x368001 x368002 x368003 1 0 0 x0).bind fun bt369=>(if bt369.2.2.2.2=true then(spec_MatrixOfSteps.l0 k x0 x1 (wrap64 (x8+1)) bt369.1 bt369.2.1 bt369.2.2.1 bt369.2.2.2.1) else(some (0,0,0,0,3)))) else((spec_l04Times.f k x368000 x368001 x368002 x368003 x0 (wrap64 ((wrap64 (bt x1 x8)) - 48)) 0 1).bind fun bt375=>(if bt375.2.2.2.2=true then(spec_MatrixOfSteps.l0 k x0 x1 (wrap64 (x8+1)) bt375.1 bt375.2.1 bt375.2.2.1 bt375.2.2.2.1) else(some (0,0,0,0,3))))) else(none)) else(some (x368000,x368001,x368002,x368003,0))
def spec_MatrixOfSteps.f (k:Nat) (a0:Int) (a1:ByteArray):Option (Int×Int×Int×Int×Int):=(spec_l10Code.f k a0 a1 ([]:List (S42))).bind fun t366=>(if t366=0 then(spec_MatrixOfSteps.l0 k a0 a1 0 1 0 0 1) else(some (0,0,0,0,t366)))
theorem spec_MatrixOfSteps.calls {k:Nat} {a0:Int} (a1:ByteArray) {r1 r2 r3 r4 r5:Int} (w:World) (h:spec_MatrixOfSteps.f k a0 a1=some (r1,r2,r3,r4,r5)):
  Calls Tryz.prog 7 #[i6 a0,.string a1] w fun e w'=>e= .returned (.tuple #[.agg #[i6 r1,i6 r2,i6 r3,i6 r4],i6 r5])∧Below w.heap.size w w':=by
 have hu28:=Tryz.underlying28
 have hu26:=Tryz.underlying26
 have HB:=Aside0.mk (Below.refl w.heap.size w)
 unfold spec_MatrixOfSteps.f at h;have H:=h;clear h;replace H:=oc_ H;obtain⟨l6,A3,H⟩:=H;replace H:=ie_ H
 rcases H with ⟨g2,g3,H⟩|⟨c4,g2,g3,H⟩
 ·have H':=Aside0.mk H
  clear H
  go_enter Tryz.func7,Tryz.ntmps7
  go_wp2_with (first|((refine gd_ 4 ?_);refine by_ 4 #[i6 0,i6 0,i6 0,i6 0] 28 HB ?_;intro d6 hg w5 a2 hb g4 HB_;replace HB:=HB_;clear hb hg)|((refine gc_ 29 ?_);refine ge_ 14 Tryz.func29 #[i6 a0,.string a1,.slice none 0 0] ?_;(refine mo_ (spec_l10Code.calls a1 _ _ _ ?f4 ?f5 A3.out (l2:=([]:List (S42)))) ?_);(case f4=>exact Kd.C_nil _ _);(case f5=>exact Nat.le_refl _);intro w6 hb;replace a2:=bb_ a2 hb;replace HB:=bt_ HB hb;clear hb)|((refine gd_ 7 ?_);refine by_ 7 #[i6 0,i6 0,i6 0,i6 0] 28 HB ?_;intro g5 hg w7 a3 hb l1 HB_;have d7:=bm_ a2 hg;have b4:=bn_ a2 hg;replace a2:=bb_ a2 hb;replace HB:=HB_;clear hb hg;have:=nn_ b4;have hz9:=ch4_ a3))
  go_loopg [8] k (fun kq v8 w'=>∃(a9:Int) (b5:Int) (b6:Int) (b7:Int) (b8:Int) (a5:Int) (a6:Int) (a7:Int) (a8:Int),v8=i6 a9∧Aside0 (spec_MatrixOfSteps.l0 kq a0 a1 a9 a5 a6 a7 a8=some (r1,r2,r3,r4,r5))∧Aside0 (kq≤k)∧Aside0 (b_ w' d6 #[i6 b5,i6 b6,i6 b7,i6 b8] 28)∧Aside0 (b_ w' g5 #[i6 a5,i6 a6,i6 a7,i6 a8] 28)∧Aside0 (Below w.heap.size w w'))
  case atStart=>exact⟨(0),(0),(0),(0),(0),(1),(0),(0),(1),en_,H',⟨Nat.le_refl _⟩,fl_ a2 d7,bp_ a3,bw_ HB⟩
  clear H'
  try clear c4 g2 g3
  try clear hz9
  obtain⟨a9,b5,b6,b7,b8,a5,a6,a7,a8,rfl,HA,j0,a2,a3,HB⟩:=hrel
  cases gk with
  |zero=>exact absurd HA.out (by simp[spec_MatrixOfSteps.l0])
  |succ k1=>
   have H:=HA.out;clear HA
   simp only[spec_MatrixOfSteps.l0] at H
   replace H:=il_ H
   rcases H with ⟨g6,H⟩|⟨g6,H⟩
   ·replace H:=imn_ H
    obtain⟨l3,H⟩:=H;replace H:=ie_ H
    rcases H with ⟨g7,g8,H⟩|⟨l9,g7,g8,H⟩
    ·replace H:=oc_ H
     obtain⟨⟨j1,j2,j3,j4,l7⟩,l4,H⟩:=H;replace H:=ib_ H
     rcases H with ⟨rfl,H⟩|⟨rfl,H⟩
     ·have H':=Aside0.mk H
      clear H
      go_wp2_with (first|((refine gd_ 9 ?_);refine by_ 9 #[i6 0,i6 0,i6 0,i6 0] 28 HB ?_;intro d5 hg m1 a4 hb f6 HB_;have b0:=bm_ a2 hg;have b1:=bn_ a2 hg;have b2:=bm_ a3 hg;have b3:=bn_ a3 hg;replace a2:=bb_ a2 hb;replace a3:=bb_ a3 hb;replace HB:=HB_;clear hb hg;have:=nn_ b1;have:=nn_ b3;have hz19:=ch4_ a4;have f7:0≤(a9:Int):=od_;have f8:a9<(a1.size:Int):=od_;have g1:=bt_at a1 a9;replace f7:=eq_true f7;replace f8:=eq_true f8;have:=nn_ b4;have hz21:=ch4_ a3)|((refine gc_ 30 ?_);refine ge_ 48 Tryz.func30 #[.agg #[i6 a5,i6 a6,i6 a7,i6 a8],.agg #[i6 1,i6 0,i6 0,i6 a0]] ?_;(with_reducible refine mo_ (spec_l04Times.calls _ l4.out) ?_);intro m2 hb;replace a2:=fb_ a2 b0 hb;replace a3:=fb_ a3 b2 hb;replace a4:=Aside0.mk (blk_below (g:=d5) (o:= .cells #[i6 1,i6 0,i6 0,i6 a0] 28 (0,0)) (bp_ a4).out hb);replace HB:=bt_ HB hb;(try clear hb))|((refine gd_ 10 ?_);refine by_ 10 #[i6 0,i6 0,i6 0,i6 0] 28 HB ?_;intro g9 hg m3 f9 hb i4 HB_;have d8:=bm_ a2 hg;have b9:=bn_ a2 hg;have d9:=bm_ a3 hg;have d0:=bn_ a3 hg;have f0:=bm_ a4 hg;have d1:=bn_ a4 hg;replace a2:=bb_ a2 hb;replace a3:=bb_ a3 hb;replace a4:=bb_ a4 hb;replace HB:=HB_;clear hb hg;have:=nn_ b9;have:=nn_ d0;have:=nn_ d1;have hz27:=ch4_ f9;have hz28:=ch4_ a3))
      go_roundg k1
      case measure=>have:=j0.out;omega
      case rel=>exact⟨(wrap64 (a9+1)),(b5),(b6),(b7),(b8),(j1),(j2),(j3),(j4),en_,H',⟨by have:=j0.out;omega⟩,bp_ a2,bp_ a3,bw_ HB⟩
     simp only[Option.some.injEq,Prod.mk.injEq] at H
     obtain⟨rfl,rfl,rfl,rfl,rfl⟩:=H
     go_wp2_with (first|((refine gd_ 9 ?_);refine by_ 9 #[i6 0,i6 0,i6 0,i6 0] 28 HB ?_;intro d5 hg m4 a4 hb f6 HB_;have b0:=bm_ a2 hg;have b1:=bn_ a2 hg;have b2:=bm_ a3 hg;have b3:=bn_ a3 hg;replace a2:=bb_ a2 hb;replace a3:=bb_ a3 hb;replace HB:=HB_;clear hb hg;have:=nn_ b1;have:=nn_ b3;have hz32:=ch4_ a4;have f7:0≤(a9:Int):=od_;have f8:a9<(a1.size:Int):=od_;have g1:=bt_at a1 a9;replace f7:=eq_true f7;replace f8:=eq_true f8;have:=nn_ b4;have hz34:=ch4_ a3)|((refine gc_ 30 ?_);refine ge_ 48 Tryz.func30 #[.agg #[i6 a5,i6 a6,i6 a7,i6 a8],.agg #[i6 1,i6 0,i6 0,i6 a0]] ?_;(with_reducible refine mo_ (spec_l04Times.calls _ l4.out) ?_);intro m5 hb;replace a2:=fb_ a2 b0 hb;replace a3:=fb_ a3 b2 hb;replace a4:=Aside0.mk (blk_below (g:=d5) (o:= .cells #[i6 1,i6 0,i6 0,i6 a0] 28 (0,0)) (bp_ a4).out hb);replace HB:=bt_ HB hb;(try clear hb))|((refine gd_ 10 ?_);refine by_ 10 #[i6 0,i6 0,i6 0,i6 0] 28 HB ?_;intro g9 hg m6 f9 hb i4 HB_;have d8:=bm_ a2 hg;have b9:=bn_ a2 hg;have d9:=bm_ a3 hg;have d0:=bn_ a3 hg;have f0:=bm_ a4 hg;have d1:=bn_ a4 hg;replace a2:=bb_ a2 hb;replace a3:=bb_ a3 hb;replace a4:=bb_ a4 hb;replace HB:=HB_;clear hb hg;have:=nn_ b9;have:=nn_ d0;have:=nn_ d1;have hz40:=ch4_ f9;have hz41:=ch4_ a2))
     refine bodyPost_ret (results_ct rfl _ _ d6 28 #[i6 0,i6 0,i6 0,i6 0] (0,0) _ rfl (bp_ a2).out Tryz.underlying28 rfl (by kernel_rfl)) rfl ?_
     exact⟨es_,(bw_ HB).out⟩
    replace H:=oc_ H;obtain⟨⟨j5,j6,j7,j8,l8⟩,l5,H⟩:=H;replace H:=ib_ H
    rcases H with ⟨rfl,H⟩|⟨rfl,H⟩
    ·have H':=Aside0.mk H
     clear H
     go_wp2_with (first|((refine gd_ 9 ?_);refine by_ 9 #[i6 0,i6 0,i6 0,i6 0] 28 HB ?_;intro d5 hg m7 a4 hb f6 HB_;have b0:=bm_ a2 hg;have b1:=bn_ a2 hg;have b2:=bm_ a3 hg;have b3:=bn_ a3 hg;replace a2:=bb_ a2 hb;replace a3:=bb_ a3 hb;replace HB:=HB_;clear hb hg;have:=nn_ b1;have:=nn_ b3;have hz48:=ch4_ a4;have f7:0≤(a9:Int):=od_;have f8:a9<(a1.size:Int):=od_;have g1:=bt_at a1 a9;replace f7:=eq_true f7;replace f8:=eq_true f8;have i5:0≤(a9:Int):=od_;have i7:a9<(a1.size:Int):=od_;have j9:=bt_at a1 a9;replace i5:=eq_true i5;replace i7:=eq_true i7;have:=nn_ b4;have hz50:=ch4_ a3)|((refine gc_ 30 ?_);refine ge_ 48 Tryz.func30 #[.agg #[i6 a5,i6 a6,i6 a7,i6 a8],.agg #[i6 a0,i6 (wrap64 ((wrap64 (bt a1 a9)) - 48)),i6 0,i6 1]] ?_;(with_reducible refine mo_ (spec_l04Times.calls _ l5.out) ?_);intro m8 hb;replace a2:=fb_ a2 b0 hb;replace a3:=fb_ a3 b2 hb;replace a4:=Aside0.mk (blk_below (g:=d5) (o:= .cells #[i6 a0,i6 (wrap64 ((wrap64 (bt a1 a9)) - 48)),i6 0,i6 1] 28 (0,0)) (bp_ a4).out hb);replace HB:=bt_ HB hb;(try clear hb))|((refine gd_ 10 ?_);refine by_ 10 #[i6 0,i6 0,i6 0,i6 0] 28 HB ?_;intro i8 hg m9 g0 hb i9 HB_;have f1:=bm_ a2 hg;have d2:=bn_ a2 hg;have f2:=bm_ a3 hg;have d3:=bn_ a3 hg;have f3:=bm_ a4 hg;have d4:=bn_ a4 hg;replace a2:=bb_ a2 hb;replace a3:=bb_ a3 hb;replace a4:=bb_ a4 hb;replace HB:=HB_;clear hb hg;have:=nn_ d2;have:=nn_ d3;have:=nn_ d4;have hz56:=ch4_ g0;have hz57:=ch4_ a3))
     go_roundg k1
     case measure=>have:=j0.out;omega
     case rel=>exact⟨(wrap64 (a9+1)),(b5),(b6),(b7),(b8),(j5),(j6),(j7),(j8),en_,H',⟨by have:=j0.out;omega⟩,bp_ a2,bp_ a3,bw_ HB⟩
    simp only[Option.some.injEq,Prod.mk.injEq] at H
    obtain⟨rfl,rfl,rfl,rfl,rfl⟩:=H
    go_wp2_with (first|((refine gd_ 9 ?_);refine by_ 9 #[i6 0,i6 0,i6 0,i6 0] 28 HB ?_;intro d5 hg n0 a4 hb f6 HB_;have b0:=bm_ a2 hg;have b1:=bn_ a2 hg;have b2:=bm_ a3 hg;have b3:=bn_ a3 hg;replace a2:=bb_ a2 hb;replace a3:=bb_ a3 hb;replace HB:=HB_;clear hb hg;have:=nn_ b1;have:=nn_ b3;have hz61:=ch4_ a4;have f7:0≤(a9:Int):=od_;have f8:a9<(a1.size:Int):=od_;have g1:=bt_at a1 a9;replace f7:=eq_true f7;replace f8:=eq_true f8;have i5:0≤(a9:Int):=od_;have i7:a9<(a1.size:Int):=od_;have j9:=bt_at a1 a9;replace i5:=eq_true i5;replace i7:=eq_true i7;have:=nn_ b4;have hz63:=ch4_ a3)|((refine gc_ 30 ?_);refine ge_ 48 Tryz.func30 #[.agg #[i6 a5,i6 a6,i6 a7,i6 a8],.agg #[i6 a0,i6 (wrap64 ((wrap64 (bt a1 a9)) - 48)),i6 0,i6 1]] ?_;(with_reducible refine mo_ (spec_l04Times.calls _ l5.out) ?_);intro n1 hb;replace a2:=fb_ a2 b0 hb;replace a3:=fb_ a3 b2 hb;replace a4:=Aside0.mk (blk_below (g:=d5) (o:= .cells #[i6 a0,i6 (wrap64 ((wrap64 (bt a1 a9)) - 48)),i6 0,i6 1] 28 (0,0)) (bp_ a4).out hb);replace HB:=bt_ HB hb;(try clear hb))|((refine gd_ 10 ?_);refine by_ 10 #[i6 0,i6 0,i6 0,i6 0] 28 HB ?_;intro i8 hg n2 g0 hb i9 HB_;have f1:=bm_ a2 hg;have d2:=bn_ a2 hg;have f2:=bm_ a3 hg;have d3:=bn_ a3 hg;have f3:=bm_ a4 hg;have d4:=bn_ a4 hg;replace a2:=bb_ a2 hb;replace a3:=bb_ a3 hb;replace a4:=bb_ a4 hb;replace HB:=HB_;clear hb hg;have:=nn_ d2;have:=nn_ d3;have:=nn_ d4;have hz69:=ch4_ g0;have hz70:=ch4_ a2))
    refine bodyPost_ret (results_ct rfl _ _ d6 28 #[i6 0,i6 0,i6 0,i6 0] (0,0) _ rfl (bp_ a2).out Tryz.underlying28 rfl (by kernel_rfl)) rfl ?_
    exact⟨es_,(bw_ HB).out⟩
   simp only[Option.some.injEq,Prod.mk.injEq] at H
   obtain⟨rfl,rfl,rfl,rfl,rfl⟩:=H;have:=nn_ b4;have hz72:=ch4_ a3;have hz73:=ch4_ a2
   go_wp2
   refine bodyPost_ret (results_ct rfl _ _ d6 28 #[i6 a5,i6 a6,i6 a7,i6 a8] (0,0) _ rfl (bp_ a2).out Tryz.underlying28 rfl (by kernel_rfl)) rfl ?_
   exact⟨es_,(bw_ HB).out⟩
 simp only[Option.some.injEq,Prod.mk.injEq] at H
 obtain⟨rfl,rfl,rfl,rfl,rfl⟩:=H
 go_enter Tryz.func7,Tryz.ntmps7
 go_wp2_with (first|((refine gd_ 4 ?_);refine by_ 4 #[i6 0,i6 0,i6 0,i6 0] 28 HB ?_;intro d6 hg n3 a2 hb g4 HB_;replace HB:=HB_;clear hb hg)|((refine gc_ 29 ?_);refine ge_ 14 Tryz.func29 #[i6 a0,.string a1,.slice none 0 0] ?_;(refine mo_ (spec_l10Code.calls a1 _ _ _ ?f4 ?f5 A3.out (l2:=([]:List (S42)))) ?_);(case f4=>exact Kd.C_nil _ _);(case f5=>exact Nat.le_refl _);intro n4 hb;replace a2:=bb_ a2 hb;replace HB:=bt_ HB hb;clear hb;have hz76:=ch4_ a2))
 refine bodyPost_ret (results_ct rfl _ _ d6 28 #[i6 0,i6 0,i6 0,i6 0] (0,0) _ rfl (bp_ a2).out Tryz.underlying28 rfl (by kernel_rfl)) rfl ?_
 exact⟨es_,(bw_ HB).out⟩
/-! ### spec_l04Det: function 68 -/
def spec_l04Det.f (a0_0 a0_1 a0_2 a0_3:Int):Option (Int):=some (wrap64 ((wrap64 (a0_0*a0_3)) - (wrap64 (a0_1*a0_2))))
theorem spec_l04Det.calls {a1 a2 a3 a4 r:Int} (w:World) (h:spec_l04Det.f a1 a2 a3 a4=some r):
  Calls Tryz.prog 68 #[.agg #[i6 a1,i6 a2,i6 a3,i6 a4]] w fun e w'=>e= .returned (i6 r)∧Below w.heap.size w w':=by
 have hu28:=Tryz.underlying28
 have hu26:=Tryz.underlying26
 have HB:=Aside0.mk (Below.refl w.heap.size w)
 unfold spec_l04Det.f at h;have H:=h;clear h
 obtain rfl:=si_ H
 go_enter Tryz.func68,Tryz.ntmps68
 go_wp2_with (first|((refine gd_ 1 ?_);refine by_ 1 #[i6 a1,i6 a2,i6 a3,i6 a4] 28 HB ?_;intro a6 hg w2 a5 hb a7 HB_;replace HB:=HB_;clear hb hg;have hz3:=ch4_ a5))
 go_ret;exact⟨es_,(bw_ HB).out⟩
end Go.Proofs.YtblmdppbbdbbjabGreat.QP
