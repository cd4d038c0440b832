import Derived.Test.YtblmdppbbdbbjabGreatQPx8
import Derived.Test.YtblmdppbbdbbjabGreatQPx20
import Derived.Test.YtblmdppbbdbbjabGreatQPx40
import Derived.Test.YtblmdppbbdbbjabGreatQPx44
import Derived.Test.YtblmdppbbdbbjabGreatQPx55
import Derived.Test.YtblmdppbbdbbjabGreatQPx67
import Derived.Test.YtblmdppbbdbbjabGreatQPx73
import Derived.Test.YtblmdppbbdbbjabGreatQPx81
import Derived.Test.YtblmdppbbdbbjabGreatQPx91
import Derived.Test.YtblmdppbbdbbjabGreatQPx97
import Derived.Test.YtblmdppbbdbbjabGreatQPx105
import Derived.Test.YtblmdppbbdbbjabGreatQPx107
namespace Go.Proofs.YtblmdppbbdbbjabGreat.QP
open Go.RowKit Go.Proofs.YtblmdppbbdbbjabGreatW.PrintWords Go.Proofs.YtblmdppbbdbbjabGreatW.PrintLast Go.Proofs.YtblmdppbbdbbjabGreatW.PrintMore
attribute [local go_sem] isSome_setCell max2_int min2_int max_two min_two max_three min_three max_four min_four
set_option linter.unusedVariables false
set_option linter.unusedSimpArgs false
attribute [local go_sem high] eqA28 eqA42
/-! ### laws_FnParts: function 3 -/
mutual
def laws_FnParts.j0:Nat→List Int→Int→ByteArray→Int→Bool→Int→Int→Int→Int→Option (Bool)
 |0,_,_,_,_,_,_,_,_,_=>none
 |k+1,x0,x3,x4,x6,x71,x983000,x983001,x983002,x983003=>if x71=true then(none) else((spec_DrawTriangularPart.f k x0).bind fun bt989=>((impl_TriangularPart.f k bt989.1 bt989.2.1 bt989.2.2.1 bt989.2.2.2.1 bt989.2.2.2.2).bind fun bt995=>((spec_TriangularPart.f k bt989.1 bt989.2.1 bt989.2.2.1 bt989.2.2.2.1 bt989.2.2.2.2).bind fun bt1001=>(if bt995.2.2.2.2=bt1001.2.2.2.2 then(laws_FnParts.j1 k x3 x4 x6 bt989.1 bt995.2.2.2.2 ((!(bt995.1==bt1001.1)||(!(bt995.2.1==bt1001.2.1)))||((!(bt995.2.2.1==bt1001.2.2.1)||(!(bt995.2.2.2.1==bt1001.2.2.2.1))))) x983000 x983001 x983002 x983003 bt989.2.1 bt989.2.2.1 bt989.2.2.2.1 bt989.2.2.2.2 bt995.1 bt995.2.1 bt995.2.2.1 bt995.2.2.2.1) else(laws_FnParts.j1 k x3 x4 x6 bt989.1 bt995.2.2.2.2 true x983000 x983001 x983002 x983003 bt989.2.1 bt989.2.2.1 bt989.2.2.2.1 bt989.2.2.2.2 bt995.1 bt995.2.1 bt995.2.2.1 bt995.2.2.2.1)))))
def laws_FnParts.j1:Nat→Int→ByteArray→Int→Int→Int→Bool→Int→Int→Int→Int→Int→Int→Int→Int→Int→Int→Int→Int→Option (Bool)
 |0,_,_,_,_,_,_,_,_,_,_,_,_,_,_,_,_,_,_=>none
 |k+1,x3,x4,x6,x9,x12,x96,x983000,x983001,x983002,x983003,x995000,x995001,x995002,x995003,x1001000,x1001001,x1001002,x1001003=>if x96=true then(none) else((impl_UnitPart.f k x9 x995000 x995001 x995002 x995003).bind fun bt1007=>((spec_UnitPart.f k x9 x995000 x995001 x995002 x995003).bind fun bt1013=>(if bt1007.2.2.2.2=bt1013.2.2.2.2 then(laws_FnParts.j2 k x3 x4 x6 x9 x12 bt1007.2.2.2.2 ((!(bt1007.1==bt1013.1)||(!(bt1007.2.1==bt1013.2.1)))||((!(bt1007.2.2.1==bt1013.2.2.1)||(!(bt1007.2.2.2.1==bt1013.2.2.2.1))))) x983000 x983001 x983002 x983003 x995000 x995001 x995002 x995003 x1001000 x1001001 x1001002 x1001003 bt1007.1 bt1007.2.1 bt1007.2.2.1 bt1007.2.2.2.1) else(laws_FnParts.j2 k x3 x4 x6 x9 x12 bt1007.2.2.2.2 true x983000 x983001 x983002 x983003 x995000 x995001 x995002 x995003 x1001000 x1001001 x1001002 x1001003 bt1007.1 bt1007.2.1 bt1007.2.2.1 bt1007.2.2.2.1))))
def laws_FnParts.j2:Nat→Int→ByteArray→Int→Int→Int→Int→Bool→Int→Int→Int→Int→Int→Int→Int→Int→Int→Int→Int→Int→Int→Int→Int→Int→Option (Bool)
 |0,_,_,_,_,_,_,_,_,_,_,_,_,_,_,_,_,_,_,_,_,_,_,_=>none
 |k+1,x3,x4,x6,x9,x12,x16,x116,x983000,x983001,x983002,x983003,x995000,x995001,x995002,x995003,x1001000,x1001001,x1001002,x1001003,x1013000,x1013001,x1013002,x1013003=>if x116=true then(none) else((impl_IsUnitMatrix.f k x9 x995000 x995001 x995002 x995003).bind fun bt1019=>((spec_IsUnitMatrix.f k x9 x995000 x995001 x995002 x995003).bind fun bt1021=>(if bt1019.2=bt1021.2 then(laws_FnParts.j3 k x3 x4 x6 x9 x12 x16 bt1019.1 (bt1019.1 !=bt1021.1) x983000 x983001 x983002 x983003 x995000 x995001 x995002 x995003 x1001000 x1001001 x1001002 x1001003 x1013000 x1013001 x1013002 x1013003) else(laws_FnParts.j3 k x3 x4 x6 x9 x12 x16 bt1019.1 true x983000 x983001 x983002 x983003 x995000 x995001 x995002 x995003 x1001000 x1001001 x1001002 x1001003 x1013000 x1013001 x1013002 x1013003))))
def laws_FnParts.j3:Nat→Int→ByteArray→Int→Int→Int→Int→Bool→Bool→Int→Int→Int→Int→Int→Int→Int→Int→Int→Int→Int→Int→Int→Int→Int→Int→Option (Bool)
 |0,_,_,_,_,_,_,_,_,_,_,_,_,_,_,_,_,_,_,_,_,_,_,_,_=>none
 |k+1,x3,x4,x6,x9,x12,x16,x19,x136,x983000,x983001,x983002,x983003,x995000,x995001,x995002,x995003,x1001000,x1001001,x1001002,x1001003,x1013000,x1013001,x1013002,x1013003=>if x136=true then(none) else((impl_MatrixPosition.f k x9 x995000 x995001 x995002 x995003).bind fun bt1023=>((spec_MatrixPosition.f k x9 x995000 x995001 x995002 x995003).bind fun bt1025=>(if bt1023.2=bt1025.2 then(laws_FnParts.j4 k x3 x4 x6 x9 x12 x16 x19 bt1023.1 bt1023.2 (bt1023.1 !=bt1025.1) x983000 x983001 x983002 x983003 x995000 x995001 x995002 x995003 x1001000 x1001001 x1001002 x1001003 x1013000 x1013001 x1013002 x1013003) else(laws_FnParts.j4 k x3 x4 x6 x9 x12 x16 x19 bt1023.1 bt1023.2 true x983000 x983001 x983002 x983003 x995000 x995001 x995002 x995003 x1001000 x1001001 x1001002 x1001003 x1013000 x1013001 x1013002 x1013003))))
def laws_FnParts.j4:Nat→Int→ByteArray→Int→Int→Int→Int→Bool→Int→Int→Bool→Int→Int→Int→Int→Int→Int→Int→Int→Int→Int→Int→Int→Int→Int→Int→Int→Option (Bool)
 |0,_,_,_,_,_,_,_,_,_,_,_,_,_,_,_,_,_,_,_,_,_,_,_,_,_,_=>none
 |k+1,x3,x4,x6,x9,x12,x16,x19,x23,x24,x156,x983000,x983001,x983002,x983003,x995000,x995001,x995002,x995003,x1001000,x1001001,x1001002,x1001003,x1013000,x1013001,x1013002,x1013003=>if x156=true then(none) else((impl_StepsOfMatrix.f k x9 x995000 x995001 x995002 x995003).bind fun bt1027=>((spec_StepsOfMatrix.f k x9 x995000 x995001 x995002 x995003).bind fun bt1029=>(if bt1027.2=bt1029.2 then(laws_FnParts.j5 k x3 x4 x6 x9 x12 x16 x19 x23 x24 bt1027.1 bt1027.2 (bt1027.1.toList !=bt1029.1.toList) x983000 x983001 x983002 x983003 x995000 x995001 x995002 x995003 x1001000 x1001001 x1001002 x1001003 x1013000 x1013001 x1013002 x1013003) else(laws_FnParts.j5 k x3 x4 x6 x9 x12 x16 x19 x23 x24 bt1027.1 bt1027.2 true x983000 x983001 x983002 x983003 x995000 x995001 x995002 x995003 x1001000 x1001001 x1001002 x1001003 x1013000 x1013001 x1013002 x1013003))))
def laws_FnParts.j5:Nat→Int→ByteArray→Int→Int→Int→Int→Bool→Int→Int→ByteArray→Int→Bool→Int→Int→Int→Int→Int→Int→Int→Int→Int→Int→Int→Int→Int→Int→Int→Int→Option (Bool)
 |0,_,_,_,_,_,_,_,_,_,_,_,_,_,_,_,_,_,_,_,_,_,_,_,_,_,_,_,_=>none
 |k+1,x3,x4,x6,x9,x12,x16,x19,x23,x24,x27,x28,x176,x983000,x983001,x983002,x983003,x995000,x995001,x995002,x995003,x1001000,x1001001,x1001002,x1001003,x1013000,x1013001,x1013002,x1013003=>if x176=true then(none) else((spec_NormalSteps.f k x3 x4).bind fun bt1031=>(if x6=0 then(laws_FnParts.j6 k x3 x4 x9 x12 x16 x19 x23 x24 x27 x28 (bt1031.1.toList==x4.toList) x983000 x983001 x983002 x983003 x995000 x995001 x995002 x995003 x1001000 x1001001 x1001002 x1001003 x1013000 x1013001 x1013002 x1013003) else(laws_FnParts.j6 k x3 x4 x9 x12 x16 x19 x23 x24 x27 x28 false x983000 x983001 x983002 x983003 x995000 x995001 x995002 x995003 x1001000 x1001001 x1001002 x1001003 x1013000 x1013001 x1013002 x1013003)))
def laws_FnParts.j6:Nat→Int→ByteArray→Int→Int→Int→Bool→Int→Int→ByteArray→Int→Bool→Int→Int→Int→Int→Int→Int→Int→Int→Int→Int→Int→Int→Int→Int→Int→Int→Option (Bool)
 |0,_,_,_,_,_,_,_,_,_,_,_,_,_,_,_,_,_,_,_,_,_,_,_,_,_,_,_=>none
 |k+1,x3,x4,x9,x12,x16,x19,x23,x24,x27,x28,x189,x983000,x983001,x983002,x983003,x995000,x995001,x995002,x995003,x1001000,x1001001,x1001002,x1001003,x1013000,x1013001,x1013002,x1013003=>if x189=true then((impl_MoveBall.f k x3 x983000 x983001 x983002 x983003 0 0 0).bind fun bt1033=>((impl_FollowSteps.f k x3 0 0 0 x4).bind fun bt1038=>(if bt1038.2.2.2=0 then(if bt1033.2.2.2=0 then(if (!(bt1033.1==bt1038.1)||(!(bt1033.2.1==bt1038.2.1)||(!(bt1033.2.2.1==bt1038.2.2.1))))=true then(none) else(laws_FnParts.j7 k x9 x12 x16 x19 x23 x24 x27 x28 x995000 x995001 x995002 x995003 x1001000 x1001001 x1001002 x1001003 x1013000 x1013001 x1013002 x1013003)) else(none)) else(laws_FnParts.j7 k x9 x12 x16 x19 x23 x24 x27 x28 x995000 x995001 x995002 x995003 x1001000 x1001001 x1001002 x1001003 x1013000 x1013001 x1013002 x1013003)))) else(laws_FnParts.j7 k x9 x12 x16 x19 x23 x24 x27 x28 x995000 x995001 x995002 x995003 x1001000 x1001001 x1001002 x1001003 x1013000 x1013001 x1013002 x1013003)
def laws_FnParts.j7:Nat→Int→Int→Int→Bool→Int→Int→ByteArray→Int→Int→Int→Int→Int→Int→Int→Int→Int→Int→Int→Int→Int→Option (Bool)
 |0,_,_,_,_,_,_,_,_,_,_,_,_,_,_,_,_,_,_,_,_=>none
 |k+1,x9,x12,x16,x19,x23,x24,x27,x28,x995000,x995001,x995002,x995003,x1001000,x1001001,x1001002,x1001003,x1013000,x1013001,x1013002,x1013003=>if x24=0 then((impl_DisplacementOf.f k x9 x995000 x995001 x995002 x995003 0 0 0).bind fun bt1043=>(if bt1043.2=0 then(if bt1043.1=x23 then(if (x19 !=(x23==0))=true then(none) else(laws_FnParts.j8 k x9 x12 x16 x23 x27 x28 x995000 x995001 x995002 x995003 x1001000 x1001001 x1001002 x1001003 x1013000 x1013001 x1013002 x1013003)) else(none)) else(if (x19 !=(x23==0))=true then(none) else(laws_FnParts.j8 k x9 x12 x16 x23 x27 x28 x995000 x995001 x995002 x995003 x1001000 x1001001 x1001002 x1001003 x1013000 x1013001 x1013002 x1013003)))) else(laws_FnParts.j8 k x9 x12 x16 x23 x27 x28 x995000 x995001 x995002 x995003 x1001000 x1001001 x1001002 x1001003 x1013000 x1013001 x1013002 x1013003)
def laws_FnParts.j8:Nat→Int→Int→Int→Int→ByteArray→Int→Int→Int→Int→Int→Int→Int→Int→Int→Int→Int→Int→Int→Option (Bool)
 |0,_,_,_,_,_,_,_,_,_,_,_,_,_,_,_,_,_,_=>none
 |k+1,x9,x12,x16,x23,x27,x28,x995000,x995001,x995002,x995003,x1001000,x1001001,x1001002,x1001003,x1013000,x1013001,x1013002,x1013003=>if x28=0 then(laws_FnParts.j9 k x9 x12 x16 ((x27.size:Int)!=x23) x995000 x995001 x995002 x995003 x1001000 x1001001 x1001002 x1001003 x1013000 x1013001 x1013002 x1013003) else(laws_FnParts.j9 k x9 x12 x16 false x995000 x995001 x995002 x995003 x1001000 x1001001 x1001002 x1001003 x1013000 x1013001 x1013002 x1013003)
def laws_FnParts.j9:Nat→Int→Int→Int→Bool→Int→Int→Int→Int→Int→Int→Int→Int→Int→Int→Int→Int→Option (Bool)
 |0,_,_,_,_,_,_,_,_,_,_,_,_,_,_,_,_=>none
 |k+1,x9,x12,x16,x244,x995000,x995001,x995002,x995003,x1001000,x1001001,x1001002,x1001003,x1013000,x1013001,x1013002,x1013003=>if x244=true then(none) else(if x16=0 then((impl_IsUnitMatrix.f k x9 x1013000 x1013001 x1013002 x1013003).bind fun bt1045=>((impl_MultiplyMatrices.f k x1001000 x1001001 x1001002 x1001003 x1013000 x1013001 x1013002 x1013003).bind fun bt1047=>((impl_ReduceMatrix.f k x995000 x995001 x995002 x995003).bind fun bt1053=>(if x12=0 then(if bt1045.2=0 then(if bt1045.1=true then(if bt1047.2.2.2.2=0 then(if bt1053.2.2.2.2=0 then(some ((bt1047.1==bt1053.1&&(bt1047.2.1==bt1053.2.1))&&((bt1047.2.2.1==bt1053.2.2.1&&(bt1047.2.2.2.1==bt1053.2.2.2.1))))) else(none)) else(none)) else(none)) else(none)) else(none))))) else(some ((x1013000==0&&(x1013001==0))&&((x1013002==0&&(x1013003==0))))))
end
def laws_FnParts.f (k:Nat) (l0:List Int):Option (Bool):=(laws_big.f l0).bind fun t974=>(if t974=true then(some true) else((spec_DrawMatrixOfSteps.f k l0).bind fun bt975=>((impl_MatrixOfSteps.f k bt975.1 bt975.2).bind fun bt977=>((spec_MatrixOfSteps.f k bt975.1 bt975.2).bind fun bt983=>(if bt977.2.2.2.2=bt983.2.2.2.2 then(laws_FnParts.j0 k l0 bt975.1 bt975.2 bt977.2.2.2.2 ((!(bt977.1==bt983.1)||(!(bt977.2.1==bt983.2.1)))||((!(bt977.2.2.1==bt983.2.2.1)||(!(bt977.2.2.2.1==bt983.2.2.2.1))))) bt977.1 bt977.2.1 bt977.2.2.1 bt977.2.2.2.1) else(laws_FnParts.j0 k l0 bt975.1 bt975.2 bt977.2.2.2.2 true bt977.1 bt977.2.1 bt977.2.2.1 bt977.2.2.2.1))))))
open Go in
def isK_:Op→Bool
 | .call _=>true
 |_=>false
open Go in
def isN_:Op→Bool
 | .alloc _=>true
 | .box _ _=>true
 |_=>false
open Go in
theorem gk_ {P:Program} {ops:Array Oper} {Q:Exit→Act→World→Prop} {rest:List Oper} {o:Oper} {a:Act} {w:World} (h:wpList P ops Q (o::rest) a w) (ho:isK_ o.op=true:=by with_unfolding_all exact rfl):wpList P ops Q (o::rest) a w:=h
open Go in
theorem gn_ {P:Program} {ops:Array Oper} {Q:Exit→Act→World→Prop} {rest:List Oper} {o:Oper} {a:Act} {w:World} (h:wpList P ops Q (o::rest) a w) (ho:isN_ o.op=true:=by with_unfolding_all exact rfl):wpList P ops Q (o::rest) a w:=h
set_option maxHeartbeats 400000000 in
set_option maxRecDepth 100000 in
theorem laws_FnParts.calls {k:Nat} (A0:Option Addr) (c0:Nat) {l0:List Int} {r:Bool} (w:World) (hr0:Kd.C (Kd.int .u8) w A0 l0.length l0) (hc0:l0.length≤c0) (h:laws_FnParts.f k l0=some r):
  Calls Tryz.prog 3 #[.slice A0 l0.length c0] w fun e w'=>e= .returned (.bool r)∧Below w.heap.size w w':=by
 have hu28:=Tryz.underlying28
 have hu42:=Tryz.underlying42
 have jc:=Aside0.mk hr0;have jd:=Aside0.mk hc0;clear hr0 hc0
 have HB:=Aside0.mk (Below.refl w.heap.size w)
 unfold laws_FnParts.f at h;have H:=h;clear h;replace H:=oc_ H;obtain⟨lE,A2,H⟩:=H;replace H:=ib_ H
 rcases H with ⟨rfl,H⟩|⟨rfl,H⟩
 ·obtain rfl:=si_ H
  go_enter Tryz.func3,Tryz.ntmps3
  go_wp2_with (first|((with_reducible refine gc_ 4 ?_);refine ge_ 46 Tryz.func4 #[.slice A0 l0.length c0] ?_;(with_reducible refine mo_ (laws_big.calls _ _ _ ?bI ?bJ A2.out) ?_);(case bI=>exact ca_ jc.out);(case bJ=>exact jd.out);rintro w' ⟨nd,rfl⟩))
  go_ret;exact⟨es_,(bw_ HB).out⟩
 replace H:=oc_ H;obtain⟨⟨bf,x9⟩,A4,H⟩:=H;replace H:=oc_ H;obtain⟨⟨ai,aj,ak,al,dU⟩,A5,H⟩:=H;replace H:=oc_ H;obtain⟨⟨gX,gY,gZ,ia,lF⟩,A6,H⟩:=H;have je:=Aside0.mk H;clear H
 go_enter Tryz.func3,Tryz.ntmps3
 go_upto_region 6 with (first|((with_reducible refine gd_ 5 ?_);(try(refine gate_guard (by rfl) ?_;dsimp only));refine by_ 5 #[i6 0,i6 0,i6 0,i6 0] 28 HB ?_;intro bA hg mr a4 hb jS HB_;replace HB:=HB_;clear hb hg;obtain⟨b4,b5,b6,b7,b8,b9,d0,d1⟩:=ch4_ a4)|((with_reducible refine gd_ 7 ?_);(try(refine gate_guard (by rfl) ?_;dsimp only));refine by_ 7 #[i6 0,i6 0,i6 0,i6 0] 28 HB ?_;intro ib hg ms cQ hb jT HB_;have bw:=bm_ a4 hg;have dV:=bn_ a4 hg;replace a4:=bb_ a4 hb;replace HB:=HB_;clear hb hg;(try clear b4 b5 b6 b7 b8 b9 d0 d1);obtain⟨d2,d3,d4,d5,d6,d7,d8,d9⟩:=ch4_ cQ)|((with_reducible refine gk_ ?_);first|((with_reducible refine gc_ 4 ?_);refine ge_ 46 Tryz.func4 #[.slice A0 l0.length c0] ?_;(with_reducible refine mo_ (laws_big.calls _ _ _ ?bI ?bJ A2.out) ?_);(case bI=>exact ca_ jc.out);(case bJ=>exact jd.out);rintro w' ⟨nd,rfl⟩)|((with_reducible refine gc_ 5 ?_);refine ge_ 49 Tryz.func5 #[.slice A0 l0.length c0] ?_;(with_reducible refine mo_ (spec_DrawMatrixOfSteps.calls _ _ x9 _ ?bI ?bJ A4.out) ?_);(case bI=>exact ca_ jc.out);(case bJ=>exact jd.out);intro w8 hb;replace HB:=bt_ HB hb;clear hb)|((with_reducible refine gc_ 6 ?_);refine ge_ 55 Tryz.func6 #[i6 bf,.string x9] ?_;(with_reducible refine mo_ (impl_MatrixOfSteps.calls x9 _ A5.out) ?_);intro w9 hb;replace HB:=bt_ HB hb;clear hb)|((with_reducible refine gc_ 7 ?_);refine ge_ 61 Tryz.func7 #[i6 bf,.string x9] ?_;(with_reducible refine mo_ (spec_MatrixOfSteps.calls x9 _ A6.out) ?_);intro mt hb;replace a4:=Aside0.mk (blk_below (g:=bA) (o:= .cells #[i6 ai,i6 aj,i6 ak,i6 al] 28 (0,0)) (bp_ a4).out hb);replace HB:=bt_ HB hb;(try clear hb))))
 (try simp only[Act.put,lstS,lstZ,lstC])
 go_cut [71] (fun lG wc=>∃(kq:Nat) (dY:Bool),lG= .bool dY∧Aside0 (laws_FnParts.j0 kq l0 bf x9 dU dY ai aj ak al=some r)∧Aside0 (kq≤k)∧Aside0 (b_ wc bA #[i6 ai,i6 aj,i6 ak,i6 al] 28)∧Aside0 (b_ wc ib #[i6 gX,i6 gY,i6 gZ,i6 ia] 28)∧Aside0 (Below w.heap.size w wc))
 case first=>as_aux_lemma=>
  have H:=je.out;clear je;replace H:=ie_ H
  rcases H with ⟨q7,an,H⟩|⟨ga,q7,an,H⟩
  ·(first|rw[q7]|(simp only[i64_w,i32_w];rw[q7])|skip)
   have H':=Aside0.mk H
   clear H;have jU:=bw.out;have jV:=dV.out
   obtain⟨f0,f1,f2,f3,f4,f5,f6,f7⟩:=ch4_ a4
   obtain⟨f8,f9,g0,g1,g2,g3,g4,g5⟩:=ch4_ cQ
   go_wp2
   go_meet
   case rel=>exact⟨_,(((!(ai==gX)||(!(aj==gY)))||((!(ak==gZ)||(!(al==ia)))))),en_,H',⟨by first|omega|exact Nat.le_refl _⟩,fl_ a4 bw,bp_ cQ,bw_ HB⟩
  (first|rw[q7]|(simp only[i64_w,i32_w];rw[q7])|skip)
  have H':=Aside0.mk H
  clear H
  go_wp2
  go_meet
  case rel=>exact⟨_,(true),en_,H',⟨by first|omega|exact Nat.le_refl _⟩,fl_ a4 bw,bp_ cQ,bw_ HB⟩
 case rest=>as_aux_lemma=>
  clear je
  try clear ga q7 an
  try clear b4 b5 b6 b7
  try clear d2 d3 d4 d5
  try clear f0 f1 f2 f3
  try clear f8 f9 g0 g1
  try clear b8 b9 d0 d1
  try clear d6 d7 d8 d9
  try clear f4 f5 f6 f7
  try clear g2 g3 g4 g5
  obtain⟨kq,dY,rfl,HA,cI,a4,cQ,HB⟩:=hcut
  cases kq with
  |zero=>exact absurd HA.out (by simp[laws_FnParts.j0])
  |succ lH=>
   have H:=HA.out;clear HA
   simp only[laws_FnParts.j0] at H
   replace H:=ibf_ H;obtain⟨rfl,H⟩:=H;replace H:=oc_ H;obtain⟨⟨r0,a6,a7,a8,a9⟩,lI,H⟩:=H;replace H:=oc_ H;obtain⟨⟨v4,v5,v6,v7,cJ⟩,lJ,H⟩:=H;replace H:=oc_ H;obtain⟨⟨gg,gh,gi,gj,jW⟩,lK,H⟩:=H;have gz:=Aside0.mk H;clear H
   go_upto_region 11 with (first|((with_reducible refine gd_ 10 ?_);(try(refine gate_guard (by rfl) ?_;dsimp only));refine by_ 10 #[i6 0,i6 0,i6 0,i6 0] 28 HB ?_;intro aX hg mu a2 hb jX HB_;have dW:=bm_ a4 hg;have gW:=bn_ a4 hg;replace a4:=bb_ a4 hb;replace HB:=HB_;clear hb hg;obtain⟨g6,g7,g8,g9,i4,i5,i7,i8⟩:=ch4_ a2)|((with_reducible refine gd_ 11 ?_);(try(refine gate_guard (by rfl) ?_;dsimp only));refine by_ 11 #[i6 0,i6 0,i6 0,i6 0] 28 HB ?_;intro v8 hg mv a1 hb jf HB_;have dC:=bm_ a4 hg;have gA:=bn_ a4 hg;have bK:=bm_ a2 hg;have dD:=bn_ a2 hg;replace a4:=bb_ a4 hb;replace a2:=bb_ a2 hb;replace HB:=HB_;clear hb hg;have jY:=dD.out;have jZ:=bK.out;(try clear g6 g7 g8 g9 i4 i5 i7 i8);obtain⟨i9,l1,l2,l3,l4,l5,l6,l7⟩:=ch4_ a1;obtain⟨l8,l9,m1,m2,m3,m4,m5,m6⟩:=ch4_ a2)|((with_reducible refine gd_ 13 ?_);(try(refine gate_guard (by rfl) ?_;dsimp only));refine by_ 13 #[i6 0,i6 0,i6 0,i6 0] 28 HB ?_;intro gB hg mw bL hb jg HB_;have bM:=bm_ a4 hg;have gC:=bn_ a4 hg;have bN:=bm_ a2 hg;have gD:=bn_ a2 hg;have ao:=bm_ a1 hg;have cR:=bn_ a1 hg;replace a4:=bb_ a4 hb;replace a2:=bb_ a2 hb;replace a1:=bb_ a1 hb;replace HB:=HB_;clear hb hg;(try clear i9 l1 l2 l3 l4 l5 l6 l7);(try clear l8 l9 m1 m2 m3 m4 m5 m6);obtain⟨m7,m8,m9,n0,n1,n2,n3,n4⟩:=ch4_ bL)|((with_reducible refine gk_ ?_);first|((with_reducible refine gc_ 8 ?_);refine ge_ 74 Tryz.func8 #[.slice A0 l0.length c0] ?_;(with_reducible refine mo_ (spec_DrawTriangularPart.calls _ _ _ ?bI ?bJ lI.out) ?_);(case bI=>exact ca_ (Kd.C_below jc.out HB.out));(case bJ=>exact jd.out);intro my hb;replace a4:=bb_ a4 hb;replace HB:=bt_ HB hb;clear hb)|((with_reducible refine gc_ 9 ?_);refine ge_ 80 Tryz.func9 #[i6 r0,.agg #[i6 a6,i6 a7,i6 a8,i6 a9]] ?_;(with_reducible refine mo_ (impl_TriangularPart.calls _ lJ.out) ?_);intro mz hb;replace a4:=fb_ a4 dW hb;replace a2:=Aside0.mk (blk_below (g:=aX) (o:= .cells #[i6 a6,i6 a7,i6 a8,i6 a9] 28 (0,0)) (bp_ a2).out hb);replace HB:=bt_ HB hb;(try clear hb))|((with_reducible refine gc_ 10 ?_);refine ge_ 86 Tryz.func10 #[i6 r0,.agg #[i6 a6,i6 a7,i6 a8,i6 a9]] ?_;(with_reducible refine mo_ (spec_TriangularPart.calls _ lK.out) ?_);intro mA hb;replace a4:=fb_ a4 dC hb;replace a2:=fb_ a2 bK hb;replace a1:=Aside0.mk (blk_below (g:=v8) (o:= .cells #[i6 v4,i6 v5,i6 v6,i6 v7] 28 (0,0)) (bp_ a1).out hb);replace HB:=bt_ HB hb;(try clear hb))))
   (try simp only[Act.put,lstS,lstZ,lstC])
   go_cut [96] (fun lL wc=>∃(kq:Nat) (dE:Bool),lL= .bool dE∧Aside0 (laws_FnParts.j1 kq bf x9 dU r0 cJ dE ai aj ak al a6 a7 a8 a9 v4 v5 v6 v7=some r)∧Aside0 (kq≤lH)∧Aside0 (b_ wc bA #[i6 ai,i6 aj,i6 ak,i6 al] 28)∧Aside0 (b_ wc aX #[i6 a6,i6 a7,i6 a8,i6 a9] 28)∧Aside0 (b_ wc v8 #[i6 v4,i6 v5,i6 v6,i6 v7] 28)∧Aside0 (b_ wc gB #[i6 gg,i6 gh,i6 gi,i6 gj] 28)∧Aside0 (Below w.heap.size w wc))
   case first=>as_aux_lemma=>
    have H:=gz.out;clear gz;replace H:=ie_ H
    rcases H with ⟨r1,aY,H⟩|⟨gc,r1,aY,H⟩
    ·(first|rw[r1]|(simp only[i64_w,i32_w];rw[r1])|skip)
     have H':=Aside0.mk H
     clear H;have la:=ao.out;have lb:=cR.out
     obtain⟨n5,n6,n7,n8,n9,o0,o1,o2⟩:=ch4_ a1
     obtain⟨o3,o4,o5,o6,o7,o8,o9,p0⟩:=ch4_ bL
     go_wp2
     go_meet
     case rel=>exact⟨_,(((!(v4==gg)||(!(v5==gh)))||((!(v6==gi)||(!(v7==gj)))))),en_,H',⟨by have:=cI.out;first|omega|exact Nat.le_refl _⟩,fl_ a4 bM,fl_ a2 bN,fl_ a1 ao,bp_ bL,bw_ HB⟩
    (first|rw[r1]|(simp only[i64_w,i32_w];rw[r1])|skip)
    have H':=Aside0.mk H
    clear H
    go_wp2
    go_meet
    case rel=>exact⟨_,(true),en_,H',⟨by have:=cI.out;first|omega|exact Nat.le_refl _⟩,fl_ a4 bM,fl_ a2 bN,fl_ a1 ao,bp_ bL,bw_ HB⟩
   case rest=>as_aux_lemma=>
    clear gz
    try clear ga q7 an
    try clear gc r1 aY
    try clear b4 b5 b6 b7
    try clear d2 d3 d4 d5
    try clear f0 f1 f2 f3
    try clear f8 f9 g0 g1
    try clear g6 g7 g8 g9
    try clear i9 l1 l2 l3
    try clear l8 l9 m1 m2
    try clear m7 m8 m9 n0
    try clear n5 n6 n7 n8
    try clear o3 o4 o5 o6
    try clear b8 b9 d0 d1
    try clear d6 d7 d8 d9
    try clear f4 f5 f6 f7
    try clear g2 g3 g4 g5
    try clear i4 i5 i7 i8
    try clear l4 l5 l6 l7
    try clear m3 m4 m5 m6
    try clear n1 n2 n3 n4
    try clear n9 o0 o1 o2
    try clear o7 o8 o9 p0
    obtain⟨kq,dE,rfl,HA,am,a4,a2,a1,bL,HB⟩:=hcut
    cases kq with
    |zero=>exact absurd HA.out (by simp[laws_FnParts.j1])
    |succ jh=>
     have H:=HA.out;clear HA
     simp only[laws_FnParts.j1] at H
     replace H:=ibf_ H;obtain⟨rfl,H⟩:=H;replace H:=oc_ H;obtain⟨⟨b0,b1,b2,b3,bB⟩,lM,H⟩:=H;replace H:=oc_ H;obtain⟨⟨gk,gl,gm,gn,lc⟩,lN,H⟩:=H;have gE:=Aside0.mk H;clear H
     obtain⟨r2,r3,r4,r5,r6,r7,r8,r9⟩:=ch4_ a2
     go_upto_region 15 with (first|((with_reducible refine gc_ 11 ?_);refine ge_ 100 Tryz.func11 #[i6 r0,.agg #[i6 a6,i6 a7,i6 a8,i6 a9]] ?_;(with_reducible refine mo_ (impl_UnitPart.calls _ lM.out) ?_);intro mB hb;replace a4:=bb_ a4 hb;replace a2:=bb_ a2 hb;replace a1:=bb_ a1 hb;replace HB:=bt_ HB hb;clear hb)|((with_reducible refine gd_ 15 ?_);(try(refine gate_guard (by rfl) ?_;dsimp only));refine by_ 15 #[i6 0,i6 0,i6 0,i6 0] 28 HB ?_;intro y8 hg mC a3 hb ji HB_;have dF:=bm_ a4 hg;have gF:=bn_ a4 hg;have bO:=bm_ a2 hg;have dG:=bn_ a2 hg;have cS:=bm_ a1 hg;have gp:=bn_ a1 hg;replace a4:=bb_ a4 hb;replace a2:=bb_ a2 hb;replace a1:=bb_ a1 hb;replace HB:=HB_;clear hb hg;have ld:=dG.out;have le:=bO.out;obtain⟨p1,p2,p3,p4,p5,p6,p7,p8⟩:=ch4_ a3;obtain⟨p9,q0,q1,q2,q3,q4,q5,q6⟩:=ch4_ a2)|((with_reducible refine gc_ 12 ?_);refine ge_ 106 Tryz.func12 #[i6 r0,.agg #[i6 a6,i6 a7,i6 a8,i6 a9]] ?_;(with_reducible refine mo_ (spec_UnitPart.calls _ lN.out) ?_);intro mD hb;replace a4:=fb_ a4 dF hb;replace a2:=fb_ a2 bO hb;replace a1:=fb_ a1 cS hb;replace a3:=Aside0.mk (blk_below (g:=y8) (o:= .cells #[i6 b0,i6 b1,i6 b2,i6 b3] 28 (0,0)) (bp_ a3).out hb);replace HB:=bt_ HB hb;(try clear hb))|((with_reducible refine gd_ 17 ?_);(try(refine gate_guard (by rfl) ?_;dsimp only));refine by_ 17 #[i6 0,i6 0,i6 0,i6 0] 28 HB ?_;intro gG hg mE bP hb jj HB_;have bQ:=bm_ a4 hg;have gH:=bn_ a4 hg;have bR:=bm_ a2 hg;have gI:=bn_ a2 hg;have bC:=bm_ a1 hg;have gq:=bn_ a1 hg;have ap:=bm_ a3 hg;have cT:=bn_ a3 hg;replace a4:=bb_ a4 hb;replace a2:=bb_ a2 hb;replace a1:=bb_ a1 hb;replace a3:=bb_ a3 hb;replace HB:=HB_;clear hb hg;(try clear p1 p2 p3 p4 p5 p6 p7 p8);(try clear p9 q0 q1 q2 q3 q4 q5 q6);obtain⟨s0,s1,s2,s3,s4,s5,s6,s7⟩:=ch4_ bP))
     (try simp only[Act.put,lstS,lstZ,lstC])
     go_cut [116] (fun jk wc=>∃(kq:Nat) (cK:Bool),jk= .bool cK∧Aside0 (laws_FnParts.j2 kq bf x9 dU r0 cJ bB cK ai aj ak al a6 a7 a8 a9 v4 v5 v6 v7 b0 b1 b2 b3=some r)∧Aside0 (kq≤jh)∧Aside0 (b_ wc bA #[i6 ai,i6 aj,i6 ak,i6 al] 28)∧Aside0 (b_ wc aX #[i6 a6,i6 a7,i6 a8,i6 a9] 28)∧Aside0 (b_ wc v8 #[i6 v4,i6 v5,i6 v6,i6 v7] 28)∧Aside0 (b_ wc y8 #[i6 b0,i6 b1,i6 b2,i6 b3] 28)∧Aside0 (b_ wc gG #[i6 gk,i6 gl,i6 gm,i6 gn] 28)∧Aside0 (Below w.heap.size w wc))
     case first=>as_aux_lemma=>
      have H:=gE.out;clear gE;replace H:=ie_ H
      rcases H with ⟨x0,bg,H⟩|⟨gr,x0,bg,H⟩
      ·(first|rw[x0]|(simp only[i64_w,i32_w];rw[x0])|skip)
       have H':=Aside0.mk H
       clear H;have lf:=ap.out;have lg:=cT.out
       obtain⟨s8,s9,t0,t1,t2,t3,t4,t5⟩:=ch4_ a3
       obtain⟨t6,t7,t8,t9,u4,u5,u6,u7⟩:=ch4_ bP
       go_wp2
       go_meet
       case rel=>exact⟨_,(((!(b0==gk)||(!(b1==gl)))||((!(b2==gm)||(!(b3==gn)))))),en_,H',⟨by have:=cI.out;have:=am.out;first|omega|exact Nat.le_refl _⟩,fl_ a4 bQ,fl_ a2 bR,fl_ a1 bC,fl_ a3 ap,bp_ bP,bw_ HB⟩
      (first|rw[x0]|(simp only[i64_w,i32_w];rw[x0])|skip)
      have H':=Aside0.mk H
      clear H
      go_wp2
      go_meet
      case rel=>exact⟨_,(true),en_,H',⟨by have:=cI.out;have:=am.out;first|omega|exact Nat.le_refl _⟩,fl_ a4 bQ,fl_ a2 bR,fl_ a1 bC,fl_ a3 ap,bp_ bP,bw_ HB⟩
     case rest=>as_aux_lemma=>
      clear gE
      try clear ga q7 an
      try clear gc r1 aY
      try clear gr x0 bg
      try clear b4 b5 b6 b7
      try clear d2 d3 d4 d5
      try clear f0 f1 f2 f3
      try clear f8 f9 g0 g1
      try clear g6 g7 g8 g9
      try clear i9 l1 l2 l3
      try clear l8 l9 m1 m2
      try clear m7 m8 m9 n0
      try clear n5 n6 n7 n8
      try clear o3 o4 o5 o6
      try clear r2 r3 r4 r5
      try clear p1 p2 p3 p4
      try clear p9 q0 q1 q2
      try clear s0 s1 s2 s3
      try clear s8 s9 t0 t1
      try clear t6 t7 t8 t9
      try clear b8 b9 d0 d1
      try clear d6 d7 d8 d9
      try clear f4 f5 f6 f7
      try clear g2 g3 g4 g5
      try clear i4 i5 i7 i8
      try clear l4 l5 l6 l7
      try clear m3 m4 m5 m6
      try clear n1 n2 n3 n4
      try clear n9 o0 o1 o2
      try clear o7 o8 o9 p0
      try clear r6 r7 r8 r9
      try clear p5 p6 p7 p8
      try clear q3 q4 q5 q6
      try clear s4 s5 s6 s7
      try clear t2 t3 t4 t5
      try clear u4 u5 u6 u7
      obtain⟨kq,cK,rfl,HA,aW,a4,a2,a1,a3,bP,HB⟩:=hcut
      cases kq with
      |zero=>exact absurd HA.out (by simp[laws_FnParts.j2])
      |succ jl=>
       have H:=HA.out;clear HA
       simp only[laws_FnParts.j2] at H
       replace H:=ibf_ H;obtain⟨rfl,H⟩:=H;replace H:=oc_ H;obtain⟨⟨u9,lh⟩,lO,H⟩:=H;replace H:=oc_ H;obtain⟨⟨ic,ll⟩,lP,H⟩:=H;have gJ:=Aside0.mk H;clear H
       obtain⟨y9,z0,z1,z2,z3,z4,z5,z6⟩:=ch4_ a2
       go_upto_region 19 with (first|((with_reducible refine gc_ 13 ?_);refine ge_ 120 Tryz.func13 #[i6 r0,.agg #[i6 a6,i6 a7,i6 a8,i6 a9]] ?_;(with_reducible refine mo_ (impl_IsUnitMatrix.calls _ lO.out) ?_);intro mF hb;replace a4:=bb_ a4 hb;replace a2:=bb_ a2 hb;replace a1:=bb_ a1 hb;replace a3:=bb_ a3 hb;replace HB:=bt_ HB hb;clear hb;obtain⟨z7,z8,z9,aa,ab,ac,ae,af⟩:=ch4_ a2)|((with_reducible refine gc_ 14 ?_);refine ge_ 126 Tryz.func14 #[i6 r0,.agg #[i6 a6,i6 a7,i6 a8,i6 a9]] ?_;(with_reducible refine mo_ (spec_IsUnitMatrix.calls _ lP.out) ?_);intro mG hb;replace a4:=bb_ a4 hb;replace a2:=bb_ a2 hb;replace a1:=bb_ a1 hb;replace a3:=bb_ a3 hb;replace HB:=bt_ HB hb;clear hb))
       (try simp only[Act.put,lstS,lstZ,lstC])
       go_cut [136] (fun jm wc=>∃(kq:Nat) (cL:Bool),jm= .bool cL∧Aside0 (laws_FnParts.j3 kq bf x9 dU r0 cJ bB u9 cL ai aj ak al a6 a7 a8 a9 v4 v5 v6 v7 b0 b1 b2 b3=some r)∧Aside0 (kq≤jl)∧Aside0 (b_ wc bA #[i6 ai,i6 aj,i6 ak,i6 al] 28)∧Aside0 (b_ wc aX #[i6 a6,i6 a7,i6 a8,i6 a9] 28)∧Aside0 (b_ wc v8 #[i6 v4,i6 v5,i6 v6,i6 v7] 28)∧Aside0 (b_ wc y8 #[i6 b0,i6 b1,i6 b2,i6 b3] 28)∧Aside0 (Below w.heap.size w wc))
       case first=>as_aux_lemma=>
        have H:=gJ.out;clear gJ;replace H:=ie_ H
        rcases H with ⟨ah,bD,H⟩|⟨gK,ah,bD,H⟩
        ·(first|rw[ah]|(simp only[i64_w,i32_w];rw[ah])|skip)
         have H':=Aside0.mk H
         clear H
         go_wp2
         go_meet
         case rel=>exact⟨_,((u9 !=ic)),en_,H',⟨by have:=cI.out;have:=am.out;have:=aW.out;first|omega|exact Nat.le_refl _⟩,bl_ a4,bl_ a2,bl_ a1,bl_ a3,bw_ HB⟩
        (first|rw[ah]|(simp only[i64_w,i32_w];rw[ah])|skip)
        have H':=Aside0.mk H
        clear H
        go_wp2
        go_meet
        case rel=>exact⟨_,(true),en_,H',⟨by have:=cI.out;have:=am.out;have:=aW.out;first|omega|exact Nat.le_refl _⟩,bl_ a4,bl_ a2,bl_ a1,bl_ a3,bw_ HB⟩
       case rest=>as_aux_lemma=>
        clear gJ
        try clear ga q7 an
        try clear gc r1 aY
        try clear gr x0 bg
        try clear gK ah bD
        try clear b4 b5 b6 b7
        try clear d2 d3 d4 d5
        try clear f0 f1 f2 f3
        try clear f8 f9 g0 g1
        try clear g6 g7 g8 g9
        try clear i9 l1 l2 l3
        try clear l8 l9 m1 m2
        try clear m7 m8 m9 n0
        try clear n5 n6 n7 n8
        try clear o3 o4 o5 o6
        try clear r2 r3 r4 r5
        try clear p1 p2 p3 p4
        try clear p9 q0 q1 q2
        try clear s0 s1 s2 s3
        try clear s8 s9 t0 t1
        try clear t6 t7 t8 t9
        try clear y9 z0 z1 z2
        try clear z7 z8 z9 aa
        try clear b8 b9 d0 d1
        try clear d6 d7 d8 d9
        try clear f4 f5 f6 f7
        try clear g2 g3 g4 g5
        try clear i4 i5 i7 i8
        try clear l4 l5 l6 l7
        try clear m3 m4 m5 m6
        try clear n1 n2 n3 n4
        try clear n9 o0 o1 o2
        try clear o7 o8 o9 p0
        try clear r6 r7 r8 r9
        try clear p5 p6 p7 p8
        try clear q3 q4 q5 q6
        try clear s4 s5 s6 s7
        try clear t2 t3 t4 t5
        try clear u4 u5 u6 u7
        try clear z3 z4 z5 z6
        try clear ab ac ae af
        obtain⟨kq,cL,rfl,HA,bh,a4,a2,a1,a3,HB⟩:=hcut
        cases kq with
        |zero=>exact absurd HA.out (by simp[laws_FnParts.j3])
        |succ jn=>
         have H:=HA.out;clear HA
         simp only[laws_FnParts.j3] at H
         replace H:=ibf_ H;obtain⟨rfl,H⟩:=H;replace H:=oc_ H;obtain⟨⟨q8,dS⟩,lQ,H⟩:=H;replace H:=oc_ H;obtain⟨⟨ie,lm⟩,lR,H⟩:=H;have gL:=Aside0.mk H;clear H
         obtain⟨aO,aP,aQ,aR,aS,aT,aU,aV⟩:=ch4_ a2
         go_upto_region 23 with (first|((with_reducible refine gc_ 15 ?_);refine ge_ 140 Tryz.func15 #[i6 r0,.agg #[i6 a6,i6 a7,i6 a8,i6 a9]] ?_;(with_reducible refine mo_ (impl_MatrixPosition.calls _ lQ.out) ?_);intro lS hb;replace a4:=bb_ a4 hb;replace a2:=bb_ a2 hb;replace a1:=bb_ a1 hb;replace a3:=bb_ a3 hb;replace HB:=bt_ HB hb;clear hb;obtain⟨x1,x2,x3,x4,x5,x6,x7,x8⟩:=ch4_ a2)|((with_reducible refine gc_ 16 ?_);refine ge_ 146 Tryz.func16 #[i6 r0,.agg #[i6 a6,i6 a7,i6 a8,i6 a9]] ?_;(with_reducible refine mo_ (spec_MatrixPosition.calls _ lR.out) ?_);intro lT hb;replace a4:=bb_ a4 hb;replace a2:=bb_ a2 hb;replace a1:=bb_ a1 hb;replace a3:=bb_ a3 hb;replace HB:=bt_ HB hb;clear hb))
         (try simp only[Act.put,lstS,lstZ,lstC])
         go_cut [156] (fun jo wc=>∃(kq:Nat) (cM:Bool),jo= .bool cM∧Aside0 (laws_FnParts.j4 kq bf x9 dU r0 cJ bB u9 q8 dS cM ai aj ak al a6 a7 a8 a9 v4 v5 v6 v7 b0 b1 b2 b3=some r)∧Aside0 (kq≤jn)∧Aside0 (b_ wc bA #[i6 ai,i6 aj,i6 ak,i6 al] 28)∧Aside0 (b_ wc aX #[i6 a6,i6 a7,i6 a8,i6 a9] 28)∧Aside0 (b_ wc v8 #[i6 v4,i6 v5,i6 v6,i6 v7] 28)∧Aside0 (b_ wc y8 #[i6 b0,i6 b1,i6 b2,i6 b3] 28)∧Aside0 (Below w.heap.size w wc))
         case first=>as_aux_lemma=>
          have H:=gL.out;clear gL;replace H:=ie_ H
          rcases H with ⟨q9,ba,H⟩|⟨dX,q9,ba,H⟩
          ·(first|rw[q9]|(simp only[i64_w,i32_w];rw[q9])|skip)
           have H':=Aside0.mk H
           clear H
           go_wp2
           go_meet
           case rel=>exact⟨_,((q8 !=ie)),en_,H',⟨by have:=cI.out;have:=am.out;have:=aW.out;have:=bh.out;first|omega|exact Nat.le_refl _⟩,bl_ a4,bl_ a2,bl_ a1,bl_ a3,bw_ HB⟩
          (first|rw[q9]|(simp only[i64_w,i32_w];rw[q9])|skip)
          have H':=Aside0.mk H
          clear H
          go_wp2
          go_meet
          case rel=>exact⟨_,(true),en_,H',⟨by have:=cI.out;have:=am.out;have:=aW.out;have:=bh.out;first|omega|exact Nat.le_refl _⟩,bl_ a4,bl_ a2,bl_ a1,bl_ a3,bw_ HB⟩
         case rest=>as_aux_lemma=>
          clear gL
          try clear ga q7 an
          try clear gc r1 aY
          try clear gr x0 bg
          try clear gK ah bD
          try clear dX q9 ba
          try clear x1 x2 x3 x4
          try clear b4 b5 b6 b7
          try clear d2 d3 d4 d5
          try clear f0 f1 f2 f3
          try clear f8 f9 g0 g1
          try clear g6 g7 g8 g9
          try clear i9 l1 l2 l3
          try clear l8 l9 m1 m2
          try clear m7 m8 m9 n0
          try clear n5 n6 n7 n8
          try clear o3 o4 o5 o6
          try clear r2 r3 r4 r5
          try clear p1 p2 p3 p4
          try clear p9 q0 q1 q2
          try clear s0 s1 s2 s3
          try clear s8 s9 t0 t1
          try clear t6 t7 t8 t9
          try clear y9 z0 z1 z2
          try clear z7 z8 z9 aa
          try clear aO aP aQ aR
          try clear x5 x6 x7 x8
          try clear b8 b9 d0 d1
          try clear d6 d7 d8 d9
          try clear f4 f5 f6 f7
          try clear g2 g3 g4 g5
          try clear i4 i5 i7 i8
          try clear l4 l5 l6 l7
          try clear m3 m4 m5 m6
          try clear n1 n2 n3 n4
          try clear n9 o0 o1 o2
          try clear o7 o8 o9 p0
          try clear r6 r7 r8 r9
          try clear p5 p6 p7 p8
          try clear q3 q4 q5 q6
          try clear s4 s5 s6 s7
          try clear t2 t3 t4 t5
          try clear u4 u5 u6 u7
          try clear z3 z4 z5 z6
          try clear ab ac ae af
          try clear aS aT aU aV
          obtain⟨kq,cM,rfl,HA,bH,a4,a2,a1,a3,HB⟩:=hcut
          cases kq with
          |zero=>exact absurd HA.out (by simp[laws_FnParts.j4])
          |succ jp=>
           have H:=HA.out;clear HA
           simp only[laws_FnParts.j4] at H
           replace H:=ibf_ H;obtain⟨rfl,H⟩:=H;replace H:=oc_ H;obtain⟨⟨bS,dT⟩,jq,H⟩:=H;replace H:=oc_ H;obtain⟨⟨gu,ln⟩,jr,H⟩:=H;have dZ:=Aside0.mk H;clear H
           obtain⟨aq,ar,au,av,aw,ax,ay,az⟩:=ch4_ a2
           go_upto_region 27 with (first|((with_reducible refine gc_ 17 ?_);refine ge_ 160 Tryz.func17 #[i6 r0,.agg #[i6 a6,i6 a7,i6 a8,i6 a9]] ?_;(with_reducible refine mo_ (impl_StepsOfMatrix.calls bS _ jq.out) ?_);intro lU hb;replace a4:=bb_ a4 hb;replace a2:=bb_ a2 hb;replace a1:=bb_ a1 hb;replace a3:=bb_ a3 hb;replace HB:=bt_ HB hb;clear hb;obtain⟨aA,aB,aC,aD,aE,aF,aG,aH⟩:=ch4_ a2)|((with_reducible refine gc_ 18 ?_);refine ge_ 166 Tryz.func18 #[i6 r0,.agg #[i6 a6,i6 a7,i6 a8,i6 a9]] ?_;(with_reducible refine mo_ (spec_StepsOfMatrix.calls gu _ jr.out) ?_);intro lV hb;replace a4:=bb_ a4 hb;replace a2:=bb_ a2 hb;replace a1:=bb_ a1 hb;replace a3:=bb_ a3 hb;replace HB:=bt_ HB hb;clear hb))
           (try simp only[Act.put,lstS,lstZ,lstC])
           go_cut [176] (fun jt wc=>∃(kq:Nat) (bT:Bool),jt= .bool bT∧Aside0 (laws_FnParts.j5 kq bf x9 dU r0 cJ bB u9 q8 dS bS dT bT ai aj ak al a6 a7 a8 a9 v4 v5 v6 v7 b0 b1 b2 b3=some r)∧Aside0 (kq≤jp)∧Aside0 (b_ wc bA #[i6 ai,i6 aj,i6 ak,i6 al] 28)∧Aside0 (b_ wc aX #[i6 a6,i6 a7,i6 a8,i6 a9] 28)∧Aside0 (b_ wc v8 #[i6 v4,i6 v5,i6 v6,i6 v7] 28)∧Aside0 (b_ wc y8 #[i6 b0,i6 b1,i6 b2,i6 b3] 28)∧Aside0 (Below w.heap.size w wc))
           case first=>as_aux_lemma=>
            have H:=dZ.out;clear dZ;replace H:=ie_ H
            rcases H with ⟨v9,bx,H⟩|⟨fa,v9,bx,H⟩
            ·(first|rw[v9]|(simp only[i64_w,i32_w];rw[v9])|skip)
             have H':=Aside0.mk H
             clear H
             go_wp2
             go_meet
             case rel=>exact⟨_,((bS.toList !=gu.toList)),en_,H',⟨by have:=cI.out;have:=am.out;have:=aW.out;have:=bh.out;have:=bH.out;first|omega|exact Nat.le_refl _⟩,bl_ a4,bl_ a2,bl_ a1,bl_ a3,bw_ HB⟩
            (first|rw[v9]|(simp only[i64_w,i32_w];rw[v9])|skip)
            have H':=Aside0.mk H
            clear H
            go_wp2
            go_meet
            case rel=>exact⟨_,(true),en_,H',⟨by have:=cI.out;have:=am.out;have:=aW.out;have:=bh.out;have:=bH.out;first|omega|exact Nat.le_refl _⟩,bl_ a4,bl_ a2,bl_ a1,bl_ a3,bw_ HB⟩
           case rest=>as_aux_lemma=>
            clear dZ
            try clear ga q7 an
            try clear gc r1 aY
            try clear gr x0 bg
            try clear gK ah bD
            try clear dX q9 ba
            try clear fa v9 bx
            try clear x1 x2 x3 x4
            try clear aq ar au av
            try clear aA aB aC aD
            try clear b4 b5 b6 b7
            try clear d2 d3 d4 d5
            try clear f0 f1 f2 f3
            try clear f8 f9 g0 g1
            try clear g6 g7 g8 g9
            try clear i9 l1 l2 l3
            try clear l8 l9 m1 m2
            try clear m7 m8 m9 n0
            try clear n5 n6 n7 n8
            try clear o3 o4 o5 o6
            try clear r2 r3 r4 r5
            try clear p1 p2 p3 p4
            try clear p9 q0 q1 q2
            try clear s0 s1 s2 s3
            try clear s8 s9 t0 t1
            try clear t6 t7 t8 t9
            try clear y9 z0 z1 z2
            try clear z7 z8 z9 aa
            try clear aO aP aQ aR
            try clear x5 x6 x7 x8
            try clear aw ax ay az
            try clear aE aF aG aH
            try clear b8 b9 d0 d1
            try clear d6 d7 d8 d9
            try clear f4 f5 f6 f7
            try clear g2 g3 g4 g5
            try clear i4 i5 i7 i8
            try clear l4 l5 l6 l7
            try clear m3 m4 m5 m6
            try clear n1 n2 n3 n4
            try clear n9 o0 o1 o2
            try clear o7 o8 o9 p0
            try clear r6 r7 r8 r9
            try clear p5 p6 p7 p8
            try clear q3 q4 q5 q6
            try clear s4 s5 s6 s7
            try clear t2 t3 t4 t5
            try clear u4 u5 u6 u7
            try clear z3 z4 z5 z6
            try clear ab ac ae af
            try clear aS aT aU aV
            obtain⟨kq,bT,rfl,HA,aZ,a4,a2,a1,a3,HB⟩:=hcut
            cases kq with
            |zero=>exact absurd HA.out (by simp[laws_FnParts.j5])
            |succ ig=>
             have H:=HA.out;clear HA
             simp only[laws_FnParts.j5] at H
             replace H:=ibf_ H;obtain⟨rfl,H⟩:=H;replace H:=oc_ H;obtain⟨⟨gv,lp⟩,ju,H⟩:=H;have fb:=Aside0.mk H;clear H
             go_upto_region 30 with (first|((with_reducible refine gc_ 19 ?_);refine ge_ 180 Tryz.func19 #[i6 bf,.string x9] ?_;(with_reducible refine mo_ (spec_NormalSteps.calls x9 gv _ ju.out) ?_);intro lW hb;replace a4:=bb_ a4 hb;replace a2:=bb_ a2 hb;replace a1:=bb_ a1 hb;replace a3:=bb_ a3 hb;replace HB:=bt_ HB hb;clear hb))
             (try simp only[Act.put,lstS,lstZ,lstC])
             go_cut [189] (fun jv wc=>∃(kq:Nat) (bU:Bool),jv= .bool bU∧Aside0 (laws_FnParts.j6 kq bf x9 r0 cJ bB u9 q8 dS bS dT bU ai aj ak al a6 a7 a8 a9 v4 v5 v6 v7 b0 b1 b2 b3=some r)∧Aside0 (kq≤ig)∧Aside0 (b_ wc bA #[i6 ai,i6 aj,i6 ak,i6 al] 28)∧Aside0 (b_ wc aX #[i6 a6,i6 a7,i6 a8,i6 a9] 28)∧Aside0 (b_ wc v8 #[i6 v4,i6 v5,i6 v6,i6 v7] 28)∧Aside0 (b_ wc y8 #[i6 b0,i6 b1,i6 b2,i6 b3] 28)∧Aside0 (Below w.heap.size w wc))
             case first=>as_aux_lemma=>
              have H:=fb.out;clear fb;replace H:=ie_ H
              rcases H with ⟨ag,bV,H⟩|⟨gf,ag,bV,H⟩
              ·(first|rw[ag]|(simp only[i64_w,i32_w];rw[ag])|skip)
               have H':=Aside0.mk H
               clear H
               go_wp2
               go_meet
               case rel=>exact⟨_,((gv.toList==x9.toList)),en_,H',⟨by have:=cI.out;have:=am.out;have:=aW.out;have:=bh.out;have:=bH.out;have:=aZ.out;first|omega|exact Nat.le_refl _⟩,bl_ a4,bl_ a2,bl_ a1,bl_ a3,bw_ HB⟩
              (first|rw[ag]|(simp only[i64_w,i32_w];rw[ag])|skip)
              have H':=Aside0.mk H
              clear H
              go_wp2
              go_meet
              case rel=>exact⟨_,(false),en_,H',⟨by have:=cI.out;have:=am.out;have:=aW.out;have:=bh.out;have:=bH.out;have:=aZ.out;first|omega|exact Nat.le_refl _⟩,bl_ a4,bl_ a2,bl_ a1,bl_ a3,bw_ HB⟩
             case rest=>as_aux_lemma=>
              clear fb
              try clear ga q7 an
              try clear gc r1 aY
              try clear gr x0 bg
              try clear gK ah bD
              try clear dX q9 ba
              try clear fa v9 bx
              try clear gf ag bV
              try clear x1 x2 x3 x4
              try clear aq ar au av
              try clear aA aB aC aD
              try clear b4 b5 b6 b7
              try clear d2 d3 d4 d5
              try clear f0 f1 f2 f3
              try clear f8 f9 g0 g1
              try clear g6 g7 g8 g9
              try clear i9 l1 l2 l3
              try clear l8 l9 m1 m2
              try clear m7 m8 m9 n0
              try clear n5 n6 n7 n8
              try clear o3 o4 o5 o6
              try clear r2 r3 r4 r5
              try clear p1 p2 p3 p4
              try clear p9 q0 q1 q2
              try clear s0 s1 s2 s3
              try clear s8 s9 t0 t1
              try clear t6 t7 t8 t9
              try clear y9 z0 z1 z2
              try clear z7 z8 z9 aa
              try clear aO aP aQ aR
              try clear x5 x6 x7 x8
              try clear aw ax ay az
              try clear aE aF aG aH
              try clear b8 b9 d0 d1
              try clear d6 d7 d8 d9
              try clear f4 f5 f6 f7
              try clear g2 g3 g4 g5
              try clear i4 i5 i7 i8
              try clear l4 l5 l6 l7
              try clear m3 m4 m5 m6
              try clear n1 n2 n3 n4
              try clear n9 o0 o1 o2
              try clear o7 o8 o9 p0
              try clear r6 r7 r8 r9
              try clear p5 p6 p7 p8
              try clear q3 q4 q5 q6
              try clear s4 s5 s6 s7
              try clear t2 t3 t4 t5
              try clear u4 u5 u6 u7
              try clear z3 z4 z5 z6
              try clear ab ac ae af
              try clear aS aT aU aV
              obtain⟨kq,bU,rfl,HA,bE,a4,a2,a1,a3,HB⟩:=hcut
              cases kq with
              |zero=>exact absurd HA.out (by simp[laws_FnParts.j6])
              |succ ii=>
               have H:=HA.out;clear HA
               simp only[laws_FnParts.j6] at H
               have fc:=Aside0.mk H;clear H
               go_upto_if 189 with (fail)
               go_cut [] (fun wc=>∃(kq:Nat),Aside0 (laws_FnParts.j7 kq r0 cJ bB u9 q8 dS bS dT a6 a7 a8 a9 v4 v5 v6 v7 b0 b1 b2 b3=some r)∧Aside0 (kq≤ii)∧Aside0 (b_ wc aX #[i6 a6,i6 a7,i6 a8,i6 a9] 28)∧Aside0 (b_ wc v8 #[i6 v4,i6 v5,i6 v6,i6 v7] 28)∧Aside0 (b_ wc y8 #[i6 b0,i6 b1,i6 b2,i6 b3] 28)∧Aside0 (Below w.heap.size w wc))
               case first=>as_aux_lemma=>
                have H:=fc.out;clear fc;replace H:=ib_ H
                rcases H with ⟨rfl,H⟩|⟨rfl,H⟩
                ·replace H:=oc_ H
                 obtain⟨⟨cU,cV,cW,lq⟩,ij,H⟩:=H;replace H:=oc_ H;obtain⟨⟨fd,fe,ff,lr⟩,ik,H⟩:=H;replace H:=ie_ H
                 rcases H with ⟨aI,cN,H⟩|⟨gM,aI,cN,H⟩
                 ·(first|rw[aI]|(simp only[i64_w,i32_w];rw[aI])|skip)
                  replace H:=ien_ H;obtain⟨dH,dI,H⟩:=H
                  by_cases cO: (!(cU==fd)||(!(cV==fe)||(!(cW==ff))))=true
                  ·rw[if_pos cO] at H
                   have cP: (!(cU==fd)||(!(cV==fe)||(!(cW==ff))))=true:=cO
                   clear cO
                   exact absurd H (by simp)
                  rw[if_neg cO] at H
                  have cP: (!(cU==fd)||(!(cV==fe)||(!(cW==ff))))=false:=by simpa using cO
                  clear cO
                  have H':=Aside0.mk H
                  clear H
                  obtain⟨bW,bX,bY,bZ,ca,cb,cd,ce⟩:=ch4_ a4
                  go_wp2_with (first|((with_reducible refine gc_ 20 ?_);refine ge_ 194 Tryz.func20 #[i6 bf,.agg #[i6 ai,i6 aj,i6 ak,i6 al],.agg #[i6 0,i6 0,i6 0]] ?_;(with_reducible refine mo_ (impl_MoveBall.calls _ ij.out) ?_);intro lX hb;replace a4:=bb_ a4 hb;replace a2:=bb_ a2 hb;replace a1:=bb_ a1 hb;replace a3:=bb_ a3 hb;replace HB:=bt_ HB hb;clear hb)|((with_reducible refine gd_ 33 ?_);(try(refine gate_guard (by rfl) ?_;dsimp only));refine by_ 33 #[i6 0,i6 0,i6 0] 42 HB ?_;intro dJ hg lY a5 hb gN HB_;have bb:=bm_ a4 hg;have dK:=bn_ a4 hg;have bc:=bm_ a2 hg;have dL:=bn_ a2 hg;have aJ:=bm_ a1 hg;have cX:=bn_ a1 hg;have aK:=bm_ a3 hg;have cY:=bn_ a3 hg;replace a4:=bb_ a4 hb;replace a2:=bb_ a2 hb;replace a1:=bb_ a1 hb;replace a3:=bb_ a3 hb;replace HB:=HB_;clear hb hg;obtain⟨bi,bj,bk,bl,bm,bn⟩:=ch3_ a5)|((with_reducible refine gc_ 21 ?_);refine ge_ 201 Tryz.func21 #[i6 bf,.agg #[i6 0,i6 0,i6 0],.string x9] ?_;(with_reducible refine mo_ (impl_FollowSteps.calls x9 _ ik.out) ?_);intro lZ hb;replace a4:=fb_ a4 bb hb;replace a2:=fb_ a2 bc hb;replace a1:=fb_ a1 aJ hb;replace a3:=fb_ a3 aK hb;replace a5:=Aside0.mk (blk_below (g:=dJ) (o:= .cells #[i6 cU,i6 cV,i6 cW] 42 (0,0)) (bp_ a5).out hb);replace HB:=bt_ HB hb;(try clear hb))|((with_reducible refine gd_ 35 ?_);(try(refine gate_guard (by rfl) ?_;dsimp only));refine by_ 35 #[i6 0,i6 0,i6 0] 42 HB ?_;intro gO hg ma dM hb gP HB_;have bd:=bm_ a2 hg;have dN:=bn_ a2 hg;have aL:=bm_ a1 hg;have cZ:=bn_ a1 hg;have aM:=bm_ a3 hg;have da:=bn_ a3 hg;have bF:=bm_ a5 hg;have bG:=bn_ a5 hg;replace a2:=bb_ a2 hb;replace a1:=bb_ a1 hb;replace a3:=bb_ a3 hb;replace a5:=bb_ a5 hb;replace HB:=HB_;clear hb hg;have jw:=bG.out;have jx:=bF.out;(try clear bi bj bk bl bm bn);obtain⟨cf,cg,ch,ci,cj,ck⟩:=ch3_ dM;obtain⟨cl,cm,cn,co,cp,cq⟩:=ch3_ a5))
                  go_meet
                  case rel=>exact⟨_,H',⟨by have:=cI.out;have:=am.out;have:=aW.out;have:=bh.out;have:=bH.out;have:=aZ.out;have:=bE.out;first|omega|exact Nat.le_refl _⟩,fl_ a2 bd,fl_ a1 aL,fl_ a3 aM,bw_ HB⟩
                 (first|rw[aI]|(simp only[i64_w,i32_w];rw[aI])|skip)
                 have H':=Aside0.mk H
                 clear H
                 obtain⟨cr,ct,cu,cv,cw,cx,cy,cz⟩:=ch4_ a4
                 go_wp2_with (first|((with_reducible refine gc_ 20 ?_);refine ge_ 194 Tryz.func20 #[i6 bf,.agg #[i6 ai,i6 aj,i6 ak,i6 al],.agg #[i6 0,i6 0,i6 0]] ?_;(with_reducible refine mo_ (impl_MoveBall.calls _ ij.out) ?_);intro mb hb;replace a4:=bb_ a4 hb;replace a2:=bb_ a2 hb;replace a1:=bb_ a1 hb;replace a3:=bb_ a3 hb;replace HB:=bt_ HB hb;clear hb)|((with_reducible refine gd_ 33 ?_);(try(refine gate_guard (by rfl) ?_;dsimp only));refine by_ 33 #[i6 0,i6 0,i6 0] 42 HB ?_;intro dJ hg mc a5 hb gN HB_;have bb:=bm_ a4 hg;have dK:=bn_ a4 hg;have bc:=bm_ a2 hg;have dL:=bn_ a2 hg;have aJ:=bm_ a1 hg;have cX:=bn_ a1 hg;have aK:=bm_ a3 hg;have cY:=bn_ a3 hg;replace a4:=bb_ a4 hb;replace a2:=bb_ a2 hb;replace a1:=bb_ a1 hb;replace a3:=bb_ a3 hb;replace HB:=HB_;clear hb hg;obtain⟨bo,bp,bq,br,bs,bu⟩:=ch3_ a5)|((with_reducible refine gc_ 21 ?_);refine ge_ 201 Tryz.func21 #[i6 bf,.agg #[i6 0,i6 0,i6 0],.string x9] ?_;(with_reducible refine mo_ (impl_FollowSteps.calls x9 _ ik.out) ?_);intro me hb;replace a4:=fb_ a4 bb hb;replace a2:=fb_ a2 bc hb;replace a1:=fb_ a1 aJ hb;replace a3:=fb_ a3 aK hb;replace a5:=Aside0.mk (blk_below (g:=dJ) (o:= .cells #[i6 cU,i6 cV,i6 cW] 42 (0,0)) (bp_ a5).out hb);replace HB:=bt_ HB hb;(try clear hb))|((with_reducible refine gd_ 35 ?_);(try(refine gate_guard (by rfl) ?_;dsimp only));refine by_ 35 #[i6 0,i6 0,i6 0] 42 HB ?_;intro gO hg mf dM hb gP HB_;have bd:=bm_ a2 hg;have dN:=bn_ a2 hg;have aL:=bm_ a1 hg;have cZ:=bn_ a1 hg;have aM:=bm_ a3 hg;have da:=bn_ a3 hg;have bF:=bm_ a5 hg;have bG:=bn_ a5 hg;replace a2:=bb_ a2 hb;replace a1:=bb_ a1 hb;replace a3:=bb_ a3 hb;replace a5:=bb_ a5 hb;replace HB:=HB_;clear hb hg;(try clear bo bp bq br bs bu);obtain⟨cA,cB,cC,cD,cE,cF⟩:=ch3_ dM))
                 go_meet
                 case rel=>exact⟨_,H',⟨by have:=cI.out;have:=am.out;have:=aW.out;have:=bh.out;have:=bH.out;have:=aZ.out;have:=bE.out;first|omega|exact Nat.le_refl _⟩,fl_ a2 bd,fl_ a1 aL,fl_ a3 aM,bw_ HB⟩
                have H':=Aside0.mk H
                clear H
                go_wp2
                go_meet
                case rel=>exact⟨_,H',⟨by have:=cI.out;have:=am.out;have:=aW.out;have:=bh.out;have:=bH.out;have:=aZ.out;have:=bE.out;first|omega|exact Nat.le_refl _⟩,bl_ a2,bl_ a1,bl_ a3,bw_ HB⟩
               case rest=>as_aux_lemma=>
                clear fc
                try clear ga q7 an
                try clear gc r1 aY
                try clear gr x0 bg
                try clear gK ah bD
                try clear dX q9 ba
                try clear fa v9 bx
                try clear gf ag bV
                try clear gM aI cN
                try clear dH dI
                try clear cO cP
                try clear x1 x2 x3 x4
                try clear aq ar au av
                try clear aA aB aC aD
                try clear b4 b5 b6 b7
                try clear bW bX bY bZ
                try clear bi bj bk
                try clear cf cg ch
                try clear cl cm cn
                try clear cr ct cu cv
                try clear bo bp bq
                try clear d2 d3 d4 d5
                try clear cA cB cC
                try clear f0 f1 f2 f3
                try clear f8 f9 g0 g1
                try clear g6 g7 g8 g9
                try clear i9 l1 l2 l3
                try clear l8 l9 m1 m2
                try clear m7 m8 m9 n0
                try clear n5 n6 n7 n8
                try clear o3 o4 o5 o6
                try clear r2 r3 r4 r5
                try clear p1 p2 p3 p4
                try clear p9 q0 q1 q2
                try clear s0 s1 s2 s3
                try clear s8 s9 t0 t1
                try clear t6 t7 t8 t9
                try clear y9 z0 z1 z2
                try clear z7 z8 z9 aa
                try clear aO aP aQ aR
                try clear x5 x6 x7 x8
                try clear aw ax ay az
                try clear aE aF aG aH
                try clear b8 b9 d0 d1
                try clear ca cb cd ce
                try clear bl bm bn
                try clear ci cj ck
                try clear co cp cq
                try clear cw cx cy cz
                try clear br bs bu
                try clear d6 d7 d8 d9
                try clear cD cE cF
                try clear f4 f5 f6 f7
                try clear g2 g3 g4 g5
                try clear i4 i5 i7 i8
                try clear l4 l5 l6 l7
                try clear m3 m4 m5 m6
                try clear n1 n2 n3 n4
                try clear n9 o0 o1 o2
                try clear o7 o8 o9 p0
                try clear r6 r7 r8 r9
                try clear p5 p6 p7 p8
                try clear q3 q4 q5 q6
                try clear s4 s5 s6 s7
                try clear t2 t3 t4 t5
                try clear u4 u5 u6 u7
                try clear z3 z4 z5 z6
                try clear ab ac ae af
                try clear aS aT aU aV
                obtain⟨kq,HA,db,a2,a1,a3,HB⟩:=hcut
                cases kq with
                |zero=>exact absurd HA.out (by simp[laws_FnParts.j7])
                |succ il=>
                 have H:=HA.out;clear HA
                 simp only[laws_FnParts.j7] at H
                 have fg:=Aside0.mk H;clear H
                 go_upto_if 216 with (fail)
                 go_cut [] (fun wc=>∃(kq:Nat),Aside0 (laws_FnParts.j8 kq r0 cJ bB q8 bS dT a6 a7 a8 a9 v4 v5 v6 v7 b0 b1 b2 b3=some r)∧Aside0 (kq≤il)∧Aside0 (b_ wc aX #[i6 a6,i6 a7,i6 a8,i6 a9] 28)∧Aside0 (b_ wc v8 #[i6 v4,i6 v5,i6 v6,i6 v7] 28)∧Aside0 (b_ wc y8 #[i6 b0,i6 b1,i6 b2,i6 b3] 28)∧Aside0 (Below w.heap.size w wc))
                 case first=>as_aux_lemma=>
                  have H:=fg.out;clear fg;replace H:=ie_ H
                  rcases H with ⟨be,dO,H⟩|⟨im,be,dO,H⟩
                  ·(first|rw[be]|(simp only[i64_w,i32_w];rw[be])|skip)
                   replace H:=oc_ H;obtain⟨⟨ls,lt⟩,io,H⟩:=H;replace H:=ie_ H
                   rcases H with ⟨dP,dQ,H⟩|⟨ip,dP,dQ,H⟩
                   ·replace H:=ien_ H
                    obtain⟨fh,fi,H⟩:=H
                    by_cases dc: (u9 !=(q8==0))=true
                    ·rw[if_pos dc] at H
                     exact absurd H (by simp)
                    rw[if_neg dc] at H
                    have fj: (u9 !=(q8==0))=false:=by simpa using dc
                    (try(have fk:decide (u9=(q8==0))=true:=by simpa using dc))
                    (try(have fl: (u9==(q8==0))=true:=by simpa using dc))
                    clear dc
                    have H':=Aside0.mk H
                    clear H
                    obtain⟨dd,de,df,dg,dh,di,dj,dk⟩:=ch4_ a2
                    go_wp2_with (first|((with_reducible refine gc_ 22 ?_);refine ge_ 221 Tryz.func22 #[i6 r0,.agg #[i6 a6,i6 a7,i6 a8,i6 a9],.agg #[i6 0,i6 0,i6 0]] ?_;(with_reducible refine mo_ (impl_DisplacementOf.calls _ io.out) ?_);intro mg hb;replace a2:=bb_ a2 hb;replace a1:=bb_ a1 hb;replace a3:=bb_ a3 hb;replace HB:=bt_ HB hb;clear hb))
                    go_meet
                    case rel=>exact⟨_,H',⟨by have:=cI.out;have:=am.out;have:=aW.out;have:=bh.out;have:=bH.out;have:=aZ.out;have:=bE.out;have:=db.out;first|omega|exact Nat.le_refl _⟩,bl_ a2,bl_ a1,bl_ a3,bw_ HB⟩
                   by_cases dl: (u9 !=(q8==0))=true
                   ·rw[if_pos dl] at H
                    exact absurd H (by simp)
                   rw[if_neg dl] at H
                   have fm: (u9 !=(q8==0))=false:=by simpa using dl
                   (try(have fo:decide (u9=(q8==0))=true:=by simpa using dl))
                   (try(have fp: (u9==(q8==0))=true:=by simpa using dl))
                   clear dl
                   have H':=Aside0.mk H
                   clear H
                   obtain⟨dn,dp,dq,dr,du,dv,dw,dx⟩:=ch4_ a2
                   go_wp2_with (first|((with_reducible refine gc_ 22 ?_);refine ge_ 221 Tryz.func22 #[i6 r0,.agg #[i6 a6,i6 a7,i6 a8,i6 a9],.agg #[i6 0,i6 0,i6 0]] ?_;(with_reducible refine mo_ (impl_DisplacementOf.calls _ io.out) ?_);intro mh hb;replace a2:=bb_ a2 hb;replace a1:=bb_ a1 hb;replace a3:=bb_ a3 hb;replace HB:=bt_ HB hb;clear hb))
                   go_meet
                   case rel=>exact⟨_,H',⟨by have:=cI.out;have:=am.out;have:=aW.out;have:=bh.out;have:=bH.out;have:=aZ.out;have:=bE.out;have:=db.out;first|omega|exact Nat.le_refl _⟩,bl_ a2,bl_ a1,bl_ a3,bw_ HB⟩
                  (first|rw[be]|(simp only[i64_w,i32_w];rw[be])|skip)
                  have H':=Aside0.mk H
                  clear H
                  go_wp2
                  go_meet
                  case rel=>exact⟨_,H',⟨by have:=cI.out;have:=am.out;have:=aW.out;have:=bh.out;have:=bH.out;have:=aZ.out;have:=bE.out;have:=db.out;first|omega|exact Nat.le_refl _⟩,bl_ a2,bl_ a1,bl_ a3,bw_ HB⟩
                 case rest=>as_aux_lemma=>
                  clear fg
                  try clear ga q7 an
                  try clear gc r1 aY
                  try clear gr x0 bg
                  try clear gK ah bD
                  try clear dX q9 ba
                  try clear fa v9 bx
                  try clear gf ag bV
                  try clear gM aI cN
                  try clear dH dI
                  try clear cO cP
                  try clear im be dO
                  try clear ip dP dQ
                  try clear fh fi
                  try clear dc fj fk fl
                  try clear dl fm fo fp
                  try clear x1 x2 x3 x4
                  try clear aq ar au av
                  try clear aA aB aC aD
                  try clear b4 b5 b6 b7
                  try clear bW bX bY bZ
                  try clear bi bj bk
                  try clear cf cg ch
                  try clear cl cm cn
                  try clear cr ct cu cv
                  try clear bo bp bq
                  try clear d2 d3 d4 d5
                  try clear cA cB cC
                  try clear dd de df dg
                  try clear dn dp dq dr
                  try clear f0 f1 f2 f3
                  try clear f8 f9 g0 g1
                  try clear g6 g7 g8 g9
                  try clear i9 l1 l2 l3
                  try clear l8 l9 m1 m2
                  try clear m7 m8 m9 n0
                  try clear n5 n6 n7 n8
                  try clear o3 o4 o5 o6
                  try clear r2 r3 r4 r5
                  try clear p1 p2 p3 p4
                  try clear p9 q0 q1 q2
                  try clear s0 s1 s2 s3
                  try clear s8 s9 t0 t1
                  try clear t6 t7 t8 t9
                  try clear y9 z0 z1 z2
                  try clear z7 z8 z9 aa
                  try clear aO aP aQ aR
                  try clear x5 x6 x7 x8
                  try clear aw ax ay az
                  try clear aE aF aG aH
                  try clear b8 b9 d0 d1
                  try clear ca cb cd ce
                  try clear bl bm bn
                  try clear ci cj ck
                  try clear co cp cq
                  try clear cw cx cy cz
                  try clear br bs bu
                  try clear d6 d7 d8 d9
                  try clear cD cE cF
                  try clear dh di dj dk
                  try clear du dv dw dx
                  try clear f4 f5 f6 f7
                  try clear g2 g3 g4 g5
                  try clear i4 i5 i7 i8
                  try clear l4 l5 l6 l7
                  try clear m3 m4 m5 m6
                  try clear n1 n2 n3 n4
                  try clear n9 o0 o1 o2
                  try clear o7 o8 o9 p0
                  try clear r6 r7 r8 r9
                  try clear p5 p6 p7 p8
                  try clear q3 q4 q5 q6
                  try clear s4 s5 s6 s7
                  try clear t2 t3 t4 t5
                  try clear u4 u5 u6 u7
                  try clear z3 z4 z5 z6
                  try clear ab ac ae af
                  try clear aS aT aU aV
                  obtain⟨kq,HA,gw,a2,a1,a3,HB⟩:=hcut
                  cases kq with
                  |zero=>exact absurd HA.out (by simp[laws_FnParts.j8])
                  |succ iq=>
                   have H:=HA.out;clear HA
                   simp only[laws_FnParts.j8] at H
                   have fq:=Aside0.mk H;clear H
                   go_upto_region 39 with (fail)
                   go_cut [244] (fun jy wc=>∃(kq:Nat) (cG:Bool),jy= .bool cG∧Aside0 (laws_FnParts.j9 kq r0 cJ bB cG a6 a7 a8 a9 v4 v5 v6 v7 b0 b1 b2 b3=some r)∧Aside0 (kq≤iq)∧Aside0 (b_ wc aX #[i6 a6,i6 a7,i6 a8,i6 a9] 28)∧Aside0 (b_ wc v8 #[i6 v4,i6 v5,i6 v6,i6 v7] 28)∧Aside0 (b_ wc y8 #[i6 b0,i6 b1,i6 b2,i6 b3] 28)∧Aside0 (Below w.heap.size w wc))
                   case first=>as_aux_lemma=>
                    have H:=fq.out;clear fq;replace H:=ie_ H
                    rcases H with ⟨bz,ft,H⟩|⟨jz,bz,ft,H⟩
                    ·(first|rw[bz]|(simp only[i64_w,i32_w];rw[bz])|skip)
                     have H':=Aside0.mk H
                     clear H
                     go_wp2
                     go_meet
                     case rel=>exact⟨_,(((bS.size:Int)!=q8)),en_,H',⟨by have:=cI.out;have:=am.out;have:=aW.out;have:=bh.out;have:=bH.out;have:=aZ.out;have:=bE.out;have:=db.out;have:=gw.out;first|omega|exact Nat.le_refl _⟩,bl_ a2,bl_ a1,bl_ a3,bw_ HB⟩
                    (first|rw[bz]|(simp only[i64_w,i32_w];rw[bz])|skip)
                    have H':=Aside0.mk H
                    clear H
                    go_wp2
                    go_meet
                    case rel=>exact⟨_,(false),en_,H',⟨by have:=cI.out;have:=am.out;have:=aW.out;have:=bh.out;have:=bH.out;have:=aZ.out;have:=bE.out;have:=db.out;have:=gw.out;first|omega|exact Nat.le_refl _⟩,bl_ a2,bl_ a1,bl_ a3,bw_ HB⟩
                   case rest=>as_aux_lemma=>
                    clear fq
                    try clear ga q7 an
                    try clear gc r1 aY
                    try clear gr x0 bg
                    try clear gK ah bD
                    try clear dX q9 ba
                    try clear fa v9 bx
                    try clear gf ag bV
                    try clear gM aI cN
                    try clear dH dI
                    try clear cO cP
                    try clear im be dO
                    try clear ip dP dQ
                    try clear fh fi
                    try clear dc fj fk fl
                    try clear dl fm fo fp
                    try clear jz bz ft
                    try clear x1 x2 x3 x4
                    try clear aq ar au av
                    try clear aA aB aC aD
                    try clear b4 b5 b6 b7
                    try clear bW bX bY bZ
                    try clear bi bj bk
                    try clear cf cg ch
                    try clear cl cm cn
                    try clear cr ct cu cv
                    try clear bo bp bq
                    try clear d2 d3 d4 d5
                    try clear cA cB cC
                    try clear dd de df dg
                    try clear dn dp dq dr
                    try clear f0 f1 f2 f3
                    try clear f8 f9 g0 g1
                    try clear g6 g7 g8 g9
                    try clear i9 l1 l2 l3
                    try clear l8 l9 m1 m2
                    try clear m7 m8 m9 n0
                    try clear n5 n6 n7 n8
                    try clear o3 o4 o5 o6
                    try clear r2 r3 r4 r5
                    try clear p1 p2 p3 p4
                    try clear p9 q0 q1 q2
                    try clear s0 s1 s2 s3
                    try clear s8 s9 t0 t1
                    try clear t6 t7 t8 t9
                    try clear y9 z0 z1 z2
                    try clear z7 z8 z9 aa
                    try clear aO aP aQ aR
                    try clear x5 x6 x7 x8
                    try clear aw ax ay az
                    try clear aE aF aG aH
                    try clear b8 b9 d0 d1
                    try clear ca cb cd ce
                    try clear bl bm bn
                    try clear ci cj ck
                    try clear co cp cq
                    try clear cw cx cy cz
                    try clear br bs bu
                    try clear d6 d7 d8 d9
                    try clear cD cE cF
                    try clear dh di dj dk
                    try clear du dv dw dx
                    try clear f4 f5 f6 f7
                    try clear g2 g3 g4 g5
                    try clear i4 i5 i7 i8
                    try clear l4 l5 l6 l7
                    try clear m3 m4 m5 m6
                    try clear n1 n2 n3 n4
                    try clear n9 o0 o1 o2
                    try clear o7 o8 o9 p0
                    try clear r6 r7 r8 r9
                    try clear p5 p6 p7 p8
                    try clear q3 q4 q5 q6
                    try clear s4 s5 s6 s7
                    try clear t2 t3 t4 t5
                    try clear u4 u5 u6 u7
                    try clear z3 z4 z5 z6
                    try clear ab ac ae af
                    try clear aS aT aU aV
                    obtain⟨kq,cG,rfl,HA,lu,a2,a1,a3,HB⟩:=hcut
                    cases kq with
                    |zero=>exact absurd HA.out (by simp[laws_FnParts.j9])
                    |succ lv=>
                     have H:=HA.out;clear HA
                     simp only[laws_FnParts.j9] at H
                     replace H:=ibf_ H;obtain⟨rfl,H⟩:=H;replace H:=ie_ H
                     rcases H with ⟨gQ,gR,H⟩|⟨mi,gQ,gR,H⟩
                     ·replace H:=oc_ H
                      obtain⟨⟨lw,lx⟩,jA,H⟩:=H;replace H:=oc_ H;obtain⟨⟨ir,it,iu,iv,ly⟩,jB,H⟩:=H;replace H:=oc_ H;obtain⟨⟨lz,lA,lB,lC,lD⟩,jC,H⟩:=H;replace H:=ien_ H;obtain⟨jD,jE,H⟩:=H;replace H:=ien_ H;obtain⟨jF,jG,H⟩:=H;replace H:=ibn_ H;obtain⟨rfl,H⟩:=H;replace H:=ien_ H;obtain⟨jH,jI,H⟩:=H;replace H:=ien_ H;obtain⟨jJ,jK,H⟩:=H
                      obtain rfl:=si_ H
                      obtain⟨iw,ix,iy,iz,iA,iB,iC,iD⟩:=ch4_ a3
                      go_wp2_with (first|((with_reducible refine gd_ 41 ?_);(try(refine gate_guard (by rfl) ?_;dsimp only));refine by_ 41 #[i6 0,i6 0,i6 0,i6 0] 28 HB ?_;intro gS hg mj aN hb jL HB_;have cH:=bm_ a2 hg;have dR:=bn_ a2 hg;have dy:=bm_ a1 hg;have gx:=bn_ a1 hg;have dz:=bm_ a3 hg;have gy:=bn_ a3 hg;replace a2:=bb_ a2 hb;replace a1:=bb_ a1 hb;replace a3:=bb_ a3 hb;replace HB:=HB_;clear hb hg;have jM:=dR.out;have jN:=cH.out;(try clear fu fv fw fx fy fz fA fB);(try clear fC fD fE fF fG fH fI fJ);obtain⟨fK,fL,fM,fN,fO,fP,fQ,fR⟩:=ch4_ aN;obtain⟨fS,fT,fU,fV,fW,fX,fY,fZ⟩:=ch4_ a2)|((with_reducible refine gd_ 43 ?_);(try(refine gate_guard (by rfl) ?_;dsimp only));refine by_ 43 #[i6 0,i6 0,i6 0,i6 0] 28 HB ?_;intro jO hg ml gT hb jP HB_;have gU:=bm_ a2 hg;have gV:=bn_ a2 hg;have dA:=bm_ aN hg;have dB:=bn_ aN hg;replace a2:=bb_ a2 hb;replace aN:=bb_ aN hb;replace HB:=HB_;clear hb hg;have jQ:=dB.out;have jR:=dA.out;(try clear fK fL fM fN fO fP fQ fR);(try clear fS fT fU fV fW fX fY fZ);obtain⟨iE,iF,iG,iH,iI,iJ,iK,iL⟩:=ch4_ gT;obtain⟨iM,iN,iO,iP,iQ,iR,iS,iT⟩:=ch4_ aN)|((with_reducible refine gk_ ?_);first|((with_reducible refine gc_ 13 ?_);refine ge_ 253 Tryz.func13 #[i6 r0,.agg #[i6 b0,i6 b1,i6 b2,i6 b3]] ?_;(with_reducible refine mo_ (impl_IsUnitMatrix.calls _ jA.out) ?_);intro mm hb;replace a2:=bb_ a2 hb;replace a1:=bb_ a1 hb;replace a3:=bb_ a3 hb;replace HB:=bt_ HB hb;clear hb;obtain⟨fu,fv,fw,fx,fy,fz,fA,fB⟩:=ch4_ a1;obtain⟨fC,fD,fE,fF,fG,fH,fI,fJ⟩:=ch4_ a3)|((with_reducible refine gc_ 23 ?_);refine ge_ 259 Tryz.func23 #[.agg #[i6 v4,i6 v5,i6 v6,i6 v7],.agg #[i6 b0,i6 b1,i6 b2,i6 b3]] ?_;(with_reducible refine mo_ (impl_MultiplyMatrices.calls _ jB.out) ?_);intro mo hb;replace a2:=bb_ a2 hb;replace a1:=bb_ a1 hb;replace a3:=bb_ a3 hb;replace HB:=bt_ HB hb;clear hb)|((with_reducible refine gc_ 24 ?_);refine ge_ 264 Tryz.func24 #[.agg #[i6 a6,i6 a7,i6 a8,i6 a9]] ?_;(with_reducible refine mo_ (impl_ReduceMatrix.calls _ jC.out) ?_);intro mq hb;replace a2:=fb_ a2 cH hb;replace a1:=fb_ a1 dy hb;replace a3:=fb_ a3 dz hb;replace aN:=Aside0.mk (blk_below (g:=gS) (o:= .cells #[i6 ir,i6 it,i6 iu,i6 iv] 28 (0,0)) (bp_ aN).out hb);replace HB:=bt_ HB hb;(try clear hb))))
                      go_ret;exact⟨es_,(bw_ HB).out⟩
                     obtain rfl:=si_ H
                     obtain⟨iU,iV,iW,iX,iY,iZ,ja,jb⟩:=ch4_ a3
                     go_wp2
                     go_ret;exact⟨es_,(bw_ HB).out⟩
/-- THE ONE PURE STATEMENT of laws_FnParts: yours. -/
def laws_FnParts.Pure:Prop:=∀(l0:List Int),l0.length≤maxLen→l0.length*1≤140737488351232→(∀x∈l0,(Lit.int .u8 x).wf=true)→∃k,laws_FnParts.f k l0=some true
theorem laws_FnParts.walk (P:laws_FnParts.Pure) (a0:Option Addr) (len0 a1:Nat) (z0:List Int) (w:World) (w0: (a0=none∧len0=0∧a1=0∧z0= [])∨∃x,a0=some x∧len0≤a1∧a1≤maxLen∧z0.length=a1∧(∀i,i<z0.length→w.cell? (x.add i)=some (.int .u8 (z0.getD i 0)))∧∀n∈z0,(Lit.int .u8 n).wf=true) (y0:len0*1≤140737488351232):
  Calls Tryz.prog 3 #[.slice a0 len0 a1] w fun e w'=>e= .returned (.bool true)∧Below w.heap.size w w':=by
 obtain⟨l0,rfl,hr0,hm0,a2,hc0⟩:=ReadsInt.ofRowC w0
 obtain⟨k,h⟩:=P l0 hm0 y0 a2
 refine(laws_FnParts.calls _ _ w (Kd.C_of_reads (d:=(0:Int)) (h1:=fun _=>rfl) hr0) hc0 h).mono ?_
 rintro e w' ⟨rfl,hd⟩
 exact⟨rfl,hd⟩
end Go.Proofs.YtblmdppbbdbbjabGreat.QP
