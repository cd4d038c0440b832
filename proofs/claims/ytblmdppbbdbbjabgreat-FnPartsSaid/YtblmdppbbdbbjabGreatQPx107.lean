import Derived.Test.YtblmdppbbdbbjabGreatQPx8
import Derived.Test.YtblmdppbbdbbjabGreatQPx40
import Derived.Test.YtblmdppbbdbbjabGreatQPx55
import Derived.Test.YtblmdppbbdbbjabGreatQPx105
import Derived.Test.YtblmdppbbdbbjabGreatQPx32
import Derived.Test.YtblmdppbbdbbjabGreatQPx73
namespace Go.Proofs.YtblmdppbbdbbjabGreat.QP
set_option maxHeartbeats 8000000
set_option maxRecDepth 100000
open Go.RowKit Go.Proofs.YtblmdppbbdbbjabGreatW.PrintWords Go.Proofs.YtblmdppbbdbbjabGreatW.PrintLast Go.Proofs.YtblmdppbbdbbjabGreatW.PrintMore
attribute [local go_sem] isSome_setCell max2_int min2_int max_two min_two max_three min_three max_four min_four
set_option linter.unusedVariables false
set_option linter.unusedSimpArgs false
/-! ### impl_MultiplyMatrices: function 23 -/
def impl_MultiplyMatrices.f (k:Nat) (a0_0 a0_1 a0_2 a0_3 a1_0 a1_1 a1_2 a1_3:Int):Option (Int×Int×Int×Int×Int):=(impl_areMatrices.f k (([(⟨(⟨a0_0,a0_1⟩:S26),(⟨a0_2,a0_3⟩:S26)⟩:S28),(⟨(⟨a1_0,a1_1⟩:S26),(⟨a1_2,a1_3⟩:S26)⟩:S28)]:List (S28)))).bind fun t956=>(if t956=true then((impl_product.f k a0_0 a0_1 a0_2 a0_3 a1_0 a1_1 a1_2 a1_3).bind fun bt957=>((impl_fittedMatrix.f bt957.1 bt957.2.1 bt957.2.2.1 bt957.2.2.2.1 bt957.2.2.2.2).bind fun bt962=>(some (bt962.1,bt962.2.1,bt962.2.2.1,bt962.2.2.2.1,bt962.2.2.2.2)))) else(some (0,0,0,0,1)))
theorem impl_MultiplyMatrices.calls {k:Nat} {a5 a6 a7 a8 a9 b0 b1 b2 r1 r2 r3 r4 r5:Int} (w:World) (h:impl_MultiplyMatrices.f k a5 a6 a7 a8 a9 b0 b1 b2=some (r1,r2,r3,r4,r5)):
  Calls Tryz.prog 23 #[.agg #[i6 a5,i6 a6,i6 a7,i6 a8],.agg #[i6 a9,i6 b0,i6 b1,i6 b2]] w fun e w'=>e= .returned (.tuple #[.agg #[i6 r1,i6 r2,i6 r3,i6 r4],i6 r5])∧Below w.heap.size w w':=by
 have hu28:=Tryz.underlying28
 have HB:=Aside0.mk (Below.refl w.heap.size w)
 unfold impl_MultiplyMatrices.f at h;have H:=h;clear h
 obtain⟨d8,b6⟩:∃y_:List (S28),y_=(([(⟨(⟨a5,a6⟩:S26),(⟨a7,a8⟩:S26)⟩:S28),(⟨(⟨a9,b0⟩:S26),(⟨b1,b2⟩:S26)⟩:S28)]:List (S28))):=⟨_,rfl⟩
 first|rw[←b6,Option.bind_some] at H|rw[←b6] at H|(dsimp only at H;rw[←b6] at H)
 have b8:=Aside0.mk b6;clear b6;replace H:=oc_ H;obtain⟨g8,A3,H⟩:=H;replace H:=ib_ H
 rcases H with ⟨rfl,H⟩|⟨rfl,H⟩
 ·replace H:=oc_ H
  obtain⟨⟨f2,f3,f4,f5,f6⟩,A5,H⟩:=H;replace H:=oc_ H;obtain⟨⟨f7,f8,f9,g0,g9⟩,A6,H⟩:=H
  simp only[Option.some.injEq,Prod.mk.injEq] at H
  obtain⟨rfl,rfl,rfl,rfl,rfl⟩:=H
  go_enter Tryz.func23,Tryz.ntmps23
  go_wp2_with (first|((refine gd_ 2 ?_);refine by_ 2 #[i6 a5,i6 a6,i6 a7,i6 a8] 28 HB ?_;intro d2 hg w7 a1 hb d9 HB_;replace HB:=HB_;clear hb hg)|((refine gd_ 3 ?_);refine by_ 3 #[i6 a9,i6 b0,i6 b1,i6 b2] 28 HB ?_;intro d3 hg w8 a2 hb f0 HB_;have b3:=bm_ a1 hg;have b9:=bn_ a1 hg;replace a1:=bb_ a1 hb;replace HB:=HB_;clear hb hg)|((refine gd_ 4 ?_);refine by_ 4 #[i6 0,i6 0,i6 0,i6 0] 28 HB ?_;intro b7 hg w9 a3 hb f1 HB_;have b4:=bm_ a1 hg;have d0:=bn_ a1 hg;have b5:=bm_ a2 hg;have d1:=bn_ a2 hg;replace a1:=bb_ a1 hb;replace a2:=bb_ a2 hb;replace HB:=HB_;clear hb hg;have:=nn_ b3;have:=nn_ b4;have hz12:=ch4_ a1;have:=nn_ b5;have hz14:=ch4_ a2)|((refine gd_ 8 ?_);refine Kd.R_lit k28 _ 28 ?hg (N:=8) ?hd (xs:=([(⟨(⟨a5,a6⟩:S26),(⟨a7,a8⟩:S26)⟩:S28),(⟨(⟨a9,b0⟩:S26),(⟨b1,b2⟩:S26)⟩:S28)]:List (S28))) (inner:=[i6 a5,i6 a6,i6 a7,i6 a8,i6 a9,i6 b0,i6 b1,i6 b2]) (ok:=fun _=>True) (okp:=fun _=>True) ?hr ?hp (fun _ hk=>hk) trivial (Below.refl _ _) (Nat.le_refl _) (by simp) ?_;(case hd=>rfl);(case hg=>rfl);(case hr=>first|(go_simp;done)|(go_simp;rfl));(case hp=>exact(Reps.c4 (show Kd.M k28 _ _ _ (⟨(⟨a5,a6⟩:S26),(⟨a7,a8⟩:S26)⟩:S28) [i6 a5,i6 a6,i6 a7,i6 a8] from (k28_mkM _ _ _ (⟨(⟨a5,a6⟩:S26),(⟨a7,a8⟩:S26)⟩:S28))) (Reps.c4 (show Kd.M k28 _ _ _ (⟨(⟨a9,b0⟩:S26),(⟨b1,b2⟩:S26)⟩:S28) [i6 a9,i6 b0,i6 b1,i6 b2] from (k28_mkM _ _ _ (⟨(⟨a9,b0⟩:S26),(⟨b1,b2⟩:S26)⟩:S28))) (Reps.none _ _))));intro g1 i4 d4 hb hg_ hnew_;clear hg_ hnew_;(first|rw[←b8.out] at d4|(simp only[Int.reduceToNat] at d4;rw[←b8.out] at d4));have a4:=Aside0.mk (Kd.R_lower (Kd.R_newB (Kd.R_newB (Kd.R_newB d4 (g:=d2) (o:= .cells #[i6 a5,i6 a6,i6 a7,i6 a8] 28 (0,0)) (bl_ a1).out) (g:=d3) (o:= .cells #[i6 a9,i6 b0,i6 b1,i6 b2] 28 (0,0)) (bl_ a2).out) (g:=b7) (o:= .cells #[i6 0,i6 0,i6 0,i6 0] 28 (0,0)) (bl_ a3).out) (below_size (bw_ HB).out));replace a1:=bb_ a1 hb;replace a2:=bb_ a2 hb;replace a3:=bb_ a3 hb;replace HB:=bt_ HB hb;clear hb d4;obtain⟨g2,g3,g4⟩:=Kd.R_slice a4.out;subst g4)|((refine gc_ 52 ?_);refine ge_ 9 Tryz.func52 #[.slice g2 d8.length g3] ?_;(with_reducible refine mo_ (impl_areMatrices.calls _ _ _ ?d5 ?d6 A3.out) ?_);(case d5=>exact ca_ (Kd.R_reads' a4.out).2.2);(case d6=>exact(Kd.R_reads' a4.out).2.1);intro i5 hb;replace a4:=rb_ a4 hb;replace a1:=bb_ a1 hb;replace a2:=bb_ a2 hb;replace a3:=bb_ a3 hb;replace HB:=bt_ HB hb;clear hb;have hz19:=ch4_ a1;have hz20:=ch4_ a2)|((refine gc_ 28 ?_);refine ge_ 14 Tryz.func28 #[.agg #[i6 a5,i6 a6,i6 a7,i6 a8],.agg #[i6 a9,i6 b0,i6 b1,i6 b2]] ?_;(with_reducible refine mo_ (impl_product.calls _ A5.out) ?_);intro i7 hb;replace a4:=rb_ a4 hb;replace a1:=bb_ a1 hb;replace a2:=bb_ a2 hb;replace a3:=bb_ a3 hb;replace HB:=bt_ HB hb;clear hb)|((refine gc_ 33 ?_);refine ge_ 17 Tryz.func33 #[.agg #[i6 f2,i6 f3,i6 f4,i6 f5],.bool f6] ?_;(with_reducible refine mo_ (impl_fittedMatrix.calls _ A6.out) ?_);intro i8 hb;replace a4:=rb_ a4 hb;replace a1:=bb_ a1 hb;replace a2:=bb_ a2 hb;replace a3:=bb_ a3 hb;replace HB:=bt_ HB hb;clear hb;have hz23:=ch4_ a3))
  refine bodyPost_ret (results_ct rfl _ _ b7 28 #[i6 f7,i6 f8,i6 f9,i6 g0] (0,0) _ rfl (bp_ a3).out Tryz.underlying28 rfl (by kernel_rfl)) rfl ?_
  exact⟨es_,(bw_ HB).out⟩
 simp only[Option.some.injEq,Prod.mk.injEq] at H
 obtain⟨rfl,rfl,rfl,rfl,rfl⟩:=H
 go_enter Tryz.func23,Tryz.ntmps23
 go_wp2_with (first|((refine gd_ 2 ?_);refine by_ 2 #[i6 a5,i6 a6,i6 a7,i6 a8] 28 HB ?_;intro d2 hg i9 a1 hb d9 HB_;replace HB:=HB_;clear hb hg)|((refine gd_ 3 ?_);refine by_ 3 #[i6 a9,i6 b0,i6 b1,i6 b2] 28 HB ?_;intro d3 hg j0 a2 hb f0 HB_;have b3:=bm_ a1 hg;have b9:=bn_ a1 hg;replace a1:=bb_ a1 hb;replace HB:=HB_;clear hb hg)|((refine gd_ 4 ?_);refine by_ 4 #[i6 0,i6 0,i6 0,i6 0] 28 HB ?_;intro b7 hg j1 a3 hb f1 HB_;have b4:=bm_ a1 hg;have d0:=bn_ a1 hg;have b5:=bm_ a2 hg;have d1:=bn_ a2 hg;replace a1:=bb_ a1 hb;replace a2:=bb_ a2 hb;replace HB:=HB_;clear hb hg;have:=nn_ b3;have:=nn_ b4;have hz29:=ch4_ a1;have:=nn_ b5;have hz31:=ch4_ a2)|((refine gd_ 8 ?_);refine Kd.R_lit k28 _ 28 ?hg (N:=8) ?hd (xs:=([(⟨(⟨a5,a6⟩:S26),(⟨a7,a8⟩:S26)⟩:S28),(⟨(⟨a9,b0⟩:S26),(⟨b1,b2⟩:S26)⟩:S28)]:List (S28))) (inner:=[i6 a5,i6 a6,i6 a7,i6 a8,i6 a9,i6 b0,i6 b1,i6 b2]) (ok:=fun _=>True) (okp:=fun _=>True) ?hr ?hp (fun _ hk=>hk) trivial (Below.refl _ _) (Nat.le_refl _) (by simp) ?_;(case hd=>rfl);(case hg=>rfl);(case hr=>first|(go_simp;done)|(go_simp;rfl));(case hp=>exact(Reps.c4 (show Kd.M k28 _ _ _ (⟨(⟨a5,a6⟩:S26),(⟨a7,a8⟩:S26)⟩:S28) [i6 a5,i6 a6,i6 a7,i6 a8] from (k28_mkM _ _ _ (⟨(⟨a5,a6⟩:S26),(⟨a7,a8⟩:S26)⟩:S28))) (Reps.c4 (show Kd.M k28 _ _ _ (⟨(⟨a9,b0⟩:S26),(⟨b1,b2⟩:S26)⟩:S28) [i6 a9,i6 b0,i6 b1,i6 b2] from (k28_mkM _ _ _ (⟨(⟨a9,b0⟩:S26),(⟨b1,b2⟩:S26)⟩:S28))) (Reps.none _ _))));intro g1 j2 d7 hb hg_ hnew_;clear hg_ hnew_;(first|rw[←b8.out] at d7|(simp only[Int.reduceToNat] at d7;rw[←b8.out] at d7));have a4:=Aside0.mk (Kd.R_lower (Kd.R_newB (Kd.R_newB (Kd.R_newB d7 (g:=d2) (o:= .cells #[i6 a5,i6 a6,i6 a7,i6 a8] 28 (0,0)) (bl_ a1).out) (g:=d3) (o:= .cells #[i6 a9,i6 b0,i6 b1,i6 b2] 28 (0,0)) (bl_ a2).out) (g:=b7) (o:= .cells #[i6 0,i6 0,i6 0,i6 0] 28 (0,0)) (bl_ a3).out) (below_size (bw_ HB).out));replace a1:=bb_ a1 hb;replace a2:=bb_ a2 hb;replace a3:=bb_ a3 hb;replace HB:=bt_ HB hb;clear hb d7;obtain⟨g5,g6,g7⟩:=Kd.R_slice a4.out;subst g7)|((refine gc_ 52 ?_);refine ge_ 9 Tryz.func52 #[.slice g5 d8.length g6] ?_;(with_reducible refine mo_ (impl_areMatrices.calls _ _ _ ?d5 ?d6 A3.out) ?_);(case d5=>exact ca_ (Kd.R_reads' a4.out).2.2);(case d6=>exact(Kd.R_reads' a4.out).2.1);intro j3 hb;replace a4:=rb_ a4 hb;replace a1:=bb_ a1 hb;replace a2:=bb_ a2 hb;replace a3:=bb_ a3 hb;replace HB:=bt_ HB hb;clear hb;have hz36:=ch4_ a3))
 refine bodyPost_ret (results_ct rfl _ _ b7 28 #[i6 0,i6 0,i6 0,i6 0] (0,0) _ rfl (bp_ a3).out Tryz.underlying28 rfl (by kernel_rfl)) rfl ?_
 exact⟨es_,(bw_ HB).out⟩
/-! ### impl_ReduceMatrix: function 24 -/
def impl_ReduceMatrix.f (k:Nat) (a0_0 a0_1 a0_2 a0_3:Int):Option (Int×Int×Int×Int×Int):=(impl_IsMatrix.f k a0_0 a0_1 a0_2 a0_3).bind fun t969=>(if t969=true then((impl_reduce.f k a0_0 a0_1 a0_2 a0_3).bind fun bt970=>(some (bt970.1,bt970.2.1,bt970.2.2.1,bt970.2.2.2,0))) else(some (0,0,0,0,1)))
theorem impl_ReduceMatrix.calls {k:Nat} {a4 a5 a6 a7 r1 r2 r3 r4 r5:Int} (w:World) (h:impl_ReduceMatrix.f k a4 a5 a6 a7=some (r1,r2,r3,r4,r5)):
  Calls Tryz.prog 24 #[.agg #[i6 a4,i6 a5,i6 a6,i6 a7]] w fun e w'=>e= .returned (.tuple #[.agg #[i6 r1,i6 r2,i6 r3,i6 r4],i6 r5])∧Below w.heap.size w w':=by
 have hu28:=Tryz.underlying28
 have HB:=Aside0.mk (Below.refl w.heap.size w)
 unfold impl_ReduceMatrix.f at h;have H:=h;clear h;replace H:=oc_ H;obtain⟨b7,A2,H⟩:=H;replace H:=ib_ H
 rcases H with ⟨rfl,H⟩|⟨rfl,H⟩
 ·replace H:=oc_ H
  obtain⟨⟨b3,b4,b5,b6⟩,A4,H⟩:=H
  simp only[Option.some.injEq,Prod.mk.injEq] at H
  obtain⟨rfl,rfl,rfl,rfl,rfl⟩:=H
  go_enter Tryz.func24,Tryz.ntmps24
  go_wp2_with (first|((refine gd_ 1 ?_);refine by_ 1 #[i6 a4,i6 a5,i6 a6,i6 a7] 28 HB ?_;intro b0 hg w5 a1 hb b1 HB_;replace HB:=HB_;clear hb hg)|((refine gd_ 2 ?_);refine by_ 2 #[i6 0,i6 0,i6 0,i6 0] 28 HB ?_;intro a9 hg w6 a2 hb b2 HB_;have a3:=bm_ a1 hg;have a8:=bn_ a1 hg;replace a1:=bb_ a1 hb;replace HB:=HB_;clear hb hg;have:=nn_ a3;have hz8:=ch4_ a1)|((refine gc_ 48 ?_);refine ge_ 5 Tryz.func48 #[.agg #[i6 a4,i6 a5,i6 a6,i6 a7]] ?_;(with_reducible refine mo_ (impl_IsMatrix.calls _ A2.out) ?_);intro w9 hb;replace a1:=bb_ a1 hb;replace a2:=bb_ a2 hb;replace HB:=bt_ HB hb;clear hb;have hz10:=ch4_ a1)|((refine gc_ 40 ?_);refine ge_ 9 Tryz.func40 #[.agg #[i6 a4,i6 a5,i6 a6,i6 a7]] ?_;(with_reducible refine mo_ (impl_reduce.calls _ A4.out) ?_);intro b8 hb;replace a1:=bb_ a1 hb;replace a2:=bb_ a2 hb;replace HB:=bt_ HB hb;clear hb;have hz12:=ch4_ a2))
  refine bodyPost_ret (results_ct rfl _ _ a9 28 #[i6 b3,i6 b4,i6 b5,i6 b6] (0,0) _ rfl (bp_ a2).out Tryz.underlying28 rfl (by kernel_rfl)) rfl ?_
  exact⟨es_,(bw_ HB).out⟩
 simp only[Option.some.injEq,Prod.mk.injEq] at H
 obtain⟨rfl,rfl,rfl,rfl,rfl⟩:=H
 go_enter Tryz.func24,Tryz.ntmps24
 go_wp2_with (first|((refine gd_ 1 ?_);refine by_ 1 #[i6 a4,i6 a5,i6 a6,i6 a7] 28 HB ?_;intro b0 hg b9 a1 hb b1 HB_;replace HB:=HB_;clear hb hg)|((refine gd_ 2 ?_);refine by_ 2 #[i6 0,i6 0,i6 0,i6 0] 28 HB ?_;intro a9 hg d0 a2 hb b2 HB_;have a3:=bm_ a1 hg;have a8:=bn_ a1 hg;replace a1:=bb_ a1 hb;replace HB:=HB_;clear hb hg;have:=nn_ a3;have hz16:=ch4_ a1)|((refine gc_ 48 ?_);refine ge_ 5 Tryz.func48 #[.agg #[i6 a4,i6 a5,i6 a6,i6 a7]] ?_;(with_reducible refine mo_ (impl_IsMatrix.calls _ A2.out) ?_);intro d1 hb;replace a1:=bb_ a1 hb;replace a2:=bb_ a2 hb;replace HB:=bt_ HB hb;clear hb;have hz18:=ch4_ a2))
 refine bodyPost_ret (results_ct rfl _ _ a9 28 #[i6 0,i6 0,i6 0,i6 0] (0,0) _ rfl (bp_ a2).out Tryz.underlying28 rfl (by kernel_rfl)) rfl ?_
 exact⟨es_,(bw_ HB).out⟩
end Go.Proofs.YtblmdppbbdbbjabGreat.QP
