import Derived.Test.YtblmdppbbdbbjabGreatQPx8
import Derived.Test.YtblmdppbbdbbjabGreatQPx81
import Derived.Test.YtblmdppbbdbbjabGreatQPx55
import Derived.Test.YtblmdppbbdbbjabGreatQPx62
import Derived.Test.YtblmdppbbdbbjabGreatQPx32
import Derived.Test.YtblmdppbbdbbjabGreatQPx67
import Derived.Test.YtblmdppbbdbbjabGreatQPx14
namespace Go.Proofs.YtblmdppbbdbbjabGreat.QP
set_option maxHeartbeats 8000000
set_option maxRecDepth 100000
open Go.RowKit Go.Proofs.YtblmdppbbdbbjabGreatW.PrintWords Go.Proofs.YtblmdppbbdbbjabGreatW.PrintLast Go.Proofs.YtblmdppbbdbbjabGreatW.PrintMore
attribute [local go_sem] isSome_setCell max2_int min2_int max_two min_two max_three min_three max_four min_four
set_option linter.unusedVariables false
set_option linter.unusedSimpArgs false
/-! ### impl_geodesic: function 71 -/
mutual
def impl_geodesic.l0:Nat→Int→Int→List (S42)→Int→Int→Int→Int→Int→Int→Int→Option ((List (S42)))
 |0,_,_,_,_,_,_,_,_,_,_=>none
 |k+1,x0,x7,x8,x9,x713000,x713001,x713002,x714000,x714001,x714002=>if x9≥x7 then((impl_above.f k x0 x713000 x713001 x713002 x9).bind fun bt718=>(if x8.length<5864062014805 then(impl_geodesic.l0 k x0 x7 (x8++[(⟨bt718.1,bt718.2.1,bt718.2.2⟩:S42)]) (wrap64 (x9 - 1)) x713000 x713001 x713002 x714000 x714001 x714002) else(none))) else(impl_geodesic.l1 k x0 x8 (wrap64 (x7+1)) x714000 x714001 x714002)
def impl_geodesic.l1:Nat→Int→List (S42)→Int→Int→Int→Int→Option ((List (S42)))
 |0,_,_,_,_,_,_=>none
 |k+1,x0,x8,x10,x714000,x714001,x714002=>if x10≤x714000 then((impl_above.f k x0 x714000 x714001 x714002 x10).bind fun bt724=>(if x8.length<5864062014805 then(impl_geodesic.l1 k x0 (x8++[(⟨bt724.1,bt724.2.1,bt724.2.2⟩:S42)]) (wrap64 (x10+1)) x714000 x714001 x714002) else(none))) else(some x8)
end
def impl_geodesic.f (k:Nat) (a0 a1_0 a1_1 a1_2 a2_0 a2_1 a2_2:Int):Option ((List (S42))):=(impl_joinLevel.f k a0 a1_0 a1_1 a1_2 a2_0 a2_1 a2_2).bind fun t714=>(impl_geodesic.l0 k a0 t714 (([]:List (S42))) a1_0 a1_0 a1_1 a1_2 a2_0 a2_1 a2_2)
theorem impl_geodesic.calls {k:Nat} {a0 a7 a8 a9 a4 a5 a6:Int} {r:List (S42)} (w:World) (h:impl_geodesic.f k a0 a7 a8 a9 a4 a5 a6=some r):
  Calls Tryz.prog 71 #[i6 a0,.agg #[i6 a7,i6 a8,i6 a9],.agg #[i6 a4,i6 a5,i6 a6]] w fun e w'=>∃g5:Value,e= .returned (g5)∧Kd.R k42 42 w' w.heap.size (fun _=>True) g5 r∧Below w.heap.size w w':=by
 have hu42:=Tryz.underlying42
 have HB:=Aside0.mk (Below.refl w.heap.size w)
 unfold impl_geodesic.f at h;have H:=h;clear h;replace H:=oc_ H;obtain⟨d8,A4,H⟩:=H
 obtain⟨f0,b2⟩:∃y_:List (S42),y_=(([]:List (S42))):=⟨_,rfl⟩
 replace H: (impl_geodesic.l0 k a0 d8 f0 a7 a7 a8 a9 a4 a5 a6)=some r:=by first|(rw[b2];with_reducible exact H)|(have H2_:=(Option.bind_some _ _).symm.trans H;rw[b2];with_reducible exact H2_)|(have H2_:=(Option.bind_some _ _).symm.trans H;with_reducible exact H2_)|with_reducible exact H|(rw[b2];exact H)|exact H
 have d6:=Aside0.mk b2;clear b2
 have H':=Aside0.mk H
 clear H
 go_enter Tryz.func71,Tryz.ntmps71
 go_wp2_with (first|((refine gd_ 4 ?_);refine by_ 4 #[i6 a7,i6 a8,i6 a9] 42 HB ?_;intro b0 hg w5 a2 hb g6 HB_;replace HB:=HB_;clear hb hg)|((refine gd_ 5 ?_);refine by_ 5 #[i6 a4,i6 a5,i6 a6] 42 HB ?_;intro a3 hg w6 a1 hb g7 HB_;have b1:=bm_ a2 hg;have d9:=bn_ a2 hg;replace a2:=bb_ a2 hb;replace HB:=HB_;clear hb hg;have:=nn_ b1;have hz8:=ch3_ a2;have hz9:=ch3_ a1)|((refine gc_ 80 ?_);refine ge_ 14 Tryz.func80 #[i6 a0,.agg #[i6 a7,i6 a8,i6 a9],.agg #[i6 a4,i6 a5,i6 a6]] ?_;(with_reducible refine mo_ (impl_joinLevel.calls _ A4.out) ?_);intro j1 hb;replace a2:=bb_ a2 hb;replace a1:=bb_ a1 hb;replace HB:=bt_ HB hb;clear hb)|((refine gd_ 15 ?_);refine Kd.R_lit k42 _ 42 ?hg (N:=15) ?hd (xs:=([]:List (S42))) (inner:=[]) (ok:=fun _=>True) (okp:=fun _=>True) ?hr ?hp (fun _ hk=>hk) trivial (Below.refl _ _) (Nat.le_refl _) (by simp) ?_;(case hd=>rfl);(case hg=>rfl);(case hr=>first|(go_simp;done)|(go_simp;rfl));(case hp=>exact(Reps.none _ _));intro i4 j2 b8 hb hg_ hnew_;clear hg_ hnew_;(first|rw[←d6.out] at b8|(simp only[Int.reduceToNat] at b8;rw[←d6.out] at b8));have f1:=Aside0.mk (Kd.R_lower (Kd.R_newB (Kd.R_newB b8 (g:=b0) (o:= .cells #[i6 a7,i6 a8,i6 a9] 42 (0,0)) (bl_ a2).out) (g:=a3) (o:= .cells #[i6 a4,i6 a5,i6 a6] 42 (0,0)) (bl_ a1).out) (below_size (bw_ HB).out));replace a2:=bb_ a2 hb;replace a1:=bb_ a1 hb;replace HB:=bt_ HB hb;clear hb b8;have hz13:=ch3_ a2))
 go_loopg [8,9] k (fun kq v8 v9 w'=>∃(b6:List (S42)) (b9:Int),v9=i6 b9∧Aside0 (impl_geodesic.l0 kq a0 d8 b6 b9 a7 a8 a9 a4 a5 a6=some r)∧Aside0 (kq≤k)∧Aside0 (Kd.R k42 42 w' w.heap.size (fun k_=>k_≠b0∧k_≠a3) v8 b6)∧Aside0 (b_ w' b0 #[i6 a7,i6 a8,i6 a9] 42)∧Aside0 (b_ w' a3 #[i6 a4,i6 a5,i6 a6] 42)∧Aside0 (Below w.heap.size w w'))
 case atStart=>exact⟨(f0),(a7),en_,H',⟨Nat.le_refl _⟩,⟨by(with_reducible repeat(first|apply Kd.R_alloc|apply Kd.R_drewN|apply Kd.R_drew));exact Kd.R_mono f1.out (fun _ hk=>⟨hk.1.2,hk.2⟩)⟩,bl_ a2,bl_ a1,bw_ HB⟩
 clear H'
 try clear hz13
 try clear hz8
 try clear hz9
 obtain⟨b6,b9,rfl,HA,g1,HO_8,a2,a1,HB⟩:=hrel
 cases gk with
 |zero=>exact absurd HA.out (by simp[impl_geodesic.l0])
 |succ k1=>
  have H:=HA.out;clear HA
  simp only[impl_geodesic.l0] at H
  replace H:=in_ H
  rcases H with ⟨d7,H⟩|⟨d7,H⟩
  ·replace H:=oc_ H
   obtain⟨⟨d0,d1,d2⟩,i5,H⟩:=H
   by_cases f2:b6.length<5864062014805
   ·rw[if_pos f2] at H
    have LMc16:=Aside0.mk f2;clear f2
    obtain⟨g3,b3⟩:∃y_:List (S42),y_=(b6++[(⟨d0,d1,d2⟩:S42)]):=⟨_,rfl⟩
    first|rw[←b3,Option.bind_some] at H|rw[←b3] at H|(dsimp only at H;rw[←b3] at H)
    have f3:=Aside0.mk b3;clear b3
    have H':=Aside0.mk H
    clear H;have:=nn_ b1;have hz18:=ch3_ a2
    go_wp2_with (first|((refine gc_ 95 ?_);refine ge_ 27 Tryz.func95 #[i6 a0,.agg #[i6 a7,i6 a8,i6 a9],i6 b9] ?_;(with_reducible refine mo_ (impl_above.calls _ i5.out) ?_);intro j3 hb;replace HO_8:=rb_ HO_8 hb;replace a2:=bb_ a2 hb;replace a1:=bb_ a1 hb;replace HB:=bt_ HB hb;clear hb)|((with_reducible refine gate_builtin (b:= .append) (xs:=#[.tmp 23,.tmp 28]) rfl ?_);at_builtin;refine Kd.R_append k42 (w0:=w) w.heap.size rfl (.tmp 23) (.tmp 28) 71 42 (.agg #[(i6 0),(i6 0),(i6 0)]) 24 rfl Tryz.underlying71 info42 rfl (by decide) (by omega) u8 b6 (⟨d0,d1,d2⟩:S42) [i6 d0,i6 d1,i6 d2] (fun k_=>k_≠b0∧k_≠a3) (fun _=>False) rfl rfl ?aP (fun _ hk=>hk.elim) ?aF ?aO ?aB ?aS ?aL ?_;(case aP=>exact k42_mkM _ _ _ (⟨d0,d1,d2⟩:S42));(case aB=>exact(bw_ HB).out);(case aF=>exact(fun k_ hk=>⟨Kd.freshB (g:=b0) (o:= .cells #[i6 a7,i6 a8,i6 a9] 42 (0,0)) (bl_ a2).out k_ hk,Kd.freshB (g:=a3) (o:= .cells #[i6 a4,i6 a5,i6 a6] 42 (0,0)) (bl_ a1).out k_ hk⟩));(case aO=>exact(ra_ HO_8.out));(case aS=>exact(below_size (bw_ HB).out));(case aL=>have:=LMc16.out;omega);intro i7 j4 ho hb hg hat;rw[←f3.out] at ho;have f4:=Aside0.mk (blk_grown (g:=b0) (o:= .cells #[i6 a7,i6 a8,i6 a9] 42 (0,0)) (bl_ a2).out hg (Kd.R_away HO_8.out (fun _ hk=>hk.1)));have f5:=Aside0.mk (blk_grown (g:=a3) (o:= .cells #[i6 a4,i6 a5,i6 a6] 42 (0,0)) (bl_ a1).out hg (Kd.R_away HO_8.out (fun _ hk=>hk.2)));have f6:=Aside0.mk (hb);have g8:=Aside0.mk (ho);clear a2;clear a1;clear HB;clear HO_8;have a2:=f4;have a1:=f5;have HB:=f6;have f7:=g8;clear f4 f5 f6 g8;clear ho hb hg hat))
    go_roundg k1
    case measure=>have:=g1.out;omega
    case rel=>exact⟨(g3),(wrap64 (b9 - 1)),en_,H',⟨by have:=g1.out;omega⟩,⟨by(with_reducible repeat(first|apply Kd.R_alloc|apply Kd.R_drewN|apply Kd.R_drew));exact f7.out⟩,bl_ a2,bl_ a1,bw_ HB⟩
   rw[if_neg f2] at H
   exact absurd H (by simp)
  have H':=Aside0.mk H
  clear H
  go_wp2
  go_loopg [8,10] k1 (fun kq v8 i8 w'=>∃(b7:List (S42)) (b4:Int),i8=i6 b4∧Aside0 (impl_geodesic.l1 kq a0 b7 b4 a4 a5 a6=some r)∧Aside0 (kq≤k1)∧Aside0 (Kd.R k42 42 w' w.heap.size (fun k_=>k_≠a3) v8 b7)∧Aside0 (b_ w' a3 #[i6 a4,i6 a5,i6 a6] 42)∧Aside0 (Below w.heap.size w w'))
  case atStart=>exact⟨(b6),(wrap64 (d8+1)),en_,H',⟨Nat.le_refl _⟩,⟨by(with_reducible repeat(first|apply Kd.R_alloc|apply Kd.R_drewN|apply Kd.R_drew));exact Kd.R_mono HO_8.out (fun _ hk=>hk.2)⟩,bl_ a1,bw_ HB⟩
  clear H'
  try clear d7
  try clear f2
  try clear hz13
  try clear hz18
  try clear hz8
  try clear hz9
  obtain⟨b7,b4,rfl,HA,g9,HO_8,a1,HB⟩:=hrel
  cases gk with
  |zero=>exact absurd HA.out (by simp[impl_geodesic.l1])
  |succ k2=>
   have H:=HA.out;clear HA
   simp only[impl_geodesic.l1] at H
   replace H:=im_ H
   rcases H with ⟨f8,H⟩|⟨f8,H⟩
   ·replace H:=oc_ H
    obtain⟨⟨d3,d4,d5⟩,i9,H⟩:=H
    by_cases g2:b7.length<5864062014805
    ·rw[if_pos g2] at H
     have LMc23:=Aside0.mk g2;clear g2
     obtain⟨g4,b5⟩:∃y_:List (S42),y_=(b7++[(⟨d3,d4,d5⟩:S42)]):=⟨_,rfl⟩
     first|rw[←b5,Option.bind_some] at H|rw[←b5] at H|(dsimp only at H;rw[←b5] at H)
     have f9:=Aside0.mk b5;clear b5
     have H':=Aside0.mk H
     clear H;have hz24:=ch3_ a1
     go_wp2_with (first|((refine gc_ 95 ?_);refine ge_ 42 Tryz.func95 #[i6 a0,.agg #[i6 a4,i6 a5,i6 a6],i6 b4] ?_;(with_reducible refine mo_ (impl_above.calls _ i9.out) ?_);intro j5 hb;replace HO_8:=rb_ HO_8 hb;replace a1:=bb_ a1 hb;replace HB:=bt_ HB hb;clear hb)|((with_reducible refine gate_builtin (b:= .append) (xs:=#[.tmp 38,.tmp 43]) rfl ?_);at_builtin;refine Kd.R_append k42 (w0:=w) w.heap.size rfl (.tmp 38) (.tmp 43) 71 42 (.agg #[(i6 0),(i6 0),(i6 0)]) 24 rfl Tryz.underlying71 info42 rfl (by decide) (by omega) u8 b7 (⟨d3,d4,d5⟩:S42) [i6 d3,i6 d4,i6 d5] (fun k_=>k_≠a3) (fun _=>False) rfl rfl ?aP (fun _ hk=>hk.elim) ?aF ?aO ?aB ?aS ?aL ?_;(case aP=>exact k42_mkM _ _ _ (⟨d3,d4,d5⟩:S42));(case aB=>exact(bw_ HB).out);(case aF=>exact(fun k_ hk=>Kd.freshB (g:=a3) (o:= .cells #[i6 a4,i6 a5,i6 a6] 42 (0,0)) (bl_ a1).out k_ hk));(case aO=>exact(ra_ HO_8.out));(case aS=>exact(below_size (bw_ HB).out));(case aL=>have:=LMc23.out;omega);intro j0 j6 ho hb hg hat;rw[←f9.out] at ho;have f4:=Aside0.mk (blk_grown (g:=a3) (o:= .cells #[i6 a4,i6 a5,i6 a6] 42 (0,0)) (bl_ a1).out hg (Kd.R_away HO_8.out (fun _ hk=>hk)));have f5:=Aside0.mk (hb);have f6:=Aside0.mk (ho);clear a1;clear HB;clear HO_8;have a1:=f4;have HB:=f5;have g0:=f6;clear f4 f5 f6;clear ho hb hg hat))
     go_roundg k2
     case measure=>have:=g1.out;have:=g9.out;omega
     case rel=>exact⟨(g4),(wrap64 (b4+1)),en_,H',⟨by have:=g1.out;have:=g9.out;omega⟩,⟨by(with_reducible repeat(first|apply Kd.R_alloc|apply Kd.R_drewN|apply Kd.R_drew));exact g0.out⟩,bl_ a1,bw_ HB⟩
    rw[if_neg g2] at H
    exact absurd H (by simp)
   obtain rfl:=si_ H
   have hz27:=ch3_ a1
   go_wp2
   go_ret
   exact⟨_,es_,by(with_reducible repeat(first|apply Kd.R_alloc|apply Kd.R_drewN|apply Kd.R_drew));exact Kd.R_mono HO_8.out (fun _ hk=>trivial),(bw_ HB).out⟩
/-! ### impl_parent: function 102 -/
def impl_parent.f (k:Nat) (a0 a1_0 a1_1 a1_2:Int):Option (Int×Int×Int×Bool):=(impl_mark.f k a0 a1_0 a1_1 a1_2).bind fun t732=>((impl_ofMark.f k a0 (wrap64 (a1_0 - 1)) t732).bind fun bt733=>(some (bt733.1,bt733.2.1,bt733.2.2.1,bt733.2.2.2)))
def impl_parent.T1:Bool×List (List Nat×List Nat):=(true,[([],[]),([],[]),([1],[1]),([2],[2]),([],[]),([],[]),([4,5],[4,5]),([0,3,6,6],[0,3,6]),([7],[7]),([7],[7]),([8,7,0,1,2,3,4,5,6,7,8,9],[8]),([9,10,0,1,2,3,4,5,6,7,8,9,10],[9])])
def impl_parent.B1:List Nat:=[0,0,2,6,0,0,48,127,255,255,1023,2047]
theorem impl_parent.tab1:rtab .any (opsOf Tryz.f102 1)=impl_parent.T1:=by kernel_rfl
theorem impl_parent.bits1:waitsOk impl_parent.T1.2 impl_parent.B1=true:=by kernel_rfl
theorem impl_parent.calls {k:Nat} {a0 a4 a6 a7 r1 r2 r3:Int} {r4:Bool} (w:World) (h:impl_parent.f k a0 a4 a6 a7=some (r1,r2,r3,r4)):
  Calls Tryz.prog 102 #[i6 a0,.agg #[i6 a4,i6 a6,i6 a7]] w fun e w'=>e= .returned (.tuple #[.agg #[i6 r1,i6 r2,i6 r3],.bool r4])∧Below w.heap.size w w':=by
 have hu42:=Tryz.underlying42
 have HB:=Aside0.mk (Below.refl w.heap.size w)
 unfold impl_parent.f at h;have H:=h;clear h;replace H:=oc_ H;obtain⟨b2,A3,H⟩:=H;replace H:=oc_ H;obtain⟨⟨b3,b4,b5,d1⟩,A4,H⟩:=H
 simp only[Option.some.injEq,Prod.mk.injEq] at H
 obtain⟨rfl,rfl,rfl,rfl⟩:=H
 go_enter Tryz.func102,Tryz.ntmps102
 try go_wp2_with (first|((refine gd_ 3 ?_);refine by_ 3 #[i6 a4,i6 a6,i6 a7] 42 HB ?_;intro a8 hg w5 a2 hb b6 HB_;replace HB:=HB_;clear hb hg)|((refine gd_ 4 ?_);refine by_ 4 #[i6 0,i6 0,i6 0] 42 HB ?_;intro a9 hg w6 a3 hb b7 HB_;have a1:=bm_ a2 hg;have a5:=bn_ a2 hg;replace a2:=bb_ a2 hb;replace HB:=HB_;clear hb hg))
 replace a2:=bd_ a2;replace a3:=bd_ a3;replace HB:=be_ HB
 refine start_ (n:=12) (S:=fun w'=>c_ w' a8 0 (i6 a4)∧c_ w' a8 1 (i6 a6)∧c_ w' a8 2 (i6 a7)) (ds:=[]) (bv_ 12 0) (by kernel_rfl) rfl rfl ⟨cz_ a2 0,cz_ a2 1,cz_ a2 2⟩ (fun hHeld=>?_);refine with_tabW impl_parent.tab1 impl_parent.bits1 (fun HT_ HW_=>?_)
 generalize w6.drew=w7 at a2 a3 HB hHeld⊢
 refine px_ HT_ 0 6 1 ?_;refine px_ HT_ 1 7 3 ?_;refine px_ HT_ 4 10 19 ?_
 refine ta_ HT_ HW_ 2 (some 8) (bv_ 12 23) hHeld ?_ (hy:=by rintro w' ⟨s0,s1,s2⟩;go_simp;with_reducible rfl)
 refine px_ HT_ 3 9 31 ?_
 refine ta_ HT_ HW_ 5 (some 11) (bv_ 12 63) hHeld ?_ (hy:=by rintro w' ⟨s0,s1,s2⟩;go_simp;with_reducible rfl)
 refine on_ HT_ 6 (some 12) (bv_ 12 127) (fun K hK=>?_)
 refine gs_ Tryz.func69 #[i6 a0,.agg #[i6 a4,i6 a6,i6 a7]] ?_
 with_reducible refine mo_ (impl_mark.calls _ A3.out) ?_
 intro w8 hb;replace a2:=bb_ a2 hb;replace a3:=bb_ a3 hb;replace HB:=bt_ HB hb
 try clear hb
 refine hK.out _ _ ⟨cz_ a2 0,cz_ a2 1,cz_ a2 2⟩ (fun hHeld=>?_)
 clear hK K;refine nm_ (some 12) ?_
 refine on_ HT_ 7 (some 13) (bv_ 12 255) (fun K hK=>?_)
 refine gs_ Tryz.func94 #[i6 a0,i6 (wrap64 (a4 - 1)),i6 b2] ?_
 with_reducible refine mo_ (impl_ofMark.calls _ A4.out) ?_
 intro w9 hb;replace a2:=bb_ a2 hb;replace a3:=bb_ a3 hb;replace HB:=bt_ HB hb
 try clear hb
 refine hK.out _ _ ⟨cz_ a2 0,cz_ a2 1,cz_ a2 2⟩ (fun hHeld=>?_)
 clear hK K;refine nm_ (some 13) ?_;refine px_ HT_ 8 14 511 ?_;refine px_ HT_ 9 15 1023 ?_
 refine on_ HT_ 10 none (bv_ 12 2047) (fun K hK=>?_)
 have d2:=cz_ a3 0;have b8:=blk_frozen a3.out 0;have b0:=a1.out;have b1:=a5.out;have d3:=cz_ a3 1;have b9:=blk_frozen a3.out 1;have d4:=cz_ a3 2;have d0:=blk_frozen a3.out 2
 refine skip_ (w1:=?_) (by rfl) rfl ?_ ?_
 rotate_left
 ·go_simp
  rfl
 refine hK.out _ _ ⟨(cg_ a1 ((cg_ a1 ((cg_ a1 (hHeld.1)))))),(cg_ a1 ((cg_ a1 ((cg_ a1 (hHeld.2.1)))))),(cg_ a1 ((cg_ a1 ((cg_ a1 (hHeld.2.2))))))⟩ (fun hHeld=>?_)
 clear hK K;refine px_ HT_ 11 5 4095 ?_
 refine done_ (done_of HT_.out (by kernel_rfl)) ?_
 try go_wp2
 refine bodyPost_ret (results_ct rfl _ _ a9 42 #[i6 b3,i6 b4,i6 b5] (0,0) _ rfl (bp_ a3).out Tryz.underlying42 rfl (by kernel_rfl)) rfl ?_
 exact⟨es_,(bw_ HB).out⟩
/-! ### impl_child: function 103 -/
def impl_child.f (k:Nat) (a0 a1_0 a1_1 a1_2 a2:Int):Option (Int×Int×Int×Bool):=(impl_mark.f k a0 a1_0 a1_1 a1_2).bind fun t739=>((impl_power.f k a0 (wrap64 (a1_0+6))).bind fun t740=>((impl_ofMark.f k a0 (wrap64 (a1_0+1)) (wrap64 (t739+(wrap64 (a2*t740))))).bind fun bt741=>(some (bt741.1,bt741.2.1,bt741.2.2.1,bt741.2.2.2))))
def impl_child.T1:Bool×List (List Nat×List Nat):=(true,[([],[]),([],[]),([1],[1]),([2],[2]),([],[]),([],[]),([4,5],[4,5]),([],[]),([],[]),([],[]),([9],[9]),([10],[10]),([8,11,6],[8,11]),([7,12],[7,12]),([6,13],[6,13]),([0,3,14,12],[0,3,14]),([15],[15]),([15],[15]),([16,15,0,1,2,3,4,5,6,7,8,9,10,11,12,13,14,15,16,17],[16]),([17,18,0,1,2,3,4,5,6,7,8,9,10,11,12,13,14,15,16,17,18],[17])])
def impl_child.B1:List Nat:=[0,0,2,6,0,0,48,0,0,0,512,1536,3952,8176,16368,32767,65535,65535,262143,524287]
theorem impl_child.tab1:rtab .any (opsOf Tryz.f103 1)=impl_child.T1:=by kernel_rfl
theorem impl_child.bits1:waitsOk impl_child.T1.2 impl_child.B1=true:=by kernel_rfl
theorem impl_child.calls {k:Nat} {a0 a5 a7 a8 a2 r1 r2 r3:Int} {r4:Bool} (w:World) (h:impl_child.f k a0 a5 a7 a8 a2=some (r1,r2,r3,r4)):
  Calls Tryz.prog 103 #[i6 a0,.agg #[i6 a5,i6 a7,i6 a8],i6 a2] w fun e w'=>e= .returned (.tuple #[.agg #[i6 r1,i6 r2,i6 r3],.bool r4])∧Below w.heap.size w w':=by
 have hu42:=Tryz.underlying42
 have HB:=Aside0.mk (Below.refl w.heap.size w)
 unfold impl_child.f at h;have H:=h;clear h;replace H:=oc_ H;obtain⟨b3,A4,H⟩:=H;replace H:=oc_ H;obtain⟨b4,A5,H⟩:=H;replace H:=oc_ H;obtain⟨⟨b5,b6,b7,d3⟩,A6,H⟩:=H
 simp only[Option.some.injEq,Prod.mk.injEq] at H
 obtain⟨rfl,rfl,rfl,rfl⟩:=H
 go_enter Tryz.func103,Tryz.ntmps103
 try go_wp2_with (first|((refine gd_ 4 ?_);refine by_ 4 #[i6 a5,i6 a7,i6 a8] 42 HB ?_;intro a9 hg w7 a3 hb b8 HB_;replace HB:=HB_;clear hb hg)|((refine gd_ 6 ?_);refine by_ 6 #[i6 0,i6 0,i6 0] 42 HB ?_;intro b0 hg w8 a4 hb b9 HB_;have a1:=bm_ a3 hg;have a6:=bn_ a3 hg;replace a3:=bb_ a3 hb;replace HB:=HB_;clear hb hg))
 replace a3:=bd_ a3;replace a4:=bd_ a4;replace HB:=be_ HB
 refine start_ (n:=20) (S:=fun w'=>c_ w' a9 0 (i6 a5)∧c_ w' a9 1 (i6 a7)∧c_ w' a9 2 (i6 a8)) (ds:=[]) (bv_ 20 0) (by kernel_rfl) rfl rfl ⟨cz_ a3 0,cz_ a3 1,cz_ a3 2⟩ (fun hHeld=>?_);refine with_tabW impl_child.tab1 impl_child.bits1 (fun HT_ HW_=>?_)
 generalize w8.drew=w9 at a3 a4 HB hHeld⊢
 refine px_ HT_ 0 8 1 ?_;refine px_ HT_ 1 9 3 ?_;refine px_ HT_ 4 12 19 ?_;refine px_ HT_ 7 15 147 ?_;refine px_ HT_ 8 16 403 ?_;refine px_ HT_ 9 17 915 ?_
 refine ta_ HT_ HW_ 2 (some 10) (bv_ 20 919) hHeld ?_ (hy:=by rintro w' ⟨s0,s1,s2⟩;go_simp;with_reducible rfl)
 refine px_ HT_ 3 11 927 ?_
 refine ta_ HT_ HW_ 5 (some 13) (bv_ 20 959) hHeld ?_ (hy:=by rintro w' ⟨s0,s1,s2⟩;go_simp;with_reducible rfl)
 refine ta_ HT_ HW_ 10 (some 18) (bv_ 20 1983) hHeld ?_ (hy:=by rintro w' ⟨s0,s1,s2⟩;go_simp;with_reducible rfl)
 refine px_ HT_ 11 19 4031 ?_
 refine on_ HT_ 6 (some 14) (bv_ 20 4095) (fun K hK=>?_)
 refine gs_ Tryz.func69 #[i6 a0,.agg #[i6 a5,i6 a7,i6 a8]] ?_
 with_reducible refine mo_ (impl_mark.calls _ A4.out) ?_
 intro d7 hb;replace a3:=bb_ a3 hb;replace a4:=bb_ a4 hb;replace HB:=bt_ HB hb
 try clear hb
 refine hK.out _ _ ⟨cz_ a3 0,cz_ a3 1,cz_ a3 2⟩ (fun hHeld=>?_)
 clear hK K;refine nm_ (some 14) ?_
 refine on_ HT_ 12 (some 20) (bv_ 20 8191) (fun K hK=>?_)
 refine gs_ Tryz.func64 #[i6 a0,i6 (wrap64 (a5+6))] ?_
 with_reducible refine mo_ (impl_power.calls _ A5.out) ?_
 rintro w' ⟨nd,rfl⟩
 refine hK.out _ _ ⟨cz_ a3 0,cz_ a3 1,cz_ a3 2⟩ (fun hHeld=>?_)
 clear hK K;refine nm_ (some 20) ?_;refine px_ HT_ 13 21 16383 ?_;refine px_ HT_ 14 22 32767 ?_
 refine on_ HT_ 15 (some 23) (bv_ 20 65535) (fun K hK=>?_)
 refine gs_ Tryz.func94 #[i6 a0,i6 (wrap64 (a5+1)),i6 (wrap64 (b3+(wrap64 (a2*b4))))] ?_
 with_reducible refine mo_ (impl_ofMark.calls _ A6.out) ?_
 intro d8 hb;replace a3:=bb_ a3 hb;replace a4:=bb_ a4 hb;replace HB:=bt_ HB hb
 try clear hb
 refine hK.out _ _ ⟨cz_ a3 0,cz_ a3 1,cz_ a3 2⟩ (fun hHeld=>?_)
 clear hK K;refine nm_ (some 23) ?_;refine px_ HT_ 16 24 131071 ?_;refine px_ HT_ 17 25 262143 ?_
 refine on_ HT_ 18 none (bv_ 20 524287) (fun K hK=>?_)
 have d4:=cz_ a4 0;have d0:=blk_frozen a4.out 0;have b1:=a1.out;have b2:=a6.out;have d5:=cz_ a4 1;have d1:=blk_frozen a4.out 1;have d6:=cz_ a4 2;have d2:=blk_frozen a4.out 2
 refine skip_ (w1:=?_) (by rfl) rfl ?_ ?_
 rotate_left
 ·go_simp
  rfl
 refine hK.out _ _ ⟨(cg_ a1 ((cg_ a1 ((cg_ a1 (hHeld.1)))))),(cg_ a1 ((cg_ a1 ((cg_ a1 (hHeld.2.1)))))),(cg_ a1 ((cg_ a1 ((cg_ a1 (hHeld.2.2))))))⟩ (fun hHeld=>?_)
 clear hK K;refine px_ HT_ 19 7 1048575 ?_
 refine done_ (done_of HT_.out (by kernel_rfl)) ?_
 try go_wp2
 refine bodyPost_ret (results_ct rfl _ _ b0 42 #[i6 b5,i6 b6,i6 b7] (0,0) _ rfl (bp_ a4).out Tryz.underlying42 rfl (by kernel_rfl)) rfl ?_
 exact⟨es_,(bw_ HB).out⟩
/-! ### impl_neighbour: function 79 -/
def impl_neighbour.f (k:Nat) (a0 a1_0 a1_1 a1_2 a2:Int):Option (Int×Int×Int×Bool):=if a2=0 then((impl_parent.f k a0 a1_0 a1_1 a1_2).bind fun bt747=>(some (bt747.1,bt747.2.1,bt747.2.2.1,bt747.2.2.2))) else((impl_child.f k a0 a1_0 a1_1 a1_2 (wrap64 (a2 - 1))).bind fun bt751=>(some (bt751.1,bt751.2.1,bt751.2.2.1,bt751.2.2.2)))
theorem impl_neighbour.calls {k:Nat} {a0 a5 a6 a7 a2 r1 r2 r3:Int} {r4:Bool} (w:World) (h:impl_neighbour.f k a0 a5 a6 a7 a2=some (r1,r2,r3,r4)):
  Calls Tryz.prog 79 #[i6 a0,.agg #[i6 a5,i6 a6,i6 a7],i6 a2] w fun e w'=>e= .returned (.tuple #[.agg #[i6 r1,i6 r2,i6 r3],.bool r4])∧Below w.heap.size w w':=by
 have hu42:=Tryz.underlying42
 have HB:=Aside0.mk (Below.refl w.heap.size w)
 unfold impl_neighbour.f at h;have H:=h;clear h;replace H:=ie_ H
 rcases H with ⟨b3,b4,H⟩|⟨c4,b3,b4,H⟩
 ·replace H:=oc_ H
  obtain⟨⟨b5,b6,b7,d1⟩,A5,H⟩:=H
  simp only[Option.some.injEq,Prod.mk.injEq] at H
  obtain⟨rfl,rfl,rfl,rfl⟩:=H
  go_enter Tryz.func79,Tryz.ntmps79
  go_wp2_with (first|((refine gd_ 4 ?_);refine by_ 4 #[i6 a5,i6 a6,i6 a7] 42 HB ?_;intro b0 hg w6 a1 hb b1 HB_;replace HB:=HB_;clear hb hg)|((refine gd_ 6 ?_);refine by_ 6 #[i6 0,i6 0,i6 0] 42 HB ?_;intro a9 hg w7 a3 hb b2 HB_;have a4:=bm_ a1 hg;have a8:=bn_ a1 hg;replace a1:=bb_ a1 hb;replace HB:=HB_;clear hb hg;have:=nn_ a4;have hz9:=ch3_ a1)|((refine gc_ 102 ?_);refine ge_ 12 Tryz.func102 #[i6 a0,.agg #[i6 a5,i6 a6,i6 a7]] ?_;(with_reducible refine mo_ (impl_parent.calls _ A5.out) ?_);intro d4 hb;replace a1:=bb_ a1 hb;replace a3:=bb_ a3 hb;replace HB:=bt_ HB hb;clear hb;have hz11:=ch3_ a3))
  refine bodyPost_ret (results_ct rfl _ _ a9 42 #[i6 b5,i6 b6,i6 b7] (0,0) _ rfl (bp_ a3).out Tryz.underlying42 rfl (by kernel_rfl)) rfl ?_
  exact⟨es_,(bw_ HB).out⟩
 replace H:=oc_ H;obtain⟨⟨b8,b9,d0,d2⟩,d3,H⟩:=H
 simp only[Option.some.injEq,Prod.mk.injEq] at H
 obtain⟨rfl,rfl,rfl,rfl⟩:=H
 go_enter Tryz.func79,Tryz.ntmps79
 go_wp2_with (first|((refine gd_ 4 ?_);refine by_ 4 #[i6 a5,i6 a6,i6 a7] 42 HB ?_;intro b0 hg d5 a1 hb b1 HB_;replace HB:=HB_;clear hb hg)|((refine gd_ 6 ?_);refine by_ 6 #[i6 0,i6 0,i6 0] 42 HB ?_;intro a9 hg d6 a3 hb b2 HB_;have a4:=bm_ a1 hg;have a8:=bn_ a1 hg;replace a1:=bb_ a1 hb;replace HB:=HB_;clear hb hg;have:=nn_ a4;have hz16:=ch3_ a1)|((refine gc_ 103 ?_);refine ge_ 19 Tryz.func103 #[i6 a0,.agg #[i6 a5,i6 a6,i6 a7],i6 (wrap64 (a2 - 1))] ?_;(with_reducible refine mo_ (impl_child.calls _ d3.out) ?_);intro d7 hb;replace a1:=bb_ a1 hb;replace a3:=bb_ a3 hb;replace HB:=bt_ HB hb;clear hb;have hz18:=ch3_ a3))
 refine bodyPost_ret (results_ct rfl _ _ a9 42 #[i6 b8,i6 b9,i6 d0] (0,0) _ rfl (bp_ a3).out Tryz.underlying42 rfl (by kernel_rfl)) rfl ?_
 exact⟨es_,(bw_ HB).out⟩
attribute [local go_sem high] eqA42
/-! ### impl_toward: function 96 -/
def impl_toward.l0:Nat→Int→Int→Int→Int→Int→Int→Int→Int→Option (Int)
 |0,_,_,_,_,_,_,_,_=>none
 |k+1,x0,x7,x756000,x756001,x756002,x757000,x757001,x757002=>if x7≤x0 then((impl_neighbour.f k x0 x756000 x756001 x756002 x7).bind fun bt757=>(if bt757.2.2.2=true then(if (bt757.1==x757000&&(bt757.2.1==x757001&&(bt757.2.2.1==x757002)))=true then(some x7) else(impl_toward.l0 k x0 (wrap64 (x7+1)) x756000 x756001 x756002 x757000 x757001 x757002)) else(impl_toward.l0 k x0 (wrap64 (x7+1)) x756000 x756001 x756002 x757000 x757001 x757002))) else(some 0)
def impl_toward.f (k:Nat) (a0 a1_0 a1_1 a1_2 a2_0 a2_1 a2_2:Int):Option (Int):=impl_toward.l0 k a0 1 a1_0 a1_1 a1_2 a2_0 a2_1 a2_2
theorem impl_toward.calls {k:Nat} {a0 b1 b2 b3 a7 a8 a9 r:Int} (w:World) (h:impl_toward.f k a0 b1 b2 b3 a7 a8 a9=some r):
  Calls Tryz.prog 96 #[i6 a0,.agg #[i6 b1,i6 b2,i6 b3],.agg #[i6 a7,i6 a8,i6 a9]] w fun e w'=>e= .returned (i6 r)∧Below w.heap.size w w':=by
 have hu42:=Tryz.underlying42
 have HB:=Aside0.mk (Below.refl w.heap.size w)
 unfold impl_toward.f at h;have H:=h;clear h
 have H':=Aside0.mk H
 clear H
 go_enter Tryz.func96,Tryz.ntmps96
 go_wp2_with (first|((refine gd_ 4 ?_);refine by_ 4 #[i6 b1,i6 b2,i6 b3] 42 HB ?_;intro d2 hg w4 a1 hb d9 HB_;replace HB:=HB_;clear hb hg)|((refine gd_ 5 ?_);refine by_ 5 #[i6 a7,i6 a8,i6 a9] 42 HB ?_;intro d3 hg w5 a2 hb f0 HB_;have b0:=bm_ a1 hg;have d1:=bn_ a1 hg;replace a1:=bb_ a1 hb;replace HB:=HB_;clear hb hg))
 go_loopg [7] k (fun kq v7 w'=>∃(b4:Int),v7=i6 b4∧Aside0 (impl_toward.l0 kq a0 b4 b1 b2 b3 a7 a8 a9=some r)∧Aside0 (kq≤k)∧Aside0 (b_ w' d2 #[i6 b1,i6 b2,i6 b3] 42)∧Aside0 (b_ w' d3 #[i6 a7,i6 a8,i6 a9] 42)∧Aside0 (Below w.heap.size w w'))
 case atStart=>exact⟨(1),en_,H',⟨Nat.le_refl _⟩,bl_ a1,bl_ a2,bw_ HB⟩
 clear H';obtain⟨b4,rfl,HA,d4,a1,a2,HB⟩:=hrel
 cases gk with
 |zero=>exact absurd HA.out (by simp[impl_toward.l0])
 |succ k1=>
  have H:=HA.out;clear HA
  simp only[impl_toward.l0] at H
  replace H:=im_ H
  rcases H with ⟨d5,H⟩|⟨d5,H⟩
  ·replace H:=oc_ H
   obtain⟨⟨b5,b6,b7,f1⟩,A7,H⟩:=H;replace H:=ib_ H
   rcases H with ⟨rfl,H⟩|⟨rfl,H⟩
   ·by_cases c9: (b5==a7&&(b6==a8&&(b7==a9)))=true
    ·rw[if_pos c9] at H
     have d6: (b5==a7&&(b6==a8&&(b7==a9)))=true:=c9
     (try(have d7:decide (b5=a7&&(b6==a8&&(b7==a9)))=true:=by simpa using c9))
     (try(have d8: (b5==a7&&(b6==a8&&(b7==a9)))=true:=by simpa using c9))
     clear c9
     obtain rfl:=si_ H
     have:=nn_ b0;have hz11:=ch3_ a1
     go_wp2_with (first|((refine gc_ 79 ?_);refine ge_ 19 Tryz.func79 #[i6 a0,.agg #[i6 b1,i6 b2,i6 b3],i6 b4] ?_;(with_reducible refine mo_ (impl_neighbour.calls _ A7.out) ?_);intro f3 hb;replace a1:=bb_ a1 hb;replace a2:=bb_ a2 hb;replace HB:=bt_ HB hb;clear hb)|((refine gd_ 8 ?_);refine by_ 8 #[i6 0,i6 0,i6 0] 42 HB ?_;intro b9 hg f4 b8 hb d0 HB_;have a5:=bm_ a1 hg;have a3:=bn_ a1 hg;have a6:=bm_ a2 hg;have a4:=bn_ a2 hg;replace a1:=bb_ a1 hb;replace a2:=bb_ a2 hb;replace HB:=HB_;clear hb hg;have:=nn_ a3;have:=nn_ a4;have hz16:=ch3_ b8;have hz17:=ch3_ a2))
     go_ret;exact⟨es_,(bw_ HB).out⟩
    rw[if_neg c9] at H
    have d6: (b5==a7&&(b6==a8&&(b7==a9)))=false:=by simpa using c9
    (try(have d7:decide (b5=a7&&(b6==a8&&(b7==a9)))=false:=by simpa using c9))
    (try(have d8: (b5==a7&&(b6==a8&&(b7==a9)))=false:=by simpa using c9))
    (try(have f2:¬(b5=a7&&(b6==a8&&(b7==a9))):=by simpa using c9))
    clear c9
    have H':=Aside0.mk H
    clear H;have:=nn_ b0;have hz19:=ch3_ a1
    go_wp2_with (first|((refine gc_ 79 ?_);refine ge_ 19 Tryz.func79 #[i6 a0,.agg #[i6 b1,i6 b2,i6 b3],i6 b4] ?_;(with_reducible refine mo_ (impl_neighbour.calls _ A7.out) ?_);intro f5 hb;replace a1:=bb_ a1 hb;replace a2:=bb_ a2 hb;replace HB:=bt_ HB hb;clear hb)|((refine gd_ 8 ?_);refine by_ 8 #[i6 0,i6 0,i6 0] 42 HB ?_;intro b9 hg f6 b8 hb d0 HB_;have a5:=bm_ a1 hg;have a3:=bn_ a1 hg;have a6:=bm_ a2 hg;have a4:=bn_ a2 hg;replace a1:=bb_ a1 hb;replace a2:=bb_ a2 hb;replace HB:=HB_;clear hb hg;have:=nn_ a3;have:=nn_ a4;have hz24:=ch3_ b8;have hz25:=ch3_ a2))
    go_roundg k1
    case measure=>have:=d4.out;omega
    case rel=>exact⟨(wrap64 (b4+1)),en_,H',⟨by have:=d4.out;omega⟩,fl_ a1 a5,fl_ a2 a6,bw_ HB⟩
   have H':=Aside0.mk H
   clear H;have:=nn_ b0;have hz27:=ch3_ a1
   go_wp2_with (first|((refine gc_ 79 ?_);refine ge_ 19 Tryz.func79 #[i6 a0,.agg #[i6 b1,i6 b2,i6 b3],i6 b4] ?_;(with_reducible refine mo_ (impl_neighbour.calls _ A7.out) ?_);intro f7 hb;replace a1:=bb_ a1 hb;replace a2:=bb_ a2 hb;replace HB:=bt_ HB hb;clear hb)|((refine gd_ 8 ?_);refine by_ 8 #[i6 0,i6 0,i6 0] 42 HB ?_;intro b9 hg f8 b8 hb d0 HB_;have a5:=bm_ a1 hg;have a3:=bn_ a1 hg;have a6:=bm_ a2 hg;have a4:=bn_ a2 hg;replace a1:=bb_ a1 hb;replace a2:=bb_ a2 hb;replace HB:=HB_;clear hb hg;have:=nn_ a3;have:=nn_ a4;have hz32:=ch3_ b8))
   go_roundg k1
   case measure=>have:=d4.out;omega
   case rel=>exact⟨(wrap64 (b4+1)),en_,H',⟨by have:=d4.out;omega⟩,fl_ a1 a5,fl_ a2 a6,bw_ HB⟩
  obtain rfl:=si_ H
  go_wp2
  go_ret;exact⟨es_,(bw_ HB).out⟩
/-! ### impl_letterTo: function 72 -/
def impl_letterTo.f (k:Nat) (a0 a1_0 a1_1 a1_2 a2_0 a2_1 a2_2:Int):Option (Int):=if a2_0<a1_0 then(some 117) else((impl_toward.f k a0 a1_0 a1_1 a1_2 a2_0 a2_1 a2_2).bind fun t764=>(some ((wrap64 ((wrap64 (48+t764)) - 1))%256)))
theorem impl_letterTo.calls {k:Nat} {a0 a5 a6 a7 a8 a9 b0 r:Int} (w:World) (h:impl_letterTo.f k a0 a5 a6 a7 a8 a9 b0=some r):
  Calls Tryz.prog 72 #[i6 a0,.agg #[i6 a5,i6 a6,i6 a7],.agg #[i6 a8,i6 a9,i6 b0]] w fun e w'=>e= .returned (.int .u8 r)∧Below w.heap.size w w':=by
 have hu42:=Tryz.underlying42
 have HB:=Aside0.mk (Below.refl w.heap.size w)
 unfold impl_letterTo.f at h;have H:=h;clear h;replace H:=il_ H
 rcases H with ⟨b5,H⟩|⟨b5,H⟩
 ·obtain rfl:=si_ H
  go_enter Tryz.func72,Tryz.ntmps72
  go_wp2_with (first|((refine gd_ 4 ?_);refine by_ 4 #[i6 a5,i6 a6,i6 a7] 42 HB ?_;intro b1 hg w5 a1 hb b2 HB_;replace HB:=HB_;clear hb hg)|((refine gd_ 5 ?_);refine by_ 5 #[i6 a8,i6 a9,i6 b0] 42 HB ?_;intro b3 hg w6 a3 hb b4 HB_;have a4:=bm_ a1 hg;have a2:=bn_ a1 hg;replace a1:=bb_ a1 hb;replace HB:=HB_;clear hb hg;have:=nn_ a2;have hz8:=ch3_ a3;have hz9:=ch3_ a1))
  go_ret;exact⟨es_,(bw_ HB).out⟩
 replace H:=oc_ H;obtain⟨b6,b7,H⟩:=H
 obtain rfl:=si_ H
 go_enter Tryz.func72,Tryz.ntmps72
 go_wp2_with (first|((refine gd_ 4 ?_);refine by_ 4 #[i6 a5,i6 a6,i6 a7] 42 HB ?_;intro b1 hg b8 a1 hb b2 HB_;replace HB:=HB_;clear hb hg)|((refine gd_ 5 ?_);refine by_ 5 #[i6 a8,i6 a9,i6 b0] 42 HB ?_;intro b3 hg b9 a3 hb b4 HB_;have a4:=bm_ a1 hg;have a2:=bn_ a1 hg;replace a1:=bb_ a1 hb;replace HB:=HB_;clear hb hg;have:=nn_ a2;have hz14:=ch3_ a3;have hz15:=ch3_ a1)|((refine gc_ 96 ?_);refine ge_ 15 Tryz.func96 #[i6 a0,.agg #[i6 a5,i6 a6,i6 a7],.agg #[i6 a8,i6 a9,i6 b0]] ?_;(with_reducible refine mo_ (impl_toward.calls _ b7.out) ?_);intro d0 hb;replace a1:=bb_ a1 hb;replace a3:=bb_ a3 hb;replace HB:=bt_ HB hb;clear hb))
 go_ret;exact⟨es_,(bw_ HB).out⟩
/-! ### impl_wayWord: function 44 -/
def impl_wayWord.l0:Nat→Int→List Int→List (S42)→Int→Option (ByteArray)
 |0,_,_,_,_=>none
 |k+1,x0,x7,x8,x9=>if x9<(x8.length:Int) then(if 0≤(wrap64 (x9 - 1)) then(if (wrap64 (x9 - 1))<(x8.length:Int) then(if 0≤x9 then((impl_letterTo.f k x0 ((rd_T42 x8 (wrap64 (x9 - 1))).f0) ((rd_T42 x8 (wrap64 (x9 - 1))).f1) ((rd_T42 x8 (wrap64 (x9 - 1))).f2) ((rd_T42 x8 x9).f0) ((rd_T42 x8 x9).f1) ((rd_T42 x8 x9).f2)).bind fun t775=>(if x7.length<140737488355328 then(impl_wayWord.l0 k x0 (x7++[t775]) x8 (wrap64 (x9+1))) else(none))) else(none)) else(none)) else(none)) else(some (strOfNums x7))
def impl_wayWord.f (k:Nat) (a0 a1_0 a1_1 a1_2 a2_0 a2_1 a2_2:Int):Option (ByteArray):=(impl_geodesic.f k a0 a1_0 a1_1 a1_2 a2_0 a2_1 a2_2).bind fun t770=>(impl_wayWord.l0 k a0 (([]:List Int)) t770 1)
def impl_wayWord.T5:Bool×List (List Nat×List Nat):=(true,[([],[]),([],[]),([],[]),([],[]),([3],[3]),([2,4],[2,4]),([5],[5]),([],[]),([],[]),([7,8],[7,8]),([9],[9]),([1,6,10],[1,6,10]),([11],[11]),([0,12,11],[0,12]),([13,13,0,1,2,3,4,5,6,7,8,9,10,11,12,13],[0,13])])
def impl_wayWord.B5:List Nat:=[0,0,0,0,8,28,60,0,0,384,896,2046,4094,8191,16383]
theorem impl_wayWord.tab5:rtab .any (opsOf Tryz.f44 5)=impl_wayWord.T5:=by kernel_rfl
theorem impl_wayWord.bits5:waitsOk impl_wayWord.T5.2 impl_wayWord.B5=true:=by kernel_rfl
theorem impl_wayWord.calls {k:Nat} {a0 b5 b6 b7 b8 b9 d0:Int} (r:ByteArray) (w:World) (h:impl_wayWord.f k a0 b5 b6 b7 b8 b9 d0=some r):
  Calls Tryz.prog 44 #[i6 a0,.agg #[i6 b5,i6 b6,i6 b7],.agg #[i6 b8,i6 b9,i6 d0]] w fun e w'=>e= .returned (.string r)∧Below w.heap.size w w':=by
 have hu42:=Tryz.underlying42
 have HB:=Aside0.mk (Below.refl w.heap.size w)
 unfold impl_wayWord.f at h;have H:=h;clear h
 obtain⟨f5,a7⟩:∃y_:List Int,y_=(([]:List Int)):=⟨_,rfl⟩
 replace H: ((impl_geodesic.f k a0 b5 b6 b7 b8 b9 d0).bind fun a2=>(impl_wayWord.l0 k a0 f5 a2 1))=some r:=by first|(rw[a7];with_reducible exact H)|(have H2_:=(Option.bind_some _ _).symm.trans H;rw[a7];with_reducible exact H2_)|(have H2_:=(Option.bind_some _ _).symm.trans H;with_reducible exact H2_)|with_reducible exact H|(rw[a7];exact H)|exact H
 have d5:=Aside0.mk a7;clear a7;replace H:=oc_ H;obtain⟨a2,A4,H⟩:=H
 have H':=Aside0.mk H
 clear H
 go_enter Tryz.func44,Tryz.ntmps44
 go_wp2_with (first|((refine gd_ 4 ?_);refine by_ 4 #[i6 b5,i6 b6,i6 b7] 42 HB ?_;intro f6 hg w5 a4 hb j2 HB_;replace HB:=HB_;clear hb hg)|((refine gd_ 5 ?_);refine by_ 5 #[i6 b8,i6 b9,i6 d0] 42 HB ?_;intro f7 hg w6 a6 hb j3 HB_;have d1:=bm_ a4 hg;have f4:=bn_ a4 hg;replace a4:=bb_ a4 hb;replace HB:=HB_;clear hb hg)|((refine gd_ 10 ?_);refine Kd.R_lit (Kd.int .u8) _ 5 ?hg (N:=10) ?hd (xs:=([]:List Int)) (inner:=[]) (ok:=fun _=>True) (okp:=fun _=>True) ?hr ?hp (fun _ hk=>hk) trivial (Below.refl _ _) (Nat.le_refl _) (by simp) ?_;(case hd=>rfl);(case hg=>rfl);(case hr=>first|(go_simp;done)|(go_simp;rfl));(case hp=>exact(Reps.none _ _));intro l3 w7 f8 hb hg_ hnew_;clear hg_ hnew_;(first|rw[←d5.out] at f8|(simp only[Int.reduceToNat] at f8;rw[←d5.out] at f8));have d3:=Aside0.mk (Kd.R_lower f8 (below_size (bw_ HB).out));replace a4:=bb_ a4 hb;replace a6:=bb_ a6 hb;replace HB:=bt_ HB hb;clear hb f8;have:=nn_ d1;have hz10:=ch3_ a4;have hz11:=ch3_ a6)|((refine gc_ 71 ?_);refine ge_ 14 Tryz.func71 #[i6 a0,.agg #[i6 b5,i6 b6,i6 b7],.agg #[i6 b8,i6 b9,i6 d0]] ?_;(with_reducible refine(impl_geodesic.calls _ A4.out).mono ?_);rintro e m1 ⟨g5,rfl,j4,hb⟩;refine⟨_,rfl,?_⟩;have f9:=Aside0.mk (Kd.R_lower (Kd.R_newB (Kd.R_newB j4 (g:=f6) (o:= .cells #[i6 b5,i6 b6,i6 b7] 42 (0,0)) (bl_ a4).out) (g:=f7) (o:= .cells #[i6 b8,i6 b9,i6 d0] 42 (0,0)) (bl_ a6).out) (below_size (bw_ HB).out));replace d3:=rb_ d3 hb;replace a4:=bb_ a4 hb;replace a6:=bb_ a6 hb;replace HB:=bt_ HB hb;(try clear hb);(try clear j4)))
 go_loopg [7,9] k (fun kq v7 v9 w'=>∃(d2:List Int) (a1:Int),v9=i6 a1∧Aside0 (impl_wayWord.l0 kq a0 d2 a2 a1=some r)∧Aside0 (kq≤k)∧Aside0 (Kd.R (Kd.int .u8) 5 w' w.heap.size (fun _=>True) v7 d2)∧Aside0 (Kd.R k42 42 w' w.heap.size (fun _=>True) g5 a2)∧Aside0 (Below w.heap.size w w'))
 case atStart=>exact⟨(f5),(1),en_,H',⟨Nat.le_refl _⟩,⟨by(with_reducible repeat(first|apply Kd.R_alloc|apply Kd.R_drewN|apply Kd.R_drew));exact d3.out⟩,⟨by(with_reducible repeat(first|apply Kd.R_alloc|apply Kd.R_drewN|apply Kd.R_drew));exact Kd.R_mono f9.out (fun _ hk=>trivial)⟩,bw_ HB⟩
 clear H'
 try clear hz10
 try clear hz11
 obtain⟨d2,a1,rfl,HA,j5,HO_7,HO_8,HB⟩:=hrel
 cases gk with
 |zero=>exact absurd HA.out (by simp[impl_wayWord.l0])
 |succ k1=>
  have H:=HA.out;clear HA
  simp only[impl_wayWord.l0] at H
  replace H:=il_ H
  rcases H with ⟨g0,H⟩|⟨g0,H⟩
  ·obtain⟨a5,d4⟩:∃j_:Int,(wrap64 (a1 - 1))=j_:=⟨_,rfl⟩
   simp only[d4] at H
   have hji14w: (IntKind.i64.wrap (a1 - 1))=a5:=(i64_w _).trans d4
   replace H:=imn_ H;obtain⟨j6,H⟩:=H;replace H:=iln_ H;obtain⟨j7,H⟩:=H;replace H:=imn_ H;obtain⟨j8,H⟩:=H;replace H:=oc_ H;obtain⟨d6,l4,H⟩:=H
   by_cases g4:d2.length<140737488355328
   ·rw[if_pos g4] at H
    have LMc19:=Aside0.mk g4;clear g4
    obtain⟨g6,a8⟩:∃y_:List Int,y_=(d2++[d6]):=⟨_,rfl⟩
    first|rw[←a8,Option.bind_some] at H|rw[←a8] at H|(dsimp only at H;rw[←a8] at H)
    have g1:=Aside0.mk a8;clear a8
    have H':=Aside0.mk H
    clear H
    obtain⟨l5,l6,g7⟩:=Kd.R_slice HO_8.out
    subst g7
    try go_wp2
    replace HO_7:=Aside0.mk (Kd.R_drew HO_7.out)
    replace HO_8:=Aside0.mk (Kd.R_drew HO_8.out)
    replace HB:=be_ HB
    have d7:0≤((a5):Int):=od_
    have d8: (a5)<(a2.length:Int):=od_
    obtain⟨a3,g8,a9,b0,b1⟩:=at_T42 (Kd.R_reads' HO_8.out).2.2 (a5) d7 d8
    cases g8
    replace d7:=eq_true d7
    replace d8:=eq_true d8
    have d9:0≤(a1:Int):=od_
    have f3:a1<(a2.length:Int):=od_
    obtain⟨g2,g9,b2,b3,b4⟩:=at_T42 (Kd.R_reads' HO_8.out).2.2 a1 d9 f3
    obtain rfl:a3=g2:=(by injection g9)
    replace d9:=eq_true d9
    replace f3:=eq_true f3
    refine start_ (n:=15) (S:=fun w'=>w'.cell? (a3.add (((a5)).toNat*3))=some (i6 ((rd_T42 a2 (a5)).f0))∧w'.cell? ⟨(a3.add (((a5)).toNat*3)).block,(a3.add (((a5)).toNat*3)).off+1,none⟩=some (i6 ((rd_T42 a2 (a5)).f1))∧w'.cell? ⟨(a3.add (((a5)).toNat*3)).block,(a3.add (((a5)).toNat*3)).off+2,none⟩=some (i6 ((rd_T42 a2 (a5)).f2))∧w'.cell? (a3.add ((a1).toNat*3))=some (i6 ((rd_T42 a2 a1).f0))∧w'.cell? ⟨(a3.add ((a1).toNat*3)).block,(a3.add ((a1).toNat*3)).off+1,none⟩=some (i6 ((rd_T42 a2 a1).f1))∧w'.cell? ⟨(a3.add ((a1).toNat*3)).block,(a3.add ((a1).toNat*3)).off+2,none⟩=some (i6 ((rd_T42 a2 a1).f2))) (ds:=[12,13]) (bv_ 15 0) (by kernel_rfl) rfl rfl ⟨a9,b0,b1,b2,b3,b4⟩ (fun hHeld=>?_);refine with_tabW impl_wayWord.tab5 impl_wayWord.bits5 (fun HT_ HW_=>?_)
    generalize wr.drew=m2 at HO_7 HO_8 HB a9 b0 b1 b2 b3 b4 hHeld⊢
    refine px_ HT_ 0 21 1 ?_;refine px_ HT_ 1 22 3 ?_;refine px_ HT_ 2 23 7 ?_;refine px_ HT_ 3 24 15 ?_;refine px_ HT_ 4 25 31 ?_;refine px_ HT_ 5 26 63 ?_;refine px_ HT_ 7 28 191 ?_;refine px_ HT_ 8 29 447 ?_;refine px_ HT_ 9 30 959 ?_
    refine ta_ HT_ HW_ 6 (some 27) (bv_ 15 1023) hHeld ?_ (hy:=by rintro w' ⟨s0,s1,s2,s3,s4,s5⟩;go_simp;with_reducible rfl)
    refine ta_ HT_ HW_ 10 (some 31) (bv_ 15 2047) hHeld ?_ (hy:=by rintro w' ⟨s0,s1,s2,s3,s4,s5⟩;go_simp;with_reducible rfl)
    refine on_ HT_ 11 (some 32) (bv_ 15 4095) (fun K hK=>?_)
    refine gs_ Tryz.func72 #[i6 a0,.agg #[i6 ((rd_T42 a2 (a5)).f0),i6 ((rd_T42 a2 (a5)).f1),i6 ((rd_T42 a2 (a5)).f2)],.agg #[i6 ((rd_T42 a2 a1).f0),i6 ((rd_T42 a2 a1).f1),i6 ((rd_T42 a2 a1).f2)]] ?_ (hargs:=by(try simp only[List.map_toArray,List.map_cons,List.map_nil]);first|done|(simp only[d4];rfl)|rfl|(simp only[List.length_drop,List.length_take];rfl))
    with_reducible refine(impl_letterTo.calls _ l4.out).mono ?_
    rintro e m3 ⟨rfl,hb⟩
    have i4:=(hb.cell (World.block_lt_of_cell? _ _ (hHeld.1))).trans (hHeld.1)
    have i5:=(hb.cell (World.block_lt_of_cell? _ _ (hHeld.2.1))).trans (hHeld.2.1)
    have i7:=(hb.cell (World.block_lt_of_cell? _ _ (hHeld.2.2.1))).trans (hHeld.2.2.1)
    have i8:=(hb.cell (World.block_lt_of_cell? _ _ (hHeld.2.2.2.1))).trans (hHeld.2.2.2.1)
    have i9:=(hb.cell (World.block_lt_of_cell? _ _ (hHeld.2.2.2.2.1))).trans (hHeld.2.2.2.2.1)
    have j0:=(hb.cell (World.block_lt_of_cell? _ _ (hHeld.2.2.2.2.2))).trans (hHeld.2.2.2.2.2)
    refine⟨_,rfl,?_⟩;replace HO_7:=rb_ HO_7 hb;replace HO_8:=rb_ HO_8 hb;replace HB:=bt_ HB hb
    try clear hb
    refine hK.out _ _ ⟨i4,i5,i7,i8,i9,j0⟩ (fun hHeld=>?_)
    clear hK K;refine nm_ (some 32) ?_
    refine last_ (i:=12) (N:=some 33) (bv_ 15 8191) rfl rfl (one_of HT_.out (by kernel_rfl)) (by decide) (fun K hK=>?_)
    refine value_ (w1:=?_) (v:=?_) (by rfl) rfl ?_ ?_
    rotate_left 2
    ·go_simp
     constructor
     ·rfl
     rfl
    refine hK.out _ _ ?_
    clear hK K;refine nm_ (some 33) ?_
    refine last_ (i:=13) (N:=some 34) (bv_ 15 16383) rfl rfl (one_of HT_.out (by kernel_rfl)) (by decide) (fun K hK=>?_)
    refine Kd.R_append_step (Kd.int .u8) (w0:=w) w.heap.size (by rfl) (.tmp 21) (.tmp 33) 22 5 (.int .u8 0) 1 rfl Tryz.underlying22 info5 rfl (by decide) (by omega) u7 d2 d6 [.int .u8 d6] (fun _=>True) (fun _=>False) rfl rfl ?aP (fun _ hk=>hk.elim) ?aF ?aO ?aB ?aS ?aL ?_
    (case aP=>exact rfl);(case aB=>exact(bw_ HB).out);(case aF=>exact(fun _ _=>trivial));(case aO=>exact(ra_ HO_7.out));(case aS=>exact(below_size (bw_ HB).out))
    (case aL=>have:=LMc19.out;omega)
    intro l7 m4 ho hb hg hat
    rw[←g1.out] at ho
    have j9:=Aside0.mk (Kd.R_over' (ra_ HO_8.out) (Kd.R_typed (ra_ HO_7.out)) (by decide) hg)
    have l1:=Aside0.mk (hb)
    have l2:=Aside0.mk (ho)
    clear HO_8;clear HB;clear HO_7
    have HO_8:=j9
    have HB:=l1
    have g3:=l2
    clear j9 l1 l2;clear ho hb hg hat
    refine hK.out _ _ ?_
    clear hK K;refine nm_ (some 34) ?_;refine px_ HT_ 14 7 32767 ?_
    refine done_ (done_of HT_.out (by kernel_rfl)) ?_
    try go_wp2
    go_roundg k1
    case measure=>have:=j5.out;omega
    case rel=>exact⟨(g6),(wrap64 (a1+1)),en_,H',⟨by have:=j5.out;omega⟩,⟨by(with_reducible repeat(first|apply Kd.R_alloc|apply Kd.R_drewN|apply Kd.R_drew));exact g3.out⟩,⟨by(with_reducible repeat(first|apply Kd.R_alloc|apply Kd.R_drewN|apply Kd.R_drew));exact HO_8.out⟩,bw_ HB⟩
   rw[if_neg g4] at H
   exact absurd H (by simp)
  obtain rfl:=si_ H
  obtain⟨l8,l9,j1⟩:=Kd.R_slice HO_8.out
  subst j1
  have hcv25:=own_string (P:=Tryz.prog) Tryz.underlying22 Tryz.underlying5 Tryz.underlying9 (Kd.own_of_R HO_7.out)
  go_wp2
  go_ret;exact⟨es_,(bw_ HB).out⟩
/-! ### impl_StepsOfMatrix: function 17 -/
def impl_StepsOfMatrix.f (k:Nat) (a0 a1_0 a1_1 a1_2 a1_3:Int):Option (ByteArray×Int):=(impl_partCode.f k a0 a1_0 a1_1 a1_2 a1_3).bind fun t780=>(if t780=0 then((impl_triangular.f k a0 a1_0 a1_1 a1_2 a1_3).bind fun bt781=>(if bt781.2.2.2.2=true then((impl_moveBall.f k a0 a1_0 a1_1 a1_2 a1_3 0 0 0).bind fun bt787=>((impl_wayWord.f k a0 0 0 0 bt787.1 bt787.2.1 bt787.2.2.1).bind fun t792=>(some (t792,0)))) else(some ((⟨#[]⟩:ByteArray),3)))) else(some ((⟨#[]⟩:ByteArray),t780)))
theorem impl_StepsOfMatrix.calls {k:Nat} {a0 a3 a4 a5 a6:Int} (r1:ByteArray) {r2:Int} (w:World) (h:impl_StepsOfMatrix.f k a0 a3 a4 a5 a6=some (r1,r2)):
  Calls Tryz.prog 17 #[i6 a0,.agg #[i6 a3,i6 a4,i6 a5,i6 a6]] w fun e w'=>e= .returned (.tuple #[.string r1,i6 r2])∧Below w.heap.size w w':=by
 have hu28:=Tryz.underlying28
 have hu42:=Tryz.underlying42
 have HB:=Aside0.mk (Below.refl w.heap.size w)
 unfold impl_StepsOfMatrix.f at h;have H:=h;clear h;replace H:=oc_ H;obtain⟨d8,A3,H⟩:=H;replace H:=ie_ H
 rcases H with ⟨d0,d1,H⟩|⟨c4,d0,d1,H⟩
 ·replace H:=oc_ H
  obtain⟨⟨d2,d3,d4,d5,d9⟩,A5,H⟩:=H;replace H:=ib_ H
  rcases H with ⟨rfl,H⟩|⟨rfl,H⟩
  ·replace H:=oc_ H
   obtain⟨⟨b5,b6,b7,f0⟩,A7,H⟩:=H;replace H:=oc_ H;obtain⟨d6,A8,H⟩:=H
   simp only[Option.some.injEq,Prod.mk.injEq] at H
   obtain⟨rfl,rfl⟩:=H
   go_enter Tryz.func17,Tryz.ntmps17
   go_wp2_with (first|((refine gd_ 3 ?_);refine by_ 3 #[i6 a3,i6 a4,i6 a5,i6 a6] 28 HB ?_;intro b2 hg w9 a1 hb b3 HB_;replace HB:=HB_;clear hb hg;have hz10:=ch4_ a1)|((refine gc_ 32 ?_);refine ge_ 13 Tryz.func32 #[i6 a0,.agg #[i6 a3,i6 a4,i6 a5,i6 a6]] ?_;(with_reducible refine mo_ (impl_partCode.calls _ A3.out) ?_);intro f1 hb;replace a1:=bb_ a1 hb;replace HB:=bt_ HB hb;clear hb;have hz12:=ch4_ a1)|((refine gc_ 34 ?_);refine ge_ 20 Tryz.func34 #[i6 a0,.agg #[i6 a3,i6 a4,i6 a5,i6 a6]] ?_;(with_reducible refine mo_ (impl_triangular.calls _ A5.out) ?_);intro f2 hb;replace a1:=bb_ a1 hb;replace HB:=bt_ HB hb;clear hb)|((refine gd_ 7 ?_);refine by_ 7 #[i6 0,i6 0,i6 0,i6 0] 28 HB ?_;intro b4 hg f3 a8 hb b8 HB_;have a7:=bm_ a1 hg;have a2:=bn_ a1 hg;replace a1:=bb_ a1 hb;replace HB:=HB_;clear hb hg;have:=nn_ a2;have hz16:=ch4_ a8;have hz17:=ch4_ a1)|((refine gc_ 43 ?_);refine ge_ 29 Tryz.func43 #[i6 a0,.agg #[i6 a3,i6 a4,i6 a5,i6 a6],.agg #[i6 0,i6 0,i6 0]] ?_;(with_reducible refine mo_ (impl_moveBall.calls _ A7.out) ?_);intro f4 hb;replace a1:=fb_ a1 a7 hb;replace a8:=Aside0.mk (blk_below (g:=b4) (o:= .cells #[i6 d2,i6 d3,i6 d4,i6 d5] 28 (0,0)) (bp_ a8).out hb);replace HB:=bt_ HB hb;(try clear hb))|((refine gd_ 9 ?_);refine by_ 9 #[i6 0,i6 0,i6 0] 42 HB ?_;intro b9 hg f5 b1 hb d7 HB_;have a9:=bm_ a1 hg;have b0:=bn_ a1 hg;replace a1:=bb_ a1 hb;replace HB:=HB_;clear hb hg;have:=nn_ b0;have hz21:=ch3_ b1)|((refine gc_ 44 ?_);refine ge_ 35 Tryz.func44 #[i6 a0,.agg #[i6 0,i6 0,i6 0],.agg #[i6 b5,i6 b6,i6 b7]] ?_;(with_reducible refine mo_ (impl_wayWord.calls d6 _ A8.out) ?_);intro f6 hb;replace a1:=fb_ a1 a9 hb;replace b1:=Aside0.mk (blk_below (g:=b9) (o:= .cells #[i6 b5,i6 b6,i6 b7] 42 (0,0)) (bp_ b1).out hb);replace HB:=bt_ HB hb;(try clear hb)))
   go_ret2
   exact⟨es_,(bw_ HB).out⟩
  simp only[Option.some.injEq,Prod.mk.injEq] at H
  obtain⟨rfl,rfl⟩:=H
  go_enter Tryz.func17,Tryz.ntmps17
  go_wp2_with (first|((refine gd_ 3 ?_);refine by_ 3 #[i6 a3,i6 a4,i6 a5,i6 a6] 28 HB ?_;intro b2 hg f7 a1 hb b3 HB_;replace HB:=HB_;clear hb hg;have hz24:=ch4_ a1)|((refine gc_ 32 ?_);refine ge_ 13 Tryz.func32 #[i6 a0,.agg #[i6 a3,i6 a4,i6 a5,i6 a6]] ?_;(with_reducible refine mo_ (impl_partCode.calls _ A3.out) ?_);intro f8 hb;replace a1:=bb_ a1 hb;replace HB:=bt_ HB hb;clear hb;have hz26:=ch4_ a1)|((refine gc_ 34 ?_);refine ge_ 20 Tryz.func34 #[i6 a0,.agg #[i6 a3,i6 a4,i6 a5,i6 a6]] ?_;(with_reducible refine mo_ (impl_triangular.calls _ A5.out) ?_);intro f9 hb;replace a1:=bb_ a1 hb;replace HB:=bt_ HB hb;clear hb)|((refine gd_ 7 ?_);refine by_ 7 #[i6 0,i6 0,i6 0,i6 0] 28 HB ?_;intro b4 hg g0 a8 hb b8 HB_;have a7:=bm_ a1 hg;have a2:=bn_ a1 hg;replace a1:=bb_ a1 hb;replace HB:=HB_;clear hb hg;have:=nn_ a2;have hz30:=ch4_ a8))
  go_ret2
  exact⟨es_,(bw_ HB).out⟩
 simp only[Option.some.injEq,Prod.mk.injEq] at H
 obtain⟨rfl,rfl⟩:=H
 go_enter Tryz.func17,Tryz.ntmps17
 go_wp2_with (first|((refine gd_ 3 ?_);refine by_ 3 #[i6 a3,i6 a4,i6 a5,i6 a6] 28 HB ?_;intro b2 hg g1 a1 hb b3 HB_;replace HB:=HB_;clear hb hg;have hz32:=ch4_ a1)|((refine gc_ 32 ?_);refine ge_ 13 Tryz.func32 #[i6 a0,.agg #[i6 a3,i6 a4,i6 a5,i6 a6]] ?_;(with_reducible refine mo_ (impl_partCode.calls _ A3.out) ?_);intro g2 hb;replace a1:=bb_ a1 hb;replace HB:=bt_ HB hb;clear hb))
 go_ret2
 exact⟨es_,(bw_ HB).out⟩
/-! ### spec_l02Valuation: function 99 -/
def spec_l02Valuation.f (k:Nat) (a0 a1_0 a1_1 a1_2 a2_0 a2_1 a2_2:Int):Option (Int×Bool):=(spec_l01Power.f k a0 (wrap64 ((mx a1_2 a2_2) - a1_2))).bind fun t795=>((spec_l01Power.f k a0 (wrap64 ((mx a1_2 a2_2) - a2_2))).bind fun t796=>(if (wrap64 ((wrap64 (a1_1*t795)) - (wrap64 (a2_1*t796))))=0 then(some (0,false)) else((spec_l01Val.f k a0 (wrap64 ((wrap64 (a1_1*t795)) - (wrap64 (a2_1*t796))))).bind fun t797=>(some (wrap64 (t797 - (mx a1_2 a2_2)),true)))))
theorem spec_l02Valuation.calls {k:Nat} {a0 a7 a8 a5 a9 b0 a6 r1:Int} {r2:Bool} (w:World) (h:spec_l02Valuation.f k a0 a7 a8 a5 a9 b0 a6=some (r1,r2)):
  Calls Tryz.prog 99 #[i6 a0,.agg #[i6 a7,i6 a8,i6 a5],.agg #[i6 a9,i6 b0,i6 a6]] w fun e w'=>e= .returned (.tuple #[i6 r1,.bool r2])∧Below w.heap.size w w':=by
 have hu42:=Tryz.underlying42
 have HB:=Aside0.mk (Below.refl w.heap.size w)
 unfold spec_l02Valuation.f at h;have H:=h;clear h
 obtain⟨d2,b5⟩:∃j_:Int,(mx a5 a6)=j_:=⟨_,rfl⟩
 simp only[b5] at H
 have b9: (if a5<a6 then a6 else a5)=d2:=b5
 replace H:=oc_ H;obtain⟨d3,A5,H⟩:=H;replace H:=oc_ H;obtain⟨d4,A6,H⟩:=H;replace H:=ie_ H
 rcases H with ⟨b6,b7,H⟩|⟨c7,b6,b7,H⟩
 ·simp only[Option.some.injEq,Prod.mk.injEq] at H
  obtain⟨rfl,rfl⟩:=H
  go_enter Tryz.func99,Tryz.ntmps99
  go_wp2_with (first|((refine gd_ 4 ?_);refine by_ 4 #[i6 a7,i6 a8,i6 a5] 42 HB ?_;intro b1 hg w8 a1 hb b2 HB_;replace HB:=HB_;clear hb hg)|((refine gd_ 5 ?_);refine by_ 5 #[i6 a9,i6 b0,i6 a6] 42 HB ?_;intro b3 hg w9 a4 hb b4 HB_;have a2:=bm_ a1 hg;have a3:=bn_ a1 hg;replace a1:=bb_ a1 hb;replace HB:=HB_;clear hb hg;have:=nn_ a2;have hz11:=ch3_ a1;have hz12:=ch3_ a4)|(go_at_call 66;(with_reducible refine(spec_l01Power.calls _ A5.out).mono ?_);rintro e w' ⟨rfl,⟨nd,rfl⟩⟩;(try exact dd_))|(go_at_call 66;(with_reducible refine(spec_l01Power.calls _ A6.out).mono ?_);rintro e w' ⟨rfl,⟨nd,rfl⟩⟩;(try exact dd_)))
  repeat(go_quiet (first|((refine gd_ 4 ?_);refine by_ 4 #[i6 a7,i6 a8,i6 a5] 42 HB ?_;intro b1 hg w8 a1 hb b2 HB_;replace HB:=HB_;clear hb hg)|((refine gd_ 5 ?_);refine by_ 5 #[i6 a9,i6 b0,i6 a6] 42 HB ?_;intro b3 hg w9 a4 hb b4 HB_;have a2:=bm_ a1 hg;have a3:=bn_ a1 hg;replace a1:=bb_ a1 hb;replace HB:=HB_;clear hb hg;have:=nn_ a2;have hz11:=ch3_ a1;have hz12:=ch3_ a4)|(go_at_call 66;(with_reducible refine(spec_l01Power.calls _ A5.out).mono ?_);rintro e w' ⟨rfl,⟨nd,rfl⟩⟩;(try exact dd_))|(go_at_call 66;(with_reducible refine(spec_l01Power.calls _ A6.out).mono ?_);rintro e w' ⟨rfl,⟨nd,rfl⟩⟩;(try exact dd_)));try go_wp2_with (first|((refine gd_ 4 ?_);refine by_ 4 #[i6 a7,i6 a8,i6 a5] 42 HB ?_;intro b1 hg w8 a1 hb b2 HB_;replace HB:=HB_;clear hb hg)|((refine gd_ 5 ?_);refine by_ 5 #[i6 a9,i6 b0,i6 a6] 42 HB ?_;intro b3 hg w9 a4 hb b4 HB_;have a2:=bm_ a1 hg;have a3:=bn_ a1 hg;replace a1:=bb_ a1 hb;replace HB:=HB_;clear hb hg;have:=nn_ a2;have hz11:=ch3_ a1;have hz12:=ch3_ a4)|(go_at_call 66;(with_reducible refine(spec_l01Power.calls _ A5.out).mono ?_);rintro e w' ⟨rfl,⟨nd,rfl⟩⟩;(try exact dd_))|(go_at_call 66;(with_reducible refine(spec_l01Power.calls _ A6.out).mono ?_);rintro e w' ⟨rfl,⟨nd,rfl⟩⟩;(try exact dd_))))
  go_ret2
  exact⟨by first|rfl|(simp[errW_none,errW_some]<;>rfl)|(simp only[←b5];first|rfl|(simp[errW_none,errW_some]<;>rfl))|(simp[*,errW_none,errW_some]<;>rfl),(bw_ HB).out⟩
 replace H:=oc_ H;obtain⟨d5,b8,H⟩:=H
 simp only[Option.some.injEq,Prod.mk.injEq] at H
 obtain⟨rfl,rfl⟩:=H
 go_enter Tryz.func99,Tryz.ntmps99
 go_wp2_with (first|((refine gd_ 4 ?_);refine by_ 4 #[i6 a7,i6 a8,i6 a5] 42 HB ?_;intro b1 hg d0 a1 hb b2 HB_;replace HB:=HB_;clear hb hg)|((refine gd_ 5 ?_);refine by_ 5 #[i6 a9,i6 b0,i6 a6] 42 HB ?_;intro b3 hg d1 a4 hb b4 HB_;have a2:=bm_ a1 hg;have a3:=bn_ a1 hg;replace a1:=bb_ a1 hb;replace HB:=HB_;clear hb hg;have:=nn_ a2;have hz17:=ch3_ a1;have hz18:=ch3_ a4)|(go_at_call 66;(with_reducible refine(spec_l01Power.calls _ A5.out).mono ?_);rintro e w' ⟨rfl,⟨nd,rfl⟩⟩;(try exact dd_))|(go_at_call 66;(with_reducible refine(spec_l01Power.calls _ A6.out).mono ?_);rintro e w' ⟨rfl,⟨nd,rfl⟩⟩;(try exact dd_))|(go_at_call 67;(with_reducible refine(spec_l01Val.calls _ b8.out).mono ?_);rintro e w' ⟨rfl,⟨nd,rfl⟩⟩;(try exact dd_)))
 repeat(go_quiet (first|((refine gd_ 4 ?_);refine by_ 4 #[i6 a7,i6 a8,i6 a5] 42 HB ?_;intro b1 hg d0 a1 hb b2 HB_;replace HB:=HB_;clear hb hg)|((refine gd_ 5 ?_);refine by_ 5 #[i6 a9,i6 b0,i6 a6] 42 HB ?_;intro b3 hg d1 a4 hb b4 HB_;have a2:=bm_ a1 hg;have a3:=bn_ a1 hg;replace a1:=bb_ a1 hb;replace HB:=HB_;clear hb hg;have:=nn_ a2;have hz17:=ch3_ a1;have hz18:=ch3_ a4)|(go_at_call 66;(with_reducible refine(spec_l01Power.calls _ A5.out).mono ?_);rintro e w' ⟨rfl,⟨nd,rfl⟩⟩;(try exact dd_))|(go_at_call 66;(with_reducible refine(spec_l01Power.calls _ A6.out).mono ?_);rintro e w' ⟨rfl,⟨nd,rfl⟩⟩;(try exact dd_))|(go_at_call 67;(with_reducible refine(spec_l01Val.calls _ b8.out).mono ?_);rintro e w' ⟨rfl,⟨nd,rfl⟩⟩;(try exact dd_)));try go_wp2_with (first|((refine gd_ 4 ?_);refine by_ 4 #[i6 a7,i6 a8,i6 a5] 42 HB ?_;intro b1 hg d0 a1 hb b2 HB_;replace HB:=HB_;clear hb hg)|((refine gd_ 5 ?_);refine by_ 5 #[i6 a9,i6 b0,i6 a6] 42 HB ?_;intro b3 hg d1 a4 hb b4 HB_;have a2:=bm_ a1 hg;have a3:=bn_ a1 hg;replace a1:=bb_ a1 hb;replace HB:=HB_;clear hb hg;have:=nn_ a2;have hz17:=ch3_ a1;have hz18:=ch3_ a4)|(go_at_call 66;(with_reducible refine(spec_l01Power.calls _ A5.out).mono ?_);rintro e w' ⟨rfl,⟨nd,rfl⟩⟩;(try exact dd_))|(go_at_call 66;(with_reducible refine(spec_l01Power.calls _ A6.out).mono ?_);rintro e w' ⟨rfl,⟨nd,rfl⟩⟩;(try exact dd_))|(go_at_call 67;(with_reducible refine(spec_l01Val.calls _ b8.out).mono ?_);rintro e w' ⟨rfl,⟨nd,rfl⟩⟩;(try exact dd_))))
 go_ret2
 exact⟨by first|rfl|(simp[errW_none,errW_some]<;>rfl)|(simp only[←b5];first|rfl|(simp[errW_none,errW_some]<;>rfl))|(simp[*,errW_none,errW_some]<;>rfl),(bw_ HB).out⟩
/-! ### spec_l02Join: function 74 -/
def spec_l02Join.f (k:Nat) (a0 a1_0 a1_1 a1_2 a2_0 a2_1 a2_2:Int):Option (Int):=(spec_l02Valuation.f k a0 a1_0 a1_1 a1_2 a2_0 a2_1 a2_2).bind fun bt800=>(if bt800.2=true then(some (mn (mn a1_0 a2_0) bt800.1)) else(some (mn a1_0 a2_0)))
theorem spec_l02Join.calls {k:Nat} {a0 a4 a6 a7 a5 a8 a9 r:Int} (w:World) (h:spec_l02Join.f k a0 a4 a6 a7 a5 a8 a9=some r):
  Calls Tryz.prog 74 #[i6 a0,.agg #[i6 a4,i6 a6,i6 a7],.agg #[i6 a5,i6 a8,i6 a9]] w fun e w'=>e= .returned (i6 r)∧Below w.heap.size w w':=by
 have hu42:=Tryz.underlying42
 have HB:=Aside0.mk (Below.refl w.heap.size w)
 unfold spec_l02Join.f at h;have H:=h;clear h
 obtain⟨b8,b1⟩:∃j_:Int,(mn a4 a5)=j_:=⟨_,rfl⟩
 simp only[b1] at H
 have b9: (if a5<a4 then a5 else a4)=b8:=b1
 replace H:=oc_ H;obtain⟨⟨b3,d1⟩,A5,H⟩:=H;replace H:=ib_ H
 rcases H with ⟨rfl,H⟩|⟨rfl,H⟩
 ·obtain⟨d2,b2⟩:∃j_:Int,(mn (b8) b3)=j_:=⟨_,rfl⟩
  simp only[b2] at H
  (try rw[b2] at A5)
  have d0: (if b3<(b8) then b3 else(b8))=d2:=b2
  obtain rfl:=si_ H
  go_enter Tryz.func74,Tryz.ntmps74
  go_wp2_with (first|((refine gd_ 4 ?_);refine by_ 4 #[i6 a4,i6 a6,i6 a7] 42 HB ?_;intro b4 hg w8 a1 hb b5 HB_;replace HB:=HB_;clear hb hg)|((refine gd_ 5 ?_);refine by_ 5 #[i6 a5,i6 a8,i6 a9] 42 HB ?_;intro b6 hg w9 a3 hb b7 HB_;have a2:=bm_ a1 hg;have b0:=bn_ a1 hg;replace a1:=bb_ a1 hb;replace HB:=HB_;clear hb hg;have:=nn_ a2;have hz11:=ch3_ a1;have hz12:=ch3_ a3)|((refine gc_ 99 ?_);refine ge_ 19 Tryz.func99 #[i6 a0,.agg #[i6 a4,i6 a6,i6 a7],.agg #[i6 a5,i6 a8,i6 a9]] ?_;(with_reducible refine mo_ (spec_l02Valuation.calls _ A5.out) ?_);intro d3 hb;replace a1:=bb_ a1 hb;replace a3:=bb_ a3 hb;replace HB:=bt_ HB hb;clear hb))
  go_ret
  exact⟨by first|rfl|(simp[errW_none,errW_some]<;>rfl)|(simp only[←b1,←b2];first|rfl|(simp[errW_none,errW_some]<;>rfl))|(simp[*,errW_none,errW_some]<;>rfl),(bw_ HB).out⟩
 obtain rfl:=si_ H
 go_enter Tryz.func74,Tryz.ntmps74
 go_wp2_with (first|((refine gd_ 4 ?_);refine by_ 4 #[i6 a4,i6 a6,i6 a7] 42 HB ?_;intro b4 hg d4 a1 hb b5 HB_;replace HB:=HB_;clear hb hg)|((refine gd_ 5 ?_);refine by_ 5 #[i6 a5,i6 a8,i6 a9] 42 HB ?_;intro b6 hg d5 a3 hb b7 HB_;have a2:=bm_ a1 hg;have b0:=bn_ a1 hg;replace a1:=bb_ a1 hb;replace HB:=HB_;clear hb hg;have:=nn_ a2;have hz17:=ch3_ a1;have hz18:=ch3_ a3)|((refine gc_ 99 ?_);refine ge_ 19 Tryz.func99 #[i6 a0,.agg #[i6 a4,i6 a6,i6 a7],.agg #[i6 a5,i6 a8,i6 a9]] ?_;(with_reducible refine mo_ (spec_l02Valuation.calls _ A5.out) ?_);intro d6 hb;replace a1:=bb_ a1 hb;replace a3:=bb_ a3 hb;replace HB:=bt_ HB hb;clear hb))
 go_ret
 exact⟨by first|rfl|(simp[errW_none,errW_some]<;>rfl)|(simp only[←b1];first|rfl|(simp[errW_none,errW_some]<;>rfl))|(simp[*,errW_none,errW_some]<;>rfl),(bw_ HB).out⟩
end Go.Proofs.YtblmdppbbdbbjabGreat.QP
