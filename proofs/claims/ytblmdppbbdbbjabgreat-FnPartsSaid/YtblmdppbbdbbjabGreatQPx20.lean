import Derived.Test.YtblmdppbbdbbjabGreatQPx8
import Derived.Test.YtblmdppbbdbbjabGreatQPx15
namespace Go.Proofs.YtblmdppbbdbbjabGreat.QP
set_option maxHeartbeats 8000000
set_option maxRecDepth 100000
open Go.RowKit Go.Proofs.YtblmdppbbdbbjabGreatW.PrintWords Go.Proofs.YtblmdppbbdbbjabGreatW.PrintLast Go.Proofs.YtblmdppbbdbbjabGreatW.PrintMore
attribute [local go_sem] isSome_setCell max2_int min2_int max_two min_two max_three min_three max_four min_four
set_option linter.unusedVariables false
set_option linter.unusedSimpArgs false
/-! ### spec_l01Spoil: function 60 -/
def spec_l01Spoil.f (k:Nat) (s0_0:List Int) (s0_1 s0_2:Int):Option (Int×Int×Int×Int×Int×Int):=(spec_l01DrawPrime.f s0_0 s0_1 s0_2).bind fun bt190=>((spec_l01Draw.f k s0_0 bt190.2.1 bt190.2.2 bt190.1).bind fun bt193=>((spec_l01Bad.f s0_0 bt193.2.2.2.1 bt193.2.2.2.2 bt193.1 bt193.2.1 bt193.2.2.1).bind fun bt198=>((spec_l01Next.f s0_0 bt198.2.2.2.1 bt198.2.2.2.2 40).bind fun bt204=>(if bt204.1=0 then((spec_l01Pick.f s0_0 bt204.2.1 bt204.2.2 (([0,1,4,11,(-3)]:List Int))).bind fun bt210=>(some (bt210.1,bt198.1,bt198.2.1,bt198.2.2.1,bt210.2.1,bt210.2.2))) else(some (bt190.1,bt198.1,bt198.2.1,bt198.2.2.1,bt204.2.1,bt204.2.2))))))
theorem spec_l01Spoil.calls {k:Nat} (g:Nat) {b9:List Int} {d3 d4 r1 r2 r3 r4 r5 r6:Int} (w0 w:World) (hI:IsS100 w0 w g b9 d3 d4) (hB:Below w0.heap.size w0 w) (h:spec_l01Spoil.f k b9 d3 d4=some (r1,r2,r3,r4,r5,r6)):
  Calls Tryz.prog 60 #[.pointer (some ⟨g,0,none⟩)] w fun e w'=>e= .returned (.tuple #[i6 r1,.agg #[i6 r2,i6 r3,i6 r4]])∧IsS100 w0 w' g b9 r5 r6∧Below w0.heap.size w0 w'∧KeepBut w w' g none:=by
 have hu42:=Tryz.underlying42
 have HI0:=Aside0.mk hI
 have HK:=Aside0.mk (KeepBut.refl w g none)
 have HL:=Aside0.mk hB.size
 clear hI
 have HW0:=Aside0.mk hB.size
 have HB:=Aside0.mk hB;clear hB;unfold spec_l01Spoil.f at h;have H:=h;clear h;replace H:=oc_ H;obtain⟨⟨d5,i7,i8⟩,A2,H⟩:=H;replace H:=oc_ H;obtain⟨⟨d6,d7,d8,i9,j0⟩,A3,H⟩:=H;replace H:=oc_ H;obtain⟨⟨b2,b3,b4,j1,j2⟩,A4,H⟩:=H;replace H:=oc_ H;obtain⟨⟨j3,f8,f9⟩,A5,H⟩:=H;replace H:=ie_ H
 rcases H with ⟨g0,g1,H⟩|⟨c6,g0,g1,H⟩
 ·obtain⟨g2,b1⟩:∃y_:List Int,y_=(([0,1,4,11,(-3)]:List Int)):=⟨_,rfl⟩
  first|rw[←b1,Option.bind_some] at H|rw[←b1] at H|(dsimp only at H;rw[←b1] at H)
  have d2:=Aside0.mk b1;clear b1;replace H:=oc_ H;obtain⟨⟨j4,j5,j6⟩,A7,H⟩:=H
  simp only[Option.some.injEq,Prod.mk.injEq] at H
  obtain⟨rfl,rfl,rfl,rfl,rfl,rfl⟩:=H
  go_enter Tryz.func60,Tryz.ntmps60
  try go_wp2_with (first|((refine gd_ 3 ?_);refine bx_ 3 #[i6 0,i6 0,i6 0] 42 ?_;intro b5 hg w8 a2 hb;have b6:=xg_ HK hg;have d9:=xh_ HW0 b6;have d0:=IsS100.xl HI0 hg;have a4:=IsS100.xm HI0 hg;replace HK:=xu_ HK hb;replace HI0:=IsS100.xs HI0 hb;replace HB:=bt_ HB hb;clear hb hg)|((refine gc_ 87 ?_);refine ge_ 7 Tryz.func87 #[.pointer (some ⟨g,0,none⟩)] ?_;(with_reducible refine mo_ (spec_l01DrawPrime.calls g w0 _ ?a5 ?a6 A2.out) ?_);(case a5=>exact(xi100_ HI0).out);(case a6=>exact(bw_ HB).out);rintro w9 ⟨hi,hb,hk⟩;replace a2:=xb_ hk a2 a4;replace HK:=xt_ HK hk;replace HB:=Aside0.mk (hb);replace HI0:=Aside0.mk (hi);clear hb hk hi)|((refine gc_ 89 ?_);refine ge_ 11 Tryz.func89 #[.pointer (some ⟨g,0,none⟩),i6 d5] ?_;(with_reducible refine mo_ (spec_l01Draw.calls g w0 _ ?a5 ?a6 A3.out) ?_);(case a5=>exact(xi100_ HI0).out);(case a6=>exact(bw_ HB).out);rintro l6 ⟨hi,hb,hk⟩;replace a2:=xb_ hk a2 a4;replace HK:=xt_ HK hk;replace HB:=Aside0.mk (hb);replace HI0:=Aside0.mk (hi);clear hb hk hi)|((refine gc_ 88 ?_);refine ge_ 12 Tryz.func88 #[.pointer (some ⟨g,0,none⟩),.agg #[i6 d6,i6 d7,i6 d8]] ?_;(with_reducible refine mo_ (spec_l01Bad.calls g w0 _ ?a5 ?a6 A4.out) ?_);(case a5=>exact(xi100_ HI0).out);(case a6=>exact(bw_ HB).out);rintro l7 ⟨hi,hb,hk⟩;replace a2:=xb_ hk a2 a4;replace HK:=xt_ HK hk;replace HB:=Aside0.mk (hb);replace HI0:=Aside0.mk (hi);clear hb hk hi)|((refine gd_ 5 ?_);refine bx_ 5 #[i6 0,i6 0,i6 0] 42 ?_;intro a9 hg l8 a3 hb;have b7:=xg_ HK hg;have f0:=xh_ HW0 b7;have a7:=bm_ a2 hg;have a1:=bn_ a2 hg;have d1:=IsS100.xl HI0 hg;have a8:=IsS100.xm HI0 hg;replace a2:=bb_ a2 hb;replace HK:=xu_ HK hb;replace HI0:=IsS100.xs HI0 hb;replace HB:=bt_ HB hb;clear hb hg;have:=nn_ a1;have:=nn_ a8;have hz15:=ch3_ a3)|((refine gc_ 61 ?_);refine ge_ 14 Tryz.func61 #[.pointer (some ⟨g,0,none⟩),i6 40] ?_;(with_reducible refine mo_ (spec_l01Next.calls g w0 _ ?a5 ?a6 A5.out) ?_);(case a5=>exact(xi100_ HI0).out);(case a6=>exact(bw_ HB).out);rintro l9 ⟨hi,hb,hk⟩;replace a2:=xf_ hk a2 a7 a4;replace a3:=Aside0.mk (KeepBut.blk hk (g':=a9) (o:= .cells #[i6 b2,i6 b3,i6 b4] 42 (0,0)) (bp_ a3).out a8.out (by simp));replace HK:=xt_ HK hk;replace HB:=Aside0.mk (hb);replace HI0:=Aside0.mk (hi);(try clear hb);(try clear hk);(try clear hi))|((refine gd_ 17 ?_);refine Kd.R_lit (Kd.int .i64) _ 2 ?hg (N:=17) ?hd (xs:=([0,1,4,11,(-3)]:List Int)) (inner:=[i6 0,i6 1,i6 4,i6 11,i6 (-3)]) (ok:=fun _=>True) (okp:=fun _=>True) ?hr ?hp (fun _ hk=>hk) trivial (Below.refl _ _) (Nat.le_refl _) (by simp) ?_;(case hd=>rfl);(case hg=>rfl);(case hr=>first|(go_simp;done)|(go_simp;rfl));(case hp=>exact(Reps.one (show Kd.M (Kd.int .i64) _ _ _ 0 [i6 0] from rfl) (Reps.one (show Kd.M (Kd.int .i64) _ _ _ 1 [i6 1] from rfl) (Reps.one (show Kd.M (Kd.int .i64) _ _ _ 4 [i6 4] from rfl) (Reps.one (show Kd.M (Kd.int .i64) _ _ _ 11 [i6 11] from rfl) (Reps.one (show Kd.M (Kd.int .i64) _ _ _ (-3) [i6 (-3)] from rfl) (Reps.none _ _)))))));intro j7 m1 b8 hb hg_ hnew_;clear hg_ hnew_;(first|rw[←d2.out] at b8|(simp only[Int.reduceToNat] at b8;rw[←d2.out] at b8));have b0:=Aside0.mk (Kd.R_lower b8 (keep_size (w:=w) (g:=g) (row:=none) (xk_ HK).out));replace a2:=bb_ a2 hb;replace a3:=bb_ a3 hb;replace HK:=xu_ HK hb;replace HB:=bt_ HB hb;replace HI0:=IsS100.xs HI0 hb;clear hb b8;obtain⟨g3,g4,g5⟩:=Kd.R_slice b0.out;subst g5)|((refine gc_ 90 ?_);refine ge_ 18 Tryz.func90 #[.pointer (some ⟨g,0,none⟩),.slice g3 g2.length g4] ?_;(with_reducible refine mo_ (spec_l01Pick.calls g _ _ w0 _ ?a5 ?a6 ?f1 ?f2 ?f3 A7.out) ?_);(case a5=>exact(xi100_ HI0).out);(case a6=>exact(bw_ HB).out);(case f1=>exact ca_ (Kd.R_reads' b0.out).2.2);(case f2=>exact(Kd.R_reads' b0.out).2.1);(case f3=>exact far_slice (IsS100.own_ne HI0.out b0.out (by decide)));rintro j8 ⟨hi,hb,hk⟩;replace a2:=xb_ hk a2 a4;replace a3:=xb_ hk a3 a8;replace b0:=Aside0.mk (Kd.R_mono (Kd.R_keep (IsS100.apart (show IsS100 w0 _ g b9 f8 f9 from (xi100_ HI0).out) (ra_ b0.out) (by decide)) hk (fun _ h=>h.2)) (fun _ h=>h.1));replace HK:=xt_ HK hk;replace HB:=Aside0.mk (hb);replace HI0:=Aside0.mk (hi);(try clear hb);(try clear hk);(try clear hi)))
  replace b0:=Aside0.mk (Kd.R_drew b0.out)
  replace a2:=bd_ a2;replace a3:=bd_ a3
  replace HI0:=Aside0.mk (IsS100.drew HI0.out)
  replace HK:=Aside0.mk (keep_drew HK.out)
  replace HB:=be_ HB
  refine start_ (n:=4) (S:=fun w'=>c_ w' a9 0 (i6 b2)∧c_ w' a9 1 (i6 b3)∧c_ w' a9 2 (i6 b4)) (ds:=[]) (bv_ 4 0) (by kernel_rfl) rfl rfl ⟨cz_ a3 0,cz_ a3 1,cz_ a3 2⟩ (fun hHeld=>?_)
  generalize j8.drew=m2 at b0 a2 a3 HI0 HK HB hHeld⊢
  refine pure_ (i:=0) (N:=some 19) (v:=?_) (a':=?_) (bv_ 4 1) rfl rfl (by kernel_rfl) (fun _ _ _ h=>h) (Or.inl ⟨by rfl,?_⟩) ?_ ?_
  rotate_left
  ·intro w'
   go_simp
   with_reducible rfl
  rotate_left
  ·simp only[Act.put,lstS,lstZ,lstC,i64_w,i32_w]
   rfl
  refine pure_ (i:=2) (N:=some 2) (v:=?_) (a':=?_) (bv_ 4 5) rfl rfl (by kernel_rfl) (fun _ _ _ h=>h) (Or.inl ⟨by rfl,?_⟩) ?_ ?_
  rotate_left
  ·intro w'
   go_simp
   with_reducible rfl
  rotate_left
  ·simp only[Act.put,lstS,lstZ,lstC,i64_w,i32_w]
   rfl
  refine take_ (i:=1) (N:=some 20) (v:=?_) (a':=?_) (bv_ 4 7) rfl rfl (by kernel_rfl) (fun _ _ _ h=>h) (Or.inl ⟨by rfl,?_⟩) hHeld ?_ ?_
  rotate_left
  ·rintro w' ⟨s0,s1,s2⟩
   go_simp
   with_reducible rfl
  rotate_left
  ·simp only[Act.put,lstS,lstZ,lstC,i64_w,i32_w]
   rfl
  refine one_ (i:=3) (N:=none) (bv_ 4 15) rfl rfl (by kernel_rfl) (by decide) (fun K hK=>?_)
  have j9:=cz_ a2 0;have g6:=blk_frozen a2.out 0;have f4:=a1.out;have f5:=a7.out;have l0:=cz_ a2 1;have g7:=blk_frozen a2.out 1;have l1:=cz_ a2 2;have g8:=blk_frozen a2.out 2
  refine skip_ (w1:=?_) (by rfl) rfl ?_ ?_
  rotate_left
  ·go_simp
   rfl
  refine hK.out _ _ ⟨(cg_ a1 ((cg_ a1 ((cg_ a1 (hHeld.1)))))),(cg_ a1 ((cg_ a1 ((cg_ a1 (hHeld.2.1)))))),(cg_ a1 ((cg_ a1 ((cg_ a1 (hHeld.2.2))))))⟩ (fun hHeld=>?_)
  clear hK K
  refine done_ (by kernel_rfl) ?_
  try go_wp2
  refine bodyPost_ret (results_tc rfl _ _ b5 42 #[i6 b2,i6 b3,i6 b4] (0,0) _ rfl (bp_ a2).out Tryz.underlying42 rfl (by kernel_rfl)) rfl ?_
  exact⟨es_,(xi100_ HI0).out,(bw_ HB).out,(xk_ HK).out⟩
 simp only[Option.some.injEq,Prod.mk.injEq] at H
 obtain⟨rfl,rfl,rfl,rfl,rfl,rfl⟩:=H
 go_enter Tryz.func60,Tryz.ntmps60
 try go_wp2_with (first|((refine gd_ 3 ?_);refine bx_ 3 #[i6 0,i6 0,i6 0] 42 ?_;intro b5 hg m3 a2 hb;have b6:=xg_ HK hg;have d9:=xh_ HW0 b6;have d0:=IsS100.xl HI0 hg;have a4:=IsS100.xm HI0 hg;replace HK:=xu_ HK hb;replace HI0:=IsS100.xs HI0 hb;replace HB:=bt_ HB hb;clear hb hg)|((refine gc_ 87 ?_);refine ge_ 7 Tryz.func87 #[.pointer (some ⟨g,0,none⟩)] ?_;(with_reducible refine mo_ (spec_l01DrawPrime.calls g w0 _ ?a5 ?a6 A2.out) ?_);(case a5=>exact(xi100_ HI0).out);(case a6=>exact(bw_ HB).out);rintro m4 ⟨hi,hb,hk⟩;replace a2:=xb_ hk a2 a4;replace HK:=xt_ HK hk;replace HB:=Aside0.mk (hb);replace HI0:=Aside0.mk (hi);clear hb hk hi)|((refine gc_ 89 ?_);refine ge_ 11 Tryz.func89 #[.pointer (some ⟨g,0,none⟩),i6 d5] ?_;(with_reducible refine mo_ (spec_l01Draw.calls g w0 _ ?a5 ?a6 A3.out) ?_);(case a5=>exact(xi100_ HI0).out);(case a6=>exact(bw_ HB).out);rintro m5 ⟨hi,hb,hk⟩;replace a2:=xb_ hk a2 a4;replace HK:=xt_ HK hk;replace HB:=Aside0.mk (hb);replace HI0:=Aside0.mk (hi);clear hb hk hi)|((refine gc_ 88 ?_);refine ge_ 12 Tryz.func88 #[.pointer (some ⟨g,0,none⟩),.agg #[i6 d6,i6 d7,i6 d8]] ?_;(with_reducible refine mo_ (spec_l01Bad.calls g w0 _ ?a5 ?a6 A4.out) ?_);(case a5=>exact(xi100_ HI0).out);(case a6=>exact(bw_ HB).out);rintro m6 ⟨hi,hb,hk⟩;replace a2:=xb_ hk a2 a4;replace HK:=xt_ HK hk;replace HB:=Aside0.mk (hb);replace HI0:=Aside0.mk (hi);clear hb hk hi)|((refine gd_ 5 ?_);refine bx_ 5 #[i6 0,i6 0,i6 0] 42 ?_;intro a9 hg m7 a3 hb;have b7:=xg_ HK hg;have f0:=xh_ HW0 b7;have a7:=bm_ a2 hg;have a1:=bn_ a2 hg;have d1:=IsS100.xl HI0 hg;have a8:=IsS100.xm HI0 hg;replace a2:=bb_ a2 hb;replace HK:=xu_ HK hb;replace HI0:=IsS100.xs HI0 hb;replace HB:=bt_ HB hb;clear hb hg;have:=nn_ a1;have:=nn_ a8;have hz32:=ch3_ a3)|((refine gc_ 61 ?_);refine ge_ 14 Tryz.func61 #[.pointer (some ⟨g,0,none⟩),i6 40] ?_;(with_reducible refine mo_ (spec_l01Next.calls g w0 _ ?a5 ?a6 A5.out) ?_);(case a5=>exact(xi100_ HI0).out);(case a6=>exact(bw_ HB).out);rintro l2 ⟨hi,hb,hk⟩;replace a2:=xf_ hk a2 a7 a4;replace a3:=Aside0.mk (KeepBut.blk hk (g':=a9) (o:= .cells #[i6 b2,i6 b3,i6 b4] 42 (0,0)) (bp_ a3).out a8.out (by simp));replace HK:=xt_ HK hk;replace HB:=Aside0.mk (hb);replace HI0:=Aside0.mk (hi);(try clear hb);(try clear hk);(try clear hi)))
 replace a2:=bd_ a2;replace a3:=bd_ a3
 replace HI0:=Aside0.mk (IsS100.drew HI0.out)
 replace HK:=Aside0.mk (keep_drew HK.out)
 replace HB:=be_ HB
 refine start_ (n:=4) (S:=fun w'=>c_ w' a9 0 (i6 b2)∧c_ w' a9 1 (i6 b3)∧c_ w' a9 2 (i6 b4)) (ds:=[]) (bv_ 4 0) (by kernel_rfl) rfl rfl ⟨cz_ a3 0,cz_ a3 1,cz_ a3 2⟩ (fun hHeld=>?_)
 generalize l2.drew=m8 at a2 a3 HI0 HK HB hHeld⊢
 refine pure_ (i:=0) (N:=some 19) (v:=?_) (a':=?_) (bv_ 4 1) rfl rfl (by kernel_rfl) (fun _ _ _ h=>h) (Or.inl ⟨by rfl,?_⟩) ?_ ?_
 rotate_left
 ·intro w'
  go_simp
  with_reducible rfl
 rotate_left
 ·simp only[Act.put,lstS,lstZ,lstC,i64_w,i32_w]
  rfl
 refine pure_ (i:=2) (N:=some 2) (v:=?_) (a':=?_) (bv_ 4 5) rfl rfl (by kernel_rfl) (fun _ _ _ h=>h) (Or.inl ⟨by rfl,?_⟩) ?_ ?_
 rotate_left
 ·intro w'
  go_simp
  with_reducible rfl
 rotate_left
 ·simp only[Act.put,lstS,lstZ,lstC,i64_w,i32_w]
  rfl
 refine take_ (i:=1) (N:=some 20) (v:=?_) (a':=?_) (bv_ 4 7) rfl rfl (by kernel_rfl) (fun _ _ _ h=>h) (Or.inl ⟨by rfl,?_⟩) hHeld ?_ ?_
 rotate_left
 ·rintro w' ⟨s0,s1,s2⟩
  go_simp
  with_reducible rfl
 rotate_left
 ·simp only[Act.put,lstS,lstZ,lstC,i64_w,i32_w]
  rfl
 refine one_ (i:=3) (N:=none) (bv_ 4 15) rfl rfl (by kernel_rfl) (by decide) (fun K hK=>?_)
 have l3:=cz_ a2 0;have g9:=blk_frozen a2.out 0;have f6:=a1.out;have f7:=a7.out;have l4:=cz_ a2 1;have i4:=blk_frozen a2.out 1;have l5:=cz_ a2 2;have i5:=blk_frozen a2.out 2
 refine skip_ (w1:=?_) (by rfl) rfl ?_ ?_
 rotate_left
 ·go_simp
  rfl
 refine hK.out _ _ ⟨(cg_ a1 ((cg_ a1 ((cg_ a1 (hHeld.1)))))),(cg_ a1 ((cg_ a1 ((cg_ a1 (hHeld.2.1)))))),(cg_ a1 ((cg_ a1 ((cg_ a1 (hHeld.2.2))))))⟩ (fun hHeld=>?_)
 clear hK K
 refine done_ (by kernel_rfl) ?_
 try go_wp2
 refine bodyPost_ret (results_tc rfl _ _ b5 42 #[i6 b2,i6 b3,i6 b4] (0,0) _ rfl (bp_ a2).out Tryz.underlying42 rfl (by kernel_rfl)) rfl ?_
 exact⟨es_,(xi100_ HI0).out,(bw_ HB).out,(xk_ HK).out⟩
/-! ### spec_l10Word: function 81 -/
mutual
def spec_l10Word.l0:Nat→Int→List Int→Int→List Int→Int→Int→Option (ByteArray×Int×Int)
 |0,_,_,_,_,_,_=>none
 |k+1,x1,x5,x6,x1000,x1001,x1002=>if x6>0 then((spec_l01Next.f x1000 x1001 x1002 3).bind fun bt228=>(if bt228.1=0 then(if x5.length<140737488355328 then(spec_l10Word.l0 k x1 (x5++[117]) (wrap64 (x6 - 1)) x1000 bt228.2.1 bt228.2.2) else(none)) else((spec_l01Next.f x1000 bt228.2.1 bt228.2.2 (mn (mx x1 1) 9)).bind fun bt234=>(if x5.length<140737488355328 then(spec_l10Word.l0 k x1 (x5++[(wrap64 (48+bt234.1))%256]) (wrap64 (x6 - 1)) x1000 bt234.2.1 bt234.2.2) else(none))))) else((spec_l01Next.f x1000 x1001 x1002 40).bind fun bt240=>(if bt240.1=0 then(if (strOfNums x5).size+1≤9223372036854775807 then(some ((strOfNums x5)++(⟨#[57]⟩:ByteArray),bt240.2.1,bt240.2.2)) else(none)) else(if bt240.1=1 then(spec_l10Word.l1 k x5 x1000 bt240.2.1 bt240.2.2) else(some (strOfNums x5,bt240.2.1,bt240.2.2)))))
def spec_l10Word.l1:Nat→List Int→List Int→Int→Int→Option (ByteArray×Int×Int)
 |0,_,_,_,_=>none
 |k+1,x5,x1000,x1001,x1002=>if (x5.length:Int)≤40 then((some (([48,117]:List Int):List Int)).bind fun y243=>(if x5.length+y243.length<140737488355328 then(spec_l10Word.l1 k (x5++y243) x1000 x1001 x1002) else(none))) else(some (strOfNums x5,x1001,x1002))
end
def spec_l10Word.f (k:Nat) (s0_0:List Int) (s0_1 s0_2 a1:Int):Option (ByteArray×Int×Int):=(spec_l01Next.f s0_0 s0_1 s0_2 5).bind fun bt216=>((spec_l01Next.f s0_0 bt216.2.1 bt216.2.2 9).bind fun bt219=>((spec_l01Pick.f s0_0 bt219.2.1 bt219.2.2 (([bt216.1,bt219.1]:List Int))).bind fun bt225=>(spec_l10Word.l0 k a1 (([]:List Int)) bt225.1 s0_0 bt225.2.1 bt225.2.2)))
theorem spec_l10Word.calls {k:Nat} (g:Nat) {a6:List Int} {d5 d6 a1:Int} (r1:ByteArray) {r2 r3:Int} (w0 w:World) (hI:IsS100 w0 w g a6 d5 d6) (hB:Below w0.heap.size w0 w) (h:spec_l10Word.f k a6 d5 d6 a1=some (r1,r2,r3)):
  Calls Tryz.prog 81 #[.pointer (some ⟨g,0,none⟩),i6 a1] w fun e w'=>e= .returned (.string r1)∧IsS100 w0 w' g a6 r2 r3∧Below w0.heap.size w0 w'∧KeepBut w w' g none:=by
 have HI0:=Aside0.mk hI
 have HK:=Aside0.mk (KeepBut.refl w g none)
 have HL:=Aside0.mk hB.size
 clear hI
 have HW0:=Aside0.mk hB.size
 have HB:=Aside0.mk hB;clear hB;unfold spec_l10Word.f at h;have H:=h;clear h
 obtain⟨g7,b2⟩:∃y_:List Int,y_=(([]:List Int)):=⟨_,rfl⟩
 replace H: ((spec_l01Next.f a6 d5 d6 5).bind fun bt216=>((spec_l01Next.f a6 bt216.2.1 bt216.2.2 9).bind fun bt219=>((spec_l01Pick.f a6 bt219.2.1 bt219.2.2 (([bt216.1,bt219.1]:List Int))).bind fun bt225=>(spec_l10Word.l0 k a1 g7 bt225.1 a6 bt225.2.1 bt225.2.2))))=some (r1,r2,r3):=by first|(rw[b2];with_reducible exact H)|(have H2_:=(Option.bind_some _ _).symm.trans H;rw[b2];with_reducible exact H2_)|(have H2_:=(Option.bind_some _ _).symm.trans H;with_reducible exact H2_)|with_reducible exact H|(rw[b2];exact H)|exact H
 have d9:=Aside0.mk b2;clear b2;replace H:=oc_ H;obtain⟨⟨d0,m2,m3⟩,A3,H⟩:=H;replace H:=oc_ H;obtain⟨⟨d1,g8,g9⟩,A4,H⟩:=H
 obtain⟨m4,b3⟩:∃y_:List Int,y_=(([d0,d1]:List Int)):=⟨_,rfl⟩
 first|rw[←b3,Option.bind_some] at H|rw[←b3] at H|(dsimp only at H;rw[←b3] at H)
 have f0:=Aside0.mk b3;clear b3;replace H:=oc_ H;obtain⟨⟨m5,m6,m7⟩,A5,H⟩:=H
 have H':=Aside0.mk H
 clear H
 go_enter Tryz.func81,Tryz.ntmps81
 go_wp2_with (first|((refine gd_ 7 ?_);refine Kd.R_lit (Kd.int .u8) _ 5 ?hg (N:=7) ?hd (xs:=([]:List Int)) (inner:=[]) (ok:=fun _=>True) (okp:=fun _=>True) ?hr ?hp (fun _ hk=>hk) trivial (Below.refl _ _) (Nat.le_refl _) (by simp) ?_;(case hd=>rfl);(case hg=>rfl);(case hr=>first|(go_simp;done)|(go_simp;rfl));(case hp=>exact(Reps.none _ _));intro o8 w6 i4 hb hg_ hnew_;clear hg_ hnew_;(first|rw[←d9.out] at i4|(simp only[Int.reduceToNat] at i4;rw[←d9.out] at i4));have a7:=Aside0.mk (Kd.R_lower i4 (keep_size (w:=w) (g:=g) (row:=none) (xk_ HK).out));replace HK:=xu_ HK hb;replace HB:=bt_ HB hb;replace HI0:=IsS100.xs HI0 hb;clear hb i4)|((refine gc_ 61 ?_);refine ge_ 10 Tryz.func61 #[.pointer (some ⟨g,0,none⟩),i6 5] ?_;(with_reducible refine mo_ (spec_l01Next.calls g w0 _ ?a2 ?a3 A3.out) ?_);(case a2=>exact(xi100_ HI0).out);(case a3=>exact(bw_ HB).out);rintro w8 ⟨hi,hb,hk⟩;replace a7:=Aside0.mk (Kd.R_mono (Kd.R_keep (IsS100.apart (show IsS100 w0 _ g a6 d5 d6 from (xi100_ HI0).out) (ra_ a7.out) (by decide)) hk (fun _ h=>h.2)) (fun _ h=>h.1));replace HK:=xt_ HK hk;replace HB:=Aside0.mk (hb);replace HI0:=Aside0.mk (hi);(try clear hb);(try clear hk);(try clear hi))|((refine gc_ 61 ?_);refine ge_ 12 Tryz.func61 #[.pointer (some ⟨g,0,none⟩),i6 9] ?_;(with_reducible refine mo_ (spec_l01Next.calls g w0 _ ?a2 ?a3 A4.out) ?_);(case a2=>exact(xi100_ HI0).out);(case a3=>exact(bw_ HB).out);rintro w9 ⟨hi,hb,hk⟩;replace a7:=Aside0.mk (Kd.R_mono (Kd.R_keep (IsS100.apart (show IsS100 w0 _ g a6 m2 m3 from (xi100_ HI0).out) (ra_ a7.out) (by decide)) hk (fun _ h=>h.2)) (fun _ h=>h.1));replace HK:=xt_ HK hk;replace HB:=Aside0.mk (hb);replace HI0:=Aside0.mk (hi);(try clear hb);(try clear hk);(try clear hi))|((refine gd_ 13 ?_);refine Kd.R_lit (Kd.int .i64) _ 2 ?hg (N:=13) ?hd (xs:=([d0,d1]:List Int)) (inner:=[i6 d0,i6 d1]) (ok:=fun _=>True) (okp:=fun _=>True) ?hr ?hp (fun _ hk=>hk) trivial (Below.refl _ _) (Nat.le_refl _) (by simp) ?_;(case hd=>rfl);(case hg=>rfl);(case hr=>first|(go_simp;done)|(go_simp;rfl));(case hp=>exact(Reps.one (show Kd.M (Kd.int .i64) _ _ _ d0 [i6 d0] from rfl) (Reps.one (show Kd.M (Kd.int .i64) _ _ _ d1 [i6 d1] from rfl) (Reps.none _ _))));intro o9 q2 d2 hb hg_ hnew_;clear hg_ hnew_;(first|rw[←f0.out] at d2|(simp only[Int.reduceToNat] at d2;rw[←f0.out] at d2));have b0:=Aside0.mk (Kd.R_lower d2 (keep_size (w:=w) (g:=g) (row:=none) (xk_ HK).out));replace a7:=rb_ a7 hb;replace HK:=xu_ HK hb;replace HB:=bt_ HB hb;replace HI0:=IsS100.xs HI0 hb;clear hb d2;obtain⟨m8,m9,n0⟩:=Kd.R_slice b0.out;subst n0)|((refine gc_ 90 ?_);refine ge_ 14 Tryz.func90 #[.pointer (some ⟨g,0,none⟩),.slice m8 m4.length m9] ?_;(with_reducible refine mo_ (spec_l01Pick.calls g _ _ w0 _ ?a2 ?a3 ?i5 ?i7 ?i8 A5.out) ?_);(case a2=>exact(xi100_ HI0).out);(case a3=>exact(bw_ HB).out);(case i5=>exact ca_ (Kd.R_reads' b0.out).2.2);(case i7=>exact(Kd.R_reads' b0.out).2.1);(case i8=>exact far_slice (IsS100.own_ne HI0.out b0.out (by decide)));rintro q3 ⟨hi,hb,hk⟩;replace a7:=Aside0.mk (Kd.R_mono (Kd.R_keep (IsS100.apart (show IsS100 w0 _ g a6 g8 g9 from (xi100_ HI0).out) (ra_ a7.out) (by decide)) hk (fun _ h=>h.2)) (fun _ h=>h.1));replace b0:=Aside0.mk (Kd.R_mono (Kd.R_keep (IsS100.apart (show IsS100 w0 _ g a6 g8 g9 from (xi100_ HI0).out) (ra_ b0.out) (by decide)) hk (fun _ h=>h.2)) (fun _ h=>h.1));replace HK:=xt_ HK hk;replace HB:=Aside0.mk (hb);replace HI0:=Aside0.mk (hi);(try clear hb);(try clear hk);(try clear hi)))
 go_loopg [5,6] k (fun kq v5 v6 w'=>∃(a8:List Int) (d3:Int) (a4:Int) (a5:Int),v6=i6 d3∧Aside0 (spec_l10Word.l0 kq a1 a8 d3 a6 a4 a5=some (r1,r2,r3))∧Aside0 (kq≤k)∧Aside0 (Kd.R (Kd.int .u8) 5 w' w.heap.size (fun _=>True) v5 a8)∧Aside0 (IsS100 w0 w' g a6 a4 a5)∧Aside0 (KeepBut w w' g none)∧Aside0 (Below w0.heap.size w0 w'))
 case atStart=>exact⟨(g7),(m5),(m6),(m7),en_,H',⟨Nat.le_refl _⟩,⟨by(with_reducible repeat(first|apply Kd.R_alloc|apply Kd.R_drewN|apply Kd.R_drew));exact a7.out⟩,xi100_ HI0,xk_ HK,bw_ HB⟩
 clear H';obtain⟨a8,d3,a4,a5,rfl,HA,g4,HO_5,HI0,HK,HB⟩:=hrel
 cases gk with
 |zero=>exact absurd HA.out (by simp[spec_l10Word.l0])
 |succ k1=>
  have H:=HA.out;clear HA
  simp only[spec_l10Word.l0] at H
  replace H:=ig_ H
  rcases H with ⟨f1,H⟩|⟨f1,H⟩
  ·replace H:=oc_ H
   obtain⟨⟨p0,i9,j0⟩,l9,H⟩:=H;replace H:=ie_ H
   rcases H with ⟨f2,f3,H⟩|⟨p1,f2,f3,H⟩
   ·by_cases j1:a8.length<140737488355328
    ·rw[if_pos j1] at H
     have LMc17:=Aside0.mk j1;clear j1
     obtain⟨n1,b4⟩:∃y_:List Int,y_=(a8++[117]):=⟨_,rfl⟩
     first|rw[←b4,Option.bind_some] at H|rw[←b4] at H|(dsimp only at H;rw[←b4] at H)
     have j2:=Aside0.mk b4;clear b4
     have H':=Aside0.mk H
     clear H
     go_wp2_with (first|((refine gc_ 61 ?_);refine ge_ 20 Tryz.func61 #[.pointer (some ⟨g,0,none⟩),i6 3] ?_;(with_reducible refine mo_ (spec_l01Next.calls g w0 _ ?a2 ?a3 l9.out) ?_);(case a2=>exact(xi100_ HI0).out);(case a3=>exact(bw_ HB).out);rintro q4 ⟨hi,hb,hk⟩;replace HO_5:=Aside0.mk (Kd.R_mono (Kd.R_keep (IsS100.apart (show IsS100 w0 _ g a6 a4 a5 from (xi100_ HI0).out) (ra_ HO_5.out) (by decide)) hk (fun _ h=>h.2)) (fun _ h=>h.1));replace HK:=xt_ HK hk;replace HB:=Aside0.mk (hb);replace HI0:=Aside0.mk (hi);(try clear hb);(try clear hk);(try clear hi))|((with_reducible refine gate_builtin (b:= .append) (xs:=#[.tmp 22,.tmp 23]) rfl ?_);at_builtin;refine Kd.R_append (Kd.int .u8) w.heap.size rfl (.tmp 22) (.tmp 23) 22 5 (.int .u8 0) 1 rfl Tryz.underlying22 info5 rfl (by decide) (by omega) u5 a8 117 [.int .u8 117] (fun _=>True) (fun _=>False) rfl rfl ?aP (fun _ hk=>hk.elim) ?aF ?aO (Below.refl _ _) ?aS ?aL ?_;(case aP=>exact rfl);(case aF=>exact(fun _ _=>trivial));(case aO=>exact(ra_ HO_5.out));(case aS=>exact(keep_size (w:=w) (g:=g) (row:=none) (xk_ HK).out));(case aL=>have:=LMc17.out;omega);intro p2 q5 ho hb hg hat;rw[←j2.out] at ho;have f4:=Aside0.mk (IsS100.grown (xi100_ HI0).out hg (IsS100.own_ne HI0.out HO_5.out (by decide)));have f5:=Aside0.mk (below_weaken (bw_ HB).out HL.out hb);have f6:=Aside0.mk (KeepBut.trans (xk_ HK).out (KeepBut.of_grown hg g) (Kd.R_base2 HO_5.out));have f7:=Aside0.mk (ho);clear HI0;clear HB;clear HK;clear HO_5;have HI0:=f4;have HB:=f5;have HK:=f6;have j3:=f7;clear f4 f5 f6 f7;clear ho hb hg hat))
     go_roundg k1
     case measure=>have:=g4.out;omega
     case rel=>exact⟨(n1),(wrap64 (d3 - 1)),(i9),(j0),en_,H',⟨by have:=g4.out;omega⟩,⟨by(with_reducible repeat(first|apply Kd.R_alloc|apply Kd.R_drewN|apply Kd.R_drew));exact j3.out⟩,xi100_ HI0,xk_ HK,bw_ HB⟩
    rw[if_neg j1] at H
    exact absurd H (by simp)
   obtain⟨d7,d4⟩:∃j_:Int,(mx a1 1)=j_:=⟨_,rfl⟩
   simp only[d4] at H
   (try rw[d4] at l9)
   have n2: (if a1<1 then 1 else a1)=d7:=d4
   obtain⟨j4,b8⟩:∃j_:Int,(mn (d7) 9)=j_:=⟨_,rfl⟩
   simp only[b8] at H
   (try rw[b8] at l9)
   have n3: (if 9<(d7) then 9 else(d7))=j4:=b8
   replace H:=oc_ H;obtain⟨⟨g3,n4,n5⟩,p3,H⟩:=H
   by_cases j5:a8.length<140737488355328
   ·rw[if_pos j5] at H
    have LMc23:=Aside0.mk j5;clear j5
    obtain⟨n6,b5⟩:∃y_:List Int,y_=(a8++[(wrap64 (48+g3))%256]):=⟨_,rfl⟩
    first|rw[←b5,Option.bind_some] at H|rw[←b5] at H|(dsimp only at H;rw[←b5] at H)
    have j6:=Aside0.mk b5;clear b5
    have H':=Aside0.mk H
    clear H
    go_wp2_with (first|((refine gc_ 61 ?_);refine ge_ 20 Tryz.func61 #[.pointer (some ⟨g,0,none⟩),i6 3] ?_;(with_reducible refine mo_ (spec_l01Next.calls g w0 _ ?a2 ?a3 l9.out) ?_);(case a2=>exact(xi100_ HI0).out);(case a3=>exact(bw_ HB).out);rintro q6 ⟨hi,hb,hk⟩;replace HO_5:=Aside0.mk (Kd.R_mono (Kd.R_keep (IsS100.apart (show IsS100 w0 _ g a6 a4 a5 from (xi100_ HI0).out) (ra_ HO_5.out) (by decide)) hk (fun _ h=>h.2)) (fun _ h=>h.1));replace HK:=xt_ HK hk;replace HB:=Aside0.mk (hb);replace HI0:=Aside0.mk (hi);(try clear hb);(try clear hk);(try clear hi))|((refine gc_ 61 ?_);refine ge_ 30 Tryz.func61 #[.pointer (some ⟨g,0,none⟩),i6 j4] ?_ (hargs:=by(try simp only[List.map_toArray,List.map_cons,List.map_nil]);first|done|(simp only[b8];rfl)|rfl|(simp only[List.length_drop,List.length_take];rfl));(with_reducible refine mo_ (spec_l01Next.calls g w0 _ ?a2 ?a3 p3.out) ?_);(case a2=>exact(xi100_ HI0).out);(case a3=>exact(bw_ HB).out);rintro q7 ⟨hi,hb,hk⟩;replace HO_5:=Aside0.mk (Kd.R_mono (Kd.R_keep (IsS100.apart (show IsS100 w0 _ g a6 i9 j0 from (xi100_ HI0).out) (ra_ HO_5.out) (by decide)) hk (fun _ h=>h.2)) (fun _ h=>h.1));replace HK:=xt_ HK hk;replace HB:=Aside0.mk (hb);replace HI0:=Aside0.mk (hi);(try clear hb);(try clear hk);(try clear hi))|((with_reducible refine gate_builtin (b:= .append) (xs:=#[.tmp 25,.tmp 33]) rfl ?_);at_builtin;refine Kd.R_append (Kd.int .u8) w.heap.size rfl (.tmp 25) (.tmp 33) 22 5 (.int .u8 0) 1 rfl Tryz.underlying22 info5 rfl (by decide) (by omega) u5 a8 ((wrap64 (48+g3))%256) [.int .u8 ((wrap64 (48+g3))%256)] (fun _=>True) (fun _=>False) rfl rfl ?aP (fun _ hk=>hk.elim) ?aF ?aO (Below.refl _ _) ?aS ?aL ?_;(case aP=>exact rfl);(case aF=>exact(fun _ _=>trivial));(case aO=>exact(ra_ HO_5.out));(case aS=>exact(keep_size (w:=w) (g:=g) (row:=none) (xk_ HK).out));(case aL=>have:=LMc23.out;omega);intro p4 q8 ho hb hg hat;rw[←j6.out] at ho;have f4:=Aside0.mk (IsS100.grown (xi100_ HI0).out hg (IsS100.own_ne HI0.out HO_5.out (by decide)));have f5:=Aside0.mk (below_weaken (bw_ HB).out HL.out hb);have f6:=Aside0.mk (KeepBut.trans (xk_ HK).out (KeepBut.of_grown hg g) (Kd.R_base2 HO_5.out));have f7:=Aside0.mk (ho);clear HI0;clear HB;clear HK;clear HO_5;have HI0:=f4;have HB:=f5;have HK:=f6;have j7:=f7;clear f4 f5 f6 f7;clear ho hb hg hat))
    go_roundg k1
    case measure=>have:=g4.out;omega
    case rel=>exact⟨(n6),(wrap64 (d3 - 1)),(n4),(n5),en_,H',⟨by have:=g4.out;omega⟩,⟨by(with_reducible repeat(first|apply Kd.R_alloc|apply Kd.R_drewN|apply Kd.R_drew));exact j7.out⟩,xi100_ HI0,xk_ HK,bw_ HB⟩
   rw[if_neg j5] at H
   exact absurd H (by simp)
  replace H:=oc_ H;obtain⟨⟨p5,j8,j9⟩,n7,H⟩:=H;replace H:=ie_ H
  rcases H with ⟨f8,f9,H⟩|⟨p6,f8,f9,H⟩
  ·by_cases g5: (strOfNums a8).size+1≤9223372036854775807
   ·rw[if_pos g5] at H
    have l2:=eq_true g5
    have l3:decide ((strOfNums a8).size+1≤9223372036854775807)=true:=decide_eq_true g5
    try have l4: (9223372036854775807<(strOfNums a8).size+1)=False:=eq_false (Nat.not_lt.2 g5)
    simp only[Option.some.injEq,Prod.mk.injEq] at H
    obtain⟨rfl,rfl,rfl⟩:=H
    go_wp2_with (first|((refine gc_ 61 ?_);refine ge_ 36 Tryz.func61 #[.pointer (some ⟨g,0,none⟩),i6 40] ?_;(with_reducible refine mo_ (spec_l01Next.calls g w0 _ ?a2 ?a3 n7.out) ?_);(case a2=>exact(xi100_ HI0).out);(case a3=>exact(bw_ HB).out);rintro q9 ⟨hi,hb,hk⟩;replace HO_5:=Aside0.mk (Kd.R_mono (Kd.R_keep (IsS100.apart (show IsS100 w0 _ g a6 a4 a5 from (xi100_ HI0).out) (ra_ HO_5.out) (by decide)) hk (fun _ h=>h.2)) (fun _ h=>h.1));replace HK:=xt_ HK hk;replace HB:=Aside0.mk (hb);replace HI0:=Aside0.mk (hi);(try clear hb);(try clear hk);(try clear hi);have hcv31:=own_string (P:=Tryz.prog) Tryz.underlying22 Tryz.underlying5 Tryz.underlying9 (Kd.own_of_R HO_5.out)))
    go_ret
    exact⟨es_,(xi100_ HI0).out,(bw_ HB).out,(xk_ HK).out⟩
   rw[if_neg g5] at H
   exact absurd H (by simp)
  replace H:=ie_ H
  rcases H with ⟨g0,g1,H⟩|⟨p7,g0,g1,H⟩
  ·have H':=Aside0.mk H
   clear H
   go_wp2_with (first|((refine gc_ 61 ?_);refine ge_ 36 Tryz.func61 #[.pointer (some ⟨g,0,none⟩),i6 40] ?_;(with_reducible refine mo_ (spec_l01Next.calls g w0 _ ?a2 ?a3 n7.out) ?_);(case a2=>exact(xi100_ HI0).out);(case a3=>exact(bw_ HB).out);rintro r0 ⟨hi,hb,hk⟩;replace HO_5:=Aside0.mk (Kd.R_mono (Kd.R_keep (IsS100.apart (show IsS100 w0 _ g a6 a4 a5 from (xi100_ HI0).out) (ra_ HO_5.out) (by decide)) hk (fun _ h=>h.2)) (fun _ h=>h.1));replace HK:=xt_ HK hk;replace HB:=Aside0.mk (hb);replace HI0:=Aside0.mk (hi);(try clear hb);(try clear hk);(try clear hi)))
   go_loopg [5] k1 (fun kq v5 w'=>∃(a9:List Int),Aside0 (spec_l10Word.l1 kq a9 a6 j8 j9=some (r1,r2,r3))∧Aside0 (kq≤k1)∧Aside0 (Kd.R (Kd.int .u8) 5 w' w.heap.size (fun _=>True) v5 a9)∧Aside0 (IsS100 w0 w' g a6 j8 j9)∧Aside0 (KeepBut w w' g none)∧Aside0 (Below w0.heap.size w0 w'))
   case atStart=>exact⟨(a8),H',⟨Nat.le_refl _⟩,⟨by(with_reducible repeat(first|apply Kd.R_alloc|apply Kd.R_drewN|apply Kd.R_drew));exact HO_5.out⟩,xi100_ HI0,xk_ HK,bw_ HB⟩
   clear H'
   try clear f1
   try clear p1 f2 f3
   try clear j1
   try clear j5
   try clear p6 f8 f9
   try clear g5 l2 l3 l4
   try clear hcv31
   try clear p7 g0 g1
   obtain⟨a9,HA,o6,HO_5,HI0,HK,HB⟩:=hrel
   cases gk with
   |zero=>exact absurd HA.out (by simp[spec_l10Word.l1])
   |succ k2=>
    have H:=HA.out;clear HA
    simp only[spec_l10Word.l1] at H
    by_cases g6: (a9.length:Int)≤40
    ·rw[if_pos g6] at H
     have l5:decide ((a9.length:Int)≤40)=true:=decide_eq_true g6
     have l6:decide (a9.length≤40)=true:=decide_eq_true (by omega)
     clear g6
     obtain⟨d8,b6⟩:∃y_:List Int,y_=(([48,117]:List Int)):=⟨_,rfl⟩
     first|rw[←b6,Option.bind_some] at H|rw[←b6] at H|(dsimp only at H;rw[←b6] at H)
     have g2:=Aside0.mk b6;clear b6
     by_cases m1:a9.length+d8.length<140737488355328
     ·rw[if_pos m1] at H
      have LMc35:=Aside0.mk m1;clear m1
      obtain⟨n8,b7⟩:∃y_:List Int,y_=(a9++d8):=⟨_,rfl⟩
      first|rw[←b7,Option.bind_some] at H|rw[←b7] at H|(dsimp only at H;rw[←b7] at H)
      have l7:=Aside0.mk b7;clear b7
      have H':=Aside0.mk H
      clear H
      obtain⟨n9,o0,o1⟩:=Kd.R_slice HO_5.out
      subst o1
      go_wp2_with (first|((refine gd_ 48 ?_);refine Kd.R_lit (Kd.int .u8) _ 5 ?hg (N:=48) ?hd (xs:=([48,117]:List Int)) (inner:=[.int .u8 48,.int .u8 117]) (ok:=fun _=>True) (okp:=fun _=>True) ?hr ?hp (fun _ hk=>hk) trivial (Below.refl _ _) (Nat.le_refl _) (by simp) ?_;(case hd=>rfl);(case hg=>rfl);(case hr=>first|(go_simp;done)|(go_simp;rfl));(case hp=>exact(Reps.one (show Kd.M (Kd.int .u8) _ _ _ 48 [.int .u8 48] from rfl) (Reps.one (show Kd.M (Kd.int .u8) _ _ _ 117 [.int .u8 117] from rfl) (Reps.none _ _))));intro p8 r4 b9 hb hg_ hnew_;clear hg_ hnew_;(first|rw[←g2.out] at b9|(simp only[Int.reduceToNat] at b9;rw[←g2.out] at b9));have b1:=Aside0.mk (Kd.R_lower (Kd.R_new' b9 (Kd.R_lt (ra_ HO_5.out))) (keep_size (w:=w) (g:=g) (row:=none) (xk_ HK).out));replace HO_5:=Aside0.mk (Kd.R_elder' (ra_ HO_5.out) (Kd.R_base b9) hb);replace HK:=xu_ HK hb;replace HB:=bt_ HB hb;replace HI0:=IsS100.xs HI0 hb;clear hb b9;obtain⟨o2,o3,o4⟩:=Kd.R_slice b1.out;subst o4)|((with_reducible refine gate_builtin (b:= .append) (xs:=#[.tmp 47,.tmp 48]) rfl ?_);at_builtin;refine Kd.R_append_rows (Kd.int .u8) w.heap.size rfl (.tmp 47) (.tmp 48) 22 5 (.int .u8 0) 1 rfl Tryz.underlying22 info5 rfl (by decide) (by omega) (.slice n9 a9.length o0) a9 d8 _ _ _ (fun k_=>some k_≠(.slice o2 d8.length o3:Value).ownBlock) (fun _=>False) rfl rfl ?aO ?aR (fun _ _ h=>h) (fun _ h=>h.elim) ?aF (Below.refl _ _) ?aS ?aL ?_;(case aR=>repeat(first|exact(Kd.R_reads' b1.out).2.2|(with_reducible refine Kd.C_alloc ?_ _)|(with_reducible refine Kd.C_drewN ?_ _)|(with_reducible refine Kd.C_drew ?_)));(case aF=>exact(fun k_ hk=>Kd.fresh' (Kd.R_lt (ra_ b1.out)) k_ hk));(case aO=>exact(by(with_reducible repeat(first|apply Kd.R_alloc|apply Kd.R_drewN|apply Kd.R_drew));exact Kd.R_mono HO_5.out (fun _ hk=>hk.2)));(case aS=>exact(keep_size (w:=w) (g:=g) (row:=none) (xk_ HK).out));(case aL=>have:=LMc35.out;omega);intro p9 r5 ho hb hg hat;rw[←l7.out] at ho;have f4:=Aside0.mk (IsS100.grown (xi100_ HI0).out hg (IsS100.own_ne HI0.out HO_5.out (by decide)));have f5:=Aside0.mk (Kd.R_after (ok:=(fun _=>True)) (ra_ b1.out) hg hat);have f6:=Aside0.mk (below_weaken (bw_ HB).out HL.out hb);have f7:=Aside0.mk (KeepBut.trans (xk_ HK).out (KeepBut.of_grown hg g) (Kd.R_base2 HO_5.out));have o7:=Aside0.mk (ho);clear HI0;clear b1;clear HB;clear HK;clear HO_5;have HI0:=f4;have b1:=f5;have HB:=f6;have HK:=f7;have l8:=o7;clear f4 f5 f6 f7 o7;clear ho hb hg hat))
      go_roundg k2
      case measure=>have:=g4.out;have:=o6.out;omega
      case rel=>exact⟨(n8),H',⟨by have:=g4.out;have:=o6.out;omega⟩,⟨by(with_reducible repeat(first|apply Kd.R_alloc|apply Kd.R_drewN|apply Kd.R_drew));exact Kd.R_mono l8.out (fun _ hk=>trivial)⟩,xi100_ HI0,xk_ HK,bw_ HB⟩
     rw[if_neg m1] at H
     exact absurd H (by simp)
    rw[if_neg g6] at H
    have l5:decide ((a9.length:Int)≤40)=false:=decide_eq_false g6
    have l6:decide (a9.length≤40)=false:=decide_eq_false (by omega)
    clear g6
    simp only[Option.some.injEq,Prod.mk.injEq] at H
    obtain⟨rfl,rfl,rfl⟩:=H
    obtain⟨q0,q1,o5⟩:=Kd.R_slice HO_5.out
    subst o5
    have hcv42:=own_string (P:=Tryz.prog) Tryz.underlying22 Tryz.underlying5 Tryz.underlying9 (Kd.own_of_R HO_5.out)
    go_wp2
    go_ret
    exact⟨es_,(xi100_ HI0).out,(bw_ HB).out,(xk_ HK).out⟩
  simp only[Option.some.injEq,Prod.mk.injEq] at H
  obtain⟨rfl,rfl,rfl⟩:=H
  go_wp2_with (first|((refine gc_ 61 ?_);refine ge_ 36 Tryz.func61 #[.pointer (some ⟨g,0,none⟩),i6 40] ?_;(with_reducible refine mo_ (spec_l01Next.calls g w0 _ ?a2 ?a3 n7.out) ?_);(case a2=>exact(xi100_ HI0).out);(case a3=>exact(bw_ HB).out);rintro r6 ⟨hi,hb,hk⟩;replace HO_5:=Aside0.mk (Kd.R_mono (Kd.R_keep (IsS100.apart (show IsS100 w0 _ g a6 a4 a5 from (xi100_ HI0).out) (ra_ HO_5.out) (by decide)) hk (fun _ h=>h.2)) (fun _ h=>h.1));replace HK:=xt_ HK hk;replace HB:=Aside0.mk (hb);replace HI0:=Aside0.mk (hi);(try clear hb);(try clear hk);(try clear hi);have hcv44:=own_string (P:=Tryz.prog) Tryz.underlying22 Tryz.underlying5 Tryz.underlying9 (Kd.own_of_R HO_5.out)))
  go_ret
  exact⟨es_,(xi100_ HI0).out,(bw_ HB).out,(xk_ HK).out⟩
/-! ### spec_DrawFollowSteps: function 53 -/
def spec_DrawFollowSteps.f (k:Nat) (l0:List Int):Option (Int×Int×Int×Int×ByteArray):=(spec_l01From.f k l0).bind fun bt250=>((spec_l01Spoil.f k bt250.1 bt250.2.1 bt250.2.2).bind fun bt254=>((spec_l10Word.f k bt250.1 bt254.2.2.2.2.1 bt254.2.2.2.2.2 bt254.1).bind fun bt261=>(some (bt254.1,bt254.2.1,bt254.2.2.1,bt254.2.2.2.1,bt261.1))))
def spec_DrawFollowSteps.T3:Bool×List (List Nat×List Nat):=(true,[([],[]),([],[]),([],[]),([],[]),([2,3],[2,3]),([0,4,0],[0]),([1,5,0,1,5],[1]),([4,6,0,1,2,3,4,5,6],[4])])
def spec_DrawFollowSteps.B3:List Nat:=[0,0,0,0,12,29,63,127]
theorem spec_DrawFollowSteps.tab3:rtab .any (opsOf Tryz.f53 3)=spec_DrawFollowSteps.T3:=by kernel_rfl
theorem spec_DrawFollowSteps.bits3:waitsOk spec_DrawFollowSteps.T3.2 spec_DrawFollowSteps.B3=true:=by kernel_rfl
theorem spec_DrawFollowSteps.calls {k:Nat} (A0:Option Addr) (c0:Nat) {l0:List Int} {r1 r2 r3 r4:Int} (r5:ByteArray) (w:World) (hr0:Kd.C (Kd.int .u8) w A0 l0.length l0) (hc0:l0.length≤c0) (h:spec_DrawFollowSteps.f k l0=some (r1,r2,r3,r4,r5)):
  Calls Tryz.prog 53 #[.slice A0 l0.length c0] w fun e w'=>e= .returned (.tuple #[i6 r1,.agg #[i6 r2,i6 r3,i6 r4],.string r5])∧Below w.heap.size w w':=by
 have hu42:=Tryz.underlying42
 have f4:=Aside0.mk hr0;have f5:=Aside0.mk hc0;clear hr0 hc0
 have HB:=Aside0.mk (Below.refl w.heap.size w)
 unfold spec_DrawFollowSteps.f at h;have H:=h;clear h;replace H:=oc_ H;obtain⟨⟨d0,f6,f7⟩,A2,H⟩:=H;replace H:=oc_ H;obtain⟨⟨d1,a8,a9,b0,d2,d3⟩,A3,H⟩:=H;replace H:=oc_ H;obtain⟨⟨d4,f8,f9⟩,A4,H⟩:=H
 simp only[Option.some.injEq,Prod.mk.injEq] at H
 obtain⟨rfl,rfl,rfl,rfl,rfl⟩:=H
 go_enter Tryz.func53,Tryz.ntmps53
 try go_wp2_with (first|((refine gd_ 3 ?_);refine by_ 3 #[i6 0,i6 0,i6 0] 42 HB ?_;intro b4 hg w5 a2 hb d9 HB_;replace HB:=HB_;clear hb hg)|((refine gc_ 59 ?_);refine ge_ 9 Tryz.func59 #[.slice A0 l0.length c0] ?_;(with_reducible refine(spec_l01From.calls _ _ w _ ?b1 ?b2 ?b7 A2.out).mono ?_);(case b1=>exact(bw_ HB).out);(case b2=>exact f4.out);(case b7=>exact f5.out);rintro e w6 ⟨b3,rfl,hi,hb,hb2⟩;refine⟨_,rfl,?_⟩;have HI253:=Aside0.mk (hi);have b5:=IsS100.xn hi a2 hb2;have a5:=IsS100.xo hi a2 hb2;replace a2:=bb_ a2 hb2;replace HB:=Aside0.mk (hb);clear hb hb2 hi)|((refine gc_ 60 ?_);refine ge_ 12 Tryz.func60 #[.pointer (some ⟨b3,0,none⟩)] ?_;(with_reducible refine mo_ (spec_l01Spoil.calls b3 w _ ?b1 ?b2 A3.out) ?_);(case b1=>exact(xi100_ HI253).out);(case b2=>exact(bw_ HB).out);rintro w7 ⟨hi,hb,hk⟩;replace a2:=xb_ hk a2 a5;replace HB:=Aside0.mk (hb);replace HI253:=Aside0.mk (hi);clear hb hk hi)|((refine gd_ 7 ?_);refine by_ 7 #[i6 0,i6 0,i6 0] 42 HB ?_;intro a3 hg w8 a4 hb f0 HB_;have a6:=bm_ a2 hg;have a1:=bn_ a2 hg;have b6:=IsS100.xl HI253 hg;have a7:=IsS100.xm HI253 hg;replace a2:=bb_ a2 hb;replace HI253:=IsS100.xs HI253 hb;replace HB:=HB_;clear hb hg;have:=nn_ a1;have:=nn_ a7;have hz11:=ch3_ a4))
 have d5:Aside0 ((((w8.setCell ⟨a3,0,none⟩ (i6 a8)).setCell ⟨a3,1,none⟩ (i6 a9)).setCell ⟨a3,2,none⟩ (i6 b0)).heap[b4]?=some (.cells #[i6 0,i6 0,i6 0] 42 (0,0))):=fl_ a2 a6
 have d6:Aside0 ((((w8.setCell ⟨a3,0,none⟩ (i6 a8)).setCell ⟨a3,1,none⟩ (i6 a9)).setCell ⟨a3,2,none⟩ (i6 b0)).heap[a3]?=some (.cells #[i6 a8,i6 a9,i6 b0] 42 (0,0))):=bp_ a4
 have d7:Aside0 (IsS100 w (((w8.setCell ⟨a3,0,none⟩ (i6 a8)).setCell ⟨a3,1,none⟩ (i6 a9)).setCell ⟨a3,2,none⟩ (i6 b0)) b3 d0 d2 d3):=(xi100_ HI253)
 have d8:Aside0 (Below w.heap.size w (((w8.setCell ⟨a3,0,none⟩ (i6 a8)).setCell ⟨a3,1,none⟩ (i6 a9)).setCell ⟨a3,2,none⟩ (i6 b0))):=(bw_ HB)
 try clear a2
 try clear a4
 try clear HI253
 try clear HB
 generalize (((w8.setCell ⟨a3,0,none⟩ (i6 a8)).setCell ⟨a3,1,none⟩ (i6 a9)).setCell ⟨a3,2,none⟩ (i6 b0))=g0 at d5 d6 d7 d8⊢
 have a2:=d5
 have a4:=d6
 have HI253:=d7
 have HB:=d8
 clear d5 d6 d7 d8;replace a2:=bd_ a2;replace a4:=bd_ a4
 replace HI253:=Aside0.mk (IsS100.drew HI253.out)
 replace HB:=be_ HB
 refine start_ (n:=8) (S:=fun w'=>c_ w' a3 0 (i6 a8)∧c_ w' a3 1 (i6 a9)∧c_ w' a3 2 (i6 b0)) (ds:=[]) (bv_ 8 0) (by kernel_rfl) rfl rfl ⟨cz_ a4 0,cz_ a4 1,cz_ a4 2⟩ (fun hHeld=>?_);refine with_tabW spec_DrawFollowSteps.tab3 spec_DrawFollowSteps.bits3 (fun HT_ HW_=>?_)
 generalize g0.drew=g4 at a2 a4 HI253 HB hHeld⊢
 refine px_ HT_ 0 15 1 ?_;refine px_ HT_ 2 17 5 ?_;refine px_ HT_ 3 18 13 ?_
 refine ta_ HT_ HW_ 1 (some 16) (bv_ 8 15) hHeld ?_ (hy:=by rintro w' ⟨s0,s1,s2⟩;go_simp;with_reducible rfl)
 refine on_ HT_ 4 (some 19) (bv_ 8 31) (fun K hK=>?_)
 refine gs_ Tryz.func81 #[.pointer (some ⟨b3,0,none⟩),i6 d1] ?_
 with_reducible refine mo_ (spec_l10Word.calls b3 d4 w _ ?b1 ?b2 A4.out) ?_
 (case b1=>exact(xi100_ HI253).out);(case b2=>exact(bw_ HB).out);rintro g5 ⟨hi,hb,hk⟩;replace a2:=xb_ hk a2 a5;replace a4:=xb_ hk a4 a7;replace HB:=Aside0.mk (hb);replace HI253:=Aside0.mk (hi)
 try clear hb
 try clear hk
 try clear hi
 refine hK.out _ _ ⟨cz_ a4 0,cz_ a4 1,cz_ a4 2⟩ (fun hHeld=>?_)
 clear hK K;refine nm_ (some 19) ?_;refine px_ HT_ 5 2 63 ?_
 refine on_ HT_ 6 none (bv_ 8 127) (fun K hK=>?_)
 have g1:=cz_ a2 0;have f1:=blk_frozen a2.out 0;have b8:=a1.out;have b9:=a6.out;have g2:=cz_ a2 1;have f2:=blk_frozen a2.out 1;have g3:=cz_ a2 2;have f3:=blk_frozen a2.out 2
 refine skip_ (w1:=?_) (by rfl) rfl ?_ ?_
 rotate_left
 ·go_simp
  rfl
 refine hK.out _ _ ⟨(cg_ a1 ((cg_ a1 ((cg_ a1 (hHeld.1)))))),(cg_ a1 ((cg_ a1 ((cg_ a1 (hHeld.2.1)))))),(cg_ a1 ((cg_ a1 ((cg_ a1 (hHeld.2.2))))))⟩ (fun hHeld=>?_)
 clear hK K;refine px_ HT_ 7 4 255 ?_
 refine done_ (done_of HT_.out (by kernel_rfl)) ?_
 try go_wp2
 refine bodyPost_ret (results_list (rs:=[.tmp 2,.cell 3 42,.tmp 4]) rfl (by simp) (.tmp (.cell b4 42 #[i6 a8,i6 a9,i6 b0] (0,0) _ rfl (bp_ a2).out Tryz.underlying42 rfl (by kernel_rfl) (.tmp .nil)))) rfl ?_
 exact⟨es_,(bw_ HB).out⟩
/-! ### spec_DrawNormalSteps: function 25 -/
def spec_DrawNormalSteps.f (k:Nat) (l0:List Int):Option (Int×ByteArray):=(spec_DrawFollowSteps.f k l0).bind fun bt264=>(some (bt264.1,bt264.2.2.2.2))
theorem spec_DrawNormalSteps.calls {k:Nat} (A0:Option Addr) (c0:Nat) {l0:List Int} {r1:Int} (r2:ByteArray) (w:World) (hr0:Kd.C (Kd.int .u8) w A0 l0.length l0) (hc0:l0.length≤c0) (h:spec_DrawNormalSteps.f k l0=some (r1,r2)):
  Calls Tryz.prog 25 #[.slice A0 l0.length c0] w fun e w'=>e= .returned (.tuple #[i6 r1,.string r2])∧Below w.heap.size w w':=by
 have hu42:=Tryz.underlying42
 have a7:=Aside0.mk hr0;have a8:=Aside0.mk hc0;clear hr0 hc0
 have HB:=Aside0.mk (Below.refl w.heap.size w)
 unfold spec_DrawNormalSteps.f at h;have H:=h;clear h;replace H:=oc_ H;obtain⟨⟨a9,b0,b1,b2,a4⟩,A2,H⟩:=H
 simp only[Option.some.injEq,Prod.mk.injEq] at H
 obtain⟨rfl,rfl⟩:=H
 go_enter Tryz.func25,Tryz.ntmps25
 go_wp2_with (first|((refine gc_ 53 ?_);refine ge_ 9 Tryz.func53 #[.slice A0 l0.length c0] ?_;(with_reducible refine mo_ (spec_DrawFollowSteps.calls _ _ a4 _ ?a1 ?a2 A2.out) ?_);(case a1=>exact ca_ a7.out);(case a2=>exact a8.out);intro w3 hb;replace HB:=bt_ HB hb;clear hb)|((refine gd_ 5 ?_);refine by_ 5 #[i6 0,i6 0,i6 0] 42 HB ?_;intro a5 hg w4 a3 hb a6 HB_;replace HB:=HB_;clear hb hg;have hz5:=ch3_ a3))
 go_ret2
 exact⟨es_,(bw_ HB).out⟩
/-! ### spec_DrawMatrixOfSteps: function 5 -/
def spec_DrawMatrixOfSteps.f (k:Nat) (l0:List Int):Option (Int×ByteArray):=(spec_DrawNormalSteps.f k l0).bind fun bt270=>(some (bt270.1,bt270.2))
theorem spec_DrawMatrixOfSteps.calls {k:Nat} (A0:Option Addr) (c0:Nat) {l0:List Int} {r1:Int} (r2:ByteArray) (w:World) (hr0:Kd.C (Kd.int .u8) w A0 l0.length l0) (hc0:l0.length≤c0) (h:spec_DrawMatrixOfSteps.f k l0=some (r1,r2)):
  Calls Tryz.prog 5 #[.slice A0 l0.length c0] w fun e w'=>e= .returned (.tuple #[i6 r1,.string r2])∧Below w.heap.size w w':=by
 have a4:=Aside0.mk hr0;have a5:=Aside0.mk hc0;clear hr0 hc0
 have HB:=Aside0.mk (Below.refl w.heap.size w)
 unfold spec_DrawMatrixOfSteps.f at h;have H:=h;clear h;replace H:=oc_ H;obtain⟨⟨a6,a3⟩,A2,H⟩:=H
 simp only[Option.some.injEq,Prod.mk.injEq] at H
 obtain⟨rfl,rfl⟩:=H
 go_enter Tryz.func5,Tryz.ntmps5
 go_wp2_with (first|((refine gc_ 25 ?_);refine ge_ 5 Tryz.func25 #[.slice A0 l0.length c0] ?_;(with_reducible refine mo_ (spec_DrawNormalSteps.calls _ _ a3 _ ?a1 ?a2 A2.out) ?_);(case a1=>exact ca_ a4.out);(case a2=>exact a5.out);intro w3 hb;replace HB:=bt_ HB hb;clear hb))
 go_ret2
 exact⟨es_,(bw_ HB).out⟩
end Go.Proofs.YtblmdppbbdbbjabGreat.QP
