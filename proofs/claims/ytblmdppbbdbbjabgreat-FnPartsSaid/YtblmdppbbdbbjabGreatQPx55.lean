import Derived.Test.YtblmdppbbdbbjabGreatQPx8
import Derived.Test.YtblmdppbbdbbjabGreatQPx20
import Derived.Test.YtblmdppbbdbbjabGreatQPx45
import Derived.Test.YtblmdppbbdbbjabGreatQPx32
namespace Go.Proofs.YtblmdppbbdbbjabGreat.QP
set_option maxHeartbeats 8000000
set_option maxRecDepth 100000
open Go.RowKit Go.Proofs.YtblmdppbbdbbjabGreatW.PrintWords Go.Proofs.YtblmdppbbdbbjabGreatW.PrintLast Go.Proofs.YtblmdppbbdbbjabGreatW.PrintMore
attribute [local go_sem] isSome_setCell max2_int min2_int max_two min_two max_three min_three max_four min_four
set_option linter.unusedVariables false
set_option linter.unusedSimpArgs false
/-! ### spec_l04With: function 31 -/
def spec_l04With.f (k:Nat) (l0:List Int):Option (Int×Int×Int×Int×Int×Int×Int×Int):=(spec_l01From.f k l0).bind fun bt432=>((spec_l01Spoil.f k bt432.1 bt432.2.1 bt432.2.2).bind fun bt436=>((spec_l01Next.f bt432.1 bt436.2.2.2.2.1 bt436.2.2.2.2.2 3).bind fun bt443=>(if bt443.1=0 then((spec_l04Draw.f k bt432.1 bt443.2.1 bt443.2.2).bind fun bt446=>(some (bt436.1,bt446.1,bt446.2.1,bt446.2.2.1,bt446.2.2.2.1,0,0,0))) else((spec_l04Draw.f k bt432.1 bt443.2.1 bt443.2.2).bind fun bt452=>(some (bt436.1,bt452.1,bt452.2.1,bt452.2.2.1,bt452.2.2.2.1,bt436.2.1,bt436.2.2.1,bt436.2.2.2.1))))))
theorem spec_l04With.calls {k:Nat} (A0:Option Addr) (c0:Nat) {l0:List Int} {r1 r2 r3 r4 r5 r6 r7 r8:Int} (w:World) (hr0:Kd.C (Kd.int .u8) w A0 l0.length l0) (hc0:l0.length≤c0) (h:spec_l04With.f k l0=some (r1,r2,r3,r4,r5,r6,r7,r8)):
  Calls Tryz.prog 31 #[.slice A0 l0.length c0] w fun e w'=>e= .returned (.tuple #[i6 r1,.agg #[i6 r2,i6 r3,i6 r4,i6 r5],.agg #[i6 r6,i6 r7,i6 r8]])∧Below w.heap.size w w':=by
 have hu28:=Tryz.underlying28
 have hu42:=Tryz.underlying42
 have j9:=Aside0.mk hr0;have l1:=Aside0.mk hc0;clear hr0 hc0
 have HB:=Aside0.mk (Below.refl w.heap.size w)
 unfold spec_l04With.f at h;have H:=h;clear h;replace H:=oc_ H;obtain⟨⟨g6,m7,m8⟩,A2,H⟩:=H;replace H:=oc_ H;obtain⟨⟨m9,d3,d4,d5,n0,n1⟩,A3,H⟩:=H;replace H:=oc_ H;obtain⟨⟨n2,g7,g8⟩,A4,H⟩:=H;replace H:=ie_ H
 rcases H with ⟨g9,i4,H⟩|⟨c5,g9,i4,H⟩
 ·replace H:=oc_ H
  obtain⟨⟨i5,i7,i8,i9,n3,n4⟩,A6,H⟩:=H
  simp only[Option.some.injEq,Prod.mk.injEq] at H
  obtain⟨rfl,rfl,rfl,rfl,rfl,rfl,rfl,rfl⟩:=H
  go_enter Tryz.func31,Tryz.ntmps31
  try go_wp2_with (first|((refine gd_ 3 ?_);refine by_ 3 #[i6 0,i6 0,i6 0,i6 0] 28 HB ?_;intro b7 hg w7 a2 hb d7 HB_;replace HB:=HB_;clear hb hg)|((refine gd_ 4 ?_);refine by_ 4 #[i6 0,i6 0,i6 0] 42 HB ?_;intro b8 hg w8 a4 hb d8 HB_;have b4:=bm_ a2 hg;have b5:=bn_ a2 hg;replace a2:=bb_ a2 hb;replace HB:=HB_;clear hb hg)|((refine gc_ 59 ?_);refine ge_ 9 Tryz.func59 #[.slice A0 l0.length c0] ?_;(with_reducible refine(spec_l01From.calls _ _ w _ ?b2 ?b3 ?d2 A2.out).mono ?_);(case b2=>exact(bw_ HB).out);(case b3=>exact j9.out);(case d2=>exact l1.out);rintro e w9 ⟨b6,rfl,hi,hb,hb2⟩;refine⟨_,rfl,?_⟩;have HI435:=Aside0.mk (hi);have b9:=IsS100.xn hi a2 hb2;have a7:=IsS100.xo hi a2 hb2;have d0:=IsS100.xn hi a4 hb2;have a8:=IsS100.xo hi a4 hb2;replace a2:=bb_ a2 hb2;replace a4:=bb_ a4 hb2;replace HB:=Aside0.mk (hb);clear hb hb2 hi)|((refine gc_ 60 ?_);refine ge_ 12 Tryz.func60 #[.pointer (some ⟨b6,0,none⟩)] ?_;(with_reducible refine mo_ (spec_l01Spoil.calls b6 w _ ?b2 ?b3 A3.out) ?_);(case b2=>exact(xi100_ HI435).out);(case b3=>exact(bw_ HB).out);rintro p4 ⟨hi,hb,hk⟩;replace a2:=xb_ hk a2 a7;replace a4:=xb_ hk a4 a8;replace HB:=Aside0.mk (hb);replace HI435:=Aside0.mk (hi);clear hb hk hi)|((refine gd_ 7 ?_);refine by_ 7 #[i6 0,i6 0,i6 0] 42 HB ?_;intro a6 hg p5 a5 hb d9 HB_;have b0:=bm_ a2 hg;have a1:=bn_ a2 hg;have b1:=bm_ a4 hg;have a3:=bn_ a4 hg;have d1:=IsS100.xl HI435 hg;have a9:=IsS100.xm HI435 hg;replace a2:=bb_ a2 hb;replace a4:=bb_ a4 hb;replace HI435:=IsS100.xs HI435 hb;replace HB:=HB_;clear hb hg;have:=nn_ a1;have:=nn_ a3;have:=nn_ a9;have hz15:=ch3_ a5)|((refine gc_ 61 ?_);refine ge_ 16 Tryz.func61 #[.pointer (some ⟨b6,0,none⟩),i6 3] ?_;(with_reducible refine mo_ (spec_l01Next.calls b6 w _ ?b2 ?b3 A4.out) ?_);(case b2=>exact(xi100_ HI435).out);(case b3=>exact(bw_ HB).out);rintro d6 ⟨hi,hb,hk⟩;replace a2:=xf_ hk a2 b0 a7;replace a4:=xf_ hk a4 b1 a8;replace a5:=Aside0.mk (KeepBut.blk hk (g':=a6) (o:= .cells #[i6 d3,i6 d4,i6 d5] 42 (0,0)) (bp_ a5).out a9.out (by simp));replace HB:=Aside0.mk (hb);replace HI435:=Aside0.mk (hi);(try clear hb);(try clear hk);(try clear hi);have hz17:=ch3_ a5))
  have j0:Aside0 ((((d6.setCell ⟨a6,0,none⟩ (i6 0)).setCell ⟨a6,1,none⟩ (i6 0)).setCell ⟨a6,2,none⟩ (i6 0)).heap[b7]?=some (.cells #[i6 0,i6 0,i6 0,i6 0] 28 (0,0))):=fl_ a2 b0
  have j1:Aside0 ((((d6.setCell ⟨a6,0,none⟩ (i6 0)).setCell ⟨a6,1,none⟩ (i6 0)).setCell ⟨a6,2,none⟩ (i6 0)).heap[b8]?=some (.cells #[i6 0,i6 0,i6 0] 42 (0,0))):=fl_ a4 b1
  have j2:Aside0 ((((d6.setCell ⟨a6,0,none⟩ (i6 0)).setCell ⟨a6,1,none⟩ (i6 0)).setCell ⟨a6,2,none⟩ (i6 0)).heap[a6]?=some (.cells #[i6 0,i6 0,i6 0] 42 (0,0))):=bp_ a5
  have j3:Aside0 (IsS100 w (((d6.setCell ⟨a6,0,none⟩ (i6 0)).setCell ⟨a6,1,none⟩ (i6 0)).setCell ⟨a6,2,none⟩ (i6 0)) b6 g6 g7 g8):=(xi100_ HI435)
  have j4:Aside0 (Below w.heap.size w (((d6.setCell ⟨a6,0,none⟩ (i6 0)).setCell ⟨a6,1,none⟩ (i6 0)).setCell ⟨a6,2,none⟩ (i6 0))):=(bw_ HB)
  try clear a2
  try clear a4
  try clear a5
  try clear HI435
  try clear HB
  generalize (((d6.setCell ⟨a6,0,none⟩ (i6 0)).setCell ⟨a6,1,none⟩ (i6 0)).setCell ⟨a6,2,none⟩ (i6 0))=n5 at j0 j1 j2 j3 j4⊢
  have a2:=j0
  have a4:=j1
  have a5:=j2
  have HI435:=j3
  have HB:=j4
  clear j0 j1 j2 j3 j4;replace a2:=bd_ a2;replace a4:=bd_ a4;replace a5:=bd_ a5
  replace HI435:=Aside0.mk (IsS100.drew HI435.out)
  replace HB:=be_ HB
  refine start_ (n:=7) (S:=fun w'=>c_ w' a6 0 (i6 0)∧c_ w' a6 1 (i6 0)∧c_ w' a6 2 (i6 0)) (ds:=[]) (bv_ 7 0) (by kernel_rfl) rfl rfl ⟨cz_ a5 0,cz_ a5 1,cz_ a5 2⟩ (fun hHeld=>?_)
  generalize n5.drew=p6 at a2 a4 a5 HI435 HB hHeld⊢
  refine pure_ (i:=0) (N:=some 19) (v:=?_) (a':=?_) (bv_ 7 1) rfl rfl (by kernel_rfl) (fun _ _ _ h=>h) (Or.inl ⟨by rfl,?_⟩) ?_ ?_
  rotate_left
  ·intro w'
   go_simp
   with_reducible rfl
  rotate_left
  ·simp only[Act.put,lstS,lstZ,lstC,i64_w,i32_w]
   rfl
  refine pure_ (i:=1) (N:=some 20) (v:=?_) (a':=?_) (bv_ 7 3) rfl rfl (by kernel_rfl) (fun _ _ _ h=>h) (Or.inl ⟨by rfl,?_⟩) ?_ ?_
  rotate_left
  ·intro w'
   go_simp
   with_reducible rfl
  rotate_left
  ·simp only[Act.put,lstS,lstZ,lstC,i64_w,i32_w]
   rfl
  refine take_ (i:=3) (N:=some 22) (v:=?_) (a':=?_) (bv_ 7 11) rfl rfl (by kernel_rfl) (fun _ _ _ h=>h) (Or.inl ⟨by rfl,?_⟩) hHeld ?_ ?_
  rotate_left
  ·rintro w' ⟨s0,s1,s2⟩
   go_simp
   with_reducible rfl
  rotate_left
  ·simp only[Act.put,lstS,lstZ,lstC,i64_w,i32_w]
   rfl
  refine one_ (i:=2) (N:=some 21) (bv_ 7 15) rfl rfl (by kernel_rfl) (by decide) (fun K hK=>?_)
  refine gs_ Tryz.func62 #[.pointer (some ⟨b6,0,none⟩)] ?_
  with_reducible refine mo_ (spec_l04Draw.calls b6 w _ ?b2 ?b3 A6.out) ?_
  (case b2=>exact(xi100_ HI435).out);(case b3=>exact(bw_ HB).out);rintro p7 ⟨hi,hb,hk⟩;replace a2:=xb_ hk a2 a7;replace a4:=xb_ hk a4 a8;replace a5:=xb_ hk a5 a9;replace HB:=Aside0.mk (hb);replace HI435:=Aside0.mk (hi)
  try clear hb
  try clear hk
  try clear hi
  refine hK.out _ _ ⟨cz_ a5 0,cz_ a5 1,cz_ a5 2⟩ (fun hHeld=>?_)
  clear hK K;refine nm_ (some 21) ?_
  refine pure_ (i:=4) (N:=some 2) (v:=?_) (a':=?_) (bv_ 7 31) rfl rfl (by kernel_rfl) (fun _ _ _ h=>h) (Or.inl ⟨by rfl,?_⟩) ?_ ?_
  rotate_left
  ·intro w'
   go_simp
   with_reducible rfl
  rotate_left
  ·simp only[Act.put,lstS,lstZ,lstC,i64_w,i32_w]
   rfl
  refine one_ (i:=5) (N:=none) (bv_ 7 63) rfl rfl (by kernel_rfl) (by decide) (fun K hK=>?_)
  have n6:=cz_ a2 0;have l2:=blk_frozen a2.out 0;have f0:=b5.out;have f1:=a1.out;have f2:=b4.out;have f3:=b0.out;have n7:=cz_ a2 1;have l3:=blk_frozen a2.out 1;have n8:=cz_ a2 2;have l4:=blk_frozen a2.out 2;have n9:=cz_ a2 3;have l5:=blk_frozen a2.out 3
  refine skip_ (w1:=?_) (by rfl) rfl ?_ ?_
  rotate_left
  ·go_simp
   rfl
  refine hK.out _ _ ⟨(cg_ a1 ((cg_ a1 ((cg_ a1 ((cg_ a1 (hHeld.1)))))))),(cg_ a1 ((cg_ a1 ((cg_ a1 ((cg_ a1 (hHeld.2.1)))))))),(cg_ a1 ((cg_ a1 ((cg_ a1 ((cg_ a1 (hHeld.2.2))))))))⟩ (fun hHeld=>?_)
  clear hK K
  refine one_ (i:=6) (N:=none) (bv_ 7 127) rfl rfl (by kernel_rfl) (by decide) (fun K hK=>?_)
  have o0:=cz_ a4 0;have l6:=blk_frozen a4.out 0;have f4:=b4.out;have f5:=a3.out;have f6:=b5.out;have f7:=b1.out;have o1:=cz_ a4 1;have l7:=blk_frozen a4.out 1;have o2:=cz_ a4 2;have l8:=blk_frozen a4.out 2
  refine skip_ (w1:=?_) (by rfl) rfl ?_ ?_
  rotate_left
  ·go_simp
   rfl
  refine hK.out _ _ ⟨(cg_ a3 ((cg_ a3 ((cg_ a3 (hHeld.1)))))),(cg_ a3 ((cg_ a3 ((cg_ a3 (hHeld.2.1)))))),(cg_ a3 ((cg_ a3 ((cg_ a3 (hHeld.2.2))))))⟩ (fun hHeld=>?_)
  clear hK K
  refine done_ (by kernel_rfl) ?_
  try go_wp2
  refine bodyPost_ret (results_list (rs:=[.tmp 2,.cell 3 28,.cell 4 42]) rfl (by simp) (.tmp (.cell b7 28 #[i6 i5,i6 i7,i6 i8,i6 i9] (0,0) _ rfl (bp_ a2).out Tryz.underlying28 rfl (by kernel_rfl) (.cell b8 42 #[i6 0,i6 0,i6 0] (0,0) _ rfl (bp_ a4).out Tryz.underlying42 rfl (by kernel_rfl) .nil)))) rfl ?_
  exact⟨es_,(bw_ HB).out⟩
 replace H:=oc_ H;obtain⟨⟨j5,j6,j7,j8,o3,o4⟩,o5,H⟩:=H
 simp only[Option.some.injEq,Prod.mk.injEq] at H
 obtain⟨rfl,rfl,rfl,rfl,rfl,rfl,rfl,rfl⟩:=H
 go_enter Tryz.func31,Tryz.ntmps31
 try go_wp2_with (first|((refine gd_ 3 ?_);refine by_ 3 #[i6 0,i6 0,i6 0,i6 0] 28 HB ?_;intro b7 hg p8 a2 hb d7 HB_;replace HB:=HB_;clear hb hg)|((refine gd_ 4 ?_);refine by_ 4 #[i6 0,i6 0,i6 0] 42 HB ?_;intro b8 hg p9 a4 hb d8 HB_;have b4:=bm_ a2 hg;have b5:=bn_ a2 hg;replace a2:=bb_ a2 hb;replace HB:=HB_;clear hb hg)|((refine gc_ 59 ?_);refine ge_ 9 Tryz.func59 #[.slice A0 l0.length c0] ?_;(with_reducible refine(spec_l01From.calls _ _ w _ ?b2 ?b3 ?d2 A2.out).mono ?_);(case b2=>exact(bw_ HB).out);(case b3=>exact j9.out);(case d2=>exact l1.out);rintro e q0 ⟨b6,rfl,hi,hb,hb2⟩;refine⟨_,rfl,?_⟩;have HI435:=Aside0.mk (hi);have b9:=IsS100.xn hi a2 hb2;have a7:=IsS100.xo hi a2 hb2;have d0:=IsS100.xn hi a4 hb2;have a8:=IsS100.xo hi a4 hb2;replace a2:=bb_ a2 hb2;replace a4:=bb_ a4 hb2;replace HB:=Aside0.mk (hb);clear hb hb2 hi)|((refine gc_ 60 ?_);refine ge_ 12 Tryz.func60 #[.pointer (some ⟨b6,0,none⟩)] ?_;(with_reducible refine mo_ (spec_l01Spoil.calls b6 w _ ?b2 ?b3 A3.out) ?_);(case b2=>exact(xi100_ HI435).out);(case b3=>exact(bw_ HB).out);rintro q1 ⟨hi,hb,hk⟩;replace a2:=xb_ hk a2 a7;replace a4:=xb_ hk a4 a8;replace HB:=Aside0.mk (hb);replace HI435:=Aside0.mk (hi);clear hb hk hi)|((refine gd_ 7 ?_);refine by_ 7 #[i6 0,i6 0,i6 0] 42 HB ?_;intro a6 hg q2 a5 hb d9 HB_;have b0:=bm_ a2 hg;have a1:=bn_ a2 hg;have b1:=bm_ a4 hg;have a3:=bn_ a4 hg;have d1:=IsS100.xl HI435 hg;have a9:=IsS100.xm HI435 hg;replace a2:=bb_ a2 hb;replace a4:=bb_ a4 hb;replace HI435:=IsS100.xs HI435 hb;replace HB:=HB_;clear hb hg;have:=nn_ a1;have:=nn_ a3;have:=nn_ a9;have hz37:=ch3_ a5)|((refine gc_ 61 ?_);refine ge_ 16 Tryz.func61 #[.pointer (some ⟨b6,0,none⟩),i6 3] ?_;(with_reducible refine mo_ (spec_l01Next.calls b6 w _ ?b2 ?b3 A4.out) ?_);(case b2=>exact(xi100_ HI435).out);(case b3=>exact(bw_ HB).out);rintro o6 ⟨hi,hb,hk⟩;replace a2:=xf_ hk a2 b0 a7;replace a4:=xf_ hk a4 b1 a8;replace a5:=Aside0.mk (KeepBut.blk hk (g':=a6) (o:= .cells #[i6 d3,i6 d4,i6 d5] 42 (0,0)) (bp_ a5).out a9.out (by simp));replace HB:=Aside0.mk (hb);replace HI435:=Aside0.mk (hi);(try clear hb);(try clear hk);(try clear hi)))
 replace a2:=bd_ a2;replace a4:=bd_ a4;replace a5:=bd_ a5
 replace HI435:=Aside0.mk (IsS100.drew HI435.out)
 replace HB:=be_ HB
 refine start_ (n:=7) (S:=fun w'=>c_ w' a6 0 (i6 d3)∧c_ w' a6 1 (i6 d4)∧c_ w' a6 2 (i6 d5)) (ds:=[]) (bv_ 7 0) (by kernel_rfl) rfl rfl ⟨cz_ a5 0,cz_ a5 1,cz_ a5 2⟩ (fun hHeld=>?_)
 generalize o6.drew=q3 at a2 a4 a5 HI435 HB hHeld⊢
 refine pure_ (i:=0) (N:=some 19) (v:=?_) (a':=?_) (bv_ 7 1) rfl rfl (by kernel_rfl) (fun _ _ _ h=>h) (Or.inl ⟨by rfl,?_⟩) ?_ ?_
 rotate_left
 ·intro w'
  go_simp
  with_reducible rfl
 rotate_left
 ·simp only[Act.put,lstS,lstZ,lstC,i64_w,i32_w]
  rfl
 refine pure_ (i:=1) (N:=some 20) (v:=?_) (a':=?_) (bv_ 7 3) rfl rfl (by kernel_rfl) (fun _ _ _ h=>h) (Or.inl ⟨by rfl,?_⟩) ?_ ?_
 rotate_left
 ·intro w'
  go_simp
  with_reducible rfl
 rotate_left
 ·simp only[Act.put,lstS,lstZ,lstC,i64_w,i32_w]
  rfl
 refine take_ (i:=3) (N:=some 22) (v:=?_) (a':=?_) (bv_ 7 11) rfl rfl (by kernel_rfl) (fun _ _ _ h=>h) (Or.inl ⟨by rfl,?_⟩) hHeld ?_ ?_
 rotate_left
 ·rintro w' ⟨s0,s1,s2⟩
  go_simp
  with_reducible rfl
 rotate_left
 ·simp only[Act.put,lstS,lstZ,lstC,i64_w,i32_w]
  rfl
 refine one_ (i:=2) (N:=some 21) (bv_ 7 15) rfl rfl (by kernel_rfl) (by decide) (fun K hK=>?_)
 refine gs_ Tryz.func62 #[.pointer (some ⟨b6,0,none⟩)] ?_
 with_reducible refine mo_ (spec_l04Draw.calls b6 w _ ?b2 ?b3 o5.out) ?_
 (case b2=>exact(xi100_ HI435).out);(case b3=>exact(bw_ HB).out);rintro q4 ⟨hi,hb,hk⟩;replace a2:=xb_ hk a2 a7;replace a4:=xb_ hk a4 a8;replace a5:=xb_ hk a5 a9;replace HB:=Aside0.mk (hb);replace HI435:=Aside0.mk (hi)
 try clear hb
 try clear hk
 try clear hi
 refine hK.out _ _ ⟨cz_ a5 0,cz_ a5 1,cz_ a5 2⟩ (fun hHeld=>?_)
 clear hK K;refine nm_ (some 21) ?_
 refine pure_ (i:=4) (N:=some 2) (v:=?_) (a':=?_) (bv_ 7 31) rfl rfl (by kernel_rfl) (fun _ _ _ h=>h) (Or.inl ⟨by rfl,?_⟩) ?_ ?_
 rotate_left
 ·intro w'
  go_simp
  with_reducible rfl
 rotate_left
 ·simp only[Act.put,lstS,lstZ,lstC,i64_w,i32_w]
  rfl
 refine one_ (i:=5) (N:=none) (bv_ 7 63) rfl rfl (by kernel_rfl) (by decide) (fun K hK=>?_)
 have o7:=cz_ a2 0;have l9:=blk_frozen a2.out 0;have f8:=b5.out;have f9:=a1.out;have g0:=b4.out;have g1:=b0.out;have o8:=cz_ a2 1;have m1:=blk_frozen a2.out 1;have o9:=cz_ a2 2;have m2:=blk_frozen a2.out 2;have p0:=cz_ a2 3;have m3:=blk_frozen a2.out 3
 refine skip_ (w1:=?_) (by rfl) rfl ?_ ?_
 rotate_left
 ·go_simp
  rfl
 refine hK.out _ _ ⟨(cg_ a1 ((cg_ a1 ((cg_ a1 ((cg_ a1 (hHeld.1)))))))),(cg_ a1 ((cg_ a1 ((cg_ a1 ((cg_ a1 (hHeld.2.1)))))))),(cg_ a1 ((cg_ a1 ((cg_ a1 ((cg_ a1 (hHeld.2.2))))))))⟩ (fun hHeld=>?_)
 clear hK K
 refine one_ (i:=6) (N:=none) (bv_ 7 127) rfl rfl (by kernel_rfl) (by decide) (fun K hK=>?_)
 have p1:=cz_ a4 0;have m4:=blk_frozen a4.out 0;have g2:=b4.out;have g3:=a3.out;have g4:=b5.out;have g5:=b1.out;have p2:=cz_ a4 1;have m5:=blk_frozen a4.out 1;have p3:=cz_ a4 2;have m6:=blk_frozen a4.out 2
 refine skip_ (w1:=?_) (by rfl) rfl ?_ ?_
 rotate_left
 ·go_simp
  rfl
 refine hK.out _ _ ⟨(cg_ a3 ((cg_ a3 ((cg_ a3 (hHeld.1)))))),(cg_ a3 ((cg_ a3 ((cg_ a3 (hHeld.2.1)))))),(cg_ a3 ((cg_ a3 ((cg_ a3 (hHeld.2.2))))))⟩ (fun hHeld=>?_)
 clear hK K
 refine done_ (by kernel_rfl) ?_
 try go_wp2
 refine bodyPost_ret (results_list (rs:=[.tmp 2,.cell 3 28,.cell 4 42]) rfl (by simp) (.tmp (.cell b7 28 #[i6 j5,i6 j6,i6 j7,i6 j8] (0,0) _ rfl (bp_ a2).out Tryz.underlying28 rfl (by kernel_rfl) (.cell b8 42 #[i6 d3,i6 d4,i6 d5] (0,0) _ rfl (bp_ a4).out Tryz.underlying42 rfl (by kernel_rfl) .nil)))) rfl ?_
 exact⟨es_,(bw_ HB).out⟩
/-! ### spec_DrawTriangularPart: function 8 -/
def spec_DrawTriangularPart.f (k:Nat) (l0:List Int):Option (Int×Int×Int×Int×Int):=(spec_l04With.f k l0).bind fun bt459=>(some (bt459.1,bt459.2.1,bt459.2.2.1,bt459.2.2.2.1,bt459.2.2.2.2.1))
theorem spec_DrawTriangularPart.calls {k:Nat} (A0:Option Addr) (c0:Nat) {l0:List Int} {r1 r2 r3 r4 r5:Int} (w:World) (hr0:Kd.C (Kd.int .u8) w A0 l0.length l0) (hc0:l0.length≤c0) (h:spec_DrawTriangularPart.f k l0=some (r1,r2,r3,r4,r5)):
  Calls Tryz.prog 8 #[.slice A0 l0.length c0] w fun e w'=>e= .returned (.tuple #[i6 r1,.agg #[i6 r2,i6 r3,i6 r4,i6 r5]])∧Below w.heap.size w w':=by
 have hu28:=Tryz.underlying28
 have hu42:=Tryz.underlying42
 have f7:=Aside0.mk hr0;have f8:=Aside0.mk hc0;clear hr0 hc0
 have HB:=Aside0.mk (Below.refl w.heap.size w)
 unfold spec_DrawTriangularPart.f at h;have H:=h;clear h;replace H:=oc_ H;obtain⟨⟨f9,a8,a9,b0,b1,b2,b3,b4⟩,A2,H⟩:=H
 simp only[Option.some.injEq,Prod.mk.injEq] at H
 obtain⟨rfl,rfl,rfl,rfl,rfl⟩:=H
 go_enter Tryz.func8,Tryz.ntmps8
 try go_wp2_with (first|((refine gd_ 3 ?_);refine by_ 3 #[i6 0,i6 0,i6 0,i6 0] 28 HB ?_;intro b8 hg w3 a2 hb f0 HB_;replace HB:=HB_;clear hb hg)|((refine gc_ 31 ?_);refine ge_ 9 Tryz.func31 #[.slice A0 l0.length c0] ?_;(with_reducible refine mo_ (spec_l04With.calls _ _ _ ?d0 ?d1 A2.out) ?_);(case d0=>exact ca_ (Kd.C_below f7.out HB.out));(case d1=>exact f8.out);intro w4 hb;replace a2:=bb_ a2 hb;replace HB:=bt_ HB hb;clear hb)|((refine gd_ 5 ?_);refine by_ 5 #[i6 0,i6 0,i6 0,i6 0] 28 HB ?_;intro a3 hg w5 a5 hb f1 HB_;have b5:=bm_ a2 hg;have a1:=bn_ a2 hg;replace a2:=bb_ a2 hb;replace HB:=HB_;clear hb hg)|((refine gd_ 6 ?_);refine by_ 6 #[i6 0,i6 0,i6 0] 42 HB ?_;intro a4 hg w6 a6 hb f2 HB_;have b6:=bm_ a2 hg;have a7:=bn_ a2 hg;have b7:=bm_ a5 hg;have b9:=bn_ a5 hg;replace a2:=bb_ a2 hb;replace a5:=bb_ a5 hb;replace HB:=HB_;clear hb hg;have:=nn_ a1;have:=nn_ b7;have hz9:=ch4_ a5;have:=nn_ a7;have hz11:=ch3_ a6))
 have d6:Aside0 ((((((((w6.setCell ⟨a3,0,none⟩ (i6 a8)).setCell ⟨a3,1,none⟩ (i6 a9)).setCell ⟨a3,2,none⟩ (i6 b0)).setCell ⟨a3,3,none⟩ (i6 b1)).setCell ⟨a4,0,none⟩ (i6 b2)).setCell ⟨a4,1,none⟩ (i6 b3)).setCell ⟨a4,2,none⟩ (i6 b4)).heap[b8]?=some (.cells #[i6 0,i6 0,i6 0,i6 0] 28 (0,0))):=bp_ a2
 have d7:Aside0 ((((((((w6.setCell ⟨a3,0,none⟩ (i6 a8)).setCell ⟨a3,1,none⟩ (i6 a9)).setCell ⟨a3,2,none⟩ (i6 b0)).setCell ⟨a3,3,none⟩ (i6 b1)).setCell ⟨a4,0,none⟩ (i6 b2)).setCell ⟨a4,1,none⟩ (i6 b3)).setCell ⟨a4,2,none⟩ (i6 b4)).heap[a3]?=some (.cells #[i6 a8,i6 a9,i6 b0,i6 b1] 28 (0,0))):=bp_ a5
 have d8:Aside0 ((((((((w6.setCell ⟨a3,0,none⟩ (i6 a8)).setCell ⟨a3,1,none⟩ (i6 a9)).setCell ⟨a3,2,none⟩ (i6 b0)).setCell ⟨a3,3,none⟩ (i6 b1)).setCell ⟨a4,0,none⟩ (i6 b2)).setCell ⟨a4,1,none⟩ (i6 b3)).setCell ⟨a4,2,none⟩ (i6 b4)).heap[a4]?=some (.cells #[i6 b2,i6 b3,i6 b4] 42 (0,0))):=bp_ a6
 have d9:Aside0 (Below w.heap.size w (((((((w6.setCell ⟨a3,0,none⟩ (i6 a8)).setCell ⟨a3,1,none⟩ (i6 a9)).setCell ⟨a3,2,none⟩ (i6 b0)).setCell ⟨a3,3,none⟩ (i6 b1)).setCell ⟨a4,0,none⟩ (i6 b2)).setCell ⟨a4,1,none⟩ (i6 b3)).setCell ⟨a4,2,none⟩ (i6 b4))):=bw_ HB
 try clear a2
 try clear a5
 try clear a6
 try clear HB
 generalize (((((((w6.setCell ⟨a3,0,none⟩ (i6 a8)).setCell ⟨a3,1,none⟩ (i6 a9)).setCell ⟨a3,2,none⟩ (i6 b0)).setCell ⟨a3,3,none⟩ (i6 b1)).setCell ⟨a4,0,none⟩ (i6 b2)).setCell ⟨a4,1,none⟩ (i6 b3)).setCell ⟨a4,2,none⟩ (i6 b4))=g0 at d6 d7 d8 d9⊢
 have a2:=d6
 have a5:=d7
 have a6:=d8
 have HB:=d9
 clear d6 d7 d8 d9;replace a2:=bd_ a2;replace a5:=bd_ a5;replace a6:=bd_ a6;replace HB:=be_ HB
 refine start_ (n:=4) (S:=fun w'=>c_ w' a3 0 (i6 a8)∧c_ w' a3 1 (i6 a9)∧c_ w' a3 2 (i6 b0)∧c_ w' a3 3 (i6 b1)) (ds:=[]) (bv_ 4 0) (by kernel_rfl) rfl rfl ⟨cz_ a5 0,cz_ a5 1,cz_ a5 2,cz_ a5 3⟩ (fun hHeld=>?_)
 generalize g0.drew=g5 at a2 a5 a6 HB hHeld⊢
 refine pure_ (i:=0) (N:=some 13) (v:=?_) (a':=?_) (bv_ 4 1) rfl rfl (by kernel_rfl) (fun _ _ _ h=>h) (Or.inl ⟨by rfl,?_⟩) ?_ ?_
 rotate_left
 ·intro w'
  go_simp
  with_reducible rfl
 rotate_left
 ·simp only[Act.put,lstS,lstZ,lstC,i64_w,i32_w]
  rfl
 refine pure_ (i:=2) (N:=some 2) (v:=?_) (a':=?_) (bv_ 4 5) rfl rfl (by kernel_rfl) (fun _ _ _ h=>h) (Or.inl ⟨by rfl,?_⟩) ?_ ?_
 rotate_left
 ·intro w'
  go_simp
  with_reducible rfl
 rotate_left
 ·simp only[Act.put,lstS,lstZ,lstC,i64_w,i32_w]
  rfl
 refine take_ (i:=1) (N:=some 14) (v:=?_) (a':=?_) (bv_ 4 7) rfl rfl (by kernel_rfl) (fun _ _ _ h=>h) (Or.inl ⟨by rfl,?_⟩) hHeld ?_ ?_
 rotate_left
 ·rintro w' ⟨s0,s1,s2,s3⟩
  go_simp
  with_reducible rfl
 rotate_left
 ·simp only[Act.put,lstS,lstZ,lstC,i64_w,i32_w]
  rfl
 refine one_ (i:=3) (N:=none) (bv_ 4 15) rfl rfl (by kernel_rfl) (by decide) (fun K hK=>?_)
 have g1:=cz_ a2 0;have f3:=blk_frozen a2.out 0;have d2:=a1.out;have d3:=a7.out;have d4:=b5.out;have d5:=b6.out;have g2:=cz_ a2 1;have f4:=blk_frozen a2.out 1;have g3:=cz_ a2 2;have f5:=blk_frozen a2.out 2;have g4:=cz_ a2 3;have f6:=blk_frozen a2.out 3
 refine skip_ (w1:=?_) (by rfl) rfl ?_ ?_
 rotate_left
 ·go_simp
  rfl
 refine hK.out _ _ ⟨(cg_ a1 ((cg_ a1 ((cg_ a1 ((cg_ a1 (hHeld.1)))))))),(cg_ a1 ((cg_ a1 ((cg_ a1 ((cg_ a1 (hHeld.2.1)))))))),(cg_ a1 ((cg_ a1 ((cg_ a1 ((cg_ a1 (hHeld.2.2.1)))))))),(cg_ a1 ((cg_ a1 ((cg_ a1 ((cg_ a1 (hHeld.2.2.2))))))))⟩ (fun hHeld=>?_)
 clear hK K
 refine done_ (by kernel_rfl) ?_
 try go_wp2
 refine bodyPost_ret (results_tc rfl _ _ b8 28 #[i6 a8,i6 a9,i6 b0,i6 b1] (0,0) _ rfl (bp_ a2).out Tryz.underlying28 rfl (by kernel_rfl)) rfl ?_
 exact⟨es_,(bw_ HB).out⟩
/-! ### impl_partCode: function 32 -/
def impl_partCode.f (k:Nat) (a0 a1_0 a1_1 a1_2 a1_3:Int):Option (Int):=(impl_isPrime.f a0).bind fun t470=>(if t470=true then((impl_IsMatrix.f k a1_0 a1_1 a1_2 a1_3).bind fun t471=>(if t471=true then(some 0) else(some 1))) else(some 1))
theorem impl_partCode.calls {k:Nat} {a0 a2 a3 a4 a5 r:Int} (w:World) (h:impl_partCode.f k a0 a2 a3 a4 a5=some r):
  Calls Tryz.prog 32 #[i6 a0,.agg #[i6 a2,i6 a3,i6 a4,i6 a5]] w fun e w'=>e= .returned (i6 r)∧Below w.heap.size w w':=by
 have hu28:=Tryz.underlying28
 have HB:=Aside0.mk (Below.refl w.heap.size w)
 unfold impl_partCode.f at h;have H:=h;clear h;replace H:=oc_ H;obtain⟨a8,A3,H⟩:=H;replace H:=ib_ H
 rcases H with ⟨rfl,H⟩|⟨rfl,H⟩
 ·replace H:=oc_ H
  obtain⟨a9,A5,H⟩:=H;replace H:=ib_ H
  rcases H with ⟨rfl,H⟩|⟨rfl,H⟩
  ·obtain rfl:=si_ H
   go_enter Tryz.func32,Tryz.ntmps32
   go_wp2_with (first|((refine gd_ 3 ?_);refine by_ 3 #[i6 a2,i6 a3,i6 a4,i6 a5] 28 HB ?_;intro a6 hg w7 a1 hb a7 HB_;replace HB:=HB_;clear hb hg)|((refine gc_ 63 ?_);refine ge_ 6 Tryz.func63 #[i6 a0] ?_;(with_reducible refine mo_ (impl_isPrime.calls _ A3.out) ?_);rintro w' ⟨nd,rfl⟩;have hz8:=ch4_ a1)|(go_at_call 48;(with_reducible refine(impl_IsMatrix.calls _ A5.out).mono ?_);rintro e w9 ⟨rfl,hb⟩;replace a1:=bb_ a1 hb;replace HB:=bt_ HB hb;(try clear hb)))
   go_ret;exact⟨es_,(bw_ HB).out⟩
  obtain rfl:=si_ H
  go_enter Tryz.func32,Tryz.ntmps32
  go_wp2_with (first|((refine gd_ 3 ?_);refine by_ 3 #[i6 a2,i6 a3,i6 a4,i6 a5] 28 HB ?_;intro a6 hg b0 a1 hb a7 HB_;replace HB:=HB_;clear hb hg)|((refine gc_ 63 ?_);refine ge_ 6 Tryz.func63 #[i6 a0] ?_;(with_reducible refine mo_ (impl_isPrime.calls _ A3.out) ?_);rintro w' ⟨nd,rfl⟩;have hz11:=ch4_ a1)|(go_at_call 48;(with_reducible refine(impl_IsMatrix.calls _ A5.out).mono ?_);rintro e b1 ⟨rfl,hb⟩;replace a1:=bb_ a1 hb;replace HB:=bt_ HB hb;(try clear hb)))
  go_ret;exact⟨es_,(bw_ HB).out⟩
 obtain rfl:=si_ H
 go_enter Tryz.func32,Tryz.ntmps32
 go_wp2_with (first|((refine gd_ 3 ?_);refine by_ 3 #[i6 a2,i6 a3,i6 a4,i6 a5] 28 HB ?_;intro a6 hg b2 a1 hb a7 HB_;replace HB:=HB_;clear hb hg)|((refine gc_ 63 ?_);refine ge_ 6 Tryz.func63 #[i6 a0] ?_;(with_reducible refine mo_ (impl_isPrime.calls _ A3.out) ?_);rintro w' ⟨nd,rfl⟩))
 go_ret;exact⟨es_,(bw_ HB).out⟩
/-! ### impl_fittedMatrix: function 33 -/
def impl_fittedMatrix.f (a0_0 a0_1 a0_2 a0_3:Int) (a1:Bool):Option (Int×Int×Int×Int×Int):=if a1=true then(some (a0_0,a0_1,a0_2,a0_3,0)) else(some (0,0,0,0,3))
theorem impl_fittedMatrix.calls {a6 a7 a8 a9:Int} {a1:Bool} {r1 r2 r3 r4 r5:Int} (w:World) (h:impl_fittedMatrix.f a6 a7 a8 a9 a1=some (r1,r2,r3,r4,r5)):
  Calls Tryz.prog 33 #[.agg #[i6 a6,i6 a7,i6 a8,i6 a9],.bool a1] w fun e w'=>e= .returned (.tuple #[.agg #[i6 r1,i6 r2,i6 r3,i6 r4],i6 r5])∧Below w.heap.size w w':=by
 have hu28:=Tryz.underlying28
 have HB:=Aside0.mk (Below.refl w.heap.size w)
 unfold impl_fittedMatrix.f at h;have H:=h;clear h;replace H:=ib_ H
 rcases H with ⟨rfl,H⟩|⟨rfl,H⟩
 ·simp only[Option.some.injEq,Prod.mk.injEq] at H
  obtain⟨rfl,rfl,rfl,rfl,rfl⟩:=H
  go_enter Tryz.func33,Tryz.ntmps33
  go_wp2_with (first|((refine gd_ 2 ?_);refine by_ 2 #[i6 a6,i6 a7,i6 a8,i6 a9] 28 HB ?_;intro b1 hg w4 a2 hb b2 HB_;replace HB:=HB_;clear hb hg)|((refine gd_ 4 ?_);refine by_ 4 #[i6 0,i6 0,i6 0,i6 0] 28 HB ?_;intro b0 hg w5 a5 hb b3 HB_;have a3:=bm_ a2 hg;have a4:=bn_ a2 hg;replace a2:=bb_ a2 hb;replace HB:=HB_;clear hb hg;have:=nn_ a3;have hz7:=ch4_ a2;have hz8:=ch4_ a5))
  refine bodyPost_ret (results_ct rfl _ _ b0 28 #[i6 a6,i6 a7,i6 a8,i6 a9] (0,0) _ rfl (bp_ a5).out Tryz.underlying28 rfl (by kernel_rfl)) rfl ?_
  exact⟨es_,(bw_ HB).out⟩
 simp only[Option.some.injEq,Prod.mk.injEq] at H
 obtain⟨rfl,rfl,rfl,rfl,rfl⟩:=H
 go_enter Tryz.func33,Tryz.ntmps33
 go_wp2_with (first|((refine gd_ 2 ?_);refine by_ 2 #[i6 a6,i6 a7,i6 a8,i6 a9] 28 HB ?_;intro b1 hg w9 a2 hb b2 HB_;replace HB:=HB_;clear hb hg)|((refine gd_ 4 ?_);refine by_ 4 #[i6 0,i6 0,i6 0,i6 0] 28 HB ?_;intro b0 hg b4 a5 hb b3 HB_;have a3:=bm_ a2 hg;have a4:=bn_ a2 hg;replace a2:=bb_ a2 hb;replace HB:=HB_;clear hb hg;have:=nn_ a4;have hz12:=ch4_ a5))
 refine bodyPost_ret (results_ct rfl _ _ b0 28 #[i6 0,i6 0,i6 0,i6 0] (0,0) _ rfl (bp_ a5).out Tryz.underlying28 rfl (by kernel_rfl)) rfl ?_
 exact⟨es_,(bw_ HB).out⟩
/-! ### impl_valuation: function 42 -/
def impl_valuation.l0:Nat→Int→Int→Int→Option (Int)
 |0,_,_,_=>none
 |k+1,x0,x1,x5=>if x0=0 then(none) else(if (Int.tmod x1 x0)=0 then(impl_valuation.l0 k x0 (wrap64 (Int.tdiv x1 x0)) (wrap64 (x5+1))) else(some x5))
def impl_valuation.f (k:Nat) (a0 a1:Int):Option (Int):=if a1=0 then(some 1000) else(impl_valuation.l0 k a0 a1 0)
theorem impl_valuation.calls {k:Nat} {a0 a1 r:Int} (w:World) (h:impl_valuation.f k a0 a1=some r):
  Calls Tryz.prog 42 #[i6 a0,i6 a1] w fun e w'=>e= .returned (i6 r)∧Drawn0 w w':=by
 unfold impl_valuation.f at h;have H:=h;clear h;replace H:=ie_ H
 rcases H with ⟨a4,a5,H⟩|⟨c3,a4,a5,H⟩
 ·obtain rfl:=si_ H
  go_enter Tryz.func42,Tryz.ntmps42
  go_wp2
  go_ret
  exact⟨en_,de_⟩
 have H':=Aside0.mk H
 clear H
 go_enter Tryz.func42,Tryz.ntmps42
 go_wp2
 go_loopg [1,5] k (fun kq v1 v5 w'=>∃(a2:Int) (a3:Int),v1=i6 a2∧v5=i6 a3∧Aside0 (impl_valuation.l0 kq a0 a2 a3=some r)∧Aside0 (kq≤k)∧Drawn0 w w')
 case atStart=>exact⟨(a1),(0),en_,en_,H',⟨Nat.le_refl _⟩,de_⟩
 clear H'
 try clear c3 a4 a5
 obtain⟨a2,a3,rfl,rfl,HA,a8,⟨m1,rfl⟩⟩:=hrel
 cases gk with
 |zero=>exact absurd HA.out (by simp[impl_valuation.l0])
 |succ k1=>
  have H:=HA.out;clear HA
  simp only[impl_valuation.l0] at H
  replace H:=ief_ H;obtain⟨c4,a9,b0,H⟩:=H;replace H:=ie_ H
  rcases H with ⟨a6,a7,H⟩|⟨c5,a6,a7,H⟩
  ·have H':=Aside0.mk H
   clear H
   go_wp2
   go_roundg k1
   case measure=>have:=a8.out;omega
   case rel=>exact⟨(wrap64 (Int.tdiv a2 a0)),(wrap64 (a3+1)),en_,en_,H',⟨by have:=a8.out;omega⟩,de_⟩
  obtain rfl:=si_ H
  go_wp2
  go_ret
  exact⟨en_,de_⟩
/-! ### impl_mark: function 69 -/
def impl_mark.f (k:Nat) (a0 a1_0 a1_1 a1_2:Int):Option (Int):=(impl_power.f k a0 (wrap64 (6 - a1_2))).bind fun t475=>(some (wrap64 (a1_1*t475)))
theorem impl_mark.calls {k:Nat} {a0 a2 a3 a4 r:Int} (w:World) (h:impl_mark.f k a0 a2 a3 a4=some r):
  Calls Tryz.prog 69 #[i6 a0,.agg #[i6 a2,i6 a3,i6 a4]] w fun e w'=>e= .returned (i6 r)∧Below w.heap.size w w':=by
 have hu42:=Tryz.underlying42
 have HB:=Aside0.mk (Below.refl w.heap.size w)
 unfold impl_mark.f at h;have H:=h;clear h;replace H:=oc_ H;obtain⟨a7,A3,H⟩:=H
 obtain rfl:=si_ H
 go_enter Tryz.func69,Tryz.ntmps69
 go_wp2_with (first|((refine gd_ 3 ?_);refine by_ 3 #[i6 a2,i6 a3,i6 a4] 42 HB ?_;intro a5 hg w4 a1 hb a6 HB_;replace HB:=HB_;clear hb hg;have hz5:=ch3_ a1)|(go_at_call 64;(with_reducible refine(impl_power.calls _ A3.out).mono ?_);rintro e w' ⟨rfl,⟨nd,rfl⟩⟩;(try exact dd_)))
 repeat(go_quiet (first|((refine gd_ 3 ?_);refine by_ 3 #[i6 a2,i6 a3,i6 a4] 42 HB ?_;intro a5 hg w4 a1 hb a6 HB_;replace HB:=HB_;clear hb hg;have hz5:=ch3_ a1)|(go_at_call 64;(with_reducible refine(impl_power.calls _ A3.out).mono ?_);rintro e w' ⟨rfl,⟨nd,rfl⟩⟩;(try exact dd_)));try go_wp2_with (first|((refine gd_ 3 ?_);refine by_ 3 #[i6 a2,i6 a3,i6 a4] 42 HB ?_;intro a5 hg w4 a1 hb a6 HB_;replace HB:=HB_;clear hb hg;have hz5:=ch3_ a1)|(go_at_call 64;(with_reducible refine(impl_power.calls _ A3.out).mono ?_);rintro e w' ⟨rfl,⟨nd,rfl⟩⟩;(try exact dd_))))
 go_ret;exact⟨es_,(bw_ HB).out⟩
/-! ### bits_Mul64: function 104 -/
def bits_Mul64.f (a0 a1:Int):Option (Int×Int):=some (IntKind.u64.wrap ((IntKind.u64.wrap ((IntKind.u64.wrap ((a0 / 4294967296)*(a1 / 4294967296)))+((IntKind.u64.wrap ((IntKind.u64.wrap ((a0 / 4294967296)*(Go.bits .and .u64 a1 4294967295)))+((IntKind.u64.wrap ((Go.bits .and .u64 a0 4294967295)*(Go.bits .and .u64 a1 4294967295))) / 4294967296))) / 4294967296)))+((IntKind.u64.wrap ((Go.bits .and .u64 (IntKind.u64.wrap ((IntKind.u64.wrap ((a0 / 4294967296)*(Go.bits .and .u64 a1 4294967295)))+((IntKind.u64.wrap ((Go.bits .and .u64 a0 4294967295)*(Go.bits .and .u64 a1 4294967295))) / 4294967296))) 4294967295)+(IntKind.u64.wrap ((Go.bits .and .u64 a0 4294967295)*(a1 / 4294967296))))) / 4294967296)),IntKind.u64.wrap (a0*a1))
theorem bits_Mul64.calls {a0 a1 r1 r2:Int} (w:World) (h:bits_Mul64.f a0 a1=some (r1,r2)):
  Calls Tryz.prog 104 #[.int .u64 a0,.int .u64 a1] w fun e w'=>e= .returned (.tuple #[.int .u64 r1,.int .u64 r2])∧Drawn0 w w':=by
 unfold bits_Mul64.f at h;have H:=h;clear h
 simp only[Option.some.injEq,Prod.mk.injEq] at H
 obtain⟨rfl,rfl⟩:=H
 go_enter Tryz.func104,Tryz.ntmps104
 go_wp2
 go_ret2
 exact⟨en_,de_⟩
/-! ### impl_mod: function 105 -/
def impl_mod.f (a0 a1:Int):Option (Int):=if a1=0 then(none) else(some (Int.tmod (wrap64 ((Int.tmod a0 a1)+a1)) a1))
theorem impl_mod.calls {a0 a1 r:Int} (w:World) (h:impl_mod.f a0 a1=some r):
  Calls Tryz.prog 105 #[i6 a0,i6 a1] w fun e w'=>e= .returned (i6 r)∧Drawn0 w w':=by
 unfold impl_mod.f at h;have H:=h;clear h;replace H:=ief_ H;obtain⟨c3,a2,a3,H⟩:=H
 obtain rfl:=si_ H
 go_enter Tryz.func105,Tryz.ntmps105
 go_wp2
 go_ret
 exact⟨en_,de_⟩
/-! ### bits_Len64: function 108 -/
def bits_Len64.j0:Nat→Int→Int→Option (Int)
 |0,_,_=>none
 |k+1,x0,x2=>if x0≥65536 then(if (x0 / 65536)≥256 then(if 0≤(((x0 / 65536) / 256)%256) then(if (((x0 / 65536) / 256)%256)<256 then(some (wrap64 ((wrap64 ((wrap64 (x2+16))+8))+(wrap64 (bt (⟨#[0,1,2,2,3,3,3,3,4,4,4,4,4,4,4,4,5,5,5,5,5,5,5,5,5,5,5,5,5,5,5,5,6,6,6,6,6,6,6,6,6,6,6,6,6,6,6,6,6,6,6,6,6,6,6,6,6,6,6,6,6,6,6,6,7,7,7,7,7,7,7,7,7,7,7,7,7,7,7,7,7,7,7,7,7,7,7,7,7,7,7,7,7,7,7,7,7,7,7,7,7,7,7,7,7,7,7,7,7,7,7,7,7,7,7,7,7,7,7,7,7,7,7,7,7,7,7,7,8,8,8,8,8,8,8,8,8,8,8,8,8,8,8,8,8,8,8,8,8,8,8,8,8,8,8,8,8,8,8,8,8,8,8,8,8,8,8,8,8,8,8,8,8,8,8,8,8,8,8,8,8,8,8,8,8,8,8,8,8,8,8,8,8,8,8,8,8,8,8,8,8,8,8,8,8,8,8,8,8,8,8,8,8,8,8,8,8,8,8,8,8,8,8,8,8,8,8,8,8,8,8,8,8,8,8,8,8,8,8,8,8,8,8,8,8,8,8,8,8,8,8,8,8,8,8,8]⟩:ByteArray) (((x0 / 65536) / 256)%256)))))) else(none)) else(none)) else(if 0≤((x0 / 65536)%256) then(if ((x0 / 65536)%256)<256 then(some (wrap64 ((wrap64 (x2+16))+(wrap64 (bt (⟨#[0,1,2,2,3,3,3,3,4,4,4,4,4,4,4,4,5,5,5,5,5,5,5,5,5,5,5,5,5,5,5,5,6,6,6,6,6,6,6,6,6,6,6,6,6,6,6,6,6,6,6,6,6,6,6,6,6,6,6,6,6,6,6,6,7,7,7,7,7,7,7,7,7,7,7,7,7,7,7,7,7,7,7,7,7,7,7,7,7,7,7,7,7,7,7,7,7,7,7,7,7,7,7,7,7,7,7,7,7,7,7,7,7,7,7,7,7,7,7,7,7,7,7,7,7,7,7,7,8,8,8,8,8,8,8,8,8,8,8,8,8,8,8,8,8,8,8,8,8,8,8,8,8,8,8,8,8,8,8,8,8,8,8,8,8,8,8,8,8,8,8,8,8,8,8,8,8,8,8,8,8,8,8,8,8,8,8,8,8,8,8,8,8,8,8,8,8,8,8,8,8,8,8,8,8,8,8,8,8,8,8,8,8,8,8,8,8,8,8,8,8,8,8,8,8,8,8,8,8,8,8,8,8,8,8,8,8,8,8,8,8,8,8,8,8,8,8,8,8,8,8,8,8,8,8,8]⟩:ByteArray) ((x0 / 65536)%256)))))) else(none)) else(none))) else(if x0≥256 then(if 0≤((x0 / 256)%256) then(if ((x0 / 256)%256)<256 then(some (wrap64 ((wrap64 (x2+8))+(wrap64 (bt (⟨#[0,1,2,2,3,3,3,3,4,4,4,4,4,4,4,4,5,5,5,5,5,5,5,5,5,5,5,5,5,5,5,5,6,6,6,6,6,6,6,6,6,6,6,6,6,6,6,6,6,6,6,6,6,6,6,6,6,6,6,6,6,6,6,6,7,7,7,7,7,7,7,7,7,7,7,7,7,7,7,7,7,7,7,7,7,7,7,7,7,7,7,7,7,7,7,7,7,7,7,7,7,7,7,7,7,7,7,7,7,7,7,7,7,7,7,7,7,7,7,7,7,7,7,7,7,7,7,7,8,8,8,8,8,8,8,8,8,8,8,8,8,8,8,8,8,8,8,8,8,8,8,8,8,8,8,8,8,8,8,8,8,8,8,8,8,8,8,8,8,8,8,8,8,8,8,8,8,8,8,8,8,8,8,8,8,8,8,8,8,8,8,8,8,8,8,8,8,8,8,8,8,8,8,8,8,8,8,8,8,8,8,8,8,8,8,8,8,8,8,8,8,8,8,8,8,8,8,8,8,8,8,8,8,8,8,8,8,8,8,8,8,8,8,8,8,8,8,8,8,8,8,8,8,8,8,8]⟩:ByteArray) ((x0 / 256)%256)))))) else(none)) else(none)) else(if 0≤((x0)%256) then(if ((x0)%256)<256 then(some (wrap64 (x2+(wrap64 (bt (⟨#[0,1,2,2,3,3,3,3,4,4,4,4,4,4,4,4,5,5,5,5,5,5,5,5,5,5,5,5,5,5,5,5,6,6,6,6,6,6,6,6,6,6,6,6,6,6,6,6,6,6,6,6,6,6,6,6,6,6,6,6,6,6,6,6,7,7,7,7,7,7,7,7,7,7,7,7,7,7,7,7,7,7,7,7,7,7,7,7,7,7,7,7,7,7,7,7,7,7,7,7,7,7,7,7,7,7,7,7,7,7,7,7,7,7,7,7,7,7,7,7,7,7,7,7,7,7,7,7,8,8,8,8,8,8,8,8,8,8,8,8,8,8,8,8,8,8,8,8,8,8,8,8,8,8,8,8,8,8,8,8,8,8,8,8,8,8,8,8,8,8,8,8,8,8,8,8,8,8,8,8,8,8,8,8,8,8,8,8,8,8,8,8,8,8,8,8,8,8,8,8,8,8,8,8,8,8,8,8,8,8,8,8,8,8,8,8,8,8,8,8,8,8,8,8,8,8,8,8,8,8,8,8,8,8,8,8,8,8,8,8,8,8,8,8,8,8,8,8,8,8,8,8,8,8,8,8]⟩:ByteArray) ((x0)%256)))))) else(none)) else(none)))
def bits_Len64.f (k:Nat) (a0:Int):Option (Int):=if a0≥4294967296 then(bits_Len64.j0 k (a0 / 4294967296) 32) else(bits_Len64.j0 k a0 0)
theorem bits_Len64.calls {k:Nat} {a0 r:Int} (w:World) (h:bits_Len64.f k a0=some r):
  Calls Tryz.prog 108 #[.int .u64 a0] w fun e w'=>e= .returned (i6 r)∧Drawn0 w w':=by
 unfold bits_Len64.f at h;have H:=h;clear h;have b2:=Aside0.mk H;clear H
 go_enter Tryz.func108,Tryz.ntmps108
 go_upto_if 4 with (fail)
 go_cut [0,2] (fun v0 v2 wc=>∃(kq:Nat) (a1:Int) (a6:Int),v0= .int .u64 a1∧v2=i6 a6∧Aside0 (bits_Len64.j0 kq a1 a6=some r)∧Aside0 (kq≤k)∧Drawn0 w wc)
 case first=>
  have H:=b2.out;clear b2;replace H:=in_ H
  rcases H with ⟨a2,H⟩|⟨a2,H⟩
  ·(first|rw[a2]|(simp only[i64_w,i32_w];rw[a2])|skip)
   have H':=Aside0.mk H
   clear H
   go_wp2
   go_meet
   case rel=>exact⟨_,(a0 / 4294967296),(32),en_,en_,H',⟨by first|omega|exact Nat.le_refl _⟩,de_⟩
  (first|rw[a2]|(simp only[i64_w,i32_w];rw[a2])|skip)
  have H':=Aside0.mk H
  clear H
  go_wp2
  go_meet
  case rel=>exact⟨_,(a0),(0),en_,en_,H',⟨by first|omega|exact Nat.le_refl _⟩,de_⟩
 clear b2
 try clear a2
 obtain⟨kq,a1,a6,rfl,rfl,HA,f3,⟨mc1,rfl⟩⟩:=hcut
 cases kq with
 |zero=>exact absurd HA.out (by simp[bits_Len64.j0])
 |succ f4=>
  have H:=HA.out;clear HA
  simp only[bits_Len64.j0] at H
  replace H:=in_ H
  rcases H with ⟨b3,H⟩|⟨b3,H⟩
  ·replace H:=in_ H
   rcases H with ⟨b4,H⟩|⟨b4,H⟩
   ·obtain⟨b5,b0⟩:∃j_:Int,(((a1 / 65536) / 256)%256)=j_:=⟨_,rfl⟩
    simp only[b0] at H
    replace H:=imn_ H;obtain⟨d8,H⟩:=H;replace H:=iln_ H;obtain⟨d9,H⟩:=H
    obtain rfl:=si_ H
    have p9:0≤((b5):Int):=od_
    have q9: (b5)<(256:Int):=od_
    have f5:=bt_at (⟨#[0,1,2,2,3,3,3,3,4,4,4,4,4,4,4,4,5,5,5,5,5,5,5,5,5,5,5,5,5,5,5,5,6,6,6,6,6,6,6,6,6,6,6,6,6,6,6,6,6,6,6,6,6,6,6,6,6,6,6,6,6,6,6,6,7,7,7,7,7,7,7,7,7,7,7,7,7,7,7,7,7,7,7,7,7,7,7,7,7,7,7,7,7,7,7,7,7,7,7,7,7,7,7,7,7,7,7,7,7,7,7,7,7,7,7,7,7,7,7,7,7,7,7,7,7,7,7,7,8,8,8,8,8,8,8,8,8,8,8,8,8,8,8,8,8,8,8,8,8,8,8,8,8,8,8,8,8,8,8,8,8,8,8,8,8,8,8,8,8,8,8,8,8,8,8,8,8,8,8,8,8,8,8,8,8,8,8,8,8,8,8,8,8,8,8,8,8,8,8,8,8,8,8,8,8,8,8,8,8,8,8,8,8,8,8,8,8,8,8,8,8,8,8,8,8,8,8,8,8,8,8,8,8,8,8,8,8,8,8,8,8,8,8,8,8,8,8,8,8,8,8,8,8,8,8,8]⟩:ByteArray) (b5)
    replace p9:=eq_true p9
    replace q9:=eq_true q9
    go_wp2
    go_ret
    exact⟨by first|rfl|(simp;done)|(simp only[←b0]<;>(first|rfl|simp))|(simp[*];done),de_⟩
   obtain⟨a7,a3⟩:∃j_:Int,((a1 / 65536)%256)=j_:=⟨_,rfl⟩
   simp only[a3] at H
   replace H:=imn_ H;obtain⟨b6,H⟩:=H;replace H:=iln_ H;obtain⟨b7,H⟩:=H
   obtain rfl:=si_ H
   have b8:0≤((a7):Int):=od_
   have b9: (a7)<(256:Int):=od_
   have f0:=bt_at (⟨#[0,1,2,2,3,3,3,3,4,4,4,4,4,4,4,4,5,5,5,5,5,5,5,5,5,5,5,5,5,5,5,5,6,6,6,6,6,6,6,6,6,6,6,6,6,6,6,6,6,6,6,6,6,6,6,6,6,6,6,6,6,6,6,6,7,7,7,7,7,7,7,7,7,7,7,7,7,7,7,7,7,7,7,7,7,7,7,7,7,7,7,7,7,7,7,7,7,7,7,7,7,7,7,7,7,7,7,7,7,7,7,7,7,7,7,7,7,7,7,7,7,7,7,7,7,7,7,7,8,8,8,8,8,8,8,8,8,8,8,8,8,8,8,8,8,8,8,8,8,8,8,8,8,8,8,8,8,8,8,8,8,8,8,8,8,8,8,8,8,8,8,8,8,8,8,8,8,8,8,8,8,8,8,8,8,8,8,8,8,8,8,8,8,8,8,8,8,8,8,8,8,8,8,8,8,8,8,8,8,8,8,8,8,8,8,8,8,8,8,8,8,8,8,8,8,8,8,8,8,8,8,8,8,8,8,8,8,8,8,8,8,8,8,8,8,8,8,8,8,8,8,8,8,8,8,8]⟩:ByteArray) (a7)
   replace b8:=eq_true b8
   replace b9:=eq_true b9
   go_wp2
   go_ret
   exact⟨by first|rfl|(simp;done)|(simp only[←a3]<;>(first|rfl|simp))|(simp[*];done),de_⟩
  replace H:=in_ H
  rcases H with ⟨b1,H⟩|⟨b1,H⟩
  ·obtain⟨a8,a4⟩:∃j_:Int,((a1 / 256)%256)=j_:=⟨_,rfl⟩
   simp only[a4] at H
   replace H:=imn_ H;obtain⟨d0,H⟩:=H;replace H:=iln_ H;obtain⟨d1,H⟩:=H
   obtain rfl:=si_ H
   have d2:0≤((a8):Int):=od_
   have d3: (a8)<(256:Int):=od_
   have f1:=bt_at (⟨#[0,1,2,2,3,3,3,3,4,4,4,4,4,4,4,4,5,5,5,5,5,5,5,5,5,5,5,5,5,5,5,5,6,6,6,6,6,6,6,6,6,6,6,6,6,6,6,6,6,6,6,6,6,6,6,6,6,6,6,6,6,6,6,6,7,7,7,7,7,7,7,7,7,7,7,7,7,7,7,7,7,7,7,7,7,7,7,7,7,7,7,7,7,7,7,7,7,7,7,7,7,7,7,7,7,7,7,7,7,7,7,7,7,7,7,7,7,7,7,7,7,7,7,7,7,7,7,7,8,8,8,8,8,8,8,8,8,8,8,8,8,8,8,8,8,8,8,8,8,8,8,8,8,8,8,8,8,8,8,8,8,8,8,8,8,8,8,8,8,8,8,8,8,8,8,8,8,8,8,8,8,8,8,8,8,8,8,8,8,8,8,8,8,8,8,8,8,8,8,8,8,8,8,8,8,8,8,8,8,8,8,8,8,8,8,8,8,8,8,8,8,8,8,8,8,8,8,8,8,8,8,8,8,8,8,8,8,8,8,8,8,8,8,8,8,8,8,8,8,8,8,8,8,8,8,8]⟩:ByteArray) (a8)
   replace d2:=eq_true d2
   replace d3:=eq_true d3
   go_wp2
   go_ret
   exact⟨by first|rfl|(simp;done)|(simp only[←a4]<;>(first|rfl|simp))|(simp[*];done),de_⟩
  obtain⟨a9,a5⟩:∃j_:Int,((a1)%256)=j_:=⟨_,rfl⟩
  simp only[a5] at H
  replace H:=imn_ H;obtain⟨d4,H⟩:=H;replace H:=iln_ H;obtain⟨d5,H⟩:=H
  obtain rfl:=si_ H
  have d6:0≤((a9):Int):=od_
  have d7: (a9)<(256:Int):=od_
  have f2:=bt_at (⟨#[0,1,2,2,3,3,3,3,4,4,4,4,4,4,4,4,5,5,5,5,5,5,5,5,5,5,5,5,5,5,5,5,6,6,6,6,6,6,6,6,6,6,6,6,6,6,6,6,6,6,6,6,6,6,6,6,6,6,6,6,6,6,6,6,7,7,7,7,7,7,7,7,7,7,7,7,7,7,7,7,7,7,7,7,7,7,7,7,7,7,7,7,7,7,7,7,7,7,7,7,7,7,7,7,7,7,7,7,7,7,7,7,7,7,7,7,7,7,7,7,7,7,7,7,7,7,7,7,8,8,8,8,8,8,8,8,8,8,8,8,8,8,8,8,8,8,8,8,8,8,8,8,8,8,8,8,8,8,8,8,8,8,8,8,8,8,8,8,8,8,8,8,8,8,8,8,8,8,8,8,8,8,8,8,8,8,8,8,8,8,8,8,8,8,8,8,8,8,8,8,8,8,8,8,8,8,8,8,8,8,8,8,8,8,8,8,8,8,8,8,8,8,8,8,8,8,8,8,8,8,8,8,8,8,8,8,8,8,8,8,8,8,8,8,8,8,8,8,8,8,8,8,8,8,8,8]⟩:ByteArray) (a9)
  replace d6:=eq_true d6
  replace d7:=eq_true d7
  go_wp2
  go_ret
  exact⟨by first|rfl|(simp;done)|(simp only[←a5]<;>(first|rfl|simp))|(simp[*];done),de_⟩
/-! ### bits_LeadingZeros64: function 107 -/
def bits_LeadingZeros64.f (k:Nat) (a0:Int):Option (Int):=(bits_Len64.f k a0).bind fun t476=>(some (wrap64 (64 - t476)))
theorem bits_LeadingZeros64.calls {k:Nat} {a0 r:Int} (w:World) (h:bits_LeadingZeros64.f k a0=some r):
  Calls Tryz.prog 107 #[.int .u64 a0] w fun e w'=>e= .returned (i6 r)∧Drawn0 w w':=by
 unfold bits_LeadingZeros64.f at h;have H:=h;clear h;replace H:=oc_ H;obtain⟨a1,A2,H⟩:=H
 obtain rfl:=si_ H
 go_enter Tryz.func107,Tryz.ntmps107
 go_wp2_with (first|((refine gc_ 108 ?_);refine ge_ 4 Tryz.func108 #[.int .u64 a0] ?_;(with_reducible refine mo_ (bits_Len64.calls _ A2.out) ?_);rintro w' ⟨nd,rfl⟩))
 go_ret
 exact⟨en_,de_⟩
end Go.Proofs.YtblmdppbbdbbjabGreat.QP
