import Derived.Test.YtblmdppbbdbbjabGreatQPx8
import Derived.Test.YtblmdppbbdbbjabGreatQPx44
namespace Go.Proofs.YtblmdppbbdbbjabGreat.QP
open Go.RowKit Go.Proofs.YtblmdppbbdbbjabGreatW.PrintWords Go.Proofs.YtblmdppbbdbbjabGreatW.PrintLast Go.Proofs.YtblmdppbbdbbjabGreatW.PrintMore
attribute [local go_sem] isSome_setCell max2_int min2_int max_two min_two max_three min_three max_four min_four
set_option linter.unusedVariables false
set_option linter.unusedSimpArgs false
/-! ### spec_l04Draw: function 62 -/
mutual
def spec_l04Draw.j2:Nat→List Int→Int→Int→Int→Int→Int→Int→Option (Int×Int×Int×Int×Int×Int)
 |0,_,_,_,_,_,_,_=>none
 |k+1,x1000,x1001,x1002,x384000,x384001,x384002,x384003=>(spec_l01Next.f x1000 x1001 x1002 9).bind fun bt388=>(if bt388.1=0 then((spec_l01Pick.f x1000 bt388.2.1 bt388.2.2 (([2,3,4,5,9]:List Int))).bind fun bt394=>((spec_l01Next.f x1000 bt394.2.1 bt394.2.2 5).bind fun bt397=>(spec_l04Draw.j3 k x1000 bt397.2.1 bt397.2.2 bt394.1 (wrap64 (bt397.1 - 2)) 0 1))) else(if bt388.1=1 then((spec_l01Pick.f x1000 bt388.2.1 bt388.2.2 (([2,3,4,7,1]:List Int))).bind fun bt403=>(spec_l04Draw.j3 k x1000 bt403.2.1 bt403.2.2 1 0 0 bt403.1)) else(if bt388.1=2 then((spec_l01Pick.f x1000 bt388.2.1 bt388.2.2 (([1,(-1),2,3]:List Int))).bind fun bt409=>(spec_l04Draw.j3 k x1000 bt409.2.1 bt409.2.2 0 bt409.1 1 0)) else(if bt388.1=3 then((spec_l01Next.f x1000 bt388.2.1 bt388.2.2 2001).bind fun bt412=>((spec_l01Next.f x1000 bt412.2.1 bt412.2.2 9).bind fun bt415=>((spec_l01Next.f x1000 bt415.2.1 bt415.2.2 9).bind fun bt418=>((spec_l01Next.f x1000 bt418.2.1 bt418.2.2 2001).bind fun bt421=>(spec_l04Draw.j3 k x1000 bt421.2.1 bt421.2.2 (wrap64 (bt412.1 - 1000)) bt415.1 bt418.1 (wrap64 (bt421.1 - 1000))))))) else(if bt388.1=4 then((spec_l01Next.f x1000 bt388.2.1 bt388.2.2 7).bind fun bt424=>(spec_l04Draw.j3 k x1000 bt424.2.1 bt424.2.2 1 (wrap64 (bt424.1 - 3)) 0 1)) else(spec_l04Draw.j3 k x1000 bt388.2.1 bt388.2.2 x384000 x384001 x384002 x384003))))))
def spec_l04Draw.j3:Nat→List Int→Int→Int→Int→Int→Int→Int→Option (Int×Int×Int×Int×Int×Int)
 |0,_,_,_,_,_,_,_=>none
 |k+1,x1000,x1001,x1002,x384000,x384001,x384002,x384003=>(spec_l01Next.f x1000 x1001 x1002 40).bind fun bt427=>(if bt427.1=0 then(some (1001,x384001,x384002,x384003,bt427.2.1,bt427.2.2)) else(if bt427.1=1 then(some (x384000,x384001,x384000,x384001,bt427.2.1,bt427.2.2)) else(some (x384000,x384001,x384002,x384003,bt427.2.1,bt427.2.2))))
def spec_l04Draw.l0:Nat→Int→List Int→Int→Int→Int→Int→Int→Int→Option (Int×Int×Int×Int×Int×Int)
 |0,_,_,_,_,_,_,_,_=>none
 |k+1,x4,x1000,x1001,x1002,x384000,x384001,x384002,x384003=>if x4<5 then(spec_l04Draw.l1 k x4 0 x1000 x1001 x1002 x384000 x384001 x384002 x384003) else(spec_l04Draw.j2 k x1000 x1001 x1002 x384000 x384001 x384002 x384003)
def spec_l04Draw.l1:Nat→Int→Int→List Int→Int→Int→Int→Int→Int→Int→Option (Int×Int×Int×Int×Int×Int)
 |0,_,_,_,_,_,_,_,_,_=>none
 |k+1,x4,x5,x1000,x1001,x1002,x384000,x384001,x384002,x384003=>if x5<4 then((spec_l01Next.f x1000 x1001 x1002 11).bind fun bt384=>(if x5=0 then(spec_l04Draw.l1 k x4 (wrap64 (x5+1)) x1000 bt384.2.1 bt384.2.2 (wrap64 (bt384.1 - 5)) x384001 x384002 x384003) else(if x5=1 then(spec_l04Draw.l1 k x4 (wrap64 (x5+1)) x1000 bt384.2.1 bt384.2.2 x384000 (wrap64 (bt384.1 - 5)) x384002 x384003) else(if x5=2 then(spec_l04Draw.l1 k x4 (wrap64 (x5+1)) x1000 bt384.2.1 bt384.2.2 x384000 x384001 (wrap64 (bt384.1 - 5)) x384003) else(if x5=3 then(spec_l04Draw.l1 k x4 (wrap64 (x5+1)) x1000 bt384.2.1 bt384.2.2 x384000 x384001 x384002 (wrap64 (bt384.1 - 5))) else(none)))))) else((spec_l04Det.f x384000 x384001 x384002 x384003).bind fun t387=>(if t387=0 then(spec_l04Draw.l0 k (wrap64 (x4+1)) x1000 x1001 x1002 x384000 x384001 x384002 x384003) else(spec_l04Draw.j2 k x1000 x1001 x1002 x384000 x384001 x384002 x384003)))
end
def spec_l04Draw.f (k:Nat) (s0_0:List Int) (s0_1 s0_2:Int):Option (Int×Int×Int×Int×Int×Int):=spec_l04Draw.l0 k 0 s0_0 s0_1 s0_2 0 0 0 0
def spec_l04Draw.T8:Bool×List (List Nat×List Nat):=(true,[([],[]),([0],[0]),([],[]),([2],[2]),([],[]),([4],[4]),([5],[5]),([1],[1]),([7,3,0,1,2,3,4,5,6],[3,7]),([8,6,5,0,1,2,3,4,5,6],[6,8])])
def spec_l04Draw.B8:List Nat:=[0,1,0,4,0,16,48,3,255,511]
theorem spec_l04Draw.tab8:rtab .any (opsOf Tryz.f62 8)=spec_l04Draw.T8:=by kernel_rfl
theorem spec_l04Draw.bits8:waitsOk spec_l04Draw.T8.2 spec_l04Draw.B8=true:=by kernel_rfl
set_option maxHeartbeats 8000000 in
set_option maxRecDepth 100000 in
theorem spec_l04Draw.calls {k:Nat} (g:Nat) {d5:List Int} {m8 m9 r1 r2 r3 r4 r5 r6:Int} (w0 w:World) (hI:IsS100 w0 w g d5 m8 m9) (hB:Below w0.heap.size w0 w) (h:spec_l04Draw.f k d5 m8 m9=some (r1,r2,r3,r4,r5,r6)):
  Calls Tryz.prog 62 #[.pointer (some ⟨g,0,none⟩)] w fun e w'=>e= .returned (.agg #[i6 r1,i6 r2,i6 r3,i6 r4])∧IsS100 w0 w' g d5 r5 r6∧Below w0.heap.size w0 w'∧KeepBut w w' g none:=by
 have hu28:=Tryz.underlying28
 have hu26:=Tryz.underlying26
 have HI0:=Aside0.mk hI
 have HK:=Aside0.mk (KeepBut.refl w g none)
 have HL:=Aside0.mk hB.size
 clear hI
 have HW0:=Aside0.mk hB.size
 have HB:=Aside0.mk hB;clear hB;unfold spec_l04Draw.f at h;have H:=h;clear h;have p4:=Aside0.mk H;clear H
 go_enter Tryz.func62,Tryz.ntmps62
 go_upto_block 0 with (first|((refine gd_ 2 ?_);refine bx_ 2 #[i6 0,i6 0,i6 0,i6 0] 28 ?_;intro d8 hg w3 a2 hb;have n6:=xg_ HK hg;have t5:=xh_ HW0 n6;have o2:=IsS100.xl HI0 hg;have a5:=IsS100.xm HI0 hg;replace HK:=xu_ HK hb;replace HI0:=IsS100.xs HI0 hb;replace HB:=bt_ HB hb;clear hb hg)|((refine gd_ 3 ?_);refine bx_ 3 #[i6 0,i6 0,i6 0,i6 0] 28 ?_;intro g1 hg w4 a1 hb;have n7:=xg_ HK hg;have t6:=xh_ HW0 n7;have a6:=bm_ a2 hg;have a4:=bn_ a2 hg;have o3:=IsS100.xl HI0 hg;have a3:=IsS100.xm HI0 hg;replace a2:=bb_ a2 hb;replace HK:=xu_ HK hb;replace HI0:=IsS100.xs HI0 hb;replace HB:=bt_ HB hb;clear hb hg;have:=nn_ a4;have:=nn_ a3;have hz7:=ch4_ a1))
 (try simp only[Act.put,lstS,lstZ,lstC])
 go_cut [] (fun wc=>∃(kq:Nat) (b9:Int) (d0:Int) (a9:Int) (b0:Int) (b1:Int) (b2:Int),Aside0 (spec_l04Draw.j2 kq d5 b9 d0 a9 b0 b1 b2=some (r1,r2,r3,r4,r5,r6))∧Aside0 (kq≤k)∧Aside0 (b_ wc d8 #[i6 0,i6 0,i6 0,i6 0] 28)∧Aside0 (b_ wc g1 #[i6 a9,i6 b0,i6 b1,i6 b2] 28)∧Aside0 (IsS100 w0 wc g d5 b9 d0)∧Aside0 (KeepBut w wc g none)∧Aside0 (Below w0.heap.size w0 wc))
 case first=>
  have H:=p4.out;clear p4
  have H':=Aside0.mk H
  clear H
  go_wp2
  go_loopg [4] k (fun kq v4 w'=>∃(g3:Int) (b9:Int) (d0:Int) (a9:Int) (b0:Int) (b1:Int) (b2:Int),v4=i6 g3∧Aside0 (spec_l04Draw.l0 kq g3 d5 b9 d0 a9 b0 b1 b2=some (r1,r2,r3,r4,r5,r6))∧Aside0 (kq≤k)∧Aside0 (b_ w' d8 #[i6 0,i6 0,i6 0,i6 0] 28)∧Aside0 (b_ w' g1 #[i6 a9,i6 b0,i6 b1,i6 b2] 28)∧Aside0 (IsS100 w0 w' g d5 b9 d0)∧Aside0 (KeepBut w w' g none)∧Aside0 (Below w0.heap.size w0 w'))
  case atStart=>exact⟨(0),(m8),(m9),(0),(0),(0),(0),en_,H',⟨Nat.le_refl _⟩,fl_ a2 a6,bp_ a1,xi100_ HI0,xk_ HK,bw_ HB⟩
  clear H'
  try clear hz7
  obtain⟨g3,b9,d0,a9,b0,b1,b2,rfl,HA,g2,a2,a1,HI0,HK,HB⟩:=hrel
  cases gk with
  |zero=>exact absurd HA.out (by simp[spec_l04Draw.l0])
  |succ k1=>
   have H:=HA.out;clear HA
   simp only[spec_l04Draw.l0] at H
   replace H:=il_ H
   rcases H with ⟨f4,H⟩|⟨f4,H⟩
   ·(first|rw[f4]|(simp only[i64_w,i32_w];rw[f4])|skip)
    have H':=Aside0.mk H
    clear H
    go_wp2
    go_loopg [5] k1 (fun kq v5 w'=>∃(d6:Int) (d1:Int) (d2:Int) (b3:Int) (b4:Int) (b5:Int) (b6:Int),v5=i6 d6∧Aside0 (spec_l04Draw.l1 kq g3 d6 d5 d1 d2 b3 b4 b5 b6=some (r1,r2,r3,r4,r5,r6))∧Aside0 (kq≤k1)∧Aside0 (b_ w' d8 #[i6 0,i6 0,i6 0,i6 0] 28)∧Aside0 (b_ w' g1 #[i6 b3,i6 b4,i6 b5,i6 b6] 28)∧Aside0 (IsS100 w0 w' g d5 d1 d2)∧Aside0 (KeepBut w w' g none)∧Aside0 (Below w0.heap.size w0 w'))
    case atStart=>exact⟨(0),(b9),(d0),(a9),(b0),(b1),(b2),en_,H',⟨Nat.le_refl _⟩,bl_ a2,bl_ a1,xi100_ HI0,xk_ HK,bw_ HB⟩
    clear H'
    try clear f4
    try clear hz7
    obtain⟨d6,d1,d2,b3,b4,b5,b6,rfl,HA,g4,a2,a1,HI0,HK,HB⟩:=hrel
    cases gk with
    |zero=>exact absurd HA.out (by simp[spec_l04Draw.l1])
    |succ k2=>
     have H:=HA.out;clear HA
     simp only[spec_l04Draw.l1] at H
     replace H:=il_ H
     rcases H with ⟨n0,H⟩|⟨n0,H⟩
     ·replace H:=oc_ H
      obtain⟨⟨j0,j1,j4⟩,o4,H⟩:=H
      by_cases n2:d6=0
      ·subst n2
       replace H:=i1_ H
       have H':=Aside0.mk H
       clear H
       try go_wp2
       (try(rw[drewN_self wr];generalize hq_:World.drewN wr _=wr;have g5:=bq_ a2 hq_;have g6:=bq_ a1 hq_;have g7:Aside0 (IsS100 w0 wr g d5 d1 d2):=⟨by rw[←hq_];exact(xi100_ HI0).out⟩;have g8:Aside0 (KeepBut w wr g none):=⟨by rw[←hq_];exact(xk_ HK).out⟩;have g9:Aside0 (Below w0.heap.size w0 wr):=⟨by rw[←hq_];exact(bw_ HB).out⟩;clear a2 a1 HI0 HK HB hq_;have a2:=g5;have a1:=g6;have HI0:=g7;have HK:=g8;have HB:=g9;clear g5 g6 g7 g8 g9))
       replace a2:=bd_ a2;replace a1:=bd_ a1
       replace HI0:=Aside0.mk (IsS100.drew HI0.out)
       replace HK:=Aside0.mk (keep_drew HK.out)
       replace HB:=be_ HB
       refine start_ (n:=10) (S:=fun w'=>True) (ds:=[]) (bv_ 10 0) (by kernel_rfl) rfl rfl trivial (fun hHeld=>?_);refine with_tabW spec_l04Draw.tab8 spec_l04Draw.bits8 (fun HT_ HW_=>?_)
       generalize wr.drew=ak at a2 a1 HI0 HK HB hHeld⊢
       refine px_ HT_ 0 15 1 ?_;refine px_ HT_ 1 16 3 ?_;refine px_ HT_ 2 17 7 ?_;refine px_ HT_ 3 18 15 ?_;refine px_ HT_ 4 19 31 ?_;refine px_ HT_ 7 22 159 ?_
       refine on_ HT_ 5 (some 20) (bv_ 10 191) (fun K hK=>?_)
       refine gs_ Tryz.func61 #[.pointer (some ⟨g,0,none⟩),i6 11] ?_
       with_reducible refine mo_ (spec_l01Next.calls g w0 _ ?a7 ?a8 o4.out) ?_
       (case a7=>exact(xi100_ HI0).out);(case a8=>exact(bw_ HB).out);rintro al ⟨hi,hb,hk⟩;replace a2:=xb_ hk a2 a5;replace a1:=xb_ hk a1 a3;replace HK:=xt_ HK hk;replace HB:=Aside0.mk (hb);replace HI0:=Aside0.mk (hi)
       try clear hb
       try clear hk
       try clear hi
       refine hK.out _ _ trivial (fun hHeld=>?_)
       clear hK K;refine nm_ (some 20) ?_;refine px_ HT_ 6 21 255 ?_;refine px_ HT_ 8 23 511 ?_
       refine on_ HT_ 9 none (bv_ 10 1023) (fun K hK=>?_)
       have u7:=cz_ a1 0;have t7:=blk_frozen a1.out 0;have o5:=a6.out;have o6:=a4.out
       refine skip_ (w1:=?_) (by rfl) rfl ?_ ?_
       rotate_left
       ·go_simp
        rfl
       refine hK.out _ _ trivial (fun hHeld=>?_)
       clear hK K
       refine done_ (done_of HT_.out (by kernel_rfl)) ?_
       try go_wp2
       go_roundg k2
       case measure=>have:=g2.out;have:=g4.out;omega
       case rel=>exact⟨(wrap64 (0+1)),(j1),(j4),(wrap64 (j0 - 5)),(b4),(b5),(b6),en_,H',⟨by have:=g2.out;have:=g4.out;omega⟩,fl_ a2 a6,bp_ a1,xi100_ HI0,xk_ HK,bw_ HB⟩
      rw[if_neg n2] at H
      have j7: (d6==0)=false:=beq_eq_false_iff_ne.mpr n2
      have j8: (d6 !=0)=true:=bne_iff_ne.mpr n2
      by_cases n3:d6=1
      ·subst n3
       replace H:=i1_ H
       have H':=Aside0.mk H
       clear H
       try go_wp2
       (try(rw[drewN_self wr];generalize hq_:World.drewN wr _=wr;have g5:=bq_ a2 hq_;have g6:=bq_ a1 hq_;have g7:Aside0 (IsS100 w0 wr g d5 d1 d2):=⟨by rw[←hq_];exact(xi100_ HI0).out⟩;have g8:Aside0 (KeepBut w wr g none):=⟨by rw[←hq_];exact(xk_ HK).out⟩;have g9:Aside0 (Below w0.heap.size w0 wr):=⟨by rw[←hq_];exact(bw_ HB).out⟩;clear a2 a1 HI0 HK HB hq_;have a2:=g5;have a1:=g6;have HI0:=g7;have HK:=g8;have HB:=g9;clear g5 g6 g7 g8 g9))
       replace a2:=bd_ a2;replace a1:=bd_ a1
       replace HI0:=Aside0.mk (IsS100.drew HI0.out)
       replace HK:=Aside0.mk (keep_drew HK.out)
       replace HB:=be_ HB
       refine start_ (n:=10) (S:=fun w'=>True) (ds:=[]) (bv_ 10 0) (by kernel_rfl) rfl rfl trivial (fun hHeld=>?_);refine with_tabW spec_l04Draw.tab8 spec_l04Draw.bits8 (fun HT_ HW_=>?_)
       generalize wr.drew=am at a2 a1 HI0 HK HB hHeld⊢
       refine px_ HT_ 0 15 1 ?_;refine px_ HT_ 1 16 3 ?_;refine px_ HT_ 2 17 7 ?_;refine px_ HT_ 3 18 15 ?_;refine px_ HT_ 4 19 31 ?_;refine px_ HT_ 7 22 159 ?_
       refine on_ HT_ 5 (some 20) (bv_ 10 191) (fun K hK=>?_)
       refine gs_ Tryz.func61 #[.pointer (some ⟨g,0,none⟩),i6 11] ?_
       with_reducible refine mo_ (spec_l01Next.calls g w0 _ ?a7 ?a8 o4.out) ?_
       (case a7=>exact(xi100_ HI0).out);(case a8=>exact(bw_ HB).out);rintro an ⟨hi,hb,hk⟩;replace a2:=xb_ hk a2 a5;replace a1:=xb_ hk a1 a3;replace HK:=xt_ HK hk;replace HB:=Aside0.mk (hb);replace HI0:=Aside0.mk (hi)
       try clear hb
       try clear hk
       try clear hi
       refine hK.out _ _ trivial (fun hHeld=>?_)
       clear hK K;refine nm_ (some 20) ?_;refine px_ HT_ 6 21 255 ?_;refine px_ HT_ 8 23 511 ?_
       refine on_ HT_ 9 none (bv_ 10 1023) (fun K hK=>?_)
       have u9:=cz_ a1 1;have t8:=blk_frozen a1.out 1;have o7:=a6.out;have o8:=a4.out
       refine skip_ (w1:=?_) (by rfl) rfl ?_ ?_
       rotate_left
       ·go_simp
        rfl
       refine hK.out _ _ trivial (fun hHeld=>?_)
       clear hK K
       refine done_ (done_of HT_.out (by kernel_rfl)) ?_
       try go_wp2
       go_roundg k2
       case measure=>have:=g2.out;have:=g4.out;omega
       case rel=>exact⟨(wrap64 (1+1)),(j1),(j4),(b3),(wrap64 (j0 - 5)),(b5),(b6),en_,H',⟨by have:=g2.out;have:=g4.out;omega⟩,fl_ a2 a6,bp_ a1,xi100_ HI0,xk_ HK,bw_ HB⟩
      rw[if_neg n3] at H
      have j9: (d6==1)=false:=beq_eq_false_iff_ne.mpr n3
      have l2: (d6 !=1)=true:=bne_iff_ne.mpr n3
      by_cases n4:d6=2
      ·subst n4
       replace H:=i1_ H
       have H':=Aside0.mk H
       clear H
       try go_wp2
       (try(rw[drewN_self wr];generalize hq_:World.drewN wr _=wr;have g5:=bq_ a2 hq_;have g6:=bq_ a1 hq_;have g7:Aside0 (IsS100 w0 wr g d5 d1 d2):=⟨by rw[←hq_];exact(xi100_ HI0).out⟩;have g8:Aside0 (KeepBut w wr g none):=⟨by rw[←hq_];exact(xk_ HK).out⟩;have g9:Aside0 (Below w0.heap.size w0 wr):=⟨by rw[←hq_];exact(bw_ HB).out⟩;clear a2 a1 HI0 HK HB hq_;have a2:=g5;have a1:=g6;have HI0:=g7;have HK:=g8;have HB:=g9;clear g5 g6 g7 g8 g9))
       replace a2:=bd_ a2;replace a1:=bd_ a1
       replace HI0:=Aside0.mk (IsS100.drew HI0.out)
       replace HK:=Aside0.mk (keep_drew HK.out)
       replace HB:=be_ HB
       refine start_ (n:=10) (S:=fun w'=>True) (ds:=[]) (bv_ 10 0) (by kernel_rfl) rfl rfl trivial (fun hHeld=>?_);refine with_tabW spec_l04Draw.tab8 spec_l04Draw.bits8 (fun HT_ HW_=>?_)
       generalize wr.drew=ao at a2 a1 HI0 HK HB hHeld⊢
       refine px_ HT_ 0 15 1 ?_;refine px_ HT_ 1 16 3 ?_;refine px_ HT_ 2 17 7 ?_;refine px_ HT_ 3 18 15 ?_;refine px_ HT_ 4 19 31 ?_;refine px_ HT_ 7 22 159 ?_
       refine on_ HT_ 5 (some 20) (bv_ 10 191) (fun K hK=>?_)
       refine gs_ Tryz.func61 #[.pointer (some ⟨g,0,none⟩),i6 11] ?_
       with_reducible refine mo_ (spec_l01Next.calls g w0 _ ?a7 ?a8 o4.out) ?_
       (case a7=>exact(xi100_ HI0).out);(case a8=>exact(bw_ HB).out);rintro ap ⟨hi,hb,hk⟩;replace a2:=xb_ hk a2 a5;replace a1:=xb_ hk a1 a3;replace HK:=xt_ HK hk;replace HB:=Aside0.mk (hb);replace HI0:=Aside0.mk (hi)
       try clear hb
       try clear hk
       try clear hi
       refine hK.out _ _ trivial (fun hHeld=>?_)
       clear hK K;refine nm_ (some 20) ?_;refine px_ HT_ 6 21 255 ?_;refine px_ HT_ 8 23 511 ?_
       refine on_ HT_ 9 none (bv_ 10 1023) (fun K hK=>?_)
       have v6:=cz_ a1 2;have t9:=blk_frozen a1.out 2;have o9:=a6.out;have p0:=a4.out
       refine skip_ (w1:=?_) (by rfl) rfl ?_ ?_
       rotate_left
       ·go_simp
        rfl
       refine hK.out _ _ trivial (fun hHeld=>?_)
       clear hK K
       refine done_ (done_of HT_.out (by kernel_rfl)) ?_
       try go_wp2
       go_roundg k2
       case measure=>have:=g2.out;have:=g4.out;omega
       case rel=>exact⟨(wrap64 (2+1)),(j1),(j4),(b3),(b4),(wrap64 (j0 - 5)),(b6),en_,H',⟨by have:=g2.out;have:=g4.out;omega⟩,fl_ a2 a6,bp_ a1,xi100_ HI0,xk_ HK,bw_ HB⟩
      rw[if_neg n4] at H
      have l3: (d6==2)=false:=beq_eq_false_iff_ne.mpr n4
      have l4: (d6 !=2)=true:=bne_iff_ne.mpr n4
      by_cases p1:d6=3
      ·subst p1
       replace H:=i1_ H
       have H':=Aside0.mk H
       clear H
       try go_wp2
       (try(rw[drewN_self wr];generalize hq_:World.drewN wr _=wr;have g5:=bq_ a2 hq_;have g6:=bq_ a1 hq_;have g7:Aside0 (IsS100 w0 wr g d5 d1 d2):=⟨by rw[←hq_];exact(xi100_ HI0).out⟩;have g8:Aside0 (KeepBut w wr g none):=⟨by rw[←hq_];exact(xk_ HK).out⟩;have g9:Aside0 (Below w0.heap.size w0 wr):=⟨by rw[←hq_];exact(bw_ HB).out⟩;clear a2 a1 HI0 HK HB hq_;have a2:=g5;have a1:=g6;have HI0:=g7;have HK:=g8;have HB:=g9;clear g5 g6 g7 g8 g9))
       replace a2:=bd_ a2;replace a1:=bd_ a1
       replace HI0:=Aside0.mk (IsS100.drew HI0.out)
       replace HK:=Aside0.mk (keep_drew HK.out)
       replace HB:=be_ HB
       refine start_ (n:=10) (S:=fun w'=>True) (ds:=[]) (bv_ 10 0) (by kernel_rfl) rfl rfl trivial (fun hHeld=>?_);refine with_tabW spec_l04Draw.tab8 spec_l04Draw.bits8 (fun HT_ HW_=>?_)
       generalize wr.drew=aq at a2 a1 HI0 HK HB hHeld⊢
       refine px_ HT_ 0 15 1 ?_;refine px_ HT_ 1 16 3 ?_;refine px_ HT_ 2 17 7 ?_;refine px_ HT_ 3 18 15 ?_;refine px_ HT_ 4 19 31 ?_;refine px_ HT_ 7 22 159 ?_
       refine on_ HT_ 5 (some 20) (bv_ 10 191) (fun K hK=>?_)
       refine gs_ Tryz.func61 #[.pointer (some ⟨g,0,none⟩),i6 11] ?_
       with_reducible refine mo_ (spec_l01Next.calls g w0 _ ?a7 ?a8 o4.out) ?_
       (case a7=>exact(xi100_ HI0).out);(case a8=>exact(bw_ HB).out);rintro ar ⟨hi,hb,hk⟩;replace a2:=xb_ hk a2 a5;replace a1:=xb_ hk a1 a3;replace HK:=xt_ HK hk;replace HB:=Aside0.mk (hb);replace HI0:=Aside0.mk (hi)
       try clear hb
       try clear hk
       try clear hi
       refine hK.out _ _ trivial (fun hHeld=>?_)
       clear hK K;refine nm_ (some 20) ?_;refine px_ HT_ 6 21 255 ?_;refine px_ HT_ 8 23 511 ?_
       refine on_ HT_ 9 none (bv_ 10 1023) (fun K hK=>?_)
       have v7:=cz_ a1 3;have u4:=blk_frozen a1.out 3;have p2:=a6.out;have p3:=a4.out
       refine skip_ (w1:=?_) (by rfl) rfl ?_ ?_
       rotate_left
       ·go_simp
        rfl
       refine hK.out _ _ trivial (fun hHeld=>?_)
       clear hK K
       refine done_ (done_of HT_.out (by kernel_rfl)) ?_
       try go_wp2
       go_roundg k2
       case measure=>have:=g2.out;have:=g4.out;omega
       case rel=>exact⟨(wrap64 (3+1)),(j1),(j4),(b3),(b4),(b5),(wrap64 (j0 - 5)),en_,H',⟨by have:=g2.out;have:=g4.out;omega⟩,fl_ a2 a6,bp_ a1,xi100_ HI0,xk_ HK,bw_ HB⟩
      rw[if_neg p1] at H
      exact absurd H (by simp)
     replace H:=oc_ H;obtain⟨v8,u5,H⟩:=H;replace H:=ie_ H
     rcases H with ⟨i4,i5,H⟩|⟨u6,i4,i5,H⟩
     ·have H':=Aside0.mk H
      clear H;have:=nn_ a4;have:=nn_ a3;have hz31:=ch4_ a1
      go_wp2_with (first|((refine gc_ 68 ?_);refine ge_ 25 Tryz.func68 #[.agg #[i6 b3,i6 b4,i6 b5,i6 b6]] ?_;(with_reducible refine mo_ (spec_l04Det.calls _ u5.out) ?_);intro au hb;replace a2:=bb_ a2 hb;replace a1:=bb_ a1 hb;replace HK:=xu_ HK hb;replace HB:=bt_ HB hb;replace HI0:=IsS100.xs HI0 hb;clear hb))
      go_roundg k2
      case measure=>have:=g2.out;have:=g4.out;omega
      case rel=>exact⟨(wrap64 (g3+1)),(d1),(d2),(b3),(b4),(b5),(b6),en_,H',⟨by have:=g2.out;have:=g4.out;omega⟩,bl_ a2,bl_ a1,xi100_ HI0,xk_ HK,bw_ HB⟩
     have H':=Aside0.mk H
     clear H;have:=nn_ a4;have:=nn_ a3;have hz35:=ch4_ a1
     go_wp2_with (first|((refine gc_ 68 ?_);refine ge_ 25 Tryz.func68 #[.agg #[i6 b3,i6 b4,i6 b5,i6 b6]] ?_;(with_reducible refine mo_ (spec_l04Det.calls _ u5.out) ?_);intro av hb;replace a2:=bb_ a2 hb;replace a1:=bb_ a1 hb;replace HK:=xu_ HK hb;replace HB:=bt_ HB hb;replace HI0:=IsS100.xs HI0 hb;clear hb))
     go_meet
     case rel=>exact⟨_,(d1),(d2),(b3),(b4),(b5),(b6),H',⟨by have:=g2.out;have:=g4.out;first|omega|exact Nat.le_refl _⟩,bl_ a2,bl_ a1,xi100_ HI0,xk_ HK,bw_ HB⟩
   (first|rw[f4]|(simp only[i64_w,i32_w];rw[f4])|skip)
   have H':=Aside0.mk H
   clear H
   go_wp2
   go_meet
   case rel=>exact⟨_,(b9),(d0),(a9),(b0),(b1),(b2),H',⟨by have:=g2.out;first|omega|exact Nat.le_refl _⟩,bl_ a2,bl_ a1,xi100_ HI0,xk_ HK,bw_ HB⟩
 clear p4
 try clear f4
 try clear n0
 try clear n2 j7 j8
 try clear n3 j9 l2
 try clear n4 l3 l4
 try clear p1
 try clear u6 i4 i5
 try clear hz31
 try clear hz35
 obtain⟨kq,b9,d0,a9,b0,b1,b2,HA,n5,a2,a1,HI0,HK,HB⟩:=hcut
 cases kq with
 |zero=>exact absurd HA.out (by simp[spec_l04Draw.j2])
 |succ v9=>
  have H:=HA.out;clear HA
  simp only[spec_l04Draw.j2] at H
  replace H:=oc_ H;obtain⟨⟨x0,j5,j6⟩,x1,H⟩:=H;have n1:=Aside0.mk H;clear H
  go_upto_block 4 with (first|((refine gc_ 61 ?_);refine ge_ 28 Tryz.func61 #[.pointer (some ⟨g,0,none⟩),i6 9] ?_;(with_reducible refine mo_ (spec_l01Next.calls g w0 _ ?a7 ?a8 x1.out) ?_);(case a7=>exact(xi100_ HI0).out);(case a8=>exact(bw_ HB).out);rintro aw ⟨hi,hb,hk⟩;replace a2:=xb_ hk a2 a5;replace a1:=xb_ hk a1 a3;replace HK:=xt_ HK hk;replace HB:=Aside0.mk (hb);replace HI0:=Aside0.mk (hi);clear hb hk hi))
  (try simp only[Act.put,lstS,lstZ,lstC])
  go_cut [] (fun wc=>∃(kq:Nat) (d9:Int) (f0:Int) (b8:Int) (b7:Int) (d3:Int) (d4:Int),Aside0 (spec_l04Draw.j3 kq d5 d9 f0 b8 b7 d3 d4=some (r1,r2,r3,r4,r5,r6))∧Aside0 (kq≤v9)∧Aside0 (b_ wc d8 #[i6 0,i6 0,i6 0,i6 0] 28)∧Aside0 (b_ wc g1 #[i6 b8,i6 b7,i6 d3,i6 d4] 28)∧Aside0 (IsS100 w0 wc g d5 d9 f0)∧Aside0 (KeepBut w wc g none)∧Aside0 (Below w0.heap.size w0 wc))
  case first=>
   have H:=n1.out;clear n1;replace H:=ie_ H
   rcases H with ⟨f1,l5,H⟩|⟨x2,f1,l5,H⟩
   ·(first|rw[f1]|(simp only[i64_w,i32_w];rw[f1])|skip)
    obtain⟨p5,f5⟩:∃y_:List Int,y_=(([2,3,4,5,9]:List Int)):=⟨_,rfl⟩
    first|rw[←f5,Option.bind_some] at H|rw[←f5] at H|(dsimp only at H;rw[←f5] at H)
    have l6:=Aside0.mk f5;clear f5;replace H:=oc_ H;obtain⟨⟨p6,p7,p8⟩,x3,H⟩:=H;replace H:=oc_ H;obtain⟨⟨p9,q0,q1⟩,x4,H⟩:=H
    have H':=Aside0.mk H
    clear H
    go_wp2_with (first|((refine gd_ 32 ?_);refine Kd.R_lit (Kd.int .i64) _ 2 ?hg (N:=32) ?hd (xs:=([2,3,4,5,9]:List Int)) (inner:=[i6 2,i6 3,i6 4,i6 5,i6 9]) (ok:=fun _=>True) (okp:=fun _=>True) ?hr ?hp (fun _ hk=>hk) trivial (Below.refl _ _) (Nat.le_refl _) (by simp) ?_;(case hd=>rfl);(case hg=>rfl);(case hr=>first|(go_simp;done)|(go_simp;rfl));(case hp=>exact(Reps.one (show Kd.M (Kd.int .i64) _ _ _ 2 [i6 2] from rfl) (Reps.one (show Kd.M (Kd.int .i64) _ _ _ 3 [i6 3] from rfl) (Reps.one (show Kd.M (Kd.int .i64) _ _ _ 4 [i6 4] from rfl) (Reps.one (show Kd.M (Kd.int .i64) _ _ _ 5 [i6 5] from rfl) (Reps.one (show Kd.M (Kd.int .i64) _ _ _ 9 [i6 9] from rfl) (Reps.none _ _)))))));intro x5 ax i7 hb hg_ hnew_;clear hg_ hnew_;(first|rw[←l6.out] at i7|(simp only[Int.reduceToNat] at i7;rw[←l6.out] at i7));have d7:=Aside0.mk (Kd.R_lower i7 (keep_size (w:=w) (g:=g) (row:=none) (xk_ HK).out));replace a2:=bb_ a2 hb;replace a1:=bb_ a1 hb;replace HK:=xu_ HK hb;replace HB:=bt_ HB hb;replace HI0:=IsS100.xs HI0 hb;clear hb i7;obtain⟨q2,q3,q4⟩:=Kd.R_slice d7.out;subst q4)|((refine gc_ 90 ?_);refine ge_ 33 Tryz.func90 #[.pointer (some ⟨g,0,none⟩),.slice q2 p5.length q3] ?_;(with_reducible refine mo_ (spec_l01Pick.calls g _ _ w0 _ ?a7 ?a8 ?f6 ?f7 ?f8 x3.out) ?_);(case a7=>exact(xi100_ HI0).out);(case a8=>exact(bw_ HB).out);(case f6=>exact ca_ (Kd.R_reads' d7.out).2.2);(case f7=>exact(Kd.R_reads' d7.out).2.1);(case f8=>exact far_slice (IsS100.own_ne HI0.out d7.out (by decide)));rintro ay ⟨hi,hb,hk⟩;replace a2:=xb_ hk a2 a5;replace a1:=xb_ hk a1 a3;replace d7:=Aside0.mk (Kd.R_mono (Kd.R_keep (IsS100.apart (show IsS100 w0 _ g d5 j5 j6 from (xi100_ HI0).out) (ra_ d7.out) (by decide)) hk (fun _ h=>h.2)) (fun _ h=>h.1));replace HK:=xt_ HK hk;replace HB:=Aside0.mk (hb);replace HI0:=Aside0.mk (hi);(try clear hb);(try clear hk);(try clear hi))|((refine gc_ 61 ?_);refine ge_ 35 Tryz.func61 #[.pointer (some ⟨g,0,none⟩),i6 5] ?_;(with_reducible refine mo_ (spec_l01Next.calls g w0 _ ?a7 ?a8 x4.out) ?_);(case a7=>exact(xi100_ HI0).out);(case a8=>exact(bw_ HB).out);rintro az ⟨hi,hb,hk⟩;replace a2:=xb_ hk a2 a5;replace a1:=xb_ hk a1 a3;replace d7:=Aside0.mk (Kd.R_mono (Kd.R_keep (IsS100.apart (show IsS100 w0 _ g d5 p7 p8 from (xi100_ HI0).out) (ra_ d7.out) (by decide)) hk (fun _ h=>h.2)) (fun _ h=>h.1));replace HK:=xt_ HK hk;replace HB:=Aside0.mk (hb);replace HI0:=Aside0.mk (hi);(try clear hb);(try clear hk);(try clear hi);have:=nn_ a4;have:=nn_ a3;have hz50:=ch4_ a1))
    go_meet
    case rel=>exact⟨_,(q0),(q1),(p6),(wrap64 (p9 - 2)),(0),(1),H',⟨by have:=n5.out;first|omega|exact Nat.le_refl _⟩,fl_ a2 a6,bp_ a1,xi100_ HI0,xk_ HK,bw_ HB⟩
   (first|rw[f1]|(simp only[i64_w,i32_w];rw[f1])|skip)
   replace H:=ie_ H
   rcases H with ⟨l7,l8,H⟩|⟨x6,l7,l8,H⟩
   ·obtain⟨q5,f9⟩:∃y_:List Int,y_=(([2,3,4,7,1]:List Int)):=⟨_,rfl⟩
    first|rw[←f9,Option.bind_some] at H|rw[←f9] at H|(dsimp only at H;rw[←f9] at H)
    have l9:=Aside0.mk f9;clear f9;replace H:=oc_ H;obtain⟨⟨q6,q7,q8⟩,x7,H⟩:=H
    have H':=Aside0.mk H
    clear H
    go_wp2_with (first|((refine gd_ 44 ?_);refine Kd.R_lit (Kd.int .i64) _ 2 ?hg (N:=44) ?hd (xs:=([2,3,4,7,1]:List Int)) (inner:=[i6 2,i6 3,i6 4,i6 7,i6 1]) (ok:=fun _=>True) (okp:=fun _=>True) ?hr ?hp (fun _ hk=>hk) trivial (Below.refl _ _) (Nat.le_refl _) (by simp) ?_;(case hd=>rfl);(case hg=>rfl);(case hr=>first|(go_simp;done)|(go_simp;rfl));(case hp=>exact(Reps.one (show Kd.M (Kd.int .i64) _ _ _ 2 [i6 2] from rfl) (Reps.one (show Kd.M (Kd.int .i64) _ _ _ 3 [i6 3] from rfl) (Reps.one (show Kd.M (Kd.int .i64) _ _ _ 4 [i6 4] from rfl) (Reps.one (show Kd.M (Kd.int .i64) _ _ _ 7 [i6 7] from rfl) (Reps.one (show Kd.M (Kd.int .i64) _ _ _ 1 [i6 1] from rfl) (Reps.none _ _)))))));intro x8 aA i8 hb hg_ hnew_;clear hg_ hnew_;(first|rw[←l9.out] at i8|(simp only[Int.reduceToNat] at i8;rw[←l9.out] at i8));have f2:=Aside0.mk (Kd.R_lower i8 (keep_size (w:=w) (g:=g) (row:=none) (xk_ HK).out));replace a2:=bb_ a2 hb;replace a1:=bb_ a1 hb;replace HK:=xu_ HK hb;replace HB:=bt_ HB hb;replace HI0:=IsS100.xs HI0 hb;clear hb i8;obtain⟨q9,r0,r7⟩:=Kd.R_slice f2.out;subst r7)|((refine gc_ 90 ?_);refine ge_ 45 Tryz.func90 #[.pointer (some ⟨g,0,none⟩),.slice q9 q5.length r0] ?_;(with_reducible refine mo_ (spec_l01Pick.calls g _ _ w0 _ ?a7 ?a8 ?f6 ?f7 ?f8 x7.out) ?_);(case a7=>exact(xi100_ HI0).out);(case a8=>exact(bw_ HB).out);(case f6=>exact ca_ (Kd.R_reads' f2.out).2.2);(case f7=>exact(Kd.R_reads' f2.out).2.1);(case f8=>exact far_slice (IsS100.own_ne HI0.out f2.out (by decide)));rintro aB ⟨hi,hb,hk⟩;replace a2:=xb_ hk a2 a5;replace a1:=xb_ hk a1 a3;replace f2:=Aside0.mk (Kd.R_mono (Kd.R_keep (IsS100.apart (show IsS100 w0 _ g d5 j5 j6 from (xi100_ HI0).out) (ra_ f2.out) (by decide)) hk (fun _ h=>h.2)) (fun _ h=>h.1));replace HK:=xt_ HK hk;replace HB:=Aside0.mk (hb);replace HI0:=Aside0.mk (hi);(try clear hb);(try clear hk);(try clear hi);have:=nn_ a4;have:=nn_ a3;have hz59:=ch4_ a1))
    go_meet
    case rel=>exact⟨_,(q7),(q8),(1),(0),(0),(q6),H',⟨by have:=n5.out;first|omega|exact Nat.le_refl _⟩,fl_ a2 a6,bp_ a1,xi100_ HI0,xk_ HK,bw_ HB⟩
   replace H:=ie_ H
   rcases H with ⟨m1,m2,H⟩|⟨x9,m1,m2,H⟩
   ·obtain⟨r8,g0⟩:∃y_:List Int,y_=(([1,(-1),2,3]:List Int)):=⟨_,rfl⟩
    first|rw[←g0,Option.bind_some] at H|rw[←g0] at H|(dsimp only at H;rw[←g0] at H)
    have m3:=Aside0.mk g0;clear g0;replace H:=oc_ H;obtain⟨⟨r9,s0,s1⟩,y8,H⟩:=H
    have H':=Aside0.mk H
    clear H
    go_wp2_with (first|((refine gd_ 51 ?_);refine Kd.R_lit (Kd.int .i64) _ 2 ?hg (N:=51) ?hd (xs:=([1,(-1),2,3]:List Int)) (inner:=[i6 1,i6 (-1),i6 2,i6 3]) (ok:=fun _=>True) (okp:=fun _=>True) ?hr ?hp (fun _ hk=>hk) trivial (Below.refl _ _) (Nat.le_refl _) (by simp) ?_;(case hd=>rfl);(case hg=>rfl);(case hr=>first|(go_simp;done)|(go_simp;rfl));(case hp=>exact(Reps.one (show Kd.M (Kd.int .i64) _ _ _ 1 [i6 1] from rfl) (Reps.one (show Kd.M (Kd.int .i64) _ _ _ (-1) [i6 (-1)] from rfl) (Reps.one (show Kd.M (Kd.int .i64) _ _ _ 2 [i6 2] from rfl) (Reps.one (show Kd.M (Kd.int .i64) _ _ _ 3 [i6 3] from rfl) (Reps.none _ _))))));intro y9 aC i9 hb hg_ hnew_;clear hg_ hnew_;(first|rw[←m3.out] at i9|(simp only[Int.reduceToNat] at i9;rw[←m3.out] at i9));have f3:=Aside0.mk (Kd.R_lower i9 (keep_size (w:=w) (g:=g) (row:=none) (xk_ HK).out));replace a2:=bb_ a2 hb;replace a1:=bb_ a1 hb;replace HK:=xu_ HK hb;replace HB:=bt_ HB hb;replace HI0:=IsS100.xs HI0 hb;clear hb i9;obtain⟨s2,s3,s4⟩:=Kd.R_slice f3.out;subst s4)|((refine gc_ 90 ?_);refine ge_ 52 Tryz.func90 #[.pointer (some ⟨g,0,none⟩),.slice s2 r8.length s3] ?_;(with_reducible refine mo_ (spec_l01Pick.calls g _ _ w0 _ ?a7 ?a8 ?f6 ?f7 ?f8 y8.out) ?_);(case a7=>exact(xi100_ HI0).out);(case a8=>exact(bw_ HB).out);(case f6=>exact ca_ (Kd.R_reads' f3.out).2.2);(case f7=>exact(Kd.R_reads' f3.out).2.1);(case f8=>exact far_slice (IsS100.own_ne HI0.out f3.out (by decide)));rintro aD ⟨hi,hb,hk⟩;replace a2:=xb_ hk a2 a5;replace a1:=xb_ hk a1 a3;replace f3:=Aside0.mk (Kd.R_mono (Kd.R_keep (IsS100.apart (show IsS100 w0 _ g d5 j5 j6 from (xi100_ HI0).out) (ra_ f3.out) (by decide)) hk (fun _ h=>h.2)) (fun _ h=>h.1));replace HK:=xt_ HK hk;replace HB:=Aside0.mk (hb);replace HI0:=Aside0.mk (hi);(try clear hb);(try clear hk);(try clear hi);have:=nn_ a4;have:=nn_ a3;have hz68:=ch4_ a1))
    go_meet
    case rel=>exact⟨_,(s0),(s1),(0),(r9),(1),(0),H',⟨by have:=n5.out;first|omega|exact Nat.le_refl _⟩,fl_ a2 a6,bp_ a1,xi100_ HI0,xk_ HK,bw_ HB⟩
   replace H:=ie_ H
   rcases H with ⟨m4,m5,H⟩|⟨z0,m4,m5,H⟩
   ·replace H:=oc_ H
    obtain⟨⟨s5,z1,z2⟩,z3,H⟩:=H;replace H:=oc_ H;obtain⟨⟨s6,z4,z5⟩,z6,H⟩:=H;replace H:=oc_ H;obtain⟨⟨s7,z7,z8⟩,z9,H⟩:=H;replace H:=oc_ H;obtain⟨⟨s8,s9,t0⟩,aa,H⟩:=H
    have H':=Aside0.mk H
    clear H
    go_wp2_with (first|((refine gc_ 61 ?_);refine ge_ 59 Tryz.func61 #[.pointer (some ⟨g,0,none⟩),i6 2001] ?_;(with_reducible refine mo_ (spec_l01Next.calls g w0 _ ?a7 ?a8 z3.out) ?_);(case a7=>exact(xi100_ HI0).out);(case a8=>exact(bw_ HB).out);rintro aE ⟨hi,hb,hk⟩;replace a2:=xb_ hk a2 a5;replace a1:=xb_ hk a1 a3;replace HK:=xt_ HK hk;replace HB:=Aside0.mk (hb);replace HI0:=Aside0.mk (hi);clear hb hk hi)|((refine gc_ 61 ?_);refine ge_ 62 Tryz.func61 #[.pointer (some ⟨g,0,none⟩),i6 9] ?_;(with_reducible refine mo_ (spec_l01Next.calls g w0 _ ?a7 ?a8 z6.out) ?_);(case a7=>exact(xi100_ HI0).out);(case a8=>exact(bw_ HB).out);rintro aF ⟨hi,hb,hk⟩;replace a2:=xb_ hk a2 a5;replace a1:=xb_ hk a1 a3;replace HK:=xt_ HK hk;replace HB:=Aside0.mk (hb);replace HI0:=Aside0.mk (hi);clear hb hk hi)|((refine gc_ 61 ?_);refine ge_ 65 Tryz.func61 #[.pointer (some ⟨g,0,none⟩),i6 9] ?_;(with_reducible refine mo_ (spec_l01Next.calls g w0 _ ?a7 ?a8 z9.out) ?_);(case a7=>exact(xi100_ HI0).out);(case a8=>exact(bw_ HB).out);rintro aG ⟨hi,hb,hk⟩;replace a2:=xb_ hk a2 a5;replace a1:=xb_ hk a1 a3;replace HK:=xt_ HK hk;replace HB:=Aside0.mk (hb);replace HI0:=Aside0.mk (hi);clear hb hk hi)|((refine gc_ 61 ?_);refine ge_ 67 Tryz.func61 #[.pointer (some ⟨g,0,none⟩),i6 2001] ?_;(with_reducible refine mo_ (spec_l01Next.calls g w0 _ ?a7 ?a8 aa.out) ?_);(case a7=>exact(xi100_ HI0).out);(case a8=>exact(bw_ HB).out);rintro aH ⟨hi,hb,hk⟩;replace a2:=xb_ hk a2 a5;replace a1:=xb_ hk a1 a3;replace HK:=xt_ HK hk;replace HB:=Aside0.mk (hb);replace HI0:=Aside0.mk (hi);clear hb hk hi;have:=nn_ a4;have:=nn_ a3;have hz80:=ch4_ a1))
    go_meet
    case rel=>exact⟨_,(s9),(t0),(wrap64 (s5 - 1000)),(s6),(s7),(wrap64 (s8 - 1000)),H',⟨by have:=n5.out;first|omega|exact Nat.le_refl _⟩,fl_ a2 a6,bp_ a1,xi100_ HI0,xk_ HK,bw_ HB⟩
   replace H:=ie_ H
   rcases H with ⟨m6,m7,H⟩|⟨ab,m6,m7,H⟩
   ·replace H:=oc_ H
    obtain⟨⟨t1,t2,t3⟩,ac,H⟩:=H
    have H':=Aside0.mk H
    clear H
    go_wp2_with (first|((refine gc_ 61 ?_);refine ge_ 74 Tryz.func61 #[.pointer (some ⟨g,0,none⟩),i6 7] ?_;(with_reducible refine mo_ (spec_l01Next.calls g w0 _ ?a7 ?a8 ac.out) ?_);(case a7=>exact(xi100_ HI0).out);(case a8=>exact(bw_ HB).out);rintro aI ⟨hi,hb,hk⟩;replace a2:=xb_ hk a2 a5;replace a1:=xb_ hk a1 a3;replace HK:=xt_ HK hk;replace HB:=Aside0.mk (hb);replace HI0:=Aside0.mk (hi);clear hb hk hi;have:=nn_ a4;have:=nn_ a3;have hz86:=ch4_ a1))
    go_meet
    case rel=>exact⟨_,(t2),(t3),(1),(wrap64 (t1 - 3)),(0),(1),H',⟨by have:=n5.out;first|omega|exact Nat.le_refl _⟩,fl_ a2 a6,bp_ a1,xi100_ HI0,xk_ HK,bw_ HB⟩
   have H':=Aside0.mk H
   clear H
   go_wp2
   go_meet
   case rel=>exact⟨_,(j5),(j6),(a9),(b0),(b1),(b2),H',⟨by have:=n5.out;first|omega|exact Nat.le_refl _⟩,bl_ a2,bl_ a1,xi100_ HI0,xk_ HK,bw_ HB⟩
  clear n1
  try clear f4
  try clear n0
  try clear n2 j7 j8
  try clear n3 j9 l2
  try clear n4 l3 l4
  try clear p1
  try clear u6 i4 i5
  try clear x2 f1 l5
  try clear x6 l7 l8
  try clear x9 m1 m2
  try clear z0 m4 m5
  try clear ab m6 m7
  try clear hz31
  try clear hz35
  try clear hz50
  try clear hz59
  try clear hz68
  try clear hz80
  try clear hz86
  obtain⟨kq,d9,f0,b8,b7,d3,d4,HA,ae,a2,a1,HI0,HK,HB⟩:=hcut
  cases kq with
  |zero=>exact absurd HA.out (by simp[spec_l04Draw.j3])
  |succ af=>
   have H:=HA.out;clear HA
   simp only[spec_l04Draw.j3] at H
   replace H:=oc_ H;obtain⟨⟨ag,ah,ai⟩,t4,H⟩:=H;replace H:=ie_ H
   rcases H with ⟨n8,n9,H⟩|⟨aJ,n8,n9,H⟩
   ·simp only[Option.some.injEq,Prod.mk.injEq] at H
    obtain⟨rfl,rfl,rfl,rfl,rfl,rfl⟩:=H
    go_wp2_with (first|((refine gc_ 61 ?_);refine ge_ 80 Tryz.func61 #[.pointer (some ⟨g,0,none⟩),i6 40] ?_;(with_reducible refine mo_ (spec_l01Next.calls g w0 _ ?a7 ?a8 t4.out) ?_);(case a7=>exact(xi100_ HI0).out);(case a8=>exact(bw_ HB).out);rintro aK ⟨hi,hb,hk⟩;replace a2:=xb_ hk a2 a5;replace a1:=xb_ hk a1 a3;replace HK:=xt_ HK hk;replace HB:=Aside0.mk (hb);replace HI0:=Aside0.mk (hi);clear hb hk hi;have:=nn_ a4;have:=nn_ a3;have hz92:=ch4_ a1;have:=nn_ a5;have hz94:=ch4_ a2))
    refine bodyPost_ret (results_cell_row rfl _ _ d8 28 #[i6 1001,i6 b7,i6 d3,i6 d4] (0,0) _ rfl (bp_ a2).out Tryz.underlying28 rfl (by kernel_rfl)) rfl ?_
    exact⟨es_,(xi100_ HI0).out,(bw_ HB).out,(xk_ HK).out⟩
   replace H:=ie_ H
   rcases H with ⟨o0,o1,H⟩|⟨aL,o0,o1,H⟩
   ·simp only[Option.some.injEq,Prod.mk.injEq] at H
    obtain⟨rfl,rfl,rfl,rfl,rfl,rfl⟩:=H
    go_wp2_with (first|((refine gc_ 61 ?_);refine ge_ 80 Tryz.func61 #[.pointer (some ⟨g,0,none⟩),i6 40] ?_;(with_reducible refine mo_ (spec_l01Next.calls g w0 _ ?a7 ?a8 t4.out) ?_);(case a7=>exact(xi100_ HI0).out);(case a8=>exact(bw_ HB).out);rintro aM ⟨hi,hb,hk⟩;replace a2:=xb_ hk a2 a5;replace a1:=xb_ hk a1 a3;replace HK:=xt_ HK hk;replace HB:=Aside0.mk (hb);replace HI0:=Aside0.mk (hi);clear hb hk hi;have:=nn_ a4;have:=nn_ a3;have hz99:=ch4_ a1;have:=nn_ a5;have hz101:=ch4_ a2))
    refine bodyPost_ret (results_cell_row rfl _ _ d8 28 #[i6 b8,i6 b7,i6 b8,i6 b7] (0,0) _ rfl (bp_ a2).out Tryz.underlying28 rfl (by kernel_rfl)) rfl ?_
    exact⟨es_,(xi100_ HI0).out,(bw_ HB).out,(xk_ HK).out⟩
   simp only[Option.some.injEq,Prod.mk.injEq] at H
   obtain⟨rfl,rfl,rfl,rfl,rfl,rfl⟩:=H
   go_wp2_with (first|((refine gc_ 61 ?_);refine ge_ 80 Tryz.func61 #[.pointer (some ⟨g,0,none⟩),i6 40] ?_;(with_reducible refine mo_ (spec_l01Next.calls g w0 _ ?a7 ?a8 t4.out) ?_);(case a7=>exact(xi100_ HI0).out);(case a8=>exact(bw_ HB).out);rintro aj ⟨hi,hb,hk⟩;replace a2:=xb_ hk a2 a5;replace a1:=xb_ hk a1 a3;replace HK:=xt_ HK hk;replace HB:=Aside0.mk (hb);replace HI0:=Aside0.mk (hi);clear hb hk hi;have:=nn_ a4;have:=nn_ a3;have hz105:=ch4_ a1;have:=nn_ a5;have hz107:=ch4_ a2))
   refine bodyPost_ret (results_cell_row rfl _ _ d8 28 #[i6 b8,i6 b7,i6 d3,i6 d4] (0,0) _ rfl (bp_ a2).out Tryz.underlying28 rfl (by kernel_rfl)) rfl ?_
   exact⟨es_,(xi100_ HI0).out,(bw_ HB).out,(xk_ HK).out⟩
end Go.Proofs.YtblmdppbbdbbjabGreat.QP
