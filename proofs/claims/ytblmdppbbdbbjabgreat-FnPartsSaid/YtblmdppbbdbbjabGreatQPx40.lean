import Derived.Test.YtblmdppbbdbbjabGreatQPx8
import Derived.Test.YtblmdppbbdbbjabGreatQPx32
import Derived.Test.YtblmdppbbdbbjabGreatQPx14
namespace Go.Proofs.YtblmdppbbdbbjabGreat.QP
set_option maxHeartbeats 8000000
set_option maxRecDepth 100000
open Go.RowKit Go.Proofs.YtblmdppbbdbbjabGreatW.PrintWords Go.Proofs.YtblmdppbbdbbjabGreatW.PrintLast Go.Proofs.YtblmdppbbdbbjabGreatW.PrintMore
attribute [local go_sem] isSome_setCell max2_int min2_int max_two min_two max_three min_three max_four min_four
set_option linter.unusedVariables false
set_option linter.unusedSimpArgs false
/-! ### impl_product: function 28 -/
mutual
def impl_product.l0:Nat→Int→Int→Int→Int→Int→Int→Int→Int→Int→Int→Int→Int→Int→Option (Int×Int×Int×Int×Bool)
 |0,_,_,_,_,_,_,_,_,_,_,_,_,_=>none
 |k+1,x10,x295000,x295001,x295002,x295003,x296000,x296001,x296002,x296003,x298000,x298001,x298002,x298003=>if x10<2 then(impl_product.l1 k x10 x10 0 x295000 x295001 x295002 x295003 x296000 x296001 x296002 x296003 x298000 x298001 x298002 x298003) else((impl_reduced.f k x298000 x298001 x298002 x298003).bind fun bt298=>(some (bt298.1,bt298.2.1,bt298.2.2.1,bt298.2.2.2.1,bt298.2.2.2.2)))
def impl_product.l1:Nat→Int→Int→Int→Int→Int→Int→Int→Int→Int→Int→Int→Int→Int→Int→Int→Option (Int×Int×Int×Int×Bool)
 |0,_,_,_,_,_,_,_,_,_,_,_,_,_,_,_=>none
 |k+1,x7,x10,x13,x295000,x295001,x295002,x295003,x296000,x296001,x296002,x296003,x298000,x298001,x298002,x298003=>if x13<2 then(if x7=0 then(if x13=0 then(impl_product.l1 k x7 x10 (wrap64 (x13+1)) x295000 x295001 x295002 x295003 x296000 x296001 x296002 x296003 (wrap64 ((wrap64 (x295000*x296000))+(wrap64 (x295001*x296002)))) x298001 x298002 x298003) else(if x13=1 then(impl_product.l1 k x7 x10 (wrap64 (x13+1)) x295000 x295001 x295002 x295003 x296000 x296001 x296002 x296003 x298000 (wrap64 ((wrap64 (x295000*x296001))+(wrap64 (x295001*x296003)))) x298002 x298003) else(none))) else(if x7=1 then(if x13=0 then(impl_product.l1 k x7 x10 (wrap64 (x13+1)) x295000 x295001 x295002 x295003 x296000 x296001 x296002 x296003 x298000 x298001 (wrap64 ((wrap64 (x295002*x296000))+(wrap64 (x295003*x296002)))) x298003) else(if x13=1 then(impl_product.l1 k x7 x10 (wrap64 (x13+1)) x295000 x295001 x295002 x295003 x296000 x296001 x296002 x296003 x298000 x298001 x298002 (wrap64 ((wrap64 (x295002*x296001))+(wrap64 (x295003*x296003))))) else(none))) else(none))) else(impl_product.l0 k (wrap64 (x10+1)) x295000 x295001 x295002 x295003 x296000 x296001 x296002 x296003 x298000 x298001 x298002 x298003)
end
def impl_product.f (k:Nat) (a0_0 a0_1 a0_2 a0_3 a1_0 a1_1 a1_2 a1_3:Int):Option (Int×Int×Int×Int×Bool):=impl_product.l0 k 0 a0_0 a0_1 a0_2 a0_3 a1_0 a1_1 a1_2 a1_3 0 0 0 0
def impl_product.T8:Bool×List (List Nat×List Nat):=(true,[([],[]),([],[]),([],[]),([2],[2]),([3],[3]),([4],[4]),([],[]),([],[]),([7,6],[6,7]),([8],[8]),([5,9],[5,9]),([],[]),([11],[11]),([12],[12]),([13],[13]),([],[]),([],[]),([16,15],[15,16]),([17],[17]),([14,18],[14,18]),([10,19],[10,19]),([0],[0]),([21,1,0,1,2,3,4,5,6,7,8,9,10,11,12,13,14,15,16,17,18,19,20],[1,21]),([22,20,0,1,2,3,4,5,6,7,8,9,10,11,12,13,14,15,16,17,18,19,20],[20,22])])
def impl_product.B8:List Nat:=[0,0,0,4,12,28,0,0,192,448,1020,0,2048,6144,14336,0,0,98304,229376,522240,1048572,1,4194303,8388607]
theorem impl_product.tab8:rtab .any (opsOf Tryz.f28 8)=impl_product.T8:=by kernel_rfl
theorem impl_product.bits8:waitsOk impl_product.T8.2 impl_product.B8=true:=by kernel_rfl
theorem impl_product.calls {k:Nat} {d3 d4 d5 d6 d7 d8 d9 f0 r1 r2 r3 r4:Int} {r5:Bool} (w:World) (h:impl_product.f k d3 d4 d5 d6 d7 d8 d9 f0=some (r1,r2,r3,r4,r5)):
  Calls Tryz.prog 28 #[.agg #[i6 d3,i6 d4,i6 d5,i6 d6],.agg #[i6 d7,i6 d8,i6 d9,i6 f0]] w fun e w'=>e= .returned (.tuple #[.agg #[i6 r1,i6 r2,i6 r3,i6 r4],.bool r5])∧Below w.heap.size w w':=by
 have hu28:=Tryz.underlying28
 have hu26:=Tryz.underlying26
 have HB:=Aside0.mk (Below.refl w.heap.size w)
 unfold impl_product.f at h;have H:=h;clear h
 have H':=Aside0.mk H
 clear H
 go_enter Tryz.func28,Tryz.ntmps28
 go_wp2_with (first|((refine gd_ 2 ?_);refine by_ 2 #[i6 d3,i6 d4,i6 d5,i6 d6] 28 HB ?_;intro a8 hg w3 a3 hb m2 HB_;replace HB:=HB_;clear hb hg)|((refine gd_ 3 ?_);refine by_ 3 #[i6 d7,i6 d8,i6 d9,i6 f0] 28 HB ?_;intro a9 hg w4 a4 hb m3 HB_;have f6:=bm_ a3 hg;have f7:=bn_ a3 hg;replace a3:=bb_ a3 hb;replace HB:=HB_;clear hb hg)|((refine gd_ 4 ?_);refine by_ 4 #[i6 0,i6 0,i6 0,i6 0] 28 HB ?_;intro f1 hg w5 a6 hb m4 HB_;have f8:=bm_ a3 hg;have f9:=bn_ a3 hg;have g0:=bm_ a4 hg;have g1:=bn_ a4 hg;replace a3:=bb_ a3 hb;replace a4:=bb_ a4 hb;replace HB:=HB_;clear hb hg)|((refine gd_ 6 ?_);refine by_ 6 #[i6 0,i6 0,i6 0,i6 0] 28 HB ?_;intro f4 hg w6 a5 hb m5 HB_;have a1:=bm_ a3 hg;have b5:=bn_ a3 hg;have a2:=bm_ a4 hg;have b6:=bn_ a4 hg;have a7:=bm_ a6 hg;have b4:=bn_ a6 hg;replace a3:=bb_ a3 hb;replace a4:=bb_ a4 hb;replace a6:=bb_ a6 hb;replace HB:=HB_;clear hb hg;have:=nn_ b5;have:=nn_ b6;have:=nn_ b4;have hz10:=ch4_ a5))
 go_loopg [10] k (fun kq n9 w'=>∃(d2:Int) (b7:Int) (b8:Int) (b9:Int) (d0:Int),n9=i6 d2∧Aside0 (impl_product.l0 kq d2 d3 d4 d5 d6 d7 d8 d9 f0 b7 b8 b9 d0=some (r1,r2,r3,r4,r5))∧Aside0 (kq≤k)∧Aside0 (b_ w' a8 #[i6 d3,i6 d4,i6 d5,i6 d6] 28)∧Aside0 (b_ w' a9 #[i6 d7,i6 d8,i6 d9,i6 f0] 28)∧Aside0 (b_ w' f1 #[i6 0,i6 0,i6 0,i6 0] 28)∧Aside0 (b_ w' f4 #[i6 b7,i6 b8,i6 b9,i6 d0] 28)∧Aside0 (Below w.heap.size w w'))
 case atStart=>exact⟨(0),(0),(0),(0),(0),en_,H',⟨Nat.le_refl _⟩,fl_ a3 a1,fl_ a4 a2,fl_ a6 a7,bp_ a5,bw_ HB⟩
 clear H'
 try clear hz10
 obtain⟨d2,b7,b8,b9,d0,rfl,HA,f2,a3,a4,a6,a5,HB⟩:=hrel
 cases gk with
 |zero=>exact absurd HA.out (by simp[impl_product.l0])
 |succ k1=>
  have H:=HA.out;clear HA
  simp only[impl_product.l0] at H
  replace H:=il_ H
  rcases H with ⟨f5,H⟩|⟨f5,H⟩
  ·have H':=Aside0.mk H
   clear H
   go_wp2
   go_loopg [13] k1 (fun kq o0 w'=>∃(d1:Int) (b0:Int) (b1:Int) (b2:Int) (b3:Int),o0=i6 d1∧Aside0 (impl_product.l1 kq d2 d2 d1 d3 d4 d5 d6 d7 d8 d9 f0 b0 b1 b2 b3=some (r1,r2,r3,r4,r5))∧Aside0 (kq≤k1)∧Aside0 (b_ w' a8 #[i6 d3,i6 d4,i6 d5,i6 d6] 28)∧Aside0 (b_ w' a9 #[i6 d7,i6 d8,i6 d9,i6 f0] 28)∧Aside0 (b_ w' f1 #[i6 0,i6 0,i6 0,i6 0] 28)∧Aside0 (b_ w' f4 #[i6 b0,i6 b1,i6 b2,i6 b3] 28)∧Aside0 (Below w.heap.size w w'))
   case atStart=>exact⟨(0),(b7),(b8),(b9),(d0),en_,H',⟨Nat.le_refl _⟩,bl_ a3,bl_ a4,bl_ a6,bl_ a5,bw_ HB⟩
   clear H'
   try clear f5
   try clear hz10
   obtain⟨d1,b0,b1,b2,b3,rfl,HA,f3,a3,a4,a6,a5,HB⟩:=hrel
   cases gk with
   |zero=>exact absurd HA.out (by simp[impl_product.l1])
   |succ k2=>
    have H:=HA.out;clear HA
    simp only[impl_product.l1] at H
    replace H:=il_ H
    rcases H with ⟨g2,H⟩|⟨g2,H⟩
    ·by_cases g3:d2=0
     ·subst g3
      replace H:=i1_ H
      by_cases g4:d1=0
      ·subst g4
       replace H:=i1_ H
       have H':=Aside0.mk H
       clear H
       try go_wp2
       replace a3:=bd_ a3;replace a4:=bd_ a4;replace a6:=bd_ a6;replace a5:=bd_ a5;replace HB:=be_ HB
       refine start_ (n:=24) (S:=fun w'=>c_ w' a8 0 (i6 d3)∧c_ w' a8 1 (i6 d4)∧c_ w' a8 2 (i6 d5)∧c_ w' a8 3 (i6 d6)∧c_ w' a9 0 (i6 d7)∧c_ w' a9 1 (i6 d8)∧c_ w' a9 2 (i6 d9)∧c_ w' a9 3 (i6 f0)) (ds:=[]) (bv_ 24 0) (by kernel_rfl) rfl rfl ⟨cz_ a3 0,cz_ a3 1,cz_ a3 2,cz_ a3 3,cz_ a4 0,cz_ a4 1,cz_ a4 2,cz_ a4 3⟩ (fun hHeld=>?_);refine with_tabW impl_product.tab8 impl_product.bits8 (fun HT_ HW_=>?_)
       generalize wr.drew=o7 at a3 a4 a6 a5 HB hHeld⊢
       refine px_ HT_ 0 16 1 ?_;refine px_ HT_ 1 17 3 ?_;refine px_ HT_ 2 18 7 ?_;refine px_ HT_ 3 19 15 ?_;refine px_ HT_ 4 20 31 ?_;refine px_ HT_ 6 22 95 ?_;refine px_ HT_ 7 23 223 ?_;refine px_ HT_ 8 24 479 ?_;refine px_ HT_ 11 27 2527 ?_;refine px_ HT_ 12 28 6623 ?_;refine px_ HT_ 13 29 14815 ?_;refine px_ HT_ 15 31 47583 ?_;refine px_ HT_ 16 32 113119 ?_;refine px_ HT_ 17 33 244191 ?_;refine px_ HT_ 21 37 2341343 ?_
       refine ta_ HT_ HW_ 5 (some 21) (bv_ 24 2341375) hHeld ?_ (hy:=by rintro w' ⟨s0,s1,s2,s3,s4,s5,s6,s7⟩;go_simp;with_reducible rfl)
       refine ta_ HT_ HW_ 9 (some 25) (bv_ 24 2341887) hHeld ?_ (hy:=by rintro w' ⟨s0,s1,s2,s3,s4,s5,s6,s7⟩;go_simp;with_reducible rfl)
       refine px_ HT_ 10 26 2342911 ?_
       refine ta_ HT_ HW_ 14 (some 30) (bv_ 24 2359295) hHeld ?_ (hy:=by rintro w' ⟨s0,s1,s2,s3,s4,s5,s6,s7⟩;go_simp;with_reducible rfl)
       refine ta_ HT_ HW_ 18 (some 34) (bv_ 24 2621439) hHeld ?_ (hy:=by rintro w' ⟨s0,s1,s2,s3,s4,s5,s6,s7⟩;go_simp;with_reducible rfl)
       refine px_ HT_ 19 35 3145727 ?_;refine px_ HT_ 20 36 4194303 ?_;refine px_ HT_ 22 38 8388607 ?_
       refine on_ HT_ 23 none (bv_ 24 16777215) (fun K hK=>?_)
       have o1:=cz_ a5 0;have m6:=blk_frozen a5.out 0;have g5:=a1.out;have g6:=a2.out;have g7:=a7.out;have g8:=b5.out;have g9:=b6.out;have i4:=b4.out
       refine skip_ (w1:=?_) (by rfl) rfl ?_ ?_
       rotate_left
       ·go_simp
        rfl
       refine hK.out _ _ ⟨(cg_ a1 (hHeld.1)),(cg_ a1 (hHeld.2.1)),(cg_ a1 (hHeld.2.2.1)),(cg_ a1 (hHeld.2.2.2.1)),(cg_ a2 (hHeld.2.2.2.2.1)),(cg_ a2 (hHeld.2.2.2.2.2.1)),(cg_ a2 (hHeld.2.2.2.2.2.2.1)),(cg_ a2 (hHeld.2.2.2.2.2.2.2))⟩ (fun hHeld=>?_)
       clear hK K
       refine done_ (done_of HT_.out (by kernel_rfl)) ?_
       try go_wp2
       go_roundg k2
       case measure=>have:=f2.out;have:=f3.out;omega
       case rel=>exact⟨(wrap64 (0+1)),(wrap64 ((wrap64 (d3*d7))+(wrap64 (d4*d9)))),(b1),(b2),(b3),en_,H',⟨by have:=f2.out;have:=f3.out;omega⟩,fl_ a3 a1,fl_ a4 a2,fl_ a6 a7,bp_ a5,bw_ HB⟩
      rw[if_neg g4] at H
      have m7: (d1==0)=false:=beq_eq_false_iff_ne.mpr g4
      have m8: (d1 !=0)=true:=bne_iff_ne.mpr g4
      by_cases m9:d1=1
      ·subst m9
       replace H:=i1_ H
       have H':=Aside0.mk H
       clear H
       try go_wp2
       replace a3:=bd_ a3;replace a4:=bd_ a4;replace a6:=bd_ a6;replace a5:=bd_ a5;replace HB:=be_ HB
       refine start_ (n:=24) (S:=fun w'=>c_ w' a8 0 (i6 d3)∧c_ w' a8 1 (i6 d4)∧c_ w' a8 2 (i6 d5)∧c_ w' a8 3 (i6 d6)∧c_ w' a9 0 (i6 d7)∧c_ w' a9 1 (i6 d8)∧c_ w' a9 2 (i6 d9)∧c_ w' a9 3 (i6 f0)) (ds:=[]) (bv_ 24 0) (by kernel_rfl) rfl rfl ⟨cz_ a3 0,cz_ a3 1,cz_ a3 2,cz_ a3 3,cz_ a4 0,cz_ a4 1,cz_ a4 2,cz_ a4 3⟩ (fun hHeld=>?_);refine with_tabW impl_product.tab8 impl_product.bits8 (fun HT_ HW_=>?_)
       generalize wr.drew=o8 at a3 a4 a6 a5 HB hHeld⊢
       refine px_ HT_ 0 16 1 ?_;refine px_ HT_ 1 17 3 ?_;refine px_ HT_ 2 18 7 ?_;refine px_ HT_ 3 19 15 ?_;refine px_ HT_ 4 20 31 ?_;refine px_ HT_ 6 22 95 ?_;refine px_ HT_ 7 23 223 ?_;refine px_ HT_ 8 24 479 ?_;refine px_ HT_ 11 27 2527 ?_;refine px_ HT_ 12 28 6623 ?_;refine px_ HT_ 13 29 14815 ?_;refine px_ HT_ 15 31 47583 ?_;refine px_ HT_ 16 32 113119 ?_;refine px_ HT_ 17 33 244191 ?_;refine px_ HT_ 21 37 2341343 ?_
       refine ta_ HT_ HW_ 5 (some 21) (bv_ 24 2341375) hHeld ?_ (hy:=by rintro w' ⟨s0,s1,s2,s3,s4,s5,s6,s7⟩;go_simp;with_reducible rfl)
       refine ta_ HT_ HW_ 9 (some 25) (bv_ 24 2341887) hHeld ?_ (hy:=by rintro w' ⟨s0,s1,s2,s3,s4,s5,s6,s7⟩;go_simp;with_reducible rfl)
       refine px_ HT_ 10 26 2342911 ?_
       refine ta_ HT_ HW_ 14 (some 30) (bv_ 24 2359295) hHeld ?_ (hy:=by rintro w' ⟨s0,s1,s2,s3,s4,s5,s6,s7⟩;go_simp;with_reducible rfl)
       refine ta_ HT_ HW_ 18 (some 34) (bv_ 24 2621439) hHeld ?_ (hy:=by rintro w' ⟨s0,s1,s2,s3,s4,s5,s6,s7⟩;go_simp;with_reducible rfl)
       refine px_ HT_ 19 35 3145727 ?_;refine px_ HT_ 20 36 4194303 ?_;refine px_ HT_ 22 38 8388607 ?_
       refine on_ HT_ 23 none (bv_ 24 16777215) (fun K hK=>?_)
       have o2:=cz_ a5 1;have n0:=blk_frozen a5.out 1;have i5:=a1.out;have i7:=a2.out;have i8:=a7.out;have i9:=b5.out;have j0:=b6.out;have j1:=b4.out
       refine skip_ (w1:=?_) (by rfl) rfl ?_ ?_
       rotate_left
       ·go_simp
        rfl
       refine hK.out _ _ ⟨(cg_ a1 (hHeld.1)),(cg_ a1 (hHeld.2.1)),(cg_ a1 (hHeld.2.2.1)),(cg_ a1 (hHeld.2.2.2.1)),(cg_ a2 (hHeld.2.2.2.2.1)),(cg_ a2 (hHeld.2.2.2.2.2.1)),(cg_ a2 (hHeld.2.2.2.2.2.2.1)),(cg_ a2 (hHeld.2.2.2.2.2.2.2))⟩ (fun hHeld=>?_)
       clear hK K
       refine done_ (done_of HT_.out (by kernel_rfl)) ?_
       try go_wp2
       go_roundg k2
       case measure=>have:=f2.out;have:=f3.out;omega
       case rel=>exact⟨(wrap64 (1+1)),(b0),(wrap64 ((wrap64 (d3*d8))+(wrap64 (d4*f0)))),(b2),(b3),en_,H',⟨by have:=f2.out;have:=f3.out;omega⟩,fl_ a3 a1,fl_ a4 a2,fl_ a6 a7,bp_ a5,bw_ HB⟩
      rw[if_neg m9] at H
      exact absurd H (by simp)
     rw[if_neg g3] at H
     have n1: (d2==0)=false:=beq_eq_false_iff_ne.mpr g3
     have n2: (d2 !=0)=true:=bne_iff_ne.mpr g3
     by_cases n3:d2=1
     ·subst n3
      replace H:=i1_ H
      by_cases j2:d1=0
      ·subst j2
       replace H:=i1_ H
       have H':=Aside0.mk H
       clear H
       try go_wp2
       replace a3:=bd_ a3;replace a4:=bd_ a4;replace a6:=bd_ a6;replace a5:=bd_ a5;replace HB:=be_ HB
       refine start_ (n:=24) (S:=fun w'=>c_ w' a8 0 (i6 d3)∧c_ w' a8 1 (i6 d4)∧c_ w' a8 2 (i6 d5)∧c_ w' a8 3 (i6 d6)∧c_ w' a9 0 (i6 d7)∧c_ w' a9 1 (i6 d8)∧c_ w' a9 2 (i6 d9)∧c_ w' a9 3 (i6 f0)) (ds:=[]) (bv_ 24 0) (by kernel_rfl) rfl rfl ⟨cz_ a3 0,cz_ a3 1,cz_ a3 2,cz_ a3 3,cz_ a4 0,cz_ a4 1,cz_ a4 2,cz_ a4 3⟩ (fun hHeld=>?_);refine with_tabW impl_product.tab8 impl_product.bits8 (fun HT_ HW_=>?_)
       generalize wr.drew=o9 at a3 a4 a6 a5 HB hHeld⊢
       refine px_ HT_ 0 16 1 ?_;refine px_ HT_ 1 17 3 ?_;refine px_ HT_ 2 18 7 ?_;refine px_ HT_ 3 19 15 ?_;refine px_ HT_ 4 20 31 ?_;refine px_ HT_ 6 22 95 ?_;refine px_ HT_ 7 23 223 ?_;refine px_ HT_ 8 24 479 ?_;refine px_ HT_ 11 27 2527 ?_;refine px_ HT_ 12 28 6623 ?_;refine px_ HT_ 13 29 14815 ?_;refine px_ HT_ 15 31 47583 ?_;refine px_ HT_ 16 32 113119 ?_;refine px_ HT_ 17 33 244191 ?_;refine px_ HT_ 21 37 2341343 ?_
       refine ta_ HT_ HW_ 5 (some 21) (bv_ 24 2341375) hHeld ?_ (hy:=by rintro w' ⟨s0,s1,s2,s3,s4,s5,s6,s7⟩;go_simp;with_reducible rfl)
       refine ta_ HT_ HW_ 9 (some 25) (bv_ 24 2341887) hHeld ?_ (hy:=by rintro w' ⟨s0,s1,s2,s3,s4,s5,s6,s7⟩;go_simp;with_reducible rfl)
       refine px_ HT_ 10 26 2342911 ?_
       refine ta_ HT_ HW_ 14 (some 30) (bv_ 24 2359295) hHeld ?_ (hy:=by rintro w' ⟨s0,s1,s2,s3,s4,s5,s6,s7⟩;go_simp;with_reducible rfl)
       refine ta_ HT_ HW_ 18 (some 34) (bv_ 24 2621439) hHeld ?_ (hy:=by rintro w' ⟨s0,s1,s2,s3,s4,s5,s6,s7⟩;go_simp;with_reducible rfl)
       refine px_ HT_ 19 35 3145727 ?_;refine px_ HT_ 20 36 4194303 ?_;refine px_ HT_ 22 38 8388607 ?_
       refine on_ HT_ 23 none (bv_ 24 16777215) (fun K hK=>?_)
       have o3:=cz_ a5 2;have n4:=blk_frozen a5.out 2;have j3:=a1.out;have j4:=a2.out;have j5:=a7.out;have j6:=b5.out;have j7:=b6.out;have j8:=b4.out
       refine skip_ (w1:=?_) (by rfl) rfl ?_ ?_
       rotate_left
       ·go_simp
        rfl
       refine hK.out _ _ ⟨(cg_ a1 (hHeld.1)),(cg_ a1 (hHeld.2.1)),(cg_ a1 (hHeld.2.2.1)),(cg_ a1 (hHeld.2.2.2.1)),(cg_ a2 (hHeld.2.2.2.2.1)),(cg_ a2 (hHeld.2.2.2.2.2.1)),(cg_ a2 (hHeld.2.2.2.2.2.2.1)),(cg_ a2 (hHeld.2.2.2.2.2.2.2))⟩ (fun hHeld=>?_)
       clear hK K
       refine done_ (done_of HT_.out (by kernel_rfl)) ?_
       try go_wp2
       go_roundg k2
       case measure=>have:=f2.out;have:=f3.out;omega
       case rel=>exact⟨(wrap64 (0+1)),(b0),(b1),(wrap64 ((wrap64 (d5*d7))+(wrap64 (d6*d9)))),(b3),en_,H',⟨by have:=f2.out;have:=f3.out;omega⟩,fl_ a3 a1,fl_ a4 a2,fl_ a6 a7,bp_ a5,bw_ HB⟩
      rw[if_neg j2] at H
      have n5: (d1==0)=false:=beq_eq_false_iff_ne.mpr j2
      have n6: (d1 !=0)=true:=bne_iff_ne.mpr j2
      by_cases n7:d1=1
      ·subst n7
       replace H:=i1_ H
       have H':=Aside0.mk H
       clear H
       try go_wp2
       replace a3:=bd_ a3;replace a4:=bd_ a4;replace a6:=bd_ a6;replace a5:=bd_ a5;replace HB:=be_ HB
       refine start_ (n:=24) (S:=fun w'=>c_ w' a8 0 (i6 d3)∧c_ w' a8 1 (i6 d4)∧c_ w' a8 2 (i6 d5)∧c_ w' a8 3 (i6 d6)∧c_ w' a9 0 (i6 d7)∧c_ w' a9 1 (i6 d8)∧c_ w' a9 2 (i6 d9)∧c_ w' a9 3 (i6 f0)) (ds:=[]) (bv_ 24 0) (by kernel_rfl) rfl rfl ⟨cz_ a3 0,cz_ a3 1,cz_ a3 2,cz_ a3 3,cz_ a4 0,cz_ a4 1,cz_ a4 2,cz_ a4 3⟩ (fun hHeld=>?_);refine with_tabW impl_product.tab8 impl_product.bits8 (fun HT_ HW_=>?_)
       generalize wr.drew=p0 at a3 a4 a6 a5 HB hHeld⊢
       refine px_ HT_ 0 16 1 ?_;refine px_ HT_ 1 17 3 ?_;refine px_ HT_ 2 18 7 ?_;refine px_ HT_ 3 19 15 ?_;refine px_ HT_ 4 20 31 ?_;refine px_ HT_ 6 22 95 ?_;refine px_ HT_ 7 23 223 ?_;refine px_ HT_ 8 24 479 ?_;refine px_ HT_ 11 27 2527 ?_;refine px_ HT_ 12 28 6623 ?_;refine px_ HT_ 13 29 14815 ?_;refine px_ HT_ 15 31 47583 ?_;refine px_ HT_ 16 32 113119 ?_;refine px_ HT_ 17 33 244191 ?_;refine px_ HT_ 21 37 2341343 ?_
       refine ta_ HT_ HW_ 5 (some 21) (bv_ 24 2341375) hHeld ?_ (hy:=by rintro w' ⟨s0,s1,s2,s3,s4,s5,s6,s7⟩;go_simp;with_reducible rfl)
       refine ta_ HT_ HW_ 9 (some 25) (bv_ 24 2341887) hHeld ?_ (hy:=by rintro w' ⟨s0,s1,s2,s3,s4,s5,s6,s7⟩;go_simp;with_reducible rfl)
       refine px_ HT_ 10 26 2342911 ?_
       refine ta_ HT_ HW_ 14 (some 30) (bv_ 24 2359295) hHeld ?_ (hy:=by rintro w' ⟨s0,s1,s2,s3,s4,s5,s6,s7⟩;go_simp;with_reducible rfl)
       refine ta_ HT_ HW_ 18 (some 34) (bv_ 24 2621439) hHeld ?_ (hy:=by rintro w' ⟨s0,s1,s2,s3,s4,s5,s6,s7⟩;go_simp;with_reducible rfl)
       refine px_ HT_ 19 35 3145727 ?_;refine px_ HT_ 20 36 4194303 ?_;refine px_ HT_ 22 38 8388607 ?_
       refine on_ HT_ 23 none (bv_ 24 16777215) (fun K hK=>?_)
       have o4:=cz_ a5 3;have n8:=blk_frozen a5.out 3;have j9:=a1.out;have l2:=a2.out;have l3:=a7.out;have l4:=b5.out;have l5:=b6.out;have l6:=b4.out
       refine skip_ (w1:=?_) (by rfl) rfl ?_ ?_
       rotate_left
       ·go_simp
        rfl
       refine hK.out _ _ ⟨(cg_ a1 (hHeld.1)),(cg_ a1 (hHeld.2.1)),(cg_ a1 (hHeld.2.2.1)),(cg_ a1 (hHeld.2.2.2.1)),(cg_ a2 (hHeld.2.2.2.2.1)),(cg_ a2 (hHeld.2.2.2.2.2.1)),(cg_ a2 (hHeld.2.2.2.2.2.2.1)),(cg_ a2 (hHeld.2.2.2.2.2.2.2))⟩ (fun hHeld=>?_)
       clear hK K
       refine done_ (done_of HT_.out (by kernel_rfl)) ?_
       try go_wp2
       go_roundg k2
       case measure=>have:=f2.out;have:=f3.out;omega
       case rel=>exact⟨(wrap64 (1+1)),(b0),(b1),(b2),(wrap64 ((wrap64 (d5*d8))+(wrap64 (d6*f0)))),en_,H',⟨by have:=f2.out;have:=f3.out;omega⟩,fl_ a3 a1,fl_ a4 a2,fl_ a6 a7,bp_ a5,bw_ HB⟩
      rw[if_neg n7] at H
      exact absurd H (by simp)
     rw[if_neg n3] at H
     exact absurd H (by simp)
    have H':=Aside0.mk H
    clear H
    go_wp2
    go_roundg k2
    case measure=>have:=f2.out;have:=f3.out;omega
    case rel=>exact⟨(wrap64 (d2+1)),(b0),(b1),(b2),(b3),en_,H',⟨by have:=f2.out;have:=f3.out;omega⟩,bl_ a3,bl_ a4,bl_ a6,bl_ a5,bw_ HB⟩
  replace H:=oc_ H;obtain⟨⟨l7,l8,l9,m1,o5⟩,o6,H⟩:=H
  simp only[Option.some.injEq,Prod.mk.injEq] at H
  obtain⟨rfl,rfl,rfl,rfl,rfl⟩:=H;have:=nn_ b4;have hz29:=ch4_ a5
  go_wp2_with (first|((refine gc_ 55 ?_);refine ge_ 42 Tryz.func55 #[.agg #[i6 b7,i6 b8,i6 b9,i6 d0]] ?_;(with_reducible refine mo_ (impl_reduced.calls _ o6.out) ?_);intro p1 hb;replace a6:=bb_ a6 hb;replace a5:=bb_ a5 hb;replace HB:=bt_ HB hb;clear hb;have hz31:=ch4_ a6))
  refine bodyPost_ret (results_ct rfl _ _ f1 28 #[i6 l7,i6 l8,i6 l9,i6 m1] (0,0) _ rfl (bp_ a6).out Tryz.underlying28 rfl (by kernel_rfl)) rfl ?_
  exact⟨es_,(bw_ HB).out⟩
/-! ### impl_MatrixOfSteps: function 6 -/
def impl_MatrixOfSteps.l0:Nat→Int→ByteArray→Int→Int→Int→Int→Int→Int→Option (Int×Int×Int×Int×Int)
 |0,_,_,_,_,_,_,_,_=>none
 |k+1,x0,x1,x22,x23,x310000,x310001,x310002,x310003=>if x23<x22 then(if 0≤x23 then(if x23<(x1.size:Int) then(if (bt x1 x23)=117 then((impl_product.f k x310000 x310001 x310002 x310003 1 0 0 x0).bind fun bt311=>(if bt311.2.2.2.2=true then(impl_MatrixOfSteps.l0 k x0 x1 x22 (wrap64 (x23+1)) bt311.1 bt311.2.1 bt311.2.2.1 bt311.2.2.2.1) else(some (0,0,0,0,3)))) else((impl_product.f k x310000 x310001 x310002 x310003 x0 (((bt x1 x23) - 48)%256) 0 1).bind fun bt317=>(if bt317.2.2.2.2=true then(impl_MatrixOfSteps.l0 k x0 x1 x22 (wrap64 (x23+1)) bt317.1 bt317.2.1 bt317.2.2.1 bt317.2.2.2.1) else(some (0,0,0,0,3))))) else(none)) else(none)) else(some (x310000,x310001,x310002,x310003,0))
def impl_MatrixOfSteps.f (k:Nat) (a0:Int) (a1:ByteArray):Option (Int×Int×Int×Int×Int):=(impl_stepsCode.f k a0 0 0 0 a1).bind fun t304=>(if t304=0 then((impl_one.f).bind fun bt305=>(impl_MatrixOfSteps.l0 k a0 a1 (a1.size:Int) 0 bt305.1 bt305.2.1 bt305.2.2.1 bt305.2.2.2)) else(some (0,0,0,0,t304)))
theorem impl_MatrixOfSteps.calls {k:Nat} {a0:Int} (a1:ByteArray) {r1 r2 r3 r4 r5:Int} (w:World) (h:impl_MatrixOfSteps.f k a0 a1=some (r1,r2,r3,r4,r5)):
  Calls Tryz.prog 6 #[i6 a0,.string a1] w fun e w'=>e= .returned (.tuple #[.agg #[i6 r1,i6 r2,i6 r3,i6 r4],i6 r5])∧Below w.heap.size w w':=by
 have hu28:=Tryz.underlying28
 have hu42:=Tryz.underlying42
 have hu26:=Tryz.underlying26
 have HB:=Aside0.mk (Below.refl w.heap.size w)
 unfold impl_MatrixOfSteps.f at h;have H:=h;clear h;replace H:=oc_ H;obtain⟨l8,A3,H⟩:=H;replace H:=ie_ H
 rcases H with ⟨g0,g1,H⟩|⟨c4,g0,g1,H⟩
 ·replace H:=oc_ H
  obtain⟨⟨g2,g3,g4,g5⟩,A5,H⟩:=H
  have H':=Aside0.mk H
  clear H
  go_enter Tryz.func6,Tryz.ntmps6
  go_wp2_with (first|((refine gd_ 4 ?_);refine by_ 4 #[i6 0,i6 0,i6 0,i6 0] 28 HB ?_;intro d6 hg w6 a2 hb g6 HB_;replace HB:=HB_;clear hb hg)|((refine gc_ 26 ?_);refine ge_ 15 Tryz.func26 #[i6 a0,.agg #[i6 0,i6 0,i6 0],.string a1] ?_;(with_reducible refine mo_ (impl_stepsCode.calls a1 _ A3.out) ?_);intro w7 hb;replace a2:=bb_ a2 hb;replace HB:=bt_ HB hb;clear hb)|((refine gc_ 27 ?_);refine ge_ 20 Tryz.func27 #[] ?_;(with_reducible refine mo_ (impl_one.calls g2 g3 g4 g5 _ A5.out) ?_);intro w8 hb;replace a2:=bb_ a2 hb;replace HB:=bt_ HB hb;clear hb)|((refine gd_ 7 ?_);refine by_ 7 #[i6 0,i6 0,i6 0,i6 0] 28 HB ?_;intro g7 hg w9 a3 hb l3 HB_;have d7:=bm_ a2 hg;have b4:=bn_ a2 hg;replace a2:=bb_ a2 hb;replace HB:=HB_;clear hb hg;have:=nn_ b4;have hz11:=ch4_ a3))
  go_loopg [23] k (fun kq l9 w'=>∃(a5:Int) (b5:Int) (b6:Int) (b7:Int) (b8:Int) (a6:Int) (a7:Int) (a8:Int) (a9:Int),l9=i6 a5∧Aside0 (impl_MatrixOfSteps.l0 kq a0 a1 (a1.size:Int) a5 a6 a7 a8 a9=some (r1,r2,r3,r4,r5))∧Aside0 (kq≤k)∧Aside0 (b_ w' d6 #[i6 b5,i6 b6,i6 b7,i6 b8] 28)∧Aside0 (b_ w' g7 #[i6 a6,i6 a7,i6 a8,i6 a9] 28)∧Aside0 (Below w.heap.size w w'))
  case atStart=>exact⟨(0),(0),(0),(0),(0),(g2),(g3),(g4),(g5),en_,H',⟨Nat.le_refl _⟩,fl_ a2 d7,bp_ a3,bw_ HB⟩
  clear H'
  try clear c4 g0 g1
  try clear hz11
  obtain⟨a5,b5,b6,b7,b8,a6,a7,a8,a9,rfl,HA,j2,a2,a3,HB⟩:=hrel
  cases gk with
  |zero=>exact absurd HA.out (by simp[impl_MatrixOfSteps.l0])
  |succ k1=>
   have H:=HA.out;clear HA
   simp only[impl_MatrixOfSteps.l0] at H
   replace H:=il_ H
   rcases H with ⟨g8,H⟩|⟨g8,H⟩
   ·replace H:=imn_ H
    obtain⟨l4,H⟩:=H;replace H:=iln_ H;obtain⟨l5,H⟩:=H;replace H:=ie_ H
    rcases H with ⟨g9,i4,H⟩|⟨m3,g9,i4,H⟩
    ·replace H:=oc_ H
     obtain⟨⟨j3,j4,j5,j6,m1⟩,l6,H⟩:=H;replace H:=ib_ H
     rcases H with ⟨rfl,H⟩|⟨rfl,H⟩
     ·have H':=Aside0.mk H
      clear H
      go_wp2_with (first|((refine gd_ 9 ?_);refine by_ 9 #[i6 0,i6 0,i6 0,i6 0] 28 HB ?_;intro d5 hg m4 a4 hb f4 HB_;have b0:=bm_ a2 hg;have b1:=bn_ a2 hg;have b2:=bm_ a3 hg;have b3:=bn_ a3 hg;replace a2:=bb_ a2 hb;replace a3:=bb_ a3 hb;replace HB:=HB_;clear hb hg;have:=nn_ b1;have:=nn_ b3;have hz22:=ch4_ a4;have f5:0≤(a5:Int):=od_;have f6:a5<(a1.size:Int):=od_;have f9:=bt_at a1 a5;replace f5:=eq_true f5;replace f6:=eq_true f6;have:=nn_ b4;have hz24:=ch4_ a3)|((refine gc_ 28 ?_);refine ge_ 46 Tryz.func28 #[.agg #[i6 a6,i6 a7,i6 a8,i6 a9],.agg #[i6 1,i6 0,i6 0,i6 a0]] ?_;(with_reducible refine mo_ (impl_product.calls _ l6.out) ?_);intro m5 hb;replace a2:=fb_ a2 b0 hb;replace a3:=fb_ a3 b2 hb;replace a4:=Aside0.mk (blk_below (g:=d5) (o:= .cells #[i6 1,i6 0,i6 0,i6 a0] 28 (0,0)) (bp_ a4).out hb);replace HB:=bt_ HB hb;(try clear hb))|((refine gd_ 10 ?_);refine by_ 10 #[i6 0,i6 0,i6 0,i6 0] 28 HB ?_;intro i5 hg m6 f7 hb i7 HB_;have d8:=bm_ a2 hg;have b9:=bn_ a2 hg;have d9:=bm_ a3 hg;have d0:=bn_ a3 hg;have f0:=bm_ a4 hg;have d1:=bn_ a4 hg;replace a2:=bb_ a2 hb;replace a3:=bb_ a3 hb;replace a4:=bb_ a4 hb;replace HB:=HB_;clear hb hg;have:=nn_ b9;have:=nn_ d0;have:=nn_ d1;have hz30:=ch4_ f7;have hz31:=ch4_ a3))
      go_roundg k1
      case measure=>have:=j2.out;omega
      case rel=>exact⟨(wrap64 (a5+1)),(b5),(b6),(b7),(b8),(j3),(j4),(j5),(j6),en_,H',⟨by have:=j2.out;omega⟩,bp_ a2,bp_ a3,bw_ HB⟩
     simp only[Option.some.injEq,Prod.mk.injEq] at H
     obtain⟨rfl,rfl,rfl,rfl,rfl⟩:=H
     go_wp2_with (first|((refine gd_ 9 ?_);refine by_ 9 #[i6 0,i6 0,i6 0,i6 0] 28 HB ?_;intro d5 hg m7 a4 hb f4 HB_;have b0:=bm_ a2 hg;have b1:=bn_ a2 hg;have b2:=bm_ a3 hg;have b3:=bn_ a3 hg;replace a2:=bb_ a2 hb;replace a3:=bb_ a3 hb;replace HB:=HB_;clear hb hg;have:=nn_ b1;have:=nn_ b3;have hz35:=ch4_ a4;have f5:0≤(a5:Int):=od_;have f6:a5<(a1.size:Int):=od_;have f9:=bt_at a1 a5;replace f5:=eq_true f5;replace f6:=eq_true f6;have:=nn_ b4;have hz37:=ch4_ a3)|((refine gc_ 28 ?_);refine ge_ 46 Tryz.func28 #[.agg #[i6 a6,i6 a7,i6 a8,i6 a9],.agg #[i6 1,i6 0,i6 0,i6 a0]] ?_;(with_reducible refine mo_ (impl_product.calls _ l6.out) ?_);intro m8 hb;replace a2:=fb_ a2 b0 hb;replace a3:=fb_ a3 b2 hb;replace a4:=Aside0.mk (blk_below (g:=d5) (o:= .cells #[i6 1,i6 0,i6 0,i6 a0] 28 (0,0)) (bp_ a4).out hb);replace HB:=bt_ HB hb;(try clear hb))|((refine gd_ 10 ?_);refine by_ 10 #[i6 0,i6 0,i6 0,i6 0] 28 HB ?_;intro i5 hg m9 f7 hb i7 HB_;have d8:=bm_ a2 hg;have b9:=bn_ a2 hg;have d9:=bm_ a3 hg;have d0:=bn_ a3 hg;have f0:=bm_ a4 hg;have d1:=bn_ a4 hg;replace a2:=bb_ a2 hb;replace a3:=bb_ a3 hb;replace a4:=bb_ a4 hb;replace HB:=HB_;clear hb hg;have:=nn_ b9;have:=nn_ d0;have:=nn_ d1;have hz43:=ch4_ f7;have hz44:=ch4_ a2))
     refine bodyPost_ret (results_ct rfl _ _ d6 28 #[i6 0,i6 0,i6 0,i6 0] (0,0) _ rfl (bp_ a2).out Tryz.underlying28 rfl (by kernel_rfl)) rfl ?_
     exact⟨es_,(bw_ HB).out⟩
    replace H:=oc_ H;obtain⟨⟨j7,j8,j9,l1,m2⟩,l7,H⟩:=H;replace H:=ib_ H
    rcases H with ⟨rfl,H⟩|⟨rfl,H⟩
    ·have H':=Aside0.mk H
     clear H
     go_wp2_with (first|((refine gd_ 9 ?_);refine by_ 9 #[i6 0,i6 0,i6 0,i6 0] 28 HB ?_;intro d5 hg n0 a4 hb f4 HB_;have b0:=bm_ a2 hg;have b1:=bn_ a2 hg;have b2:=bm_ a3 hg;have b3:=bn_ a3 hg;replace a2:=bb_ a2 hb;replace a3:=bb_ a3 hb;replace HB:=HB_;clear hb hg;have:=nn_ b1;have:=nn_ b3;have hz51:=ch4_ a4;have f5:0≤(a5:Int):=od_;have f6:a5<(a1.size:Int):=od_;have f9:=bt_at a1 a5;replace f5:=eq_true f5;replace f6:=eq_true f6;have i8:0≤(a5:Int):=od_;have i9:a5<(a1.size:Int):=od_;have l2:=bt_at a1 a5;replace i8:=eq_true i8;replace i9:=eq_true i9;have:=nn_ b4;have hz53:=ch4_ a3)|((refine gc_ 28 ?_);refine ge_ 46 Tryz.func28 #[.agg #[i6 a6,i6 a7,i6 a8,i6 a9],.agg #[i6 a0,i6 (((bt a1 a5) - 48)%256),i6 0,i6 1]] ?_;(with_reducible refine mo_ (impl_product.calls _ l7.out) ?_);intro n1 hb;replace a2:=fb_ a2 b0 hb;replace a3:=fb_ a3 b2 hb;replace a4:=Aside0.mk (blk_below (g:=d5) (o:= .cells #[i6 a0,i6 (((bt a1 a5) - 48)%256),i6 0,i6 1] 28 (0,0)) (bp_ a4).out hb);replace HB:=bt_ HB hb;(try clear hb))|((refine gd_ 10 ?_);refine by_ 10 #[i6 0,i6 0,i6 0,i6 0] 28 HB ?_;intro j0 hg n2 f8 hb j1 HB_;have f1:=bm_ a2 hg;have d2:=bn_ a2 hg;have f2:=bm_ a3 hg;have d3:=bn_ a3 hg;have f3:=bm_ a4 hg;have d4:=bn_ a4 hg;replace a2:=bb_ a2 hb;replace a3:=bb_ a3 hb;replace a4:=bb_ a4 hb;replace HB:=HB_;clear hb hg;have:=nn_ d2;have:=nn_ d3;have:=nn_ d4;have hz59:=ch4_ f8;have hz60:=ch4_ a3))
     go_roundg k1
     case measure=>have:=j2.out;omega
     case rel=>exact⟨(wrap64 (a5+1)),(b5),(b6),(b7),(b8),(j7),(j8),(j9),(l1),en_,H',⟨by have:=j2.out;omega⟩,bp_ a2,bp_ a3,bw_ HB⟩
    simp only[Option.some.injEq,Prod.mk.injEq] at H
    obtain⟨rfl,rfl,rfl,rfl,rfl⟩:=H
    go_wp2_with (first|((refine gd_ 9 ?_);refine by_ 9 #[i6 0,i6 0,i6 0,i6 0] 28 HB ?_;intro d5 hg n3 a4 hb f4 HB_;have b0:=bm_ a2 hg;have b1:=bn_ a2 hg;have b2:=bm_ a3 hg;have b3:=bn_ a3 hg;replace a2:=bb_ a2 hb;replace a3:=bb_ a3 hb;replace HB:=HB_;clear hb hg;have:=nn_ b1;have:=nn_ b3;have hz64:=ch4_ a4;have f5:0≤(a5:Int):=od_;have f6:a5<(a1.size:Int):=od_;have f9:=bt_at a1 a5;replace f5:=eq_true f5;replace f6:=eq_true f6;have i8:0≤(a5:Int):=od_;have i9:a5<(a1.size:Int):=od_;have l2:=bt_at a1 a5;replace i8:=eq_true i8;replace i9:=eq_true i9;have:=nn_ b4;have hz66:=ch4_ a3)|((refine gc_ 28 ?_);refine ge_ 46 Tryz.func28 #[.agg #[i6 a6,i6 a7,i6 a8,i6 a9],.agg #[i6 a0,i6 (((bt a1 a5) - 48)%256),i6 0,i6 1]] ?_;(with_reducible refine mo_ (impl_product.calls _ l7.out) ?_);intro n4 hb;replace a2:=fb_ a2 b0 hb;replace a3:=fb_ a3 b2 hb;replace a4:=Aside0.mk (blk_below (g:=d5) (o:= .cells #[i6 a0,i6 (((bt a1 a5) - 48)%256),i6 0,i6 1] 28 (0,0)) (bp_ a4).out hb);replace HB:=bt_ HB hb;(try clear hb))|((refine gd_ 10 ?_);refine by_ 10 #[i6 0,i6 0,i6 0,i6 0] 28 HB ?_;intro j0 hg n5 f8 hb j1 HB_;have f1:=bm_ a2 hg;have d2:=bn_ a2 hg;have f2:=bm_ a3 hg;have d3:=bn_ a3 hg;have f3:=bm_ a4 hg;have d4:=bn_ a4 hg;replace a2:=bb_ a2 hb;replace a3:=bb_ a3 hb;replace a4:=bb_ a4 hb;replace HB:=HB_;clear hb hg;have:=nn_ d2;have:=nn_ d3;have:=nn_ d4;have hz72:=ch4_ f8;have hz73:=ch4_ a2))
    refine bodyPost_ret (results_ct rfl _ _ d6 28 #[i6 0,i6 0,i6 0,i6 0] (0,0) _ rfl (bp_ a2).out Tryz.underlying28 rfl (by kernel_rfl)) rfl ?_
    exact⟨es_,(bw_ HB).out⟩
   simp only[Option.some.injEq,Prod.mk.injEq] at H
   obtain⟨rfl,rfl,rfl,rfl,rfl⟩:=H;have:=nn_ b4;have hz75:=ch4_ a3;have hz76:=ch4_ a2
   go_wp2
   refine bodyPost_ret (results_ct rfl _ _ d6 28 #[i6 a6,i6 a7,i6 a8,i6 a9] (0,0) _ rfl (bp_ a2).out Tryz.underlying28 rfl (by kernel_rfl)) rfl ?_
   exact⟨es_,(bw_ HB).out⟩
 simp only[Option.some.injEq,Prod.mk.injEq] at H
 obtain⟨rfl,rfl,rfl,rfl,rfl⟩:=H
 go_enter Tryz.func6,Tryz.ntmps6
 go_wp2_with (first|((refine gd_ 4 ?_);refine by_ 4 #[i6 0,i6 0,i6 0,i6 0] 28 HB ?_;intro d6 hg n6 a2 hb g6 HB_;replace HB:=HB_;clear hb hg)|((refine gc_ 26 ?_);refine ge_ 15 Tryz.func26 #[i6 a0,.agg #[i6 0,i6 0,i6 0],.string a1] ?_;(with_reducible refine mo_ (impl_stepsCode.calls a1 _ A3.out) ?_);intro n7 hb;replace a2:=bb_ a2 hb;replace HB:=bt_ HB hb;clear hb;have hz79:=ch4_ a2))
 refine bodyPost_ret (results_ct rfl _ _ d6 28 #[i6 0,i6 0,i6 0,i6 0] (0,0) _ rfl (bp_ a2).out Tryz.underlying28 rfl (by kernel_rfl)) rfl ?_
 exact⟨es_,(bw_ HB).out⟩
/-! ### spec_l01Prime: function 83 -/
def spec_l01Prime.f (a0:Int):Option (Bool):=if a0=2 then(some true) else(if a0=3 then(some true) else(if a0=5 then(some true) else(some (a0==7))))
theorem spec_l01Prime.calls {a0:Int} {r:Bool} (w:World) (h:spec_l01Prime.f a0=some r):
  Calls Tryz.prog 83 #[i6 a0] w fun e w'=>e= .returned (.bool r)∧Drawn0 w w':=by
 unfold spec_l01Prime.f at h;have H:=h;clear h;replace H:=ie_ H
 rcases H with ⟨a1,a2,H⟩|⟨c2,a1,a2,H⟩
 ·obtain rfl:=si_ H
  go_enter Tryz.func83,Tryz.ntmps83
  go_wp2
  go_ret
  exact⟨en_,de_⟩
 replace H:=ie_ H
 rcases H with ⟨a3,a4,H⟩|⟨c3,a3,a4,H⟩
 ·obtain rfl:=si_ H
  go_enter Tryz.func83,Tryz.ntmps83
  go_wp2
  go_ret
  exact⟨en_,de_⟩
 replace H:=ie_ H
 rcases H with ⟨a5,a6,H⟩|⟨c4,a5,a6,H⟩
 ·obtain rfl:=si_ H
  go_enter Tryz.func83,Tryz.ntmps83
  go_wp2
  go_ret
  exact⟨en_,de_⟩
 obtain rfl:=si_ H
 go_enter Tryz.func83,Tryz.ntmps83
 go_wp2
 go_ret
 exact⟨en_,de_⟩
/-! ### spec_l01Is: function 84 -/
def spec_l01Is.j0:Nat→Int→Bool→Int→Int→Int→Option (Bool)
 |0,_,_,_,_,_=>none
 |k+1,x0,x20,x324000,x324001,x324002=>if x20=true then(some false) else(if (wrap64 (x324000+x324002))≤0 then(if x324001=0 then(some (x324002==0)) else(some false)) else((spec_l01Power.f k x0 (wrap64 (x324000+x324002))).bind fun t327=>((spec_l01In.f x324001 0 (wrap64 (t327 - 1))).bind fun t328=>(if t328=true then(if x324002=0 then(some true) else(if x0=0 then(none) else(some ((Int.tmod x324001 x0)!=0)))) else(some false)))))
def spec_l01Is.f (k:Nat) (a0 a1_0 a1_1 a1_2:Int):Option (Bool):=(spec_l01Prime.f a0).bind fun t324=>(if t324=true then((spec_l01In.f a1_0 (-6) 6).bind fun t325=>(if t325=true then((spec_l01In.f a1_2 0 6).bind fun t326=>(spec_l01Is.j0 k a0 (!t326) a1_0 a1_1 a1_2)) else(spec_l01Is.j0 k a0 true a1_0 a1_1 a1_2))) else(spec_l01Is.j0 k a0 true a1_0 a1_1 a1_2))
theorem spec_l01Is.calls {k:Nat} {a0 a2 a3 a4:Int} {r:Bool} (w:World) (h:spec_l01Is.f k a0 a2 a3 a4=some r):
  Calls Tryz.prog 84 #[i6 a0,.agg #[i6 a2,i6 a3,i6 a4]] w fun e w'=>e= .returned (.bool r)∧Below w.heap.size w w':=by
 have hu42:=Tryz.underlying42
 have HB:=Aside0.mk (Below.refl w.heap.size w)
 unfold spec_l01Is.f at h;have H:=h;clear h;have b5:=Aside0.mk H;clear H
 go_enter Tryz.func84,Tryz.ntmps84
 go_upto_region 1 with (first|((refine gd_ 3 ?_);refine by_ 3 #[i6 a2,i6 a3,i6 a4] 42 HB ?_;intro a5 hg w4 a1 hb a9 HB_;replace HB:=HB_;clear hb hg))
 repeat(go_quiet (first|((refine gd_ 3 ?_);refine by_ 3 #[i6 a2,i6 a3,i6 a4] 42 HB ?_;intro a5 hg w4 a1 hb a9 HB_;replace HB:=HB_;clear hb hg));go_upto_region 1 with (first|((refine gd_ 3 ?_);refine by_ 3 #[i6 a2,i6 a3,i6 a4] 42 HB ?_;intro a5 hg w4 a1 hb a9 HB_;replace HB:=HB_;clear hb hg)))
 (try simp only[Act.put,lstS,lstZ,lstC])
 go_cut [20] (fun b9 wc=>∃(kq:Nat) (a6:Bool),b9= .bool a6∧Aside0 (spec_l01Is.j0 kq a0 a6 a2 a3 a4=some r)∧Aside0 (kq≤k)∧Aside0 (b_ wc a5 #[i6 a2,i6 a3,i6 a4] 42)∧Aside0 (Below w.heap.size w wc))
 case first=>
  have H:=b5.out;clear b5;replace H:=oc_ H;obtain⟨d0,A5,H⟩:=H;replace H:=ib_ H
  rcases H with ⟨rfl,H⟩|⟨rfl,H⟩
  ·replace H:=oc_ H
   obtain⟨d1,A7,H⟩:=H;replace H:=ib_ H
   rcases H with ⟨rfl,H⟩|⟨rfl,H⟩
   ·replace H:=oc_ H
    obtain⟨b6,A9,H⟩:=H
    have H':=Aside0.mk H
    clear H
    go_wp2_with (first|(go_at_call 83;(with_reducible refine(spec_l01Prime.calls _ A5.out).mono ?_);rintro e w' ⟨rfl,⟨nd,rfl⟩⟩;(try exact dd_);have hz10:=ch3_ a1)|(go_at_call 85;(with_reducible refine(spec_l01In.calls _ A7.out).mono ?_);rintro e w' ⟨rfl,⟨nd,rfl⟩⟩;(try exact dd_))|(go_at_call 85;(with_reducible refine(spec_l01In.calls _ A9.out).mono ?_);rintro e w' ⟨rfl,⟨nd,rfl⟩⟩;(try exact dd_)))
    repeat(go_quiet (first|(go_at_call 83;(with_reducible refine(spec_l01Prime.calls _ A5.out).mono ?_);rintro e w' ⟨rfl,⟨nd,rfl⟩⟩;(try exact dd_);have hz10:=ch3_ a1)|(go_at_call 85;(with_reducible refine(spec_l01In.calls _ A7.out).mono ?_);rintro e w' ⟨rfl,⟨nd,rfl⟩⟩;(try exact dd_))|(go_at_call 85;(with_reducible refine(spec_l01In.calls _ A9.out).mono ?_);rintro e w' ⟨rfl,⟨nd,rfl⟩⟩;(try exact dd_)));try go_wp2_with (first|(go_at_call 83;(with_reducible refine(spec_l01Prime.calls _ A5.out).mono ?_);rintro e w' ⟨rfl,⟨nd,rfl⟩⟩;(try exact dd_);have hz10:=ch3_ a1)|(go_at_call 85;(with_reducible refine(spec_l01In.calls _ A7.out).mono ?_);rintro e w' ⟨rfl,⟨nd,rfl⟩⟩;(try exact dd_))|(go_at_call 85;(with_reducible refine(spec_l01In.calls _ A9.out).mono ?_);rintro e w' ⟨rfl,⟨nd,rfl⟩⟩;(try exact dd_))))
    go_meet
    case rel=>exact⟨_,(!b6),en_,H',⟨by first|omega|exact Nat.le_refl _⟩,bl_ a1,bw_ HB⟩
   have H':=Aside0.mk H
   clear H
   go_wp2_with (first|(go_at_call 83;(with_reducible refine(spec_l01Prime.calls _ A5.out).mono ?_);rintro e w' ⟨rfl,⟨nd,rfl⟩⟩;(try exact dd_);have hz11:=ch3_ a1)|(go_at_call 85;(with_reducible refine(spec_l01In.calls _ A7.out).mono ?_);rintro e w' ⟨rfl,⟨nd,rfl⟩⟩;(try exact dd_)))
   repeat(go_quiet (first|(go_at_call 83;(with_reducible refine(spec_l01Prime.calls _ A5.out).mono ?_);rintro e w' ⟨rfl,⟨nd,rfl⟩⟩;(try exact dd_);have hz11:=ch3_ a1)|(go_at_call 85;(with_reducible refine(spec_l01In.calls _ A7.out).mono ?_);rintro e w' ⟨rfl,⟨nd,rfl⟩⟩;(try exact dd_)));try go_wp2_with (first|(go_at_call 83;(with_reducible refine(spec_l01Prime.calls _ A5.out).mono ?_);rintro e w' ⟨rfl,⟨nd,rfl⟩⟩;(try exact dd_);have hz11:=ch3_ a1)|(go_at_call 85;(with_reducible refine(spec_l01In.calls _ A7.out).mono ?_);rintro e w' ⟨rfl,⟨nd,rfl⟩⟩;(try exact dd_))))
   go_meet
   case rel=>exact⟨_,(true),en_,H',⟨by first|omega|exact Nat.le_refl _⟩,bl_ a1,bw_ HB⟩
  have H':=Aside0.mk H
  clear H
  go_wp2_with (first|(go_at_call 83;(with_reducible refine(spec_l01Prime.calls _ A5.out).mono ?_);rintro e w' ⟨rfl,⟨nd,rfl⟩⟩;(try exact dd_)))
  repeat(go_quiet (first|(go_at_call 83;(with_reducible refine(spec_l01Prime.calls _ A5.out).mono ?_);rintro e w' ⟨rfl,⟨nd,rfl⟩⟩;(try exact dd_)));try go_wp2_with (first|(go_at_call 83;(with_reducible refine(spec_l01Prime.calls _ A5.out).mono ?_);rintro e w' ⟨rfl,⟨nd,rfl⟩⟩;(try exact dd_))))
  go_meet
  case rel=>exact⟨_,(true),en_,H',⟨by first|omega|exact Nat.le_refl _⟩,bl_ a1,bw_ HB⟩
 clear b5
 try clear hz10
 try clear hz11
 obtain⟨kq,a6,rfl,HA,d4,a1,HB⟩:=hcut
 cases kq with
 |zero=>exact absurd HA.out (by simp[spec_l01Is.j0])
 |succ d5=>
  have H:=HA.out;clear HA
  simp only[spec_l01Is.j0] at H
  replace H:=ib_ H
  rcases H with ⟨rfl,H⟩|⟨rfl,H⟩
  ·obtain rfl:=si_ H
   go_wp2
   repeat(go_quiet (fail);try go_wp2)
   go_ret;exact⟨es_,(bw_ HB).out⟩
  replace H:=im_ H
  rcases H with ⟨b0,H⟩|⟨b0,H⟩
  ·replace H:=ie_ H
   rcases H with ⟨b1,b2,H⟩|⟨d6,b1,b2,H⟩
   ·obtain rfl:=si_ H
    have hz15:=ch3_ a1
    go_wp2
    repeat(go_quiet (fail);try go_wp2)
    go_ret;exact⟨es_,(bw_ HB).out⟩
   obtain rfl:=si_ H
   have hz16:=ch3_ a1
   go_wp2
   repeat(go_quiet (fail);try go_wp2)
   go_ret;exact⟨es_,(bw_ HB).out⟩
  replace H:=oc_ H;obtain⟨d2,a7,H⟩:=H;replace H:=oc_ H;obtain⟨d3,a8,H⟩:=H;replace H:=ib_ H
  rcases H with ⟨rfl,H⟩|⟨rfl,H⟩
  ·replace H:=ie_ H
   rcases H with ⟨b3,b4,H⟩|⟨d7,b3,b4,H⟩
   ·obtain rfl:=si_ H
    have hz21:=ch3_ a1
    go_wp2_with (first|(go_at_call 66;(with_reducible refine(spec_l01Power.calls _ a7.out).mono ?_);rintro e w' ⟨rfl,⟨nd,rfl⟩⟩;(try exact dd_))|(go_at_call 85;(with_reducible refine(spec_l01In.calls _ a8.out).mono ?_);rintro e w' ⟨rfl,⟨nd,rfl⟩⟩;(try exact dd_)))
    repeat(go_quiet (first|(go_at_call 66;(with_reducible refine(spec_l01Power.calls _ a7.out).mono ?_);rintro e w' ⟨rfl,⟨nd,rfl⟩⟩;(try exact dd_))|(go_at_call 85;(with_reducible refine(spec_l01In.calls _ a8.out).mono ?_);rintro e w' ⟨rfl,⟨nd,rfl⟩⟩;(try exact dd_)));try go_wp2_with (first|(go_at_call 66;(with_reducible refine(spec_l01Power.calls _ a7.out).mono ?_);rintro e w' ⟨rfl,⟨nd,rfl⟩⟩;(try exact dd_))|(go_at_call 85;(with_reducible refine(spec_l01In.calls _ a8.out).mono ?_);rintro e w' ⟨rfl,⟨nd,rfl⟩⟩;(try exact dd_))))
    go_ret;exact⟨es_,(bw_ HB).out⟩
   replace H:=ief_ H;obtain⟨d8,b7,b8,H⟩:=H
   obtain rfl:=si_ H
   have hz23:=ch3_ a1
   go_wp2_with (first|(go_at_call 66;(with_reducible refine(spec_l01Power.calls _ a7.out).mono ?_);rintro e w' ⟨rfl,⟨nd,rfl⟩⟩;(try exact dd_))|(go_at_call 85;(with_reducible refine(spec_l01In.calls _ a8.out).mono ?_);rintro e w' ⟨rfl,⟨nd,rfl⟩⟩;(try exact dd_)))
   repeat(go_quiet (first|(go_at_call 66;(with_reducible refine(spec_l01Power.calls _ a7.out).mono ?_);rintro e w' ⟨rfl,⟨nd,rfl⟩⟩;(try exact dd_))|(go_at_call 85;(with_reducible refine(spec_l01In.calls _ a8.out).mono ?_);rintro e w' ⟨rfl,⟨nd,rfl⟩⟩;(try exact dd_)));try go_wp2_with (first|(go_at_call 66;(with_reducible refine(spec_l01Power.calls _ a7.out).mono ?_);rintro e w' ⟨rfl,⟨nd,rfl⟩⟩;(try exact dd_))|(go_at_call 85;(with_reducible refine(spec_l01In.calls _ a8.out).mono ?_);rintro e w' ⟨rfl,⟨nd,rfl⟩⟩;(try exact dd_))))
   go_ret;exact⟨es_,(bw_ HB).out⟩
  obtain rfl:=si_ H
  have hz24:=ch3_ a1
  go_wp2_with (first|(go_at_call 66;(with_reducible refine(spec_l01Power.calls _ a7.out).mono ?_);rintro e w' ⟨rfl,⟨nd,rfl⟩⟩;(try exact dd_))|(go_at_call 85;(with_reducible refine(spec_l01In.calls _ a8.out).mono ?_);rintro e w' ⟨rfl,⟨nd,rfl⟩⟩;(try exact dd_)))
  repeat(go_quiet (first|(go_at_call 66;(with_reducible refine(spec_l01Power.calls _ a7.out).mono ?_);rintro e w' ⟨rfl,⟨nd,rfl⟩⟩;(try exact dd_))|(go_at_call 85;(with_reducible refine(spec_l01In.calls _ a8.out).mono ?_);rintro e w' ⟨rfl,⟨nd,rfl⟩⟩;(try exact dd_)));try go_wp2_with (first|(go_at_call 66;(with_reducible refine(spec_l01Power.calls _ a7.out).mono ?_);rintro e w' ⟨rfl,⟨nd,rfl⟩⟩;(try exact dd_))|(go_at_call 85;(with_reducible refine(spec_l01In.calls _ a8.out).mono ?_);rintro e w' ⟨rfl,⟨nd,rfl⟩⟩;(try exact dd_))))
  go_ret;exact⟨es_,(bw_ HB).out⟩
/-! ### spec_l01Code: function 56 -/
def spec_l01Code.l0:Nat→Int→List (S42)→Int→Option (Int)
 |0,_,_,_=>none
 |k+1,x0,x1,x5=>if x5<(x1.length:Int) then(if 0≤x5 then((spec_l01Is.f k x0 ((rd_T42 x1 x5).f0) ((rd_T42 x1 x5).f1) ((rd_T42 x1 x5).f2)).bind fun t331=>(if t331=true then(spec_l01Code.l0 k x0 x1 (wrap64 (x5+1))) else(some 1))) else(none)) else(some 0)
def spec_l01Code.f (k:Nat) (a0:Int) (l1:List (S42)):Option (Int):=(spec_l01Prime.f a0).bind fun t329=>(if t329=true then(spec_l01Code.l0 k a0 l1 0) else(some 1))
theorem spec_l01Code.calls {k:Nat} {a0:Int} (A1:Option Addr) (c1:Nat) {l1:List (S42)} {r:Int} (w:World) (hr1:Kd.C k42 w A1 l1.length l1) (hc1:l1.length≤c1) (h:spec_l01Code.f k a0 l1=some r):
  Calls Tryz.prog 56 #[i6 a0,.slice A1 l1.length c1] w fun e w'=>e= .returned (i6 r)∧Below w.heap.size w w':=by
 have hu42:=Tryz.underlying42
 have b0:=Aside0.mk hr1;have b5:=Aside0.mk hc1;clear hr1 hc1
 have HB:=Aside0.mk (Below.refl w.heap.size w)
 unfold spec_l01Code.f at h;have H:=h;clear h;replace H:=oc_ H;obtain⟨b2,A3,H⟩:=H;replace H:=ib_ H
 rcases H with ⟨rfl,H⟩|⟨rfl,H⟩
 ·have H':=Aside0.mk H
  clear H
  go_enter Tryz.func56,Tryz.ntmps56
  go_wp2_with (first|((refine gc_ 83 ?_);refine ge_ 7 Tryz.func83 #[i6 a0] ?_;(with_reducible refine mo_ (spec_l01Prime.calls _ A3.out) ?_);rintro w' ⟨nd,rfl⟩))
  go_loopg [5] k (fun kq v5 w'=>∃(a1:Int),v5=i6 a1∧Aside0 (spec_l01Code.l0 kq a0 l1 a1=some r)∧Aside0 (kq≤k)∧Aside0 (Below w.heap.size w w'))
  case atStart=>exact⟨(0),en_,H',⟨Nat.le_refl _⟩,bw_ HB⟩
  clear H'
  try clear c1
  obtain⟨a1,rfl,HA,b1,HB⟩:=hrel
  cases gk with
  |zero=>exact absurd HA.out (by simp[spec_l01Code.l0])
  |succ k1=>
   have H:=HA.out;clear HA
   simp only[spec_l01Code.l0] at H
   replace H:=il_ H
   rcases H with ⟨a9,H⟩|⟨a9,H⟩
   ·replace H:=imn_ H
    obtain⟨b3,H⟩:=H;replace H:=oc_ H;obtain⟨b4,A7,H⟩:=H;replace H:=ib_ H
    rcases H with ⟨rfl,H⟩|⟨rfl,H⟩
    ·have H':=Aside0.mk H
     clear H
     have a5:0≤(a1:Int):=od_
     have a6:a1<(l1.length:Int):=od_
     obtain⟨a8,a7,a2,a3,a4⟩:=at_T42 b0.out a1 a5 a6
     cases a7
     replace a2:=clTr HB.out a2
     replace a3:=clTr HB.out a3
     replace a4:=clTr HB.out a4
     replace a5:=eq_true a5
     replace a6:=eq_true a6
     go_wp2_with (first|((refine gc_ 84 ?_);refine ge_ 20 Tryz.func84 #[i6 a0,.agg #[i6 ((rd_T42 l1 a1).f0),i6 ((rd_T42 l1 a1).f1),i6 ((rd_T42 l1 a1).f2)]] ?_;(with_reducible refine mo_ (spec_l01Is.calls _ A7.out) ?_);intro w9 hb;replace HB:=bt_ HB hb;clear hb))
     go_roundg k1
     case measure=>have:=b1.out;omega
     case rel=>exact⟨(wrap64 (a1+1)),en_,H',⟨by have:=b1.out;omega⟩,bw_ HB⟩
    obtain rfl:=si_ H
    have a5:0≤(a1:Int):=od_
    have a6:a1<(l1.length:Int):=od_
    obtain⟨a8,a7,a2,a3,a4⟩:=at_T42 b0.out a1 a5 a6
    cases a7
    replace a2:=clTr HB.out a2
    replace a3:=clTr HB.out a3
    replace a4:=clTr HB.out a4
    replace a5:=eq_true a5
    replace a6:=eq_true a6
    go_wp2_with (first|((refine gc_ 84 ?_);refine ge_ 20 Tryz.func84 #[i6 a0,.agg #[i6 ((rd_T42 l1 a1).f0),i6 ((rd_T42 l1 a1).f1),i6 ((rd_T42 l1 a1).f2)]] ?_;(with_reducible refine mo_ (spec_l01Is.calls _ A7.out) ?_);intro b6 hb;replace HB:=bt_ HB hb;clear hb))
    go_ret;exact⟨es_,(bw_ HB).out⟩
   obtain rfl:=si_ H
   go_wp2
   go_ret;exact⟨es_,(bw_ HB).out⟩
 obtain rfl:=si_ H
 go_enter Tryz.func56,Tryz.ntmps56
 go_wp2_with (first|((refine gc_ 83 ?_);refine ge_ 7 Tryz.func83 #[i6 a0] ?_;(with_reducible refine mo_ (spec_l01Prime.calls _ A3.out) ?_);rintro w' ⟨nd,rfl⟩))
 go_ret;exact⟨es_,(bw_ HB).out⟩
/-! ### spec_l10Is: function 57 -/
def spec_l10Is.l0:Nat→Int→ByteArray→Int→Option (Bool)
 |0,_,_,_=>none
 |k+1,x0,x1,x5=>if x5<(x1.size:Int) then(if 0≤x5 then(if (bt x1 x5)=117 then(spec_l10Is.l0 k x0 x1 (wrap64 (x5+1))) else((spec_l01In.f (wrap64 ((wrap64 (bt x1 x5)) - 48)) 0 (wrap64 (x0 - 1))).bind fun t332=>(if t332=true then(spec_l10Is.l0 k x0 x1 (wrap64 (x5+1))) else(some false)))) else(none)) else(some true)
def spec_l10Is.f (k:Nat) (a0:Int) (a1:ByteArray):Option (Bool):=if (a1.size:Int)>40 then(some false) else(spec_l10Is.l0 k a0 a1 0)
theorem spec_l10Is.calls {k:Nat} {a0:Int} (a1:ByteArray) {r:Bool} (w:World) (h:spec_l10Is.f k a0 a1=some r):
  Calls Tryz.prog 57 #[i6 a0,.string a1] w fun e w'=>e= .returned (.bool r)∧Drawn0 w w':=by
 unfold spec_l10Is.f at h;have H:=h;clear h
 by_cases c3: (a1.size:Int)>40
 ·rw[if_pos c3] at H
  have a3:decide (40<(a1.size:Int))=true:=decide_eq_true c3
  have a4:decide (40<a1.size)=true:=decide_eq_true (by omega)
  clear c3
  obtain rfl:=si_ H
  go_enter Tryz.func57,Tryz.ntmps57
  go_wp2
  go_ret
  exact⟨en_,de_⟩
 rw[if_neg c3] at H
 have a3:decide (40<(a1.size:Int))=false:=decide_eq_false c3
 have a4:decide (40<a1.size)=false:=decide_eq_false (by omega)
 clear c3
 have H':=Aside0.mk H
 clear H
 go_enter Tryz.func57,Tryz.ntmps57
 go_wp2
 go_loopg [5] k (fun kq v5 w'=>∃(a2:Int),v5=i6 a2∧Aside0 (spec_l10Is.l0 kq a0 a1 a2=some r)∧Aside0 (kq≤k)∧Drawn0 w w')
 case atStart=>exact⟨(0),en_,H',⟨Nat.le_refl _⟩,de_⟩
 clear H'
 try clear c3 a3 a4
 obtain⟨a2,rfl,HA,a5,⟨m1,rfl⟩⟩:=hrel
 cases gk with
 |zero=>exact absurd HA.out (by simp[spec_l10Is.l0])
 |succ k1=>
  have H:=HA.out;clear HA
  simp only[spec_l10Is.l0] at H
  replace H:=il_ H
  rcases H with ⟨a6,H⟩|⟨a6,H⟩
  ·replace H:=imn_ H
   obtain⟨b0,H⟩:=H;replace H:=ie_ H
   rcases H with ⟨a7,a8,H⟩|⟨c7,a7,a8,H⟩
   ·have H':=Aside0.mk H
    clear H
    have p6:0≤(a2:Int):=od_
    have q6:a2<(a1.size:Int):=od_
    have a9:=bt_at a1 a2
    replace p6:=eq_true p6
    replace q6:=eq_true q6
    go_wp2
    go_roundg k1
    case measure=>have:=a5.out;omega
    case rel=>exact⟨(wrap64 (a2+1)),en_,H',⟨by have:=a5.out;omega⟩,de_⟩
   replace H:=oc_ H;obtain⟨b1,A9,H⟩:=H;replace H:=ib_ H
   rcases H with ⟨rfl,H⟩|⟨rfl,H⟩
   ·have H':=Aside0.mk H
    clear H
    have p6:0≤(a2:Int):=od_
    have q6:a2<(a1.size:Int):=od_
    have a9:=bt_at a1 a2
    replace p6:=eq_true p6
    replace q6:=eq_true q6
    have p8:0≤(a2:Int):=od_
    have q8:a2<(a1.size:Int):=od_
    have b2:=bt_at a1 a2
    replace p8:=eq_true p8
    replace q8:=eq_true q8
    go_wp2_with (first|(go_at_call 85;(with_reducible refine(spec_l01In.calls _ A9.out).mono ?_);rintro e w' ⟨rfl,⟨nd,rfl⟩⟩))
    go_roundg k1
    case measure=>have:=a5.out;omega
    case rel=>exact⟨(wrap64 (a2+1)),en_,H',⟨by have:=a5.out;omega⟩,de_⟩
   obtain rfl:=si_ H
   have p6:0≤(a2:Int):=od_
   have q6:a2<(a1.size:Int):=od_
   have a9:=bt_at a1 a2
   replace p6:=eq_true p6
   replace q6:=eq_true q6
   have p8:0≤(a2:Int):=od_
   have q8:a2<(a1.size:Int):=od_
   have b2:=bt_at a1 a2
   replace p8:=eq_true p8
   replace q8:=eq_true q8
   go_wp2_with (first|(go_at_call 85;(with_reducible refine(spec_l01In.calls _ A9.out).mono ?_);rintro e w' ⟨rfl,⟨nd,rfl⟩⟩))
   go_ret
   exact⟨en_,de_⟩
  obtain rfl:=si_ H
  go_wp2
  go_ret
  exact⟨en_,de_⟩
/-! ### spec_l10Code: function 29 -/
def spec_l10Code.f (k:Nat) (a0:Int) (a1:ByteArray) (l2:List (S42)):Option (Int):=(spec_l01Code.f k a0 l2).bind fun t333=>(if t333=0 then((spec_l10Is.f k a0 a1).bind fun t334=>(if t334=true then(some 0) else(some 6))) else(some 1))
theorem spec_l10Code.calls {k:Nat} {a0:Int} (a1:ByteArray) (A2:Option Addr) (c2:Nat) {l2:List (S42)} {r:Int} (w:World) (hr2:Kd.C k42 w A2 l2.length l2) (hc2:l2.length≤c2) (h:spec_l10Code.f k a0 a1 l2=some r):
  Calls Tryz.prog 29 #[i6 a0,.string a1,.slice A2 l2.length c2] w fun e w'=>e= .returned (i6 r)∧Below w.heap.size w w':=by
 have a4:=Aside0.mk hr2;have a5:=Aside0.mk hc2;clear hr2 hc2
 have HB:=Aside0.mk (Below.refl w.heap.size w)
 unfold spec_l10Code.f at h;have H:=h;clear h;replace H:=oc_ H;obtain⟨a8,A4,H⟩:=H;replace H:=ie_ H
 rcases H with ⟨a6,a7,H⟩|⟨c5,a6,a7,H⟩
 ·replace H:=oc_ H
  obtain⟨a9,A6,H⟩:=H;replace H:=ib_ H
  rcases H with ⟨rfl,H⟩|⟨rfl,H⟩
  ·obtain rfl:=si_ H
   go_enter Tryz.func29,Tryz.ntmps29
   go_wp2_with (first|((refine gc_ 56 ?_);refine ge_ 10 Tryz.func56 #[i6 a0,.slice A2 l2.length c2] ?_;(with_reducible refine mo_ (spec_l01Code.calls _ _ _ ?a2 ?a3 A4.out) ?_);(case a2=>exact ca_ a4.out);(case a3=>exact a5.out);intro w8 hb;replace HB:=bt_ HB hb;clear hb)|((refine gc_ 57 ?_);refine ge_ 15 Tryz.func57 #[i6 a0,.string a1] ?_;(with_reducible refine mo_ (spec_l10Is.calls a1 _ A6.out) ?_);rintro w' ⟨nd,rfl⟩))
   go_ret;exact⟨es_,(bw_ HB).out⟩
  obtain rfl:=si_ H
  go_enter Tryz.func29,Tryz.ntmps29
  go_wp2_with (first|((refine gc_ 56 ?_);refine ge_ 10 Tryz.func56 #[i6 a0,.slice A2 l2.length c2] ?_;(with_reducible refine mo_ (spec_l01Code.calls _ _ _ ?a2 ?a3 A4.out) ?_);(case a2=>exact ca_ a4.out);(case a3=>exact a5.out);intro w9 hb;replace HB:=bt_ HB hb;clear hb)|((refine gc_ 57 ?_);refine ge_ 15 Tryz.func57 #[i6 a0,.string a1] ?_;(with_reducible refine mo_ (spec_l10Is.calls a1 _ A6.out) ?_);rintro w' ⟨nd,rfl⟩))
  go_ret;exact⟨es_,(bw_ HB).out⟩
 obtain rfl:=si_ H
 go_enter Tryz.func29,Tryz.ntmps29
 go_wp2_with (first|((refine gc_ 56 ?_);refine ge_ 10 Tryz.func56 #[i6 a0,.slice A2 l2.length c2] ?_;(with_reducible refine mo_ (spec_l01Code.calls _ _ _ ?a2 ?a3 A4.out) ?_);(case a2=>exact ca_ a4.out);(case a3=>exact a5.out);intro b0 hb;replace HB:=bt_ HB hb;clear hb))
 go_ret;exact⟨es_,(bw_ HB).out⟩
/-! ### spec_l01Gcd: function 86 -/
def spec_l01Gcd.l0:Nat→Int→Int→Option (Int)
 |0,_,_=>none
 |k+1,x0,x1=>if x1=0 then(some (mx x0 (wrap64 (-x0)))) else(spec_l01Gcd.l0 k x1 (Int.tmod x0 x1))
def spec_l01Gcd.f (k:Nat) (a0 a1:Int):Option (Int):=spec_l01Gcd.l0 k a0 a1
theorem spec_l01Gcd.calls {k:Nat} {a0 a1 r:Int} (w:World) (h:spec_l01Gcd.f k a0 a1=some r):
  Calls Tryz.prog 86 #[i6 a0,i6 a1] w fun e w'=>e= .returned (i6 r)∧Below w.heap.size w w':=by
 have HB:=Aside0.mk (Below.refl w.heap.size w)
 unfold spec_l01Gcd.f at h;have H:=h;clear h
 have H':=Aside0.mk H
 clear H
 go_enter Tryz.func86,Tryz.ntmps86
 go_wp2
 go_loopg [0,1] k (fun kq v0 v1 w'=>∃(a2:Int) (a3:Int),v0=i6 a2∧v1=i6 a3∧Aside0 (spec_l01Gcd.l0 kq a2 a3=some r)∧Aside0 (kq≤k)∧Aside0 (Below w.heap.size w w'))
 case atStart=>exact⟨(a0),(a1),en_,en_,H',⟨Nat.le_refl _⟩,bw_ HB⟩
 clear H';obtain⟨a2,a3,rfl,rfl,HA,a7,HB⟩:=hrel
 cases gk with
 |zero=>exact absurd HA.out (by simp[spec_l01Gcd.l0])
 |succ k1=>
  have H:=HA.out;clear HA
  simp only[spec_l01Gcd.l0] at H
  replace H:=ie_ H
  rcases H with ⟨a5,a6,H⟩|⟨c3,a5,a6,H⟩
  ·obtain⟨a8,a4⟩:∃j_:Int,(mx a2 (wrap64 (-a2)))=j_:=⟨_,rfl⟩
   simp only[a4] at H
   have hji4_k: (if a2<(IntKind.i64.wrap (-a2)) then(IntKind.i64.wrap (-a2)) else a2)=a8:=by simp only[i64_w];exact a4
   have a9: (if a2<(wrap64 (-a2)) then(wrap64 (-a2)) else a2)=a8:=a4
   obtain rfl:=si_ H
   go_wp2
   go_ret
   exact⟨by first|rfl|(simp[errW_none,errW_some]<;>rfl)|(simp only[←a4];first|rfl|(simp[errW_none,errW_some]<;>rfl))|(simp[*,errW_none,errW_some]<;>rfl),(bw_ HB).out⟩
  have H':=Aside0.mk H
  clear H
  go_wp2
  go_roundg k1
  case measure=>have:=a7.out;omega
  case rel=>exact⟨(a3),(Int.tmod a2 a3),en_,en_,H',⟨by have:=a7.out;omega⟩,bw_ HB⟩
end Go.Proofs.YtblmdppbbdbbjabGreat.QP
