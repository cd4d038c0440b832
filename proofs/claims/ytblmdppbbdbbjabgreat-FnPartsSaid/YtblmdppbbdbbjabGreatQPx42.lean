import Derived.Test.YtblmdppbbdbbjabGreatQPx8
import Derived.Test.YtblmdppbbdbbjabGreatQPx14
import Derived.Test.YtblmdppbbdbbjabGreatQPx40
namespace Go.Proofs.YtblmdppbbdbbjabGreat.QP
set_option maxHeartbeats 8000000
set_option maxRecDepth 100000
open Go.RowKit Go.Proofs.YtblmdppbbdbbjabGreatW.PrintWords Go.Proofs.YtblmdppbbdbbjabGreatW.PrintLast Go.Proofs.YtblmdppbbdbbjabGreatW.PrintMore
attribute [local go_sem] isSome_setCell max2_int min2_int max_two min_two max_three min_three max_four min_four
set_option linter.unusedVariables false
set_option linter.unusedSimpArgs false
/-! ### spec_l04Reduce: function 58 -/
mutual
def spec_l04Reduce.l0:Nat→List Int→Int→Int→Int→Option (Int×Int×Int×Int×Bool)
 |0,_,_,_,_=>none
 |k+1,x4,x5,x6,x7=>if x7<4 then(if 0≤x7 then(if x7<(x4.length:Int) then((spec_l01Gcd.f k x5 (mx (rd x4 x7) (wrap64 (-(rd x4 x7))))).bind fun t342=>(if x6=0 then(if (rd x4 x7)=0 then(spec_l04Reduce.l0 k x4 t342 x6 (wrap64 (x7+1))) else(if (mx (rd x4 x7) (wrap64 (-(rd x4 x7))))=0 then(none) else(spec_l04Reduce.l0 k x4 t342 (wrap64 (Int.tdiv (rd x4 x7) (mx (rd x4 x7) (wrap64 (-(rd x4 x7)))))) (wrap64 (x7+1))))) else(spec_l04Reduce.l0 k x4 t342 x6 (wrap64 (x7+1))))) else(none)) else(none)) else(spec_l04Reduce.l1 k x4 (mx x5 (wrap64 (-x5))) x6 true 0)
def spec_l04Reduce.l1:Nat→List Int→Int→Int→Bool→Int→Option (Int×Int×Int×Int×Bool)
 |0,_,_,_,_,_=>none
 |k+1,x4,x5,x6,x8,x9=>if x9<4 then(if 0≤x9 then(if x9<(x4.length:Int) then(if x5=0 then(none) else((some (x4.set (x9:Int).toNat (wrap64 ((wrap64 (Int.tdiv (rd x4 x9) x5))*x6)):List Int)).bind fun y348=>(if x8=true then((spec_l01In.f (rd y348 x9) (-1000) 1000).bind fun t350=>(spec_l04Reduce.l1 k y348 x5 x6 t350 (wrap64 (x9+1)))) else(spec_l04Reduce.l1 k y348 x5 x6 false (wrap64 (x9+1)))))) else(none)) else(none)) else(if 0<(x4.length:Int) then(if 1<(x4.length:Int) then(if 2<(x4.length:Int) then(if 3<(x4.length:Int) then(some (rd x4 0,rd x4 1,rd x4 2,rd x4 3,x8)) else(none)) else(none)) else(none)) else(none))
end
def spec_l04Reduce.f (k:Nat) (a0_0 a0_1 a0_2 a0_3:Int):Option (Int×Int×Int×Int×Bool):=spec_l04Reduce.l0 k (([a0_0,a0_1,a0_2,a0_3]:List Int)) 0 0 0
def spec_l04Reduce.T6:Bool×List (List Nat×List Nat):=(true,[([],[]),([],[]),([],[]),([1,2],[1,2]),([3],[3]),([],[]),([],[]),([5,6],[5,6]),([7],[7]),([8],[8]),([4,9],[4,9]),([0,10],[0,10]),([11,11,0,1,2,3,4,5,6,7,8,9,10,11],[0,11])])
def spec_l04Reduce.B6:List Nat:=[0,0,0,6,14,0,0,96,224,480,1022,2047,4095]
theorem spec_l04Reduce.tab6:rtab .any (opsOf Tryz.f58 6)=spec_l04Reduce.T6:=by kernel_rfl
theorem spec_l04Reduce.bits6:waitsOk spec_l04Reduce.T6.2 spec_l04Reduce.B6=true:=by kernel_rfl
def spec_l04Reduce.T8:Bool×List (List Nat×List Nat):=(true,[([],[]),([],[]),([0,1],[0,1]),([2],[2]),([],[]),([],[]),([4,5],[4,5]),([6],[6]),([],[]),([],[]),([8,9],[8,9]),([10],[10]),([11],[11]),([7,12],[7,12]),([3,13],[3,13]),([14,0,1,2,3,4,5,6,7,8,9,10,11,12,13,14],[14])])
def spec_l04Reduce.B8:List Nat:=[0,0,3,7,0,0,48,112,0,0,768,1792,3840,8176,16383,32767]
theorem spec_l04Reduce.tab8:rtab .any (opsOf Tryz.f58 8)=spec_l04Reduce.T8:=by kernel_rfl
theorem spec_l04Reduce.bits8:waitsOk spec_l04Reduce.T8.2 spec_l04Reduce.B8=true:=by kernel_rfl
def spec_l04Reduce.T16:Bool×List (List Nat×List Nat):=(true,[([],[]),([0],[0]),([1],[1]),([],[]),([3],[3]),([4],[4]),([2,5],[2,5]),([],[]),([7],[7]),([8],[8]),([],[]),([10],[10]),([11],[11]),([9,12],[9,12]),([6,13],[6,13]),([],[]),([14,0,1,2,3,4,5,6,7,8,9,10,11,12,13,14],[14]),([15,16,0,1,2,3,4,5,6,7,8,9,10,11,12,13,14,15,16],[15])])
def spec_l04Reduce.B16:List Nat:=[0,1,3,0,8,24,63,0,128,384,0,1024,3072,8064,16383,0,32767,131071]
theorem spec_l04Reduce.tab16:rtab .any (opsOf Tryz.f58 16)=spec_l04Reduce.T16:=by kernel_rfl
theorem spec_l04Reduce.bits16:waitsOk spec_l04Reduce.T16.2 spec_l04Reduce.B16=true:=by kernel_rfl
theorem spec_l04Reduce.calls {k:Nat} {d8 d9 f0 f1 r1 r2 r3 r4:Int} {r5:Bool} (w:World) (h:spec_l04Reduce.f k d8 d9 f0 f1=some (r1,r2,r3,r4,r5)):
  Calls Tryz.prog 58 #[.agg #[i6 d8,i6 d9,i6 f0,i6 f1]] w fun e w'=>e= .returned (.tuple #[.agg #[i6 r1,i6 r2,i6 r3,i6 r4],.bool r5])∧Below w.heap.size w w':=by
 have hu28:=Tryz.underlying28
 have hu26:=Tryz.underlying26
 have HB:=Aside0.mk (Below.refl w.heap.size w)
 unfold spec_l04Reduce.f at h;have H:=h;clear h
 obtain⟨a4,f2⟩:∃y_:List Int,y_=(([d8,d9,f0,f1]:List Int)):=⟨_,rfl⟩
 first|rw[←f2,Option.bind_some] at H|rw[←f2] at H|(dsimp only at H;rw[←f2] at H)
 have j8:=Aside0.mk f2;clear f2
 have H':=Aside0.mk H
 clear H
 go_enter Tryz.func58,Tryz.ntmps58
 go_wp2_with (first|((refine gd_ 1 ?_);refine by_ 1 #[i6 d8,i6 d9,i6 f0,i6 f1] 28 HB ?_;intro t3 hg w2 d0 hb t4 HB_;replace HB:=HB_;clear hb hg)|((refine gd_ 2 ?_);refine by_ 2 #[i6 0,i6 0,i6 0,i6 0] 28 HB ?_;intro a5 hg w3 a1 hb t5 HB_;have g3:=bm_ d0 hg;have n8:=bn_ d0 hg;replace d0:=bb_ d0 hb;replace HB:=HB_;clear hb hg;have:=nn_ g3;have hz5:=ch4_ d0)|((refine gd_ 22 ?_);refine Kd.R_lit (Kd.int .i64) _ 2 ?hg (N:=22) ?hd (xs:=([d8,d9,f0,f1]:List Int)) (inner:=[i6 d8,i6 d9,i6 f0,i6 f1]) (ok:=fun _=>True) (okp:=fun _=>True) ?hr ?hp (fun _ hk=>hk) trivial (Below.refl _ _) (Nat.le_refl _) (by simp) ?_;(case hd=>rfl);(case hg=>rfl);(case hr=>first|(go_simp;done)|(go_simp;rfl));(case hp=>exact(Reps.one (show Kd.M (Kd.int .i64) _ _ _ d8 [i6 d8] from rfl) (Reps.one (show Kd.M (Kd.int .i64) _ _ _ d9 [i6 d9] from rfl) (Reps.one (show Kd.M (Kd.int .i64) _ _ _ f0 [i6 f0] from rfl) (Reps.one (show Kd.M (Kd.int .i64) _ _ _ f1 [i6 f1] from rfl) (Reps.none _ _))))));intro n9 w6 o0 hb hg_ hnew_;clear hg_ hnew_;(first|rw[←j8.out] at o0|(simp only[Int.reduceToNat] at o0;rw[←j8.out] at o0));have o1:=Aside0.mk (Kd.R_lower o0 (below_size (bw_ HB).out));replace d0:=bb_ d0 hb;replace a1:=bb_ a1 hb;replace HB:=bt_ HB hb;clear hb o0))
 go_loopg [5,6,7] k (fun kq v5 v6 v7 w'=>∃(b0:Int) (d1:Int) (a2:Int),v5=i6 b0∧v6=i6 d1∧v7=i6 a2∧Aside0 (spec_l04Reduce.l0 kq a4 b0 d1 a2=some (r1,r2,r3,r4,r5))∧Aside0 (kq≤k)∧Aside0 (Kd.R (Kd.int .i64) 2 w' w.heap.size (fun _=>True) n9 a4)∧Aside0 (b_ w' a5 #[i6 0,i6 0,i6 0,i6 0] 28)∧Aside0 (Below w.heap.size w w'))
 case atStart=>exact⟨(0),(0),(0),en_,en_,en_,H',⟨Nat.le_refl _⟩,⟨by(with_reducible repeat(first|apply Kd.R_alloc|apply Kd.R_drewN|apply Kd.R_drew));exact o1.out⟩,bl_ a1,bw_ HB⟩
 clear H'
 try clear hz5
 obtain⟨b0,d1,a2,rfl,rfl,rfl,HA,j1,HO_4,a1,HB⟩:=hrel
 cases gk with
 |zero=>exact absurd HA.out (by simp[spec_l04Reduce.l0])
 |succ k1=>
  have H:=HA.out;clear HA
  simp only[spec_l04Reduce.l0] at H
  replace H:=il_ H
  rcases H with ⟨o2,H⟩|⟨o2,H⟩
  ·replace H:=imn_ H
   obtain⟨x7,H⟩:=H;replace H:=iln_ H;obtain⟨t6,H⟩:=H
   obtain⟨g4,d2⟩:∃j_:Int,(mx (rd a4 a2) (wrap64 (-(rd a4 a2))))=j_:=⟨_,rfl⟩
   simp only[d2] at H
   have hji11_k: (if (rd a4 a2)<(IntKind.i64.wrap (-(rd a4 a2))) then(IntKind.i64.wrap (-(rd a4 a2))) else(rd a4 a2))=g4:=by simp only[i64_w];exact d2
   have q3: (if (rd a4 a2)<(wrap64 (-(rd a4 a2))) then(wrap64 (-(rd a4 a2))) else(rd a4 a2))=g4:=d2
   replace H:=oc_ H;obtain⟨l5,q4,H⟩:=H;replace H:=ie_ H
   rcases H with ⟨j9,l2,H⟩|⟨x8,j9,l2,H⟩
   ·replace H:=ie_ H
    rcases H with ⟨l3,l4,H⟩|⟨x9,l3,l4,H⟩
    ·have H':=Aside0.mk H
     clear H
     try go_wp2
     replace HO_4:=Aside0.mk (Kd.R_drew HO_4.out)
     replace a1:=bd_ a1;replace HB:=be_ HB
     obtain⟨y8,y9,o3⟩:=Kd.R_slice HO_4.out
     (first|subst o3|(injection o3 with g5 l6 g6;have l7:=g5.symm;have l8:=g6.symm;clear g5 l6 g6;subst l7;subst l8))
     have b2:0≤(a2:Int):=od_
     have b3:a2<(a4.length:Int):=od_
     obtain⟨a7,g7,a8⟩:=Kd.at_int (Kd.R_reads' HO_4.out).2.2 a2 b2 b3
     cases g7
     replace b2:=eq_true b2
     replace b3:=eq_true b3
     have b4:0≤(a2:Int):=od_
     have b5:a2<(a4.length:Int):=od_
     obtain⟨f3,g8,a9⟩:=Kd.at_int (Kd.R_reads' HO_4.out).2.2 a2 b4 b5
     obtain rfl:a7=f3:=(by injection g8)
     replace b4:=eq_true b4
     replace b5:=eq_true b5
     refine start_ (n:=13) (S:=fun w'=>w'.cell? (a7.add (a2).toNat)=some (i6 (rd a4 a2))∧w'.cell? (a7.add (a2).toNat)=some (i6 (rd a4 a2))) (ds:=[]) (bv_ 13 0) (by kernel_rfl) rfl rfl ⟨a8,a9⟩ (fun hHeld=>?_);refine with_tabW spec_l04Reduce.tab6 spec_l04Reduce.bits6 (fun HT_ HW_=>?_)
     generalize wr.drew=ag at HO_4 a1 HB a8 a9 hHeld⊢
     refine px_ HT_ 0 27 1 ?_;refine px_ HT_ 1 28 3 ?_;refine px_ HT_ 2 29 7 ?_;refine px_ HT_ 3 30 15 ?_;refine px_ HT_ 5 32 47 ?_;refine px_ HT_ 6 33 111 ?_;refine px_ HT_ 7 34 239 ?_
     refine ta_ HT_ HW_ 4 (some 31) (bv_ 13 255) hHeld ?_ (hy:=by rintro w' ⟨s0,s1⟩;go_simp;with_reducible rfl)
     refine ta_ HT_ HW_ 8 (some 35) (bv_ 13 511) hHeld ?_ (hy:=by rintro w' ⟨s0,s1⟩;go_simp;with_reducible rfl)
     refine px_ HT_ 9 36 1023 ?_;refine px_ HT_ 10 37 2047 ?_
     refine on_ HT_ 11 (some 38) (bv_ 13 4095) (fun K hK=>?_)
     refine gs_ Tryz.func86 #[i6 b0,i6 g4] ?_ (hargs:=by(try simp only[List.map_toArray,List.map_cons,List.map_nil]);first|done|(simp only[d2];rfl)|rfl|(simp only[List.length_drop,List.length_take];rfl))
     with_reducible refine(spec_l01Gcd.calls _ q4.out).mono ?_
     rintro e ah ⟨rfl,hb⟩
     have g9:=(hb.cell (World.block_lt_of_cell? _ _ (hHeld.1))).trans (hHeld.1)
     have i4:=(hb.cell (World.block_lt_of_cell? _ _ (hHeld.2))).trans (hHeld.2)
     refine⟨_,rfl,?_⟩;replace HO_4:=rb_ HO_4 hb;replace a1:=bb_ a1 hb;replace HB:=bt_ HB hb
     try clear hb
     refine hK.out _ _ ⟨g9,i4⟩ (fun hHeld=>?_)
     clear hK K;refine nm_ (some 38) ?_;refine px_ HT_ 12 5 8191 ?_
     refine done_ (done_of HT_.out (by kernel_rfl)) ?_
     have f4:0≤(a2:Int):=od_
     have f5:a2<(a4.length:Int):=od_
     obtain⟨i5,l9,g1⟩:=Kd.at_int (Kd.R_reads' HO_4.out).2.2 a2 f4 f5
     obtain rfl:a7=i5:=(by injection l9)
     replace f4:=eq_true f4
     replace f5:=eq_true f5
     try go_wp2
     go_roundg k1
     case measure=>have:=j1.out;omega
     case rel=>exact⟨(l5),(d1),(wrap64 (a2+1)),en_,en_,en_,H',⟨by have:=j1.out;omega⟩,⟨by(with_reducible repeat(first|apply Kd.R_alloc|apply Kd.R_drewN|apply Kd.R_drew));exact HO_4.out⟩,bl_ a1,bw_ HB⟩
    replace H:=ief_ H;obtain⟨z0,o4,o5,H⟩:=H
    have H':=Aside0.mk H
    clear H
    try go_wp2
    replace HO_4:=Aside0.mk (Kd.R_drew HO_4.out)
    replace a1:=bd_ a1;replace HB:=be_ HB
    obtain⟨z1,z2,o6⟩:=Kd.R_slice HO_4.out
    (first|subst o6|(injection o6 with g5 l6 g6;have l7:=g5.symm;have l8:=g6.symm;clear g5 l6 g6;subst l7;subst l8))
    have b2:0≤(a2:Int):=od_
    have b3:a2<(a4.length:Int):=od_
    obtain⟨a7,g7,a8⟩:=Kd.at_int (Kd.R_reads' HO_4.out).2.2 a2 b2 b3
    cases g7
    replace b2:=eq_true b2
    replace b3:=eq_true b3
    have b4:0≤(a2:Int):=od_
    have b5:a2<(a4.length:Int):=od_
    obtain⟨f3,g8,a9⟩:=Kd.at_int (Kd.R_reads' HO_4.out).2.2 a2 b4 b5
    obtain rfl:a7=f3:=(by injection g8)
    replace b4:=eq_true b4
    replace b5:=eq_true b5
    refine start_ (n:=13) (S:=fun w'=>w'.cell? (a7.add (a2).toNat)=some (i6 (rd a4 a2))∧w'.cell? (a7.add (a2).toNat)=some (i6 (rd a4 a2))) (ds:=[]) (bv_ 13 0) (by kernel_rfl) rfl rfl ⟨a8,a9⟩ (fun hHeld=>?_);refine with_tabW spec_l04Reduce.tab6 spec_l04Reduce.bits6 (fun HT_ HW_=>?_)
    generalize wr.drew=ai at HO_4 a1 HB a8 a9 hHeld⊢
    refine px_ HT_ 0 27 1 ?_;refine px_ HT_ 1 28 3 ?_;refine px_ HT_ 2 29 7 ?_;refine px_ HT_ 3 30 15 ?_;refine px_ HT_ 5 32 47 ?_;refine px_ HT_ 6 33 111 ?_;refine px_ HT_ 7 34 239 ?_
    refine ta_ HT_ HW_ 4 (some 31) (bv_ 13 255) hHeld ?_ (hy:=by rintro w' ⟨s0,s1⟩;go_simp;with_reducible rfl)
    refine ta_ HT_ HW_ 8 (some 35) (bv_ 13 511) hHeld ?_ (hy:=by rintro w' ⟨s0,s1⟩;go_simp;with_reducible rfl)
    refine px_ HT_ 9 36 1023 ?_;refine px_ HT_ 10 37 2047 ?_
    refine on_ HT_ 11 (some 38) (bv_ 13 4095) (fun K hK=>?_)
    refine gs_ Tryz.func86 #[i6 b0,i6 g4] ?_ (hargs:=by(try simp only[List.map_toArray,List.map_cons,List.map_nil]);first|done|(simp only[d2];rfl)|rfl|(simp only[List.length_drop,List.length_take];rfl))
    with_reducible refine(spec_l01Gcd.calls _ q4.out).mono ?_
    rintro e z3 ⟨rfl,hb⟩
    have g9:=(hb.cell (World.block_lt_of_cell? _ _ (hHeld.1))).trans (hHeld.1)
    have i4:=(hb.cell (World.block_lt_of_cell? _ _ (hHeld.2))).trans (hHeld.2)
    refine⟨_,rfl,?_⟩;replace HO_4:=rb_ HO_4 hb;replace a1:=bb_ a1 hb;replace HB:=bt_ HB hb
    try clear hb
    refine hK.out _ _ ⟨g9,i4⟩ (fun hHeld=>?_)
    clear hK K;refine nm_ (some 38) ?_;refine px_ HT_ 12 5 8191 ?_
    refine done_ (done_of HT_.out (by kernel_rfl)) ?_
    have f4:0≤(a2:Int):=od_
    have f5:a2<(a4.length:Int):=od_
    obtain⟨i5,l9,g1⟩:=Kd.at_int (Kd.R_reads' HO_4.out).2.2 a2 f4 f5
    obtain rfl:a7=i5:=(by injection l9)
    replace f4:=eq_true f4
    replace f5:=eq_true f5
    try go_wp2
    replace HO_4:=Aside0.mk (Kd.R_drew HO_4.out)
    replace a1:=bd_ a1;replace HB:=be_ HB
    have j2:0≤(a2:Int):=od_
    have j3:a2<(a4.length:Int):=od_
    obtain⟨o7,q5,d3⟩:=Kd.at_int (Kd.R_reads' HO_4.out).2.2 a2 j2 j3
    obtain rfl:a7=o7:=(by injection q5)
    replace j2:=eq_true j2
    replace j3:=eq_true j3
    have j4:0≤(a2:Int):=od_
    have j5:a2<(a4.length:Int):=od_
    obtain⟨o8,q6,d4⟩:=Kd.at_int (Kd.R_reads' HO_4.out).2.2 a2 j4 j5
    obtain rfl:a7=o8:=(by injection q6)
    replace j4:=eq_true j4
    replace j5:=eq_true j5
    have j6:0≤(a2:Int):=od_
    have j7:a2<(a4.length:Int):=od_
    obtain⟨o9,q7,d5⟩:=Kd.at_int (Kd.R_reads' HO_4.out).2.2 a2 j6 j7
    obtain rfl:a7=o9:=(by injection q7)
    replace j6:=eq_true j6
    replace j7:=eq_true j7
    refine start_ (n:=16) (S:=fun w'=>w'.cell? (a7.add (a2).toNat)=some (i6 (rd a4 a2))∧w'.cell? (a7.add (a2).toNat)=some (i6 (rd a4 a2))∧w'.cell? (a7.add (a2).toNat)=some (i6 (rd a4 a2))) (ds:=[]) (bv_ 16 0) (by kernel_rfl) rfl rfl ⟨d3,d4,d5⟩ (fun hHeld=>?_);refine with_tabW spec_l04Reduce.tab8 spec_l04Reduce.bits8 (fun HT_ HW_=>?_)
    generalize z3.drew=aj at HO_4 a1 HB d3 d4 d5 hHeld⊢
    refine px_ HT_ 0 48 1 ?_;refine px_ HT_ 1 49 3 ?_;refine px_ HT_ 2 50 7 ?_;refine px_ HT_ 4 52 23 ?_;refine px_ HT_ 5 53 55 ?_;refine px_ HT_ 6 54 119 ?_;refine px_ HT_ 8 56 375 ?_;refine px_ HT_ 9 57 887 ?_;refine px_ HT_ 10 58 1911 ?_
    refine ta_ HT_ HW_ 3 (some 51) (bv_ 16 1919) hHeld ?_ (hy:=by rintro w' ⟨s0,s1,s2⟩;go_simp;with_reducible rfl)
    refine ta_ HT_ HW_ 7 (some 55) (bv_ 16 2047) hHeld ?_ (hy:=by rintro w' ⟨s0,s1,s2⟩;go_simp;with_reducible rfl)
    refine ta_ HT_ HW_ 11 (some 59) (bv_ 16 4095) hHeld ?_ (hy:=by rintro w' ⟨s0,s1,s2⟩;go_simp;with_reducible rfl)
    refine px_ HT_ 12 60 8191 ?_;refine px_ HT_ 13 61 16383 ?_;refine px_ HT_ 14 62 32767 ?_;refine px_ HT_ 15 6 65535 ?_
    refine done_ (done_of HT_.out (by kernel_rfl)) ?_
    try go_wp2
    go_roundg k1
    case measure=>have:=j1.out;omega
    case rel=>exact⟨(l5),(wrap64 (Int.tdiv (rd a4 a2) (g4))),(wrap64 (a2+1)),en_,(by first|rfl|(simp;done)|(simp only[←d2]<;>(first|rfl|simp))|(simp[*];done)),en_,H',⟨by have:=j1.out;omega⟩,⟨by(with_reducible repeat(first|apply Kd.R_alloc|apply Kd.R_drewN|apply Kd.R_drew));exact HO_4.out⟩,bl_ a1,bw_ HB⟩
   have H':=Aside0.mk H
   clear H
   try go_wp2
   replace HO_4:=Aside0.mk (Kd.R_drew HO_4.out)
   replace a1:=bd_ a1;replace HB:=be_ HB
   obtain⟨z4,z5,p0⟩:=Kd.R_slice HO_4.out
   (first|subst p0|(injection p0 with g5 l6 g6;have l7:=g5.symm;have l8:=g6.symm;clear g5 l6 g6;subst l7;subst l8))
   have b2:0≤(a2:Int):=od_
   have b3:a2<(a4.length:Int):=od_
   obtain⟨a7,g7,a8⟩:=Kd.at_int (Kd.R_reads' HO_4.out).2.2 a2 b2 b3
   cases g7
   replace b2:=eq_true b2
   replace b3:=eq_true b3
   have b4:0≤(a2:Int):=od_
   have b5:a2<(a4.length:Int):=od_
   obtain⟨f3,g8,a9⟩:=Kd.at_int (Kd.R_reads' HO_4.out).2.2 a2 b4 b5
   obtain rfl:a7=f3:=(by injection g8)
   replace b4:=eq_true b4
   replace b5:=eq_true b5
   refine start_ (n:=13) (S:=fun w'=>w'.cell? (a7.add (a2).toNat)=some (i6 (rd a4 a2))∧w'.cell? (a7.add (a2).toNat)=some (i6 (rd a4 a2))) (ds:=[]) (bv_ 13 0) (by kernel_rfl) rfl rfl ⟨a8,a9⟩ (fun hHeld=>?_);refine with_tabW spec_l04Reduce.tab6 spec_l04Reduce.bits6 (fun HT_ HW_=>?_)
   generalize wr.drew=ak at HO_4 a1 HB a8 a9 hHeld⊢
   refine px_ HT_ 0 27 1 ?_;refine px_ HT_ 1 28 3 ?_;refine px_ HT_ 2 29 7 ?_;refine px_ HT_ 3 30 15 ?_;refine px_ HT_ 5 32 47 ?_;refine px_ HT_ 6 33 111 ?_;refine px_ HT_ 7 34 239 ?_
   refine ta_ HT_ HW_ 4 (some 31) (bv_ 13 255) hHeld ?_ (hy:=by rintro w' ⟨s0,s1⟩;go_simp;with_reducible rfl)
   refine ta_ HT_ HW_ 8 (some 35) (bv_ 13 511) hHeld ?_ (hy:=by rintro w' ⟨s0,s1⟩;go_simp;with_reducible rfl)
   refine px_ HT_ 9 36 1023 ?_;refine px_ HT_ 10 37 2047 ?_
   refine on_ HT_ 11 (some 38) (bv_ 13 4095) (fun K hK=>?_)
   refine gs_ Tryz.func86 #[i6 b0,i6 g4] ?_ (hargs:=by(try simp only[List.map_toArray,List.map_cons,List.map_nil]);first|done|(simp only[d2];rfl)|rfl|(simp only[List.length_drop,List.length_take];rfl))
   with_reducible refine(spec_l01Gcd.calls _ q4.out).mono ?_
   rintro e al ⟨rfl,hb⟩
   have g9:=(hb.cell (World.block_lt_of_cell? _ _ (hHeld.1))).trans (hHeld.1)
   have i4:=(hb.cell (World.block_lt_of_cell? _ _ (hHeld.2))).trans (hHeld.2)
   refine⟨_,rfl,?_⟩;replace HO_4:=rb_ HO_4 hb;replace a1:=bb_ a1 hb;replace HB:=bt_ HB hb
   try clear hb
   refine hK.out _ _ ⟨g9,i4⟩ (fun hHeld=>?_)
   clear hK K;refine nm_ (some 38) ?_;refine px_ HT_ 12 5 8191 ?_
   refine done_ (done_of HT_.out (by kernel_rfl)) ?_
   try go_wp2
   go_roundg k1
   case measure=>have:=j1.out;omega
   case rel=>exact⟨(l5),(d1),(wrap64 (a2+1)),en_,en_,en_,H',⟨by have:=j1.out;omega⟩,⟨by(with_reducible repeat(first|apply Kd.R_alloc|apply Kd.R_drewN|apply Kd.R_drew));exact HO_4.out⟩,bl_ a1,bw_ HB⟩
  obtain⟨f6,g2⟩:∃j_:Int,(mx b0 (wrap64 (-b0)))=j_:=⟨_,rfl⟩
  simp only[g2] at H
  have hji26_k: (if b0<(IntKind.i64.wrap (-b0)) then(IntKind.i64.wrap (-b0)) else b0)=f6:=by simp only[i64_w];exact g2
  have q8: (if b0<(wrap64 (-b0)) then(wrap64 (-b0)) else b0)=f6:=g2
  have H':=Aside0.mk H
  clear H
  go_wp2
  go_loopg [8,9] k1 (fun kq v8 v9 w'=>∃(a3:List Int) (m1:Bool) (a6:Int),v8= .bool m1∧v9=i6 a6∧Aside0 (spec_l04Reduce.l1 kq a3 f6 d1 m1 a6=some (r1,r2,r3,r4,r5))∧Aside0 (kq≤k1)∧Aside0 (Kd.R (Kd.int .i64) 2 w' w.heap.size (fun _=>True) n9 a3)∧Aside0 (b_ w' a5 #[i6 0,i6 0,i6 0,i6 0] 28)∧Aside0 (Below w.heap.size w w'))
  case atStart=>exact⟨(a4),(true),(0),en_,en_,H',⟨Nat.le_refl _⟩,⟨by(with_reducible repeat(first|apply Kd.R_alloc|apply Kd.R_drewN|apply Kd.R_drew));exact HO_4.out⟩,bl_ a1,bw_ HB⟩
  clear H'
  try clear o2
  try clear x8 j9 l2
  try clear x9 l3 l4
  try clear z0 o4 o5
  try clear a8
  try clear a9
  try clear g1
  try clear d3
  try clear d4
  try clear d5
  try clear b2
  try clear b4
  try clear f4
  try clear j2
  try clear j4
  try clear j6
  try clear b3
  try clear b5
  try clear f5
  try clear j3
  try clear j5
  try clear j7
  obtain⟨a3,m1,a6,rfl,rfl,HA,p8,HO_4,a1,HB⟩:=hrel
  cases gk with
  |zero=>exact absurd HA.out (by simp[spec_l04Reduce.l1])
  |succ k2=>
   have H:=HA.out;clear HA
   simp only[spec_l04Reduce.l1] at H
   replace H:=il_ H
   rcases H with ⟨p1,H⟩|⟨p1,H⟩
   ·replace H:=imn_ H
    obtain⟨t7,H⟩:=H;replace H:=iln_ H;obtain⟨t8,H⟩:=H;replace H:=ief_ H;obtain⟨am,t9,u4,H⟩:=H
    obtain⟨i7,f7⟩:∃y_:List Int,y_=(a3.set (a6:Int).toNat (wrap64 ((wrap64 (Int.tdiv (rd a3 a6) f6))*d1))):=⟨_,rfl⟩
    first|rw[←f7,Option.bind_some] at H|rw[←f7] at H|(dsimp only at H;rw[←f7] at H)
    have i8:=Aside0.mk f7;clear f7;replace H:=ib_ H
    rcases H with ⟨rfl,H⟩|⟨rfl,H⟩
    ·replace H:=oc_ H
     obtain⟨q9,z6,H⟩:=H
     have H':=Aside0.mk H
     clear H
     obtain⟨z7,r0,r6⟩:=Kd.R_slice HO_4.out
     subst r6
     have f9:0≤(a6:Int):=od_
     have g0:a6<(a3.length:Int):=od_
     obtain⟨p2,m2,d6⟩:=Kd.at_int (Kd.R_reads' HO_4.out).2.2 a6 f9 g0
     cases m2
     replace f9:=eq_true f9
     replace g0:=eq_true g0
     have m3:0≤(a6:Int):=od_
     have m4: (a6:Int)<((a3.length:Int):Int):=od_
     obtain⟨f8,r7,i9,j0,gl31,cl31,HG31⟩:=Kd.R_form HO_4.out (by omega)
     (first|cases i9|(injection i9 with ea_ en_ ec_;(first|subst ea_|(injection ea_ with ea_;subst ea_));subst ec_;clear en_))
     have GB31:=Aside0.mk j0;have GG31:=Aside0.mk HG31;clear j0 gl31 HG31
     (first|simp only[add_plain] at d6|skip)
     obtain⟨m5,hf31_0⟩:=Kd.R_celln 0 HO_4.out (a6:Int) m3 m4
     replace m3:=eq_true m3
     replace m4:=eq_true m4
     have m6:=Kd.R_putg HO_4.out (a6:Int) (wrap64 ((wrap64 (Int.tdiv (rd a3 a6) f6))*d1))
     go_wp2_with (first|((with_reducible refine gate_store (t:=2) (p:=81) rfl ?_);refine store_event (t:=2) (p:=81) (v:=?r8) (w1:=(wr.setCell ⟨f8,(a6:Int).toNat,none⟩ (i6 (wrap64 ((wrap64 (Int.tdiv (rd a3 a6) f6))*d1))))) ?hg ?ho ?hn ?hr ?_;(case ho=>rfl);(case hg=>rfl);(case hn=>rfl);(case hr=>first|(go_simp;done)|(go_simp;rfl));intro r9 hw;have hg:wr.grownBy r9 (some f8):=(by rw[hw];exact m6.2);have hp_:Kd.R (Kd.int .i64) 2 r9 w.heap.size (fun _=>True) (.slice (some ⟨f8,0,none⟩) a3.length r0) i7:=(by rw[hw,i8.out];exact m6.1);clear m6;replace a1:=Aside0.mk (blk_grown (g:=a5) (o:= .cells #[i6 0,i6 0,i6 0,i6 0] 28 (0,0)) (bl_ a1).out hg (Kd.R_ne HO_4.out a1.out (by decide)));replace HO_4:=Aside0.mk (hp_);replace HB:=Aside0.mk ((by rw[hw];exact below_set (HB.out) GB31.out:Below w.heap.size w r9));clear hg hw hp_;have m7:0≤(a6:Int):=od_;have m8:a6<(i7.length:Int):=(by have h_: (a6:Int)<((a3.length:Int):Int):=od_;first|(have e_:=(Kd.R_reads' HO_4.out).1;omega)|simpa only[i8.out,List.length_set] using h_);have ql349: ((a6:Int)<((a3.length:Int):Int))=True:=eq_true od_;obtain⟨p3,s4,d7⟩:=Kd.at_int (Kd.R_reads' HO_4.out).2.2 a6 m7 m8;obtain rfl: (⟨f8,0,none⟩:Addr)=p3:=(by injection s4);(first|simp only[add_plain] at d7|simp only[add_at] at d7|simp only[Addr.add,Nat.zero_add] at d7|skip);replace m7:=eq_true m7;replace m8:=eq_true m8)|(go_at_call 85;(with_reducible refine(spec_l01In.calls _ z6.out).mono ?_);rintro e w' ⟨rfl,⟨nd,rfl⟩⟩))
     go_roundg k2
     case measure=>have:=j1.out;have:=p8.out;omega
     case rel=>exact⟨(i7),(q9),(wrap64 (a6+1)),en_,en_,H',⟨by have:=j1.out;have:=p8.out;omega⟩,⟨by(with_reducible repeat(first|apply Kd.R_alloc|apply Kd.R_drewN|apply Kd.R_drew));exact HO_4.out⟩,bl_ a1,bw_ HB⟩
    have H':=Aside0.mk H
    clear H
    obtain⟨z8,s5,s6⟩:=Kd.R_slice HO_4.out
    subst s6
    have f9:0≤(a6:Int):=od_
    have g0:a6<(a3.length:Int):=od_
    obtain⟨p2,m2,d6⟩:=Kd.at_int (Kd.R_reads' HO_4.out).2.2 a6 f9 g0
    cases m2
    replace f9:=eq_true f9
    replace g0:=eq_true g0
    have m3:0≤(a6:Int):=od_
    have m4: (a6:Int)<((a3.length:Int):Int):=od_
    obtain⟨f8,r7,i9,j0,gl31,cl31,HG31⟩:=Kd.R_form HO_4.out (by omega)
    (first|cases i9|(injection i9 with ea_ en_ ec_;(first|subst ea_|(injection ea_ with ea_;subst ea_));subst ec_;clear en_))
    have GB31:=Aside0.mk j0;have GG31:=Aside0.mk HG31;clear j0 gl31 HG31
    (first|simp only[add_plain] at d6|skip)
    obtain⟨m5,hf31_0⟩:=Kd.R_celln 0 HO_4.out (a6:Int) m3 m4
    replace m3:=eq_true m3
    replace m4:=eq_true m4
    have m9:=Kd.R_putg HO_4.out (a6:Int) (wrap64 ((wrap64 (Int.tdiv (rd a3 a6) f6))*d1))
    go_wp2_with (first|((with_reducible refine gate_store (t:=2) (p:=81) rfl ?_);refine store_event (t:=2) (p:=81) (v:=?s7) (w1:=(wr.setCell ⟨f8,(a6:Int).toNat,none⟩ (i6 (wrap64 ((wrap64 (Int.tdiv (rd a3 a6) f6))*d1))))) ?hg ?ho ?hn ?hr ?_;(case ho=>rfl);(case hg=>rfl);(case hn=>rfl);(case hr=>first|(go_simp;done)|(go_simp;rfl));intro s8 hw;have hg:wr.grownBy s8 (some f8):=(by rw[hw];exact m9.2);have hp_:Kd.R (Kd.int .i64) 2 s8 w.heap.size (fun _=>True) (.slice (some ⟨f8,0,none⟩) a3.length s5) i7:=(by rw[hw,i8.out];exact m9.1);clear m9;replace a1:=Aside0.mk (blk_grown (g:=a5) (o:= .cells #[i6 0,i6 0,i6 0,i6 0] 28 (0,0)) (bl_ a1).out hg (Kd.R_ne HO_4.out a1.out (by decide)));replace HO_4:=Aside0.mk (hp_);replace HB:=Aside0.mk ((by rw[hw];exact below_set (HB.out) GB31.out:Below w.heap.size w s8));clear hg hw hp_))
    go_roundg k2
    case measure=>have:=j1.out;have:=p8.out;omega
    case rel=>exact⟨(i7),(false),(wrap64 (a6+1)),en_,en_,H',⟨by have:=j1.out;have:=p8.out;omega⟩,⟨by(with_reducible repeat(first|apply Kd.R_alloc|apply Kd.R_drewN|apply Kd.R_drew));exact HO_4.out⟩,bl_ a1,bw_ HB⟩
   by_cases p9:0<(a3.length:Int)
   ·rw[if_pos p9] at H
    have u5:decide (0<(a3.length:Int))=true:=decide_eq_true p9
    have u6:decide (0<a3.length)=true:=decide_eq_true (by omega)
    clear p9
    by_cases q0:1<(a3.length:Int)
    ·rw[if_pos q0] at H
     have u7:decide (1<(a3.length:Int))=true:=decide_eq_true q0
     have u9:decide (1<a3.length)=true:=decide_eq_true (by omega)
     clear q0
     by_cases q1:2<(a3.length:Int)
     ·rw[if_pos q1] at H
      have v4:decide (2<(a3.length:Int))=true:=decide_eq_true q1
      have x0:decide (2<a3.length)=true:=decide_eq_true (by omega)
      clear q1
      by_cases q2:3<(a3.length:Int)
      ·rw[if_pos q2] at H
       have x1:decide (3<(a3.length:Int))=true:=decide_eq_true q2
       have x2:decide (3<a3.length)=true:=decide_eq_true (by omega)
       clear q2
       simp only[Option.some.injEq,Prod.mk.injEq] at H
       obtain⟨rfl,rfl,rfl,rfl,rfl⟩:=H
       try go_wp2
       replace HO_4:=Aside0.mk (Kd.R_drew HO_4.out)
       replace a1:=bd_ a1;replace HB:=be_ HB
       obtain⟨z9,aa,p4⟩:=Kd.R_slice HO_4.out
       (first|subst p4|(injection p4 with g5 l6 g6;have l7:=g5.symm;have l8:=g6.symm;clear g5 l6 g6;subst l7;subst l8))
       have n0:0≤(0:Int):=(by omega)
       have n1:0<(a3.length:Int):=od_
       obtain⟨b1,s9,b6⟩:=Kd.at_int (Kd.R_reads' HO_4.out).2.2 0 n0 n1
       cases s9
       have qi351: (0<a3.length)=True:=eq_true (by omega)
       (try rw[show ((0:Int)).toNat=0 from rfl] at b6)
       (try rw[Addr.add_zero'] at b6)
       replace n0:=eq_true n0
       replace n1:=eq_true n1
       have n2:0≤(1:Int):=(by omega)
       have n3:1<(a3.length:Int):=od_
       obtain⟨p5,t0,b7⟩:=Kd.at_int (Kd.R_reads' HO_4.out).2.2 1 n2 n3
       obtain rfl:b1=p5:=(by injection t0)
       (try simp only[show (1:Int).toNat=1 from rfl,Nat.reduceMul,Nat.reduceEqDiff,Go.Addr.add,↓reduceIte] at b7)
       have qi352: (1<a3.length)=True:=eq_true (by omega)
       (try rw[show ((1:Int)).toNat=1 from rfl] at b7)
       replace n2:=eq_true n2
       replace n3:=eq_true n3
       have n4:0≤(2:Int):=(by omega)
       have n5:2<(a3.length:Int):=od_
       obtain⟨p6,t1,b8⟩:=Kd.at_int (Kd.R_reads' HO_4.out).2.2 2 n4 n5
       obtain rfl:b1=p6:=(by injection t1)
       (try simp only[show (2:Int).toNat=2 from rfl,Nat.reduceMul,Nat.reduceEqDiff,Go.Addr.add,↓reduceIte] at b8)
       have qi353: (2<a3.length)=True:=eq_true (by omega)
       (try rw[show ((2:Int)).toNat=2 from rfl] at b8)
       replace n4:=eq_true n4
       replace n5:=eq_true n5
       have n6:0≤(3:Int):=(by omega)
       have n7:3<(a3.length:Int):=od_
       obtain⟨p7,t2,b9⟩:=Kd.at_int (Kd.R_reads' HO_4.out).2.2 3 n6 n7
       obtain rfl:b1=p7:=(by injection t2)
       (try simp only[show (3:Int).toNat=3 from rfl,Nat.reduceMul,Nat.reduceEqDiff,Go.Addr.add,↓reduceIte] at b9)
       have qi354: (3<a3.length)=True:=eq_true (by omega)
       (try rw[show ((3:Int)).toNat=3 from rfl] at b9)
       replace n6:=eq_true n6
       replace n7:=eq_true n7
       refine start_ (n:=18) (S:=fun w'=>w'.cell? b1=some (i6 (rd a3 0))∧w'.cell? ⟨b1.block,b1.off+1,none⟩=some (i6 (rd a3 1))∧w'.cell? ⟨b1.block,b1.off+2,none⟩=some (i6 (rd a3 2))∧w'.cell? ⟨b1.block,b1.off+3,none⟩=some (i6 (rd a3 3))) (ds:=[]) (bv_ 18 0) (by kernel_rfl) rfl rfl ⟨b6,b7,b8,b9⟩ (fun hHeld=>?_);refine with_tabW spec_l04Reduce.tab16 spec_l04Reduce.bits16 (fun HT_ HW_=>?_)
       generalize wr.drew=an at HO_4 a1 HB b6 b7 b8 b9 hHeld⊢
       refine px_ HT_ 0 90 1 ?_;refine px_ HT_ 1 91 3 ?_;refine px_ HT_ 3 93 11 ?_;refine px_ HT_ 4 94 27 ?_;refine px_ HT_ 7 97 155 ?_;refine px_ HT_ 8 98 411 ?_;refine px_ HT_ 10 100 1435 ?_;refine px_ HT_ 11 101 3483 ?_;refine px_ HT_ 15 105 36251 ?_
       refine ta_ HT_ HW_ 2 (some 92) (bv_ 18 36255) hHeld ?_ (hy:=by rintro w' ⟨s0,s1,s2,s3⟩;go_simp;with_reducible rfl)
       refine ta_ HT_ HW_ 5 (some 95) (bv_ 18 36287) hHeld ?_ (hy:=by rintro w' ⟨s0,s1,s2,s3⟩;go_simp;with_reducible rfl)
       refine px_ HT_ 6 96 36351 ?_
       refine ta_ HT_ HW_ 9 (some 99) (bv_ 18 36863) hHeld ?_ (hy:=by rintro w' ⟨s0,s1,s2,s3⟩;go_simp;with_reducible rfl)
       refine ta_ HT_ HW_ 12 (some 102) (bv_ 18 40959) hHeld ?_ (hy:=by rintro w' ⟨s0,s1,s2,s3⟩;go_simp;with_reducible rfl)
       refine px_ HT_ 13 103 49151 ?_;refine px_ HT_ 14 104 65535 ?_
       refine on_ HT_ 16 none (bv_ 18 131071) (fun K hK=>?_)
       have ab:=cz_ a1 0;have x3:=blk_frozen a1.out 0;have ac:=cz_ a1 1;have x4:=blk_frozen a1.out 1;have ae:=cz_ a1 2;have x5:=blk_frozen a1.out 2;have af:=cz_ a1 3;have x6:=blk_frozen a1.out 3
       refine skip_ (w1:=?_) (by rfl) rfl ?_ ?_
       rotate_left
       ·go_simp
        rfl
       refine hK.out _ _ ⟨((cell_far (p:=⟨a5,_,none⟩) (by first|exact Kd.own_blk (Kd.R_ne HO_4.out a1.out (by decide))|(rw[add_block];exact Kd.own_blk (Kd.R_ne HO_4.out a1.out (by decide)))|(show (Addr.add _ _).block≠_;rw[add_block];exact Kd.own_blk (Kd.R_ne HO_4.out a1.out (by decide)))|(dsimp only;exact Kd.own_blk (Kd.R_ne HO_4.out a1.out (by decide)))) _).trans (((cell_far (p:=⟨a5,_,none⟩) (by first|exact Kd.own_blk (Kd.R_ne HO_4.out a1.out (by decide))|(rw[add_block];exact Kd.own_blk (Kd.R_ne HO_4.out a1.out (by decide)))|(show (Addr.add _ _).block≠_;rw[add_block];exact Kd.own_blk (Kd.R_ne HO_4.out a1.out (by decide)))|(dsimp only;exact Kd.own_blk (Kd.R_ne HO_4.out a1.out (by decide)))) _).trans (((cell_far (p:=⟨a5,_,none⟩) (by first|exact Kd.own_blk (Kd.R_ne HO_4.out a1.out (by decide))|(rw[add_block];exact Kd.own_blk (Kd.R_ne HO_4.out a1.out (by decide)))|(show (Addr.add _ _).block≠_;rw[add_block];exact Kd.own_blk (Kd.R_ne HO_4.out a1.out (by decide)))|(dsimp only;exact Kd.own_blk (Kd.R_ne HO_4.out a1.out (by decide)))) _).trans (((cell_far (p:=⟨a5,_,none⟩) (by first|exact Kd.own_blk (Kd.R_ne HO_4.out a1.out (by decide))|(rw[add_block];exact Kd.own_blk (Kd.R_ne HO_4.out a1.out (by decide)))|(show (Addr.add _ _).block≠_;rw[add_block];exact Kd.own_blk (Kd.R_ne HO_4.out a1.out (by decide)))|(dsimp only;exact Kd.own_blk (Kd.R_ne HO_4.out a1.out (by decide)))) _).trans (hHeld.1)))))))),((cell_far (p:=⟨a5,_,none⟩) (by first|exact Kd.own_blk (Kd.R_ne HO_4.out a1.out (by decide))|(rw[add_block];exact Kd.own_blk (Kd.R_ne HO_4.out a1.out (by decide)))|(show (Addr.add _ _).block≠_;rw[add_block];exact Kd.own_blk (Kd.R_ne HO_4.out a1.out (by decide)))|(dsimp only;exact Kd.own_blk (Kd.R_ne HO_4.out a1.out (by decide)))) _).trans (((cell_far (p:=⟨a5,_,none⟩) (by first|exact Kd.own_blk (Kd.R_ne HO_4.out a1.out (by decide))|(rw[add_block];exact Kd.own_blk (Kd.R_ne HO_4.out a1.out (by decide)))|(show (Addr.add _ _).block≠_;rw[add_block];exact Kd.own_blk (Kd.R_ne HO_4.out a1.out (by decide)))|(dsimp only;exact Kd.own_blk (Kd.R_ne HO_4.out a1.out (by decide)))) _).trans (((cell_far (p:=⟨a5,_,none⟩) (by first|exact Kd.own_blk (Kd.R_ne HO_4.out a1.out (by decide))|(rw[add_block];exact Kd.own_blk (Kd.R_ne HO_4.out a1.out (by decide)))|(show (Addr.add _ _).block≠_;rw[add_block];exact Kd.own_blk (Kd.R_ne HO_4.out a1.out (by decide)))|(dsimp only;exact Kd.own_blk (Kd.R_ne HO_4.out a1.out (by decide)))) _).trans (((cell_far (p:=⟨a5,_,none⟩) (by first|exact Kd.own_blk (Kd.R_ne HO_4.out a1.out (by decide))|(rw[add_block];exact Kd.own_blk (Kd.R_ne HO_4.out a1.out (by decide)))|(show (Addr.add _ _).block≠_;rw[add_block];exact Kd.own_blk (Kd.R_ne HO_4.out a1.out (by decide)))|(dsimp only;exact Kd.own_blk (Kd.R_ne HO_4.out a1.out (by decide)))) _).trans (hHeld.2.1)))))))),((cell_far (p:=⟨a5,_,none⟩) (by first|exact Kd.own_blk (Kd.R_ne HO_4.out a1.out (by decide))|(rw[add_block];exact Kd.own_blk (Kd.R_ne HO_4.out a1.out (by decide)))|(show (Addr.add _ _).block≠_;rw[add_block];exact Kd.own_blk (Kd.R_ne HO_4.out a1.out (by decide)))|(dsimp only;exact Kd.own_blk (Kd.R_ne HO_4.out a1.out (by decide)))) _).trans (((cell_far (p:=⟨a5,_,none⟩) (by first|exact Kd.own_blk (Kd.R_ne HO_4.out a1.out (by decide))|(rw[add_block];exact Kd.own_blk (Kd.R_ne HO_4.out a1.out (by decide)))|(show (Addr.add _ _).block≠_;rw[add_block];exact Kd.own_blk (Kd.R_ne HO_4.out a1.out (by decide)))|(dsimp only;exact Kd.own_blk (Kd.R_ne HO_4.out a1.out (by decide)))) _).trans (((cell_far (p:=⟨a5,_,none⟩) (by first|exact Kd.own_blk (Kd.R_ne HO_4.out a1.out (by decide))|(rw[add_block];exact Kd.own_blk (Kd.R_ne HO_4.out a1.out (by decide)))|(show (Addr.add _ _).block≠_;rw[add_block];exact Kd.own_blk (Kd.R_ne HO_4.out a1.out (by decide)))|(dsimp only;exact Kd.own_blk (Kd.R_ne HO_4.out a1.out (by decide)))) _).trans (((cell_far (p:=⟨a5,_,none⟩) (by first|exact Kd.own_blk (Kd.R_ne HO_4.out a1.out (by decide))|(rw[add_block];exact Kd.own_blk (Kd.R_ne HO_4.out a1.out (by decide)))|(show (Addr.add _ _).block≠_;rw[add_block];exact Kd.own_blk (Kd.R_ne HO_4.out a1.out (by decide)))|(dsimp only;exact Kd.own_blk (Kd.R_ne HO_4.out a1.out (by decide)))) _).trans (hHeld.2.2.1)))))))),((cell_far (p:=⟨a5,_,none⟩) (by first|exact Kd.own_blk (Kd.R_ne HO_4.out a1.out (by decide))|(rw[add_block];exact Kd.own_blk (Kd.R_ne HO_4.out a1.out (by decide)))|(show (Addr.add _ _).block≠_;rw[add_block];exact Kd.own_blk (Kd.R_ne HO_4.out a1.out (by decide)))|(dsimp only;exact Kd.own_blk (Kd.R_ne HO_4.out a1.out (by decide)))) _).trans (((cell_far (p:=⟨a5,_,none⟩) (by first|exact Kd.own_blk (Kd.R_ne HO_4.out a1.out (by decide))|(rw[add_block];exact Kd.own_blk (Kd.R_ne HO_4.out a1.out (by decide)))|(show (Addr.add _ _).block≠_;rw[add_block];exact Kd.own_blk (Kd.R_ne HO_4.out a1.out (by decide)))|(dsimp only;exact Kd.own_blk (Kd.R_ne HO_4.out a1.out (by decide)))) _).trans (((cell_far (p:=⟨a5,_,none⟩) (by first|exact Kd.own_blk (Kd.R_ne HO_4.out a1.out (by decide))|(rw[add_block];exact Kd.own_blk (Kd.R_ne HO_4.out a1.out (by decide)))|(show (Addr.add _ _).block≠_;rw[add_block];exact Kd.own_blk (Kd.R_ne HO_4.out a1.out (by decide)))|(dsimp only;exact Kd.own_blk (Kd.R_ne HO_4.out a1.out (by decide)))) _).trans (((cell_far (p:=⟨a5,_,none⟩) (by first|exact Kd.own_blk (Kd.R_ne HO_4.out a1.out (by decide))|(rw[add_block];exact Kd.own_blk (Kd.R_ne HO_4.out a1.out (by decide)))|(show (Addr.add _ _).block≠_;rw[add_block];exact Kd.own_blk (Kd.R_ne HO_4.out a1.out (by decide)))|(dsimp only;exact Kd.own_blk (Kd.R_ne HO_4.out a1.out (by decide)))) _).trans (hHeld.2.2.2))))))))⟩ (fun hHeld=>?_)
       clear hK K;refine px_ HT_ 17 3 262143 ?_
       refine done_ (done_of HT_.out (by kernel_rfl)) ?_
       try go_wp2
       refine bodyPost_ret (results_ct rfl _ _ a5 28 #[i6 (rd a3 0),i6 (rd a3 1),i6 (rd a3 2),i6 (rd a3 3)] (0,0) _ rfl (bp_ a1).out Tryz.underlying28 rfl (by kernel_rfl)) rfl ?_
       exact⟨by first|rfl|(simp[errW_none,errW_some]<;>rfl)|(simp only[←g2];first|rfl|(simp[errW_none,errW_some]<;>rfl))|(simp[*,errW_none,errW_some]<;>rfl),(bw_ HB).out⟩
      rw[if_neg q2] at H
      exact absurd H (by simp)
     rw[if_neg q1] at H
     exact absurd H (by simp)
    rw[if_neg q0] at H
    exact absurd H (by simp)
   rw[if_neg p9] at H
   exact absurd H (by simp)
/-! ### spec_l04Times: function 30 -/
mutual
def spec_l04Times.l0:Nat→Int→Int→Int→Int→Int→Int→Int→Int→Int→Int→Int→Int→Int→Option (Int×Int×Int×Int×Bool)
 |0,_,_,_,_,_,_,_,_,_,_,_,_,_=>none
 |k+1,x7,x356000,x356001,x356002,x356003,x357000,x357001,x357002,x357003,x359000,x359001,x359002,x359003=>if x7<2 then(spec_l04Times.l1 k x7 0 x356000 x356001 x356002 x356003 x357000 x357001 x357002 x357003 x359000 x359001 x359002 x359003) else((spec_l04Reduce.f k x359000 x359001 x359002 x359003).bind fun bt359=>(some (bt359.1,bt359.2.1,bt359.2.2.1,bt359.2.2.2.1,bt359.2.2.2.2)))
def spec_l04Times.l1:Nat→Int→Int→Int→Int→Int→Int→Int→Int→Int→Int→Int→Int→Int→Int→Option (Int×Int×Int×Int×Bool)
 |0,_,_,_,_,_,_,_,_,_,_,_,_,_,_=>none
 |k+1,x7,x8,x356000,x356001,x356002,x356003,x357000,x357001,x357002,x357003,x359000,x359001,x359002,x359003=>if x8<2 then(if x7=0 then(if x8=0 then(spec_l04Times.l1 k x7 (wrap64 (x8+1)) x356000 x356001 x356002 x356003 x357000 x357001 x357002 x357003 (wrap64 ((wrap64 (x356000*x357000))+(wrap64 (x356001*x357002)))) x359001 x359002 x359003) else(if x8=1 then(spec_l04Times.l1 k x7 (wrap64 (x8+1)) x356000 x356001 x356002 x356003 x357000 x357001 x357002 x357003 x359000 (wrap64 ((wrap64 (x356000*x357001))+(wrap64 (x356001*x357003)))) x359002 x359003) else(none))) else(if x7=1 then(if x8=0 then(spec_l04Times.l1 k x7 (wrap64 (x8+1)) x356000 x356001 x356002 x356003 x357000 x357001 x357002 x357003 x359000 x359001 (wrap64 ((wrap64 (x356002*x357000))+(wrap64 (x356003*x357002)))) x359003) else(if x8=1 then(spec_l04Times.l1 k x7 (wrap64 (x8+1)) x356000 x356001 x356002 x356003 x357000 x357001 x357002 x357003 x359000 x359001 x359002 (wrap64 ((wrap64 (x356002*x357001))+(wrap64 (x356003*x357003))))) else(none))) else(none))) else(spec_l04Times.l0 k (wrap64 (x7+1)) x356000 x356001 x356002 x356003 x357000 x357001 x357002 x357003 x359000 x359001 x359002 x359003)
end
def spec_l04Times.f (k:Nat) (a0_0 a0_1 a0_2 a0_3 a1_0 a1_1 a1_2 a1_3:Int):Option (Int×Int×Int×Int×Bool):=spec_l04Times.l0 k 0 a0_0 a0_1 a0_2 a0_3 a1_0 a1_1 a1_2 a1_3 0 0 0 0
def spec_l04Times.T8:Bool×List (List Nat×List Nat):=(true,[([],[]),([],[]),([],[]),([2],[2]),([3],[3]),([4],[4]),([],[]),([],[]),([7,6],[6,7]),([8],[8]),([5,9],[5,9]),([],[]),([11],[11]),([12],[12]),([13],[13]),([],[]),([],[]),([16,15],[15,16]),([17],[17]),([14,18],[14,18]),([10,19],[10,19]),([0],[0]),([21,1,0,1,2,3,4,5,6,7,8,9,10,11,12,13,14,15,16,17,18,19,20],[1,21]),([22,20,0,1,2,3,4,5,6,7,8,9,10,11,12,13,14,15,16,17,18,19,20],[20,22])])
def spec_l04Times.B8:List Nat:=[0,0,0,4,12,28,0,0,192,448,1020,0,2048,6144,14336,0,0,98304,229376,522240,1048572,1,4194303,8388607]
theorem spec_l04Times.tab8:rtab .any (opsOf Tryz.f30 8)=spec_l04Times.T8:=by kernel_rfl
theorem spec_l04Times.bits8:waitsOk spec_l04Times.T8.2 spec_l04Times.B8=true:=by kernel_rfl
theorem spec_l04Times.calls {k:Nat} {d1 d2 d3 d4 d5 d6 d7 d8 r1 r2 r3 r4:Int} {r5:Bool} (w:World) (h:spec_l04Times.f k d1 d2 d3 d4 d5 d6 d7 d8=some (r1,r2,r3,r4,r5)):
  Calls Tryz.prog 30 #[.agg #[i6 d1,i6 d2,i6 d3,i6 d4],.agg #[i6 d5,i6 d6,i6 d7,i6 d8]] w fun e w'=>e= .returned (.tuple #[.agg #[i6 r1,i6 r2,i6 r3,i6 r4],.bool r5])∧Below w.heap.size w w':=by
 have hu28:=Tryz.underlying28
 have hu26:=Tryz.underlying26
 have HB:=Aside0.mk (Below.refl w.heap.size w)
 unfold spec_l04Times.f at h;have H:=h;clear h
 have H':=Aside0.mk H
 clear H
 go_enter Tryz.func30,Tryz.ntmps30
 go_wp2_with (first|((refine gd_ 2 ?_);refine by_ 2 #[i6 d1,i6 d2,i6 d3,i6 d4] 28 HB ?_;intro a8 hg w3 a3 hb m7 HB_;replace HB:=HB_;clear hb hg)|((refine gd_ 3 ?_);refine by_ 3 #[i6 d5,i6 d6,i6 d7,i6 d8] 28 HB ?_;intro a9 hg w4 a4 hb m8 HB_;have f8:=bm_ a3 hg;have f9:=bn_ a3 hg;replace a3:=bb_ a3 hb;replace HB:=HB_;clear hb hg)|((refine gd_ 4 ?_);refine by_ 4 #[i6 0,i6 0,i6 0,i6 0] 28 HB ?_;intro f3 hg w5 a6 hb m9 HB_;have g0:=bm_ a3 hg;have g1:=bn_ a3 hg;have g2:=bm_ a4 hg;have g3:=bn_ a4 hg;replace a3:=bb_ a3 hb;replace a4:=bb_ a4 hb;replace HB:=HB_;clear hb hg)|((refine gd_ 6 ?_);refine by_ 6 #[i6 0,i6 0,i6 0,i6 0] 28 HB ?_;intro f6 hg w6 a5 hb n0 HB_;have a1:=bm_ a3 hg;have b5:=bn_ a3 hg;have a2:=bm_ a4 hg;have b6:=bn_ a4 hg;have a7:=bm_ a6 hg;have b4:=bn_ a6 hg;replace a3:=bb_ a3 hb;replace a4:=bb_ a4 hb;replace a6:=bb_ a6 hb;replace HB:=HB_;clear hb hg;have:=nn_ b5;have:=nn_ b6;have:=nn_ b4;have hz10:=ch4_ a5))
 go_loopg [7] k (fun kq v7 w'=>∃(f0:Int) (b7:Int) (b8:Int) (b9:Int) (d0:Int),v7=i6 f0∧Aside0 (spec_l04Times.l0 kq f0 d1 d2 d3 d4 d5 d6 d7 d8 b7 b8 b9 d0=some (r1,r2,r3,r4,r5))∧Aside0 (kq≤k)∧Aside0 (b_ w' a8 #[i6 d1,i6 d2,i6 d3,i6 d4] 28)∧Aside0 (b_ w' a9 #[i6 d5,i6 d6,i6 d7,i6 d8] 28)∧Aside0 (b_ w' f3 #[i6 0,i6 0,i6 0,i6 0] 28)∧Aside0 (b_ w' f6 #[i6 b7,i6 b8,i6 b9,i6 d0] 28)∧Aside0 (Below w.heap.size w w'))
 case atStart=>exact⟨(0),(0),(0),(0),(0),en_,H',⟨Nat.le_refl _⟩,fl_ a3 a1,fl_ a4 a2,fl_ a6 a7,bp_ a5,bw_ HB⟩
 clear H'
 try clear hz10
 obtain⟨f0,b7,b8,b9,d0,rfl,HA,f4,a3,a4,a6,a5,HB⟩:=hrel
 cases gk with
 |zero=>exact absurd HA.out (by simp[spec_l04Times.l0])
 |succ k1=>
  have H:=HA.out;clear HA
  simp only[spec_l04Times.l0] at H
  replace H:=il_ H
  rcases H with ⟨f7,H⟩|⟨f7,H⟩
  ·have H':=Aside0.mk H
   clear H
   go_wp2
   go_loopg [8] k1 (fun kq v8 w'=>∃(d9:Int) (b0:Int) (b1:Int) (b2:Int) (b3:Int),v8=i6 d9∧Aside0 (spec_l04Times.l1 kq f0 d9 d1 d2 d3 d4 d5 d6 d7 d8 b0 b1 b2 b3=some (r1,r2,r3,r4,r5))∧Aside0 (kq≤k1)∧Aside0 (b_ w' a8 #[i6 d1,i6 d2,i6 d3,i6 d4] 28)∧Aside0 (b_ w' a9 #[i6 d5,i6 d6,i6 d7,i6 d8] 28)∧Aside0 (b_ w' f3 #[i6 0,i6 0,i6 0,i6 0] 28)∧Aside0 (b_ w' f6 #[i6 b0,i6 b1,i6 b2,i6 b3] 28)∧Aside0 (Below w.heap.size w w'))
   case atStart=>exact⟨(0),(b7),(b8),(b9),(d0),en_,H',⟨Nat.le_refl _⟩,bl_ a3,bl_ a4,bl_ a6,bl_ a5,bw_ HB⟩
   clear H'
   try clear f7
   try clear hz10
   obtain⟨d9,b0,b1,b2,b3,rfl,HA,f5,a3,a4,a6,a5,HB⟩:=hrel
   cases gk with
   |zero=>exact absurd HA.out (by simp[spec_l04Times.l1])
   |succ k2=>
    have H:=HA.out;clear HA
    simp only[spec_l04Times.l1] at H
    replace H:=il_ H
    rcases H with ⟨g6,H⟩|⟨g6,H⟩
    ·by_cases g8:f0=0
     ·subst g8
      replace H:=i1_ H
      by_cases g9:d9=0
      ·subst g9
       replace H:=i1_ H
       have H':=Aside0.mk H
       clear H
       try go_wp2
       replace a3:=bd_ a3;replace a4:=bd_ a4;replace a6:=bd_ a6;replace a5:=bd_ a5;replace HB:=be_ HB
       refine start_ (n:=24) (S:=fun w'=>c_ w' a8 0 (i6 d1)∧c_ w' a8 1 (i6 d2)∧c_ w' a8 2 (i6 d3)∧c_ w' a8 3 (i6 d4)∧c_ w' a9 0 (i6 d5)∧c_ w' a9 1 (i6 d6)∧c_ w' a9 2 (i6 d7)∧c_ w' a9 3 (i6 d8)) (ds:=[]) (bv_ 24 0) (by kernel_rfl) rfl rfl ⟨cz_ a3 0,cz_ a3 1,cz_ a3 2,cz_ a3 3,cz_ a4 0,cz_ a4 1,cz_ a4 2,cz_ a4 3⟩ (fun hHeld=>?_);refine with_tabW spec_l04Times.tab8 spec_l04Times.bits8 (fun HT_ HW_=>?_)
       generalize wr.drew=p2 at a3 a4 a6 a5 HB hHeld⊢
       refine px_ HT_ 0 20 1 ?_;refine px_ HT_ 1 21 3 ?_;refine px_ HT_ 2 22 7 ?_;refine px_ HT_ 3 23 15 ?_;refine px_ HT_ 4 24 31 ?_;refine px_ HT_ 6 26 95 ?_;refine px_ HT_ 7 27 223 ?_;refine px_ HT_ 8 28 479 ?_;refine px_ HT_ 11 31 2527 ?_;refine px_ HT_ 12 32 6623 ?_;refine px_ HT_ 13 33 14815 ?_;refine px_ HT_ 15 35 47583 ?_;refine px_ HT_ 16 36 113119 ?_;refine px_ HT_ 17 37 244191 ?_;refine px_ HT_ 21 41 2341343 ?_
       refine ta_ HT_ HW_ 5 (some 25) (bv_ 24 2341375) hHeld ?_ (hy:=by rintro w' ⟨s0,s1,s2,s3,s4,s5,s6,s7⟩;go_simp;with_reducible rfl)
       refine ta_ HT_ HW_ 9 (some 29) (bv_ 24 2341887) hHeld ?_ (hy:=by rintro w' ⟨s0,s1,s2,s3,s4,s5,s6,s7⟩;go_simp;with_reducible rfl)
       refine px_ HT_ 10 30 2342911 ?_
       refine ta_ HT_ HW_ 14 (some 34) (bv_ 24 2359295) hHeld ?_ (hy:=by rintro w' ⟨s0,s1,s2,s3,s4,s5,s6,s7⟩;go_simp;with_reducible rfl)
       refine ta_ HT_ HW_ 18 (some 38) (bv_ 24 2621439) hHeld ?_ (hy:=by rintro w' ⟨s0,s1,s2,s3,s4,s5,s6,s7⟩;go_simp;with_reducible rfl)
       refine px_ HT_ 19 39 3145727 ?_;refine px_ HT_ 20 40 4194303 ?_;refine px_ HT_ 22 42 8388607 ?_
       refine on_ HT_ 23 none (bv_ 24 16777215) (fun K hK=>?_)
       have o6:=cz_ a5 0;have n1:=blk_frozen a5.out 0;have i4:=a1.out;have i5:=a2.out;have i7:=a7.out;have i8:=b5.out;have i9:=b6.out;have j0:=b4.out
       refine skip_ (w1:=?_) (by rfl) rfl ?_ ?_
       rotate_left
       ·go_simp
        rfl
       refine hK.out _ _ ⟨(cg_ a1 (hHeld.1)),(cg_ a1 (hHeld.2.1)),(cg_ a1 (hHeld.2.2.1)),(cg_ a1 (hHeld.2.2.2.1)),(cg_ a2 (hHeld.2.2.2.2.1)),(cg_ a2 (hHeld.2.2.2.2.2.1)),(cg_ a2 (hHeld.2.2.2.2.2.2.1)),(cg_ a2 (hHeld.2.2.2.2.2.2.2))⟩ (fun hHeld=>?_)
       clear hK K
       refine done_ (done_of HT_.out (by kernel_rfl)) ?_
       try go_wp2
       go_roundg k2
       case measure=>have:=f4.out;have:=f5.out;omega
       case rel=>exact⟨(wrap64 (0+1)),(wrap64 ((wrap64 (d1*d5))+(wrap64 (d2*d7)))),(b1),(b2),(b3),en_,H',⟨by have:=f4.out;have:=f5.out;omega⟩,fl_ a3 a1,fl_ a4 a2,fl_ a6 a7,bp_ a5,bw_ HB⟩
      rw[if_neg g9] at H
      have n2: (d9==0)=false:=beq_eq_false_iff_ne.mpr g9
      have n3: (d9 !=0)=true:=bne_iff_ne.mpr g9
      by_cases n4:d9=1
      ·subst n4
       replace H:=i1_ H
       have H':=Aside0.mk H
       clear H
       try go_wp2
       replace a3:=bd_ a3;replace a4:=bd_ a4;replace a6:=bd_ a6;replace a5:=bd_ a5;replace HB:=be_ HB
       refine start_ (n:=24) (S:=fun w'=>c_ w' a8 0 (i6 d1)∧c_ w' a8 1 (i6 d2)∧c_ w' a8 2 (i6 d3)∧c_ w' a8 3 (i6 d4)∧c_ w' a9 0 (i6 d5)∧c_ w' a9 1 (i6 d6)∧c_ w' a9 2 (i6 d7)∧c_ w' a9 3 (i6 d8)) (ds:=[]) (bv_ 24 0) (by kernel_rfl) rfl rfl ⟨cz_ a3 0,cz_ a3 1,cz_ a3 2,cz_ a3 3,cz_ a4 0,cz_ a4 1,cz_ a4 2,cz_ a4 3⟩ (fun hHeld=>?_);refine with_tabW spec_l04Times.tab8 spec_l04Times.bits8 (fun HT_ HW_=>?_)
       generalize wr.drew=p3 at a3 a4 a6 a5 HB hHeld⊢
       refine px_ HT_ 0 20 1 ?_;refine px_ HT_ 1 21 3 ?_;refine px_ HT_ 2 22 7 ?_;refine px_ HT_ 3 23 15 ?_;refine px_ HT_ 4 24 31 ?_;refine px_ HT_ 6 26 95 ?_;refine px_ HT_ 7 27 223 ?_;refine px_ HT_ 8 28 479 ?_;refine px_ HT_ 11 31 2527 ?_;refine px_ HT_ 12 32 6623 ?_;refine px_ HT_ 13 33 14815 ?_;refine px_ HT_ 15 35 47583 ?_;refine px_ HT_ 16 36 113119 ?_;refine px_ HT_ 17 37 244191 ?_;refine px_ HT_ 21 41 2341343 ?_
       refine ta_ HT_ HW_ 5 (some 25) (bv_ 24 2341375) hHeld ?_ (hy:=by rintro w' ⟨s0,s1,s2,s3,s4,s5,s6,s7⟩;go_simp;with_reducible rfl)
       refine ta_ HT_ HW_ 9 (some 29) (bv_ 24 2341887) hHeld ?_ (hy:=by rintro w' ⟨s0,s1,s2,s3,s4,s5,s6,s7⟩;go_simp;with_reducible rfl)
       refine px_ HT_ 10 30 2342911 ?_
       refine ta_ HT_ HW_ 14 (some 34) (bv_ 24 2359295) hHeld ?_ (hy:=by rintro w' ⟨s0,s1,s2,s3,s4,s5,s6,s7⟩;go_simp;with_reducible rfl)
       refine ta_ HT_ HW_ 18 (some 38) (bv_ 24 2621439) hHeld ?_ (hy:=by rintro w' ⟨s0,s1,s2,s3,s4,s5,s6,s7⟩;go_simp;with_reducible rfl)
       refine px_ HT_ 19 39 3145727 ?_;refine px_ HT_ 20 40 4194303 ?_;refine px_ HT_ 22 42 8388607 ?_
       refine on_ HT_ 23 none (bv_ 24 16777215) (fun K hK=>?_)
       have o7:=cz_ a5 1;have n5:=blk_frozen a5.out 1;have j1:=a1.out;have j2:=a2.out;have j3:=a7.out;have j4:=b5.out;have j5:=b6.out;have j6:=b4.out
       refine skip_ (w1:=?_) (by rfl) rfl ?_ ?_
       rotate_left
       ·go_simp
        rfl
       refine hK.out _ _ ⟨(cg_ a1 (hHeld.1)),(cg_ a1 (hHeld.2.1)),(cg_ a1 (hHeld.2.2.1)),(cg_ a1 (hHeld.2.2.2.1)),(cg_ a2 (hHeld.2.2.2.2.1)),(cg_ a2 (hHeld.2.2.2.2.2.1)),(cg_ a2 (hHeld.2.2.2.2.2.2.1)),(cg_ a2 (hHeld.2.2.2.2.2.2.2))⟩ (fun hHeld=>?_)
       clear hK K
       refine done_ (done_of HT_.out (by kernel_rfl)) ?_
       try go_wp2
       go_roundg k2
       case measure=>have:=f4.out;have:=f5.out;omega
       case rel=>exact⟨(wrap64 (1+1)),(b0),(wrap64 ((wrap64 (d1*d6))+(wrap64 (d2*d8)))),(b2),(b3),en_,H',⟨by have:=f4.out;have:=f5.out;omega⟩,fl_ a3 a1,fl_ a4 a2,fl_ a6 a7,bp_ a5,bw_ HB⟩
      rw[if_neg n4] at H
      exact absurd H (by simp)
     rw[if_neg g8] at H
     have n6: (f0==0)=false:=beq_eq_false_iff_ne.mpr g8
     have n7: (f0 !=0)=true:=bne_iff_ne.mpr g8
     by_cases n8:f0=1
     ·subst n8
      replace H:=i1_ H
      by_cases j7:d9=0
      ·subst j7
       replace H:=i1_ H
       have H':=Aside0.mk H
       clear H
       try go_wp2
       replace a3:=bd_ a3;replace a4:=bd_ a4;replace a6:=bd_ a6;replace a5:=bd_ a5;replace HB:=be_ HB
       refine start_ (n:=24) (S:=fun w'=>c_ w' a8 0 (i6 d1)∧c_ w' a8 1 (i6 d2)∧c_ w' a8 2 (i6 d3)∧c_ w' a8 3 (i6 d4)∧c_ w' a9 0 (i6 d5)∧c_ w' a9 1 (i6 d6)∧c_ w' a9 2 (i6 d7)∧c_ w' a9 3 (i6 d8)) (ds:=[]) (bv_ 24 0) (by kernel_rfl) rfl rfl ⟨cz_ a3 0,cz_ a3 1,cz_ a3 2,cz_ a3 3,cz_ a4 0,cz_ a4 1,cz_ a4 2,cz_ a4 3⟩ (fun hHeld=>?_);refine with_tabW spec_l04Times.tab8 spec_l04Times.bits8 (fun HT_ HW_=>?_)
       generalize wr.drew=p4 at a3 a4 a6 a5 HB hHeld⊢
       refine px_ HT_ 0 20 1 ?_;refine px_ HT_ 1 21 3 ?_;refine px_ HT_ 2 22 7 ?_;refine px_ HT_ 3 23 15 ?_;refine px_ HT_ 4 24 31 ?_;refine px_ HT_ 6 26 95 ?_;refine px_ HT_ 7 27 223 ?_;refine px_ HT_ 8 28 479 ?_;refine px_ HT_ 11 31 2527 ?_;refine px_ HT_ 12 32 6623 ?_;refine px_ HT_ 13 33 14815 ?_;refine px_ HT_ 15 35 47583 ?_;refine px_ HT_ 16 36 113119 ?_;refine px_ HT_ 17 37 244191 ?_;refine px_ HT_ 21 41 2341343 ?_
       refine ta_ HT_ HW_ 5 (some 25) (bv_ 24 2341375) hHeld ?_ (hy:=by rintro w' ⟨s0,s1,s2,s3,s4,s5,s6,s7⟩;go_simp;with_reducible rfl)
       refine ta_ HT_ HW_ 9 (some 29) (bv_ 24 2341887) hHeld ?_ (hy:=by rintro w' ⟨s0,s1,s2,s3,s4,s5,s6,s7⟩;go_simp;with_reducible rfl)
       refine px_ HT_ 10 30 2342911 ?_
       refine ta_ HT_ HW_ 14 (some 34) (bv_ 24 2359295) hHeld ?_ (hy:=by rintro w' ⟨s0,s1,s2,s3,s4,s5,s6,s7⟩;go_simp;with_reducible rfl)
       refine ta_ HT_ HW_ 18 (some 38) (bv_ 24 2621439) hHeld ?_ (hy:=by rintro w' ⟨s0,s1,s2,s3,s4,s5,s6,s7⟩;go_simp;with_reducible rfl)
       refine px_ HT_ 19 39 3145727 ?_;refine px_ HT_ 20 40 4194303 ?_;refine px_ HT_ 22 42 8388607 ?_
       refine on_ HT_ 23 none (bv_ 24 16777215) (fun K hK=>?_)
       have o8:=cz_ a5 2;have n9:=blk_frozen a5.out 2;have j8:=a1.out;have j9:=a2.out;have l2:=a7.out;have l3:=b5.out;have l4:=b6.out;have l5:=b4.out
       refine skip_ (w1:=?_) (by rfl) rfl ?_ ?_
       rotate_left
       ·go_simp
        rfl
       refine hK.out _ _ ⟨(cg_ a1 (hHeld.1)),(cg_ a1 (hHeld.2.1)),(cg_ a1 (hHeld.2.2.1)),(cg_ a1 (hHeld.2.2.2.1)),(cg_ a2 (hHeld.2.2.2.2.1)),(cg_ a2 (hHeld.2.2.2.2.2.1)),(cg_ a2 (hHeld.2.2.2.2.2.2.1)),(cg_ a2 (hHeld.2.2.2.2.2.2.2))⟩ (fun hHeld=>?_)
       clear hK K
       refine done_ (done_of HT_.out (by kernel_rfl)) ?_
       try go_wp2
       go_roundg k2
       case measure=>have:=f4.out;have:=f5.out;omega
       case rel=>exact⟨(wrap64 (0+1)),(b0),(b1),(wrap64 ((wrap64 (d3*d5))+(wrap64 (d4*d7)))),(b3),en_,H',⟨by have:=f4.out;have:=f5.out;omega⟩,fl_ a3 a1,fl_ a4 a2,fl_ a6 a7,bp_ a5,bw_ HB⟩
      rw[if_neg j7] at H
      have o0: (d9==0)=false:=beq_eq_false_iff_ne.mpr j7
      have o1: (d9 !=0)=true:=bne_iff_ne.mpr j7
      by_cases o2:d9=1
      ·subst o2
       replace H:=i1_ H
       have H':=Aside0.mk H
       clear H
       try go_wp2
       replace a3:=bd_ a3;replace a4:=bd_ a4;replace a6:=bd_ a6;replace a5:=bd_ a5;replace HB:=be_ HB
       refine start_ (n:=24) (S:=fun w'=>c_ w' a8 0 (i6 d1)∧c_ w' a8 1 (i6 d2)∧c_ w' a8 2 (i6 d3)∧c_ w' a8 3 (i6 d4)∧c_ w' a9 0 (i6 d5)∧c_ w' a9 1 (i6 d6)∧c_ w' a9 2 (i6 d7)∧c_ w' a9 3 (i6 d8)) (ds:=[]) (bv_ 24 0) (by kernel_rfl) rfl rfl ⟨cz_ a3 0,cz_ a3 1,cz_ a3 2,cz_ a3 3,cz_ a4 0,cz_ a4 1,cz_ a4 2,cz_ a4 3⟩ (fun hHeld=>?_);refine with_tabW spec_l04Times.tab8 spec_l04Times.bits8 (fun HT_ HW_=>?_)
       generalize wr.drew=p5 at a3 a4 a6 a5 HB hHeld⊢
       refine px_ HT_ 0 20 1 ?_;refine px_ HT_ 1 21 3 ?_;refine px_ HT_ 2 22 7 ?_;refine px_ HT_ 3 23 15 ?_;refine px_ HT_ 4 24 31 ?_;refine px_ HT_ 6 26 95 ?_;refine px_ HT_ 7 27 223 ?_;refine px_ HT_ 8 28 479 ?_;refine px_ HT_ 11 31 2527 ?_;refine px_ HT_ 12 32 6623 ?_;refine px_ HT_ 13 33 14815 ?_;refine px_ HT_ 15 35 47583 ?_;refine px_ HT_ 16 36 113119 ?_;refine px_ HT_ 17 37 244191 ?_;refine px_ HT_ 21 41 2341343 ?_
       refine ta_ HT_ HW_ 5 (some 25) (bv_ 24 2341375) hHeld ?_ (hy:=by rintro w' ⟨s0,s1,s2,s3,s4,s5,s6,s7⟩;go_simp;with_reducible rfl)
       refine ta_ HT_ HW_ 9 (some 29) (bv_ 24 2341887) hHeld ?_ (hy:=by rintro w' ⟨s0,s1,s2,s3,s4,s5,s6,s7⟩;go_simp;with_reducible rfl)
       refine px_ HT_ 10 30 2342911 ?_
       refine ta_ HT_ HW_ 14 (some 34) (bv_ 24 2359295) hHeld ?_ (hy:=by rintro w' ⟨s0,s1,s2,s3,s4,s5,s6,s7⟩;go_simp;with_reducible rfl)
       refine ta_ HT_ HW_ 18 (some 38) (bv_ 24 2621439) hHeld ?_ (hy:=by rintro w' ⟨s0,s1,s2,s3,s4,s5,s6,s7⟩;go_simp;with_reducible rfl)
       refine px_ HT_ 19 39 3145727 ?_;refine px_ HT_ 20 40 4194303 ?_;refine px_ HT_ 22 42 8388607 ?_
       refine on_ HT_ 23 none (bv_ 24 16777215) (fun K hK=>?_)
       have o9:=cz_ a5 3;have o3:=blk_frozen a5.out 3;have l6:=a1.out;have l7:=a2.out;have l8:=a7.out;have l9:=b5.out;have m1:=b6.out;have m2:=b4.out
       refine skip_ (w1:=?_) (by rfl) rfl ?_ ?_
       rotate_left
       ·go_simp
        rfl
       refine hK.out _ _ ⟨(cg_ a1 (hHeld.1)),(cg_ a1 (hHeld.2.1)),(cg_ a1 (hHeld.2.2.1)),(cg_ a1 (hHeld.2.2.2.1)),(cg_ a2 (hHeld.2.2.2.2.1)),(cg_ a2 (hHeld.2.2.2.2.2.1)),(cg_ a2 (hHeld.2.2.2.2.2.2.1)),(cg_ a2 (hHeld.2.2.2.2.2.2.2))⟩ (fun hHeld=>?_)
       clear hK K
       refine done_ (done_of HT_.out (by kernel_rfl)) ?_
       try go_wp2
       go_roundg k2
       case measure=>have:=f4.out;have:=f5.out;omega
       case rel=>exact⟨(wrap64 (1+1)),(b0),(b1),(b2),(wrap64 ((wrap64 (d3*d6))+(wrap64 (d4*d8)))),en_,H',⟨by have:=f4.out;have:=f5.out;omega⟩,fl_ a3 a1,fl_ a4 a2,fl_ a6 a7,bp_ a5,bw_ HB⟩
      rw[if_neg o2] at H
      exact absurd H (by simp)
     rw[if_neg n8] at H
     exact absurd H (by simp)
    have H':=Aside0.mk H
    clear H
    go_wp2
    go_roundg k2
    case measure=>have:=f4.out;have:=f5.out;omega
    case rel=>exact⟨(wrap64 (f0+1)),(b0),(b1),(b2),(b3),en_,H',⟨by have:=f4.out;have:=f5.out;omega⟩,bl_ a3,bl_ a4,bl_ a6,bl_ a5,bw_ HB⟩
  replace H:=oc_ H;obtain⟨⟨m3,m4,m5,m6,p0⟩,p1,H⟩:=H
  simp only[Option.some.injEq,Prod.mk.injEq] at H
  obtain⟨rfl,rfl,rfl,rfl,rfl⟩:=H;have:=nn_ b4;have hz29:=ch4_ a5
  go_wp2_with (first|((refine gc_ 58 ?_);refine ge_ 45 Tryz.func58 #[.agg #[i6 b7,i6 b8,i6 b9,i6 d0]] ?_;(with_reducible refine mo_ (spec_l04Reduce.calls _ p1.out) ?_);intro p6 hb;replace a6:=bb_ a6 hb;replace a5:=bb_ a5 hb;replace HB:=bt_ HB hb;clear hb)|((refine gd_ 9 ?_);refine by_ 9 #[i6 0,i6 0,i6 0,i6 0] 28 HB ?_;intro o4 hg p7 g7 hb o5 HB_;have g4:=bm_ a6 hg;have f1:=bn_ a6 hg;have g5:=bm_ a5 hg;have f2:=bn_ a5 hg;replace a6:=bb_ a6 hb;replace a5:=bb_ a5 hb;replace HB:=HB_;clear hb hg;have:=nn_ f1;have:=nn_ f2;have hz34:=ch4_ g7;have hz35:=ch4_ a6))
  refine bodyPost_ret (results_ct rfl _ _ f3 28 #[i6 m3,i6 m4,i6 m5,i6 m6] (0,0) _ rfl (bp_ a6).out Tryz.underlying28 rfl (by kernel_rfl)) rfl ?_
  exact⟨es_,(bw_ HB).out⟩
end Go.Proofs.YtblmdppbbdbbjabGreat.QP
