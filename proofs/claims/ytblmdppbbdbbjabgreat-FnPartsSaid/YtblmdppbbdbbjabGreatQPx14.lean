import Derived.Test.YtblmdppbbdbbjabGreatQPx8
namespace Go.Proofs.YtblmdppbbdbbjabGreat.QP
set_option maxHeartbeats 8000000
set_option maxRecDepth 100000
open Go.RowKit Go.Proofs.YtblmdppbbdbbjabGreatW.PrintWords Go.Proofs.YtblmdppbbdbbjabGreatW.PrintLast Go.Proofs.YtblmdppbbdbbjabGreatW.PrintMore
attribute [local go_sem] isSome_setCell max2_int min2_int max_two min_two max_three min_three max_four min_four
set_option linter.unusedVariables false
set_option linter.unusedSimpArgs false
/-! ### spec_l01Power: function 66 -/
def spec_l01Power.l0:Nat→Int→Int→Int→Option (Int)
 |0,_,_,_=>none
 |k+1,x0,x1,x5=>if x1>0 then(spec_l01Power.l0 k x0 (wrap64 (x1 - 1)) (wrap64 (x5*x0))) else(some x5)
def spec_l01Power.f (k:Nat) (a0 a1:Int):Option (Int):=spec_l01Power.l0 k a0 a1 1
theorem spec_l01Power.calls {k:Nat} {a0 a1 r:Int} (w:World) (h:spec_l01Power.f k a0 a1=some r):
  Calls Tryz.prog 66 #[i6 a0,i6 a1] w fun e w'=>e= .returned (i6 r)∧Drawn0 w w':=by
 unfold spec_l01Power.f at h;have H:=h;clear h
 have H':=Aside0.mk H
 clear H
 go_enter Tryz.func66,Tryz.ntmps66
 go_wp2
 go_loopg [1,5] k (fun kq v1 v5 w'=>∃(a2:Int) (a3:Int),v1=i6 a2∧v5=i6 a3∧Aside0 (spec_l01Power.l0 kq a0 a2 a3=some r)∧Aside0 (kq≤k)∧Drawn0 w w')
 case atStart=>exact⟨(a1),(1),en_,en_,H',⟨Nat.le_refl _⟩,de_⟩
 clear H';obtain⟨a2,a3,rfl,rfl,HA,a5,⟨m1,rfl⟩⟩:=hrel
 cases gk with
 |zero=>exact absurd HA.out (by simp[spec_l01Power.l0])
 |succ k1=>
  have H:=HA.out;clear HA
  simp only[spec_l01Power.l0] at H
  replace H:=ig_ H
  rcases H with ⟨a4,H⟩|⟨a4,H⟩
  ·have H':=Aside0.mk H
   clear H
   go_wp2
   go_roundg k1
   case measure=>have:=a5.out;omega
   case rel=>exact⟨(wrap64 (a2 - 1)),(wrap64 (a3*a0)),en_,en_,H',⟨by have:=a5.out;omega⟩,de_⟩
  obtain rfl:=si_ H
  go_wp2
  go_ret
  exact⟨en_,de_⟩
/-! ### spec_l01Val: function 67 -/
def spec_l01Val.l0:Nat→Int→Int→Int→Option (Int)
 |0,_,_,_=>none
 |k+1,x0,x1,x5=>if x0=0 then(none) else(if (Int.tmod x1 x0)=0 then(spec_l01Val.l0 k x0 (wrap64 (Int.tdiv x1 x0)) (wrap64 (x5+1))) else(some x5))
def spec_l01Val.f (k:Nat) (a0 a1:Int):Option (Int):=spec_l01Val.l0 k a0 a1 0
theorem spec_l01Val.calls {k:Nat} {a0 a1 r:Int} (w:World) (h:spec_l01Val.f k a0 a1=some r):
  Calls Tryz.prog 67 #[i6 a0,i6 a1] w fun e w'=>e= .returned (i6 r)∧Drawn0 w w':=by
 unfold spec_l01Val.f at h;have H:=h;clear h
 have H':=Aside0.mk H
 clear H
 go_enter Tryz.func67,Tryz.ntmps67
 go_wp2
 go_loopg [1,5] k (fun kq v1 v5 w'=>∃(a2:Int) (a3:Int),v1=i6 a2∧v5=i6 a3∧Aside0 (spec_l01Val.l0 kq a0 a2 a3=some r)∧Aside0 (kq≤k)∧Drawn0 w w')
 case atStart=>exact⟨(a1),(0),en_,en_,H',⟨Nat.le_refl _⟩,de_⟩
 clear H';obtain⟨a2,a3,rfl,rfl,HA,a6,⟨m1,rfl⟩⟩:=hrel
 cases gk with
 |zero=>exact absurd HA.out (by simp[spec_l01Val.l0])
 |succ k1=>
  have H:=HA.out;clear HA
  simp only[spec_l01Val.l0] at H
  replace H:=ief_ H;obtain⟨c3,a7,a8,H⟩:=H;replace H:=ie_ H
  rcases H with ⟨a4,a5,H⟩|⟨c4,a4,a5,H⟩
  ·have H':=Aside0.mk H
   clear H
   go_wp2
   go_roundg k1
   case measure=>have:=a6.out;omega
   case rel=>exact⟨(wrap64 (Int.tdiv a2 a0)),(wrap64 (a3+1)),en_,en_,H',⟨by have:=a6.out;omega⟩,de_⟩
  obtain rfl:=si_ H
  go_wp2
  go_ret
  exact⟨en_,de_⟩
/-! ### spec_l01In: function 85 -/
def spec_l01In.f (a0 a1 a2:Int):Option (Bool):=if a0≥a1 then(some (decide (a0≤a2))) else(some false)
theorem spec_l01In.calls {a0 a1 a2:Int} {r:Bool} (w:World) (h:spec_l01In.f a0 a1 a2=some r):
  Calls Tryz.prog 85 #[i6 a0,i6 a1,i6 a2] w fun e w'=>e= .returned (.bool r)∧Drawn0 w w':=by
 unfold spec_l01In.f at h;have H:=h;clear h;replace H:=in_ H
 rcases H with ⟨a3,H⟩|⟨a3,H⟩
 ·obtain rfl:=si_ H
  go_enter Tryz.func85,Tryz.ntmps85
  go_wp2
  go_ret
  exact⟨en_,de_⟩
 obtain rfl:=si_ H
 go_enter Tryz.func85,Tryz.ntmps85
 go_wp2
 go_ret
 exact⟨en_,de_⟩
/-! ### spec_l01MulMod: function 97 -/
def spec_l01MulMod.f (a0 a1 a2:Int):Option (Int):=if a2=0 then(none) else(some (Int.tmod (wrap64 ((Int.tmod (wrap64 ((Int.tmod (wrap64 ((Int.tmod (wrap64 ((Int.tmod a0 a2)+a2)) a2)*(wrap64 (Int.tdiv (Int.tmod (wrap64 ((Int.tmod a1 a2)+a2)) a2) 1000000)))) a2)*1000000)) a2)+(Int.tmod (wrap64 ((Int.tmod (wrap64 ((Int.tmod a0 a2)+a2)) a2)*(Int.tmod (Int.tmod (wrap64 ((Int.tmod a1 a2)+a2)) a2) 1000000))) a2))) a2))
theorem spec_l01MulMod.calls {a0 a1 a2 r:Int} (w:World) (h:spec_l01MulMod.f a0 a1 a2=some r):
  Calls Tryz.prog 97 #[i6 a0,i6 a1,i6 a2] w fun e w'=>e= .returned (i6 r)∧Drawn0 w w':=by
 unfold spec_l01MulMod.f at h;have H:=h;clear h;replace H:=ief_ H;obtain⟨c4,a3,a4,H⟩:=H
 obtain rfl:=si_ H
 go_enter Tryz.func97,Tryz.ntmps97
 go_wp2
 repeat(go_quiet (fail);try go_wp2)
 go_ret
 exact⟨en_,de_⟩
/-! ### spec_l01InvMod: function 98 -/
def spec_l01InvMod.l0:Nat→Int→Int→Int→Int→Int→Option (Int)
 |0,_,_,_,_,_=>none
 |k+1,x1,x5,x6,x7,x8=>if x6=0 then(if x1=0 then(none) else(some (Int.tmod (wrap64 ((Int.tmod x7 x1)+x1)) x1))) else(spec_l01InvMod.l0 k x1 x6 (wrap64 (x5 - (wrap64 ((wrap64 (Int.tdiv x5 x6))*x6)))) x8 (wrap64 (x7 - (wrap64 ((wrap64 (Int.tdiv x5 x6))*x8)))))
def spec_l01InvMod.f (k:Nat) (a0 a1:Int):Option (Int):=if a1=0 then(none) else(spec_l01InvMod.l0 k a1 (Int.tmod (wrap64 ((Int.tmod a0 a1)+a1)) a1) a1 1 0)
theorem spec_l01InvMod.calls {k:Nat} {a0 a1 r:Int} (w:World) (h:spec_l01InvMod.f k a0 a1=some r):
  Calls Tryz.prog 98 #[i6 a0,i6 a1] w fun e w'=>e= .returned (i6 r)∧Drawn0 w w':=by
 unfold spec_l01InvMod.f at h;have H:=h;clear h;replace H:=ief_ H;obtain⟨c3,a6,a7,H⟩:=H
 have H':=Aside0.mk H
 clear H
 go_enter Tryz.func98,Tryz.ntmps98
 go_wp2
 go_loopg [5,6,7,8] k (fun kq v5 v6 v7 v8 w'=>∃(a3:Int) (a2:Int) (a5:Int) (a4:Int),v5=i6 a3∧v6=i6 a2∧v7=i6 a5∧v8=i6 a4∧Aside0 (spec_l01InvMod.l0 kq a1 a3 a2 a5 a4=some r)∧Aside0 (kq≤k)∧Drawn0 w w')
 case atStart=>exact⟨(Int.tmod (wrap64 ((Int.tmod a0 a1)+a1)) a1),(a1),(1),(0),en_,en_,en_,en_,H',⟨Nat.le_refl _⟩,de_⟩
 clear H'
 try clear c3 a6 a7
 obtain⟨a3,a2,a5,a4,rfl,rfl,rfl,rfl,HA,b0,⟨m1,rfl⟩⟩:=hrel
 cases gk with
 |zero=>exact absurd HA.out (by simp[spec_l01InvMod.l0])
 |succ k1=>
  have H:=HA.out;clear HA
  simp only[spec_l01InvMod.l0] at H
  replace H:=ie_ H
  rcases H with ⟨a8,a9,H⟩|⟨c4,a8,a9,H⟩
  ·replace H:=ief_ H
   obtain⟨c5,b1,b2,H⟩:=H
   obtain rfl:=si_ H
   go_wp2
   go_ret
   exact⟨en_,de_⟩
  have H':=Aside0.mk H
  clear H
  go_wp2
  go_roundg k1
  case measure=>have:=b0.out;omega
  case rel=>exact⟨(a2),(wrap64 (a3 - (wrap64 ((wrap64 (Int.tdiv a3 a2))*a2)))),(a4),(wrap64 (a5 - (wrap64 ((wrap64 (Int.tdiv a3 a2))*a4)))),en_,en_,en_,en_,H',⟨by have:=b0.out;omega⟩,de_⟩
/-! ### spec_l01Of: function 73 -/
def spec_l01Of.f (k:Nat) (a0 a1 a2 a3:Int):Option (Int×Int×Int×Bool):=(spec_l01In.f a3 (-6) 6).bind fun t138=>(if t138=true then(if a1=0 then(some (a3,0,0,true)) else((spec_l01Val.f k a0 a1).bind fun t140=>((spec_l01Val.f k a0 a2).bind fun t141=>(if a3≤(wrap64 (t140 - t141)) then(some (a3,0,0,true)) else(if (mx (wrap64 (t141 - t140)) 0)>6 then(some (0,0,0,false)) else((spec_l01Power.f k a0 (wrap64 (a3+(mx (wrap64 (t141 - t140)) 0)))).bind fun t142=>((spec_l01Power.f k a0 t140).bind fun t143=>(if t143=0 then(none) else((spec_l01Power.f k a0 t141).bind fun t144=>(if t144=0 then(none) else((spec_l01InvMod.f k (wrap64 (Int.tdiv a2 t144)) t142).bind fun t145=>((spec_l01MulMod.f (wrap64 (Int.tdiv a1 t143)) t145 t142).bind fun t146=>((spec_l01Power.f k a0 (mx (wrap64 (t140 - t141)) 0)).bind fun t147=>((spec_l01MulMod.f t146 t147 t142).bind fun t148=>(some (a3,t148,mx (wrap64 (t141 - t140)) 0,true)))))))))))))))) else(some (0,0,0,false)))
theorem spec_l01Of.calls {k:Nat} {a0 a1 a2 a3 r1 r2 r3:Int} {r4:Bool} (w:World) (h:spec_l01Of.f k a0 a1 a2 a3=some (r1,r2,r3,r4)):
  Calls Tryz.prog 73 #[i6 a0,i6 a1,i6 a2,i6 a3] w fun e w'=>e= .returned (.tuple #[.agg #[i6 r1,i6 r2,i6 r3],.bool r4])∧Below w.heap.size w w':=by
 have hu42:=Tryz.underlying42
 have HB:=Aside0.mk (Below.refl w.heap.size w)
 unfold spec_l01Of.f at h;have H:=h;clear h;replace H:=oc_ H;obtain⟨g6,A5,H⟩:=H;replace H:=ib_ H
 rcases H with ⟨rfl,H⟩|⟨rfl,H⟩
 ·replace H:=ie_ H
  rcases H with ⟨d3,d4,H⟩|⟨c7,d3,d4,H⟩
  ·simp only[Option.some.injEq,Prod.mk.injEq] at H
   obtain⟨rfl,rfl,rfl,rfl⟩:=H
   go_enter Tryz.func73,Tryz.ntmps73
   go_wp2_with (first|((refine gd_ 8 ?_);refine by_ 8 #[i6 0,i6 0,i6 0] 42 HB ?_;intro a7 hg w8 a4 hb b3 HB_;replace HB:=HB_;clear hb hg)|((refine gc_ 85 ?_);refine ge_ 15 Tryz.func85 #[i6 a3,i6 (-6),i6 6] ?_;(with_reducible refine mo_ (spec_l01In.calls _ A5.out) ?_);rintro w' ⟨nd,rfl⟩;(try(rw[drewN_self w8];generalize hq_:World.drewN w8 _=w8;replace a4:=bq_ a4 hq_;replace HB:=hq_' HB hq_;clear hq_)))|((refine gd_ 10 ?_);refine by_ 10 #[i6 0,i6 0,i6 0] 42 HB ?_;intro b4 hg w9 b0 hb b5 HB_;have a9:=bm_ a4 hg;have a5:=bn_ a4 hg;replace a4:=bb_ a4 hb;replace HB:=HB_;clear hb hg;have:=nn_ a5;have hz11:=ch3_ b0;have hz12:=ch3_ a4))
   refine bodyPost_ret (results_ct rfl _ _ a7 42 #[i6 a3,i6 0,i6 0] (0,0) _ rfl (bp_ a4).out Tryz.underlying42 rfl (by kernel_rfl)) rfl ?_
   exact⟨es_,(bw_ HB).out⟩
  replace H:=oc_ H;obtain⟨b1,b9,H⟩:=H;replace H:=oc_ H;obtain⟨b2,d0,H⟩:=H;replace H:=im_ H
  rcases H with ⟨d1,H⟩|⟨d1,H⟩
  ·simp only[Option.some.injEq,Prod.mk.injEq] at H
   obtain⟨rfl,rfl,rfl,rfl⟩:=H
   go_enter Tryz.func73,Tryz.ntmps73
   go_wp2_with (first|((refine gd_ 8 ?_);refine by_ 8 #[i6 0,i6 0,i6 0] 42 HB ?_;intro a7 hg d5 a4 hb b3 HB_;replace HB:=HB_;clear hb hg)|((refine gc_ 85 ?_);refine ge_ 15 Tryz.func85 #[i6 a3,i6 (-6),i6 6] ?_;(with_reducible refine mo_ (spec_l01In.calls _ A5.out) ?_);rintro w' ⟨nd,rfl⟩;(try(rw[drewN_self d5];generalize hq_:World.drewN d5 _=d5;replace a4:=bq_ a4 hq_;replace HB:=hq_' HB hq_;clear hq_)))|((refine gd_ 10 ?_);refine by_ 10 #[i6 0,i6 0,i6 0] 42 HB ?_;intro b4 hg g9 b0 hb b5 HB_;have a9:=bm_ a4 hg;have a5:=bn_ a4 hg;replace a4:=bb_ a4 hb;replace HB:=HB_;clear hb hg;have:=nn_ a5;have hz19:=ch3_ b0)|((refine gc_ 67 ?_);refine ge_ 25 Tryz.func67 #[i6 a0,i6 a1] ?_;(with_reducible refine mo_ (spec_l01Val.calls _ b9.out) ?_);rintro w' ⟨nd,rfl⟩)|((refine gc_ 67 ?_);refine ge_ 28 Tryz.func67 #[i6 a0,i6 a2] ?_;(with_reducible refine mo_ (spec_l01Val.calls _ d0.out) ?_);rintro w' ⟨nd,rfl⟩;have hz20:=ch3_ a4))
   refine bodyPost_ret (results_ct rfl _ _ a7 42 #[i6 a3,i6 0,i6 0] (0,0) _ rfl (bp_ a4).out Tryz.underlying42 rfl (by kernel_rfl)) rfl ?_
   exact⟨es_,(bw_ HB).out⟩
  obtain⟨b6,a8⟩:∃j_:Int,(mx (wrap64 (b2 - b1)) 0)=j_:=⟨_,rfl⟩
  simp only[a8] at H
  (try rw[a8] at A5)
  (try rw[a8] at b9)
  (try rw[a8] at d0)
  (try(have hji21l:0≤b6:=by(rw[←a8];unfold mx;(repeat' split)<;>omega)))
  (try(have hji21m:0≤b6:=by omega))
  have d6: (if (wrap64 (b2 - b1))<0 then 0 else(wrap64 (b2 - b1)))=b6:=a8
  replace H:=ig_ H
  rcases H with ⟨d2,H⟩|⟨d2,H⟩
  ·simp only[Option.some.injEq,Prod.mk.injEq] at H
   obtain⟨rfl,rfl,rfl,rfl⟩:=H
   go_enter Tryz.func73,Tryz.ntmps73
   go_wp2_with (first|((refine gd_ 8 ?_);refine by_ 8 #[i6 0,i6 0,i6 0] 42 HB ?_;intro a7 hg d7 a4 hb b3 HB_;replace HB:=HB_;clear hb hg)|((refine gc_ 85 ?_);refine ge_ 15 Tryz.func85 #[i6 a3,i6 (-6),i6 6] ?_;(with_reducible refine mo_ (spec_l01In.calls _ A5.out) ?_);rintro w' ⟨nd,rfl⟩;(try(rw[drewN_self d7];generalize hq_:World.drewN d7 _=d7;replace a4:=bq_ a4 hq_;replace HB:=hq_' HB hq_;clear hq_)))|((refine gd_ 10 ?_);refine by_ 10 #[i6 0,i6 0,i6 0] 42 HB ?_;intro b4 hg i4 b0 hb b5 HB_;have a9:=bm_ a4 hg;have a5:=bn_ a4 hg;replace a4:=bb_ a4 hb;replace HB:=HB_;clear hb hg;have:=nn_ a5;have hz26:=ch3_ b0)|((refine gc_ 67 ?_);refine ge_ 25 Tryz.func67 #[i6 a0,i6 a1] ?_;(with_reducible refine mo_ (spec_l01Val.calls _ b9.out) ?_);rintro w' ⟨nd,rfl⟩)|((refine gc_ 67 ?_);refine ge_ 28 Tryz.func67 #[i6 a0,i6 a2] ?_;(with_reducible refine mo_ (spec_l01Val.calls _ d0.out) ?_);rintro w' ⟨nd,rfl⟩;have hz27:=ch3_ a4))
   refine bodyPost_ret (results_ct rfl _ _ a7 42 #[i6 0,i6 0,i6 0] (0,0) _ rfl (bp_ a4).out Tryz.underlying42 rfl (by kernel_rfl)) rfl ?_
   exact⟨by first|rfl|(simp[errW_none,errW_some]<;>rfl)|(simp only[←a8];first|rfl|(simp[errW_none,errW_some]<;>rfl))|(simp[*,errW_none,errW_some]<;>rfl),(bw_ HB).out⟩
  replace H:=oc_ H;obtain⟨b8,f7,H⟩:=H;replace H:=oc_ H;obtain⟨d8,f8,H⟩:=H;replace H:=ief_ H;obtain⟨i5,f9,g0,H⟩:=H;replace H:=oc_ H;obtain⟨d9,g1,H⟩:=H;replace H:=ief_ H;obtain⟨i7,g2,g3,H⟩:=H;replace H:=oc_ H;obtain⟨f0,g4,H⟩:=H;replace H:=oc_ H;obtain⟨f1,g5,H⟩:=H
  obtain⟨b7,a6⟩:∃j_:Int,(mx (wrap64 (b1 - b2)) 0)=j_:=⟨_,rfl⟩
  simp only[a6] at H
  (try rw[a6] at A5)
  (try rw[a6] at b9)
  (try rw[a6] at d0)
  (try rw[a6] at f7)
  (try rw[a6] at f8)
  (try rw[a6] at g1)
  (try rw[a6] at g4)
  (try rw[a6] at g5)
  (try(have hji35l:0≤b7:=by(rw[←a6];unfold mx;(repeat' split)<;>omega)))
  (try(have hji35m:0≤b7:=by omega))
  have f2: (if (wrap64 (b1 - b2))<0 then 0 else(wrap64 (b1 - b2)))=b7:=a6
  replace H:=oc_ H;obtain⟨f3,g7,H⟩:=H;replace H:=oc_ H;obtain⟨f4,g8,H⟩:=H
  simp only[Option.some.injEq,Prod.mk.injEq] at H
  obtain⟨rfl,rfl,rfl,rfl⟩:=H
  go_enter Tryz.func73,Tryz.ntmps73
  go_wp2_with (first|((refine gd_ 8 ?_);refine by_ 8 #[i6 0,i6 0,i6 0] 42 HB ?_;intro a7 hg f5 a4 hb b3 HB_;replace HB:=HB_;clear hb hg)|((refine gc_ 85 ?_);refine ge_ 15 Tryz.func85 #[i6 a3,i6 (-6),i6 6] ?_;(with_reducible refine mo_ (spec_l01In.calls _ A5.out) ?_);rintro w' ⟨nd,rfl⟩;(try(rw[drewN_self f5];generalize hq_:World.drewN f5 _=f5;replace a4:=bq_ a4 hq_;replace HB:=hq_' HB hq_;clear hq_)))|((refine gd_ 10 ?_);refine by_ 10 #[i6 0,i6 0,i6 0] 42 HB ?_;intro b4 hg i8 b0 hb b5 HB_;have a9:=bm_ a4 hg;have a5:=bn_ a4 hg;replace a4:=bb_ a4 hb;replace HB:=HB_;clear hb hg;have:=nn_ a5;have hz41:=ch3_ b0)|((refine gc_ 67 ?_);refine ge_ 25 Tryz.func67 #[i6 a0,i6 a1] ?_;(with_reducible refine mo_ (spec_l01Val.calls _ b9.out) ?_);rintro w' ⟨nd,rfl⟩)|((refine gc_ 67 ?_);refine ge_ 28 Tryz.func67 #[i6 a0,i6 a2] ?_;(with_reducible refine mo_ (spec_l01Val.calls _ d0.out) ?_);rintro w' ⟨nd,rfl⟩)|((refine gc_ 66 ?_);refine ge_ 49 Tryz.func66 #[i6 a0,i6 (wrap64 (a3+(b6)))] ?_ (hargs:=by(try simp only[List.map_toArray,List.map_cons,List.map_nil]);first|done|(simp only[a8];rfl)|rfl|(simp only[List.length_drop,List.length_take];rfl));(with_reducible refine mo_ (spec_l01Power.calls _ f7.out) ?_);rintro w' ⟨nd,rfl⟩)|((refine gc_ 66 ?_);refine ge_ 53 Tryz.func66 #[i6 a0,i6 b1] ?_;(with_reducible refine mo_ (spec_l01Power.calls _ f8.out) ?_);rintro w' ⟨nd,rfl⟩)|((refine gc_ 66 ?_);refine ge_ 58 Tryz.func66 #[i6 a0,i6 b2] ?_;(with_reducible refine mo_ (spec_l01Power.calls _ g1.out) ?_);rintro w' ⟨nd,rfl⟩)|((refine gc_ 98 ?_);refine ge_ 63 Tryz.func98 #[i6 (wrap64 (Int.tdiv a2 d9)),i6 b8] ?_;(with_reducible refine mo_ (spec_l01InvMod.calls _ g4.out) ?_);rintro w' ⟨nd,rfl⟩)|((refine gc_ 97 ?_);refine ge_ 65 Tryz.func97 #[i6 (wrap64 (Int.tdiv a1 d8)),i6 f0,i6 b8] ?_;(with_reducible refine mo_ (spec_l01MulMod.calls _ g5.out) ?_);rintro w' ⟨nd,rfl⟩)|((refine gc_ 66 ?_);refine ge_ 71 Tryz.func66 #[i6 a0,i6 b7] ?_ (hargs:=by(try simp only[List.map_toArray,List.map_cons,List.map_nil]);first|done|(simp only[a6];rfl)|rfl|(simp only[List.length_drop,List.length_take];rfl));(with_reducible refine mo_ (spec_l01Power.calls _ g7.out) ?_);rintro w' ⟨nd,rfl⟩)|((refine gc_ 97 ?_);refine ge_ 73 Tryz.func97 #[i6 f1,i6 f3,i6 b8] ?_;(with_reducible refine mo_ (spec_l01MulMod.calls _ g8.out) ?_);rintro w' ⟨nd,rfl⟩;have hz42:=ch3_ a4))
  refine bodyPost_ret (results_ct rfl _ _ a7 42 #[i6 a3,i6 f4,i6 b6] (0,0) _ rfl (bp_ a4).out Tryz.underlying42 rfl (by kernel_rfl)) rfl ?_
  exact⟨by first|rfl|(simp[errW_none,errW_some]<;>rfl)|(simp only[←a8,←a6];first|rfl|(simp[errW_none,errW_some]<;>rfl))|(simp[*,errW_none,errW_some]<;>rfl),(bw_ HB).out⟩
 simp only[Option.some.injEq,Prod.mk.injEq] at H
 obtain⟨rfl,rfl,rfl,rfl⟩:=H
 go_enter Tryz.func73,Tryz.ntmps73
 go_wp2_with (first|((refine gd_ 8 ?_);refine by_ 8 #[i6 0,i6 0,i6 0] 42 HB ?_;intro a7 hg f6 a4 hb b3 HB_;replace HB:=HB_;clear hb hg)|((refine gc_ 85 ?_);refine ge_ 15 Tryz.func85 #[i6 a3,i6 (-6),i6 6] ?_;(with_reducible refine mo_ (spec_l01In.calls _ A5.out) ?_);rintro w' ⟨nd,rfl⟩;(try(rw[drewN_self f6];generalize hq_:World.drewN f6 _=f6;replace a4:=bq_ a4 hq_;replace HB:=hq_' HB hq_;clear hq_));have hz44:=ch3_ a4))
 refine bodyPost_ret (results_ct rfl _ _ a7 42 #[i6 0,i6 0,i6 0] (0,0) _ rfl (bp_ a4).out Tryz.underlying42 rfl (by kernel_rfl)) rfl ?_
 exact⟨es_,(bw_ HB).out⟩
end Go.Proofs.YtblmdppbbdbbjabGreat.QP
