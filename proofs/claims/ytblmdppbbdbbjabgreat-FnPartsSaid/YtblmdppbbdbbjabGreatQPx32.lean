import Derived.Test.YtblmdppbbdbbjabGreatQPx8
namespace Go.Proofs.YtblmdppbbdbbjabGreat.QP
set_option maxHeartbeats 8000000
set_option maxRecDepth 100000
open Go.RowKit Go.Proofs.YtblmdppbbdbbjabGreatW.PrintWords Go.Proofs.YtblmdppbbdbbjabGreatW.PrintLast Go.Proofs.YtblmdppbbdbbjabGreatW.PrintMore
attribute [local go_sem] isSome_setCell max2_int min2_int max_two min_two max_three min_three max_four min_four
set_option linter.unusedVariables false
set_option linter.unusedSimpArgs false
/-! ### impl_isPrime: function 63 -/
def impl_isPrime.f (a0:Int):Option (Bool):=if a0=2 then(some true) else(if a0=3 then(some true) else(if a0=5 then(some true) else(some (a0==7))))
theorem impl_isPrime.calls {a0:Int} {r:Bool} (w:World) (h:impl_isPrime.f a0=some r):
  Calls Tryz.prog 63 #[i6 a0] w fun e w'=>e= .returned (.bool r)∧Drawn0 w w':=by
 unfold impl_isPrime.f at h;have H:=h;clear h;replace H:=ie_ H
 rcases H with ⟨a1,a2,H⟩|⟨c2,a1,a2,H⟩
 ·obtain rfl:=si_ H
  go_enter Tryz.func63,Tryz.ntmps63
  go_wp2
  go_ret
  exact⟨en_,de_⟩
 replace H:=ie_ H
 rcases H with ⟨a3,a4,H⟩|⟨c3,a3,a4,H⟩
 ·obtain rfl:=si_ H
  go_enter Tryz.func63,Tryz.ntmps63
  go_wp2
  go_ret
  exact⟨en_,de_⟩
 replace H:=ie_ H
 rcases H with ⟨a5,a6,H⟩|⟨c4,a5,a6,H⟩
 ·obtain rfl:=si_ H
  go_enter Tryz.func63,Tryz.ntmps63
  go_wp2
  go_ret
  exact⟨en_,de_⟩
 obtain rfl:=si_ H
 go_enter Tryz.func63,Tryz.ntmps63
 go_wp2
 go_ret
 exact⟨en_,de_⟩
/-! ### impl_power: function 64 -/
def impl_power.l0:Nat→Int→Int→Int→Int→Option (Int)
 |0,_,_,_,_=>none
 |k+1,x0,x5,x6,x7=>if x7<x6 then(impl_power.l0 k x0 (wrap64 (x5*x0)) x6 (wrap64 (x7+1))) else(some x5)
def impl_power.f (k:Nat) (a0 a1:Int):Option (Int):=impl_power.l0 k a0 1 a1 0
theorem impl_power.calls {k:Nat} {a0 a1 r:Int} (w:World) (h:impl_power.f k a0 a1=some r):
  Calls Tryz.prog 64 #[i6 a0,i6 a1] w fun e w'=>e= .returned (i6 r)∧Drawn0 w w':=by
 unfold impl_power.f at h;have H:=h;clear h
 have H':=Aside0.mk H
 clear H
 go_enter Tryz.func64,Tryz.ntmps64
 go_wp2
 go_loopg [5,7] k (fun kq v5 v7 w'=>∃(a2:Int) (a3:Int),v5=i6 a2∧v7=i6 a3∧Aside0 (impl_power.l0 kq a0 a2 a1 a3=some r)∧Aside0 (kq≤k)∧Drawn0 w w')
 case atStart=>exact⟨(1),(0),en_,en_,H',⟨Nat.le_refl _⟩,de_⟩
 clear H';obtain⟨a2,a3,rfl,rfl,HA,a5,⟨m1,rfl⟩⟩:=hrel
 cases gk with
 |zero=>exact absurd HA.out (by simp[impl_power.l0])
 |succ k1=>
  have H:=HA.out;clear HA
  simp only[impl_power.l0] at H
  replace H:=il_ H
  rcases H with ⟨a4,H⟩|⟨a4,H⟩
  ·have H':=Aside0.mk H
   clear H
   go_wp2
   go_roundg k1
   case measure=>have:=a5.out;omega
   case rel=>exact⟨(wrap64 (a2*a0)),(wrap64 (a3+1)),en_,en_,H',⟨by have:=a5.out;omega⟩,de_⟩
  obtain rfl:=si_ H
  go_wp2
  go_ret
  exact⟨en_,de_⟩
/-! ### impl_isLevel: function 77 -/
def impl_isLevel.f (a0:Int):Option (Bool):=if a0≥(-6) then(some (decide (a0≤6))) else(some false)
theorem impl_isLevel.calls {a0:Int} {r:Bool} (w:World) (h:impl_isLevel.f a0=some r):
  Calls Tryz.prog 77 #[i6 a0] w fun e w'=>e= .returned (.bool r)∧Drawn0 w w':=by
 unfold impl_isLevel.f at h;have H:=h;clear h;replace H:=in_ H
 rcases H with ⟨a1,H⟩|⟨a1,H⟩
 ·obtain rfl:=si_ H
  go_enter Tryz.func77,Tryz.ntmps77
  go_wp2
  go_ret
  exact⟨en_,de_⟩
 obtain rfl:=si_ H
 go_enter Tryz.func77,Tryz.ntmps77
 go_wp2
 go_ret
 exact⟨en_,de_⟩
/-! ### impl_IsBall: function 47 -/
def impl_IsBall.j0:Nat→Int→Bool→Int→Int→Int→Option (Bool)
 |0,_,_,_,_,_=>none
 |k+1,x0,x24,x273000,x273001,x273002=>if x24=true then(some false) else(if (wrap64 (x273000+x273002))≤0 then(if x273001=0 then(some (x273002==0)) else(some false)) else(if x273001≥0 then((impl_power.f k x0 (wrap64 (x273000+x273002))).bind fun t275=>(if x273001<t275 then(if x273002=0 then(some true) else(if x0=0 then(none) else(some ((Int.tmod x273001 x0)!=0)))) else(some false))) else(some false)))
def impl_IsBall.f (k:Nat) (a0 a1_0 a1_1 a1_2:Int):Option (Bool):=(impl_isPrime.f a0).bind fun t273=>(if t273=true then((impl_isLevel.f a1_0).bind fun t274=>(if t274=true then(if a1_2<0 then(impl_IsBall.j0 k a0 true a1_0 a1_1 a1_2) else(impl_IsBall.j0 k a0 (decide (a1_2>6)) a1_0 a1_1 a1_2)) else(impl_IsBall.j0 k a0 true a1_0 a1_1 a1_2))) else(impl_IsBall.j0 k a0 true a1_0 a1_1 a1_2))
theorem impl_IsBall.calls {k:Nat} {a0 a3 a4 a2:Int} {r:Bool} (w:World) (h:impl_IsBall.f k a0 a3 a4 a2=some r):
  Calls Tryz.prog 47 #[i6 a0,.agg #[i6 a3,i6 a4,i6 a2]] w fun e w'=>e= .returned (.bool r)∧Below w.heap.size w w':=by
 have hu42:=Tryz.underlying42
 have HB:=Aside0.mk (Below.refl w.heap.size w)
 unfold impl_IsBall.f at h;have H:=h;clear h;have b7:=Aside0.mk H;clear H
 go_enter Tryz.func47,Tryz.ntmps47
 go_upto_region 1 with (first|((refine gd_ 3 ?_);refine by_ 3 #[i6 a3,i6 a4,i6 a2] 42 HB ?_;intro a6 hg w4 a1 hb a9 HB_;replace HB:=HB_;clear hb hg))
 repeat(go_quiet (first|((refine gd_ 3 ?_);refine by_ 3 #[i6 a3,i6 a4,i6 a2] 42 HB ?_;intro a6 hg w4 a1 hb a9 HB_;replace HB:=HB_;clear hb hg));go_upto_region 1 with (first|((refine gd_ 3 ?_);refine by_ 3 #[i6 a3,i6 a4,i6 a2] 42 HB ?_;intro a6 hg w4 a1 hb a9 HB_;replace HB:=HB_;clear hb hg)))
 (try simp only[Act.put,lstS,lstZ,lstC])
 go_cut [24] (fun d0 wc=>∃(kq:Nat) (a7:Bool),d0= .bool a7∧Aside0 (impl_IsBall.j0 kq a0 a7 a3 a4 a2=some r)∧Aside0 (kq≤k)∧Aside0 (b_ wc a6 #[i6 a3,i6 a4,i6 a2] 42)∧Aside0 (Below w.heap.size w wc))
 case first=>
  have H:=b7.out;clear b7;replace H:=oc_ H;obtain⟨d1,A5,H⟩:=H;replace H:=ib_ H
  rcases H with ⟨rfl,H⟩|⟨rfl,H⟩
  ·replace H:=oc_ H
   obtain⟨d2,A7,H⟩:=H;replace H:=ib_ H
   rcases H with ⟨rfl,H⟩|⟨rfl,H⟩
   ·replace H:=il_ H
    rcases H with ⟨a5,H⟩|⟨a5,H⟩
    ·(first|rw[a5]|(simp only[i64_w,i32_w];rw[a5])|skip)
     have H':=Aside0.mk H
     clear H
     go_wp2_with (first|(go_at_call 63;(with_reducible refine(impl_isPrime.calls _ A5.out).mono ?_);rintro e w' ⟨rfl,⟨nd,rfl⟩⟩;(try exact dd_);have hz10:=ch3_ a1)|(go_at_call 77;(with_reducible refine(impl_isLevel.calls _ A7.out).mono ?_);rintro e w' ⟨rfl,⟨nd,rfl⟩⟩;(try exact dd_)))
     repeat(go_quiet (first|(go_at_call 63;(with_reducible refine(impl_isPrime.calls _ A5.out).mono ?_);rintro e w' ⟨rfl,⟨nd,rfl⟩⟩;(try exact dd_);have hz10:=ch3_ a1)|(go_at_call 77;(with_reducible refine(impl_isLevel.calls _ A7.out).mono ?_);rintro e w' ⟨rfl,⟨nd,rfl⟩⟩;(try exact dd_)));try go_wp2_with (first|(go_at_call 63;(with_reducible refine(impl_isPrime.calls _ A5.out).mono ?_);rintro e w' ⟨rfl,⟨nd,rfl⟩⟩;(try exact dd_);have hz10:=ch3_ a1)|(go_at_call 77;(with_reducible refine(impl_isLevel.calls _ A7.out).mono ?_);rintro e w' ⟨rfl,⟨nd,rfl⟩⟩;(try exact dd_))))
     go_meet
     case rel=>exact⟨_,(true),en_,H',⟨by first|omega|exact Nat.le_refl _⟩,bl_ a1,bw_ HB⟩
    (first|rw[a5]|(simp only[i64_w,i32_w];rw[a5])|skip)
    have H':=Aside0.mk H
    clear H
    go_wp2_with (first|(go_at_call 63;(with_reducible refine(impl_isPrime.calls _ A5.out).mono ?_);rintro e w' ⟨rfl,⟨nd,rfl⟩⟩;(try exact dd_);have hz11:=ch3_ a1)|(go_at_call 77;(with_reducible refine(impl_isLevel.calls _ A7.out).mono ?_);rintro e w' ⟨rfl,⟨nd,rfl⟩⟩;(try exact dd_)))
    repeat(go_quiet (first|(go_at_call 63;(with_reducible refine(impl_isPrime.calls _ A5.out).mono ?_);rintro e w' ⟨rfl,⟨nd,rfl⟩⟩;(try exact dd_);have hz11:=ch3_ a1)|(go_at_call 77;(with_reducible refine(impl_isLevel.calls _ A7.out).mono ?_);rintro e w' ⟨rfl,⟨nd,rfl⟩⟩;(try exact dd_)));try go_wp2_with (first|(go_at_call 63;(with_reducible refine(impl_isPrime.calls _ A5.out).mono ?_);rintro e w' ⟨rfl,⟨nd,rfl⟩⟩;(try exact dd_);have hz11:=ch3_ a1)|(go_at_call 77;(with_reducible refine(impl_isLevel.calls _ A7.out).mono ?_);rintro e w' ⟨rfl,⟨nd,rfl⟩⟩;(try exact dd_))))
    go_meet
    case rel=>exact⟨_,(decide (a2>6)),en_,H',⟨by first|omega|exact Nat.le_refl _⟩,bl_ a1,bw_ HB⟩
   have H':=Aside0.mk H
   clear H
   go_wp2_with (first|(go_at_call 63;(with_reducible refine(impl_isPrime.calls _ A5.out).mono ?_);rintro e w' ⟨rfl,⟨nd,rfl⟩⟩;(try exact dd_);have hz12:=ch3_ a1)|(go_at_call 77;(with_reducible refine(impl_isLevel.calls _ A7.out).mono ?_);rintro e w' ⟨rfl,⟨nd,rfl⟩⟩;(try exact dd_)))
   repeat(go_quiet (first|(go_at_call 63;(with_reducible refine(impl_isPrime.calls _ A5.out).mono ?_);rintro e w' ⟨rfl,⟨nd,rfl⟩⟩;(try exact dd_);have hz12:=ch3_ a1)|(go_at_call 77;(with_reducible refine(impl_isLevel.calls _ A7.out).mono ?_);rintro e w' ⟨rfl,⟨nd,rfl⟩⟩;(try exact dd_)));try go_wp2_with (first|(go_at_call 63;(with_reducible refine(impl_isPrime.calls _ A5.out).mono ?_);rintro e w' ⟨rfl,⟨nd,rfl⟩⟩;(try exact dd_);have hz12:=ch3_ a1)|(go_at_call 77;(with_reducible refine(impl_isLevel.calls _ A7.out).mono ?_);rintro e w' ⟨rfl,⟨nd,rfl⟩⟩;(try exact dd_))))
   go_meet
   case rel=>exact⟨_,(true),en_,H',⟨by first|omega|exact Nat.le_refl _⟩,bl_ a1,bw_ HB⟩
  have H':=Aside0.mk H
  clear H
  go_wp2_with (first|(go_at_call 63;(with_reducible refine(impl_isPrime.calls _ A5.out).mono ?_);rintro e w' ⟨rfl,⟨nd,rfl⟩⟩;(try exact dd_)))
  repeat(go_quiet (first|(go_at_call 63;(with_reducible refine(impl_isPrime.calls _ A5.out).mono ?_);rintro e w' ⟨rfl,⟨nd,rfl⟩⟩;(try exact dd_)));try go_wp2_with (first|(go_at_call 63;(with_reducible refine(impl_isPrime.calls _ A5.out).mono ?_);rintro e w' ⟨rfl,⟨nd,rfl⟩⟩;(try exact dd_))))
  go_meet
  case rel=>exact⟨_,(true),en_,H',⟨by first|omega|exact Nat.le_refl _⟩,bl_ a1,bw_ HB⟩
 clear b7
 try clear a5
 try clear hz10
 try clear hz11
 try clear hz12
 obtain⟨kq,a7,rfl,HA,d4,a1,HB⟩:=hcut
 cases kq with
 |zero=>exact absurd HA.out (by simp[impl_IsBall.j0])
 |succ d5=>
  have H:=HA.out;clear HA
  simp only[impl_IsBall.j0] at H
  replace H:=ib_ H
  rcases H with ⟨rfl,H⟩|⟨rfl,H⟩
  ·obtain rfl:=si_ H
   go_wp2
   repeat(go_quiet (fail);try go_wp2)
   go_ret;exact⟨es_,(bw_ HB).out⟩
  replace H:=im_ H
  rcases H with ⟨b0,H⟩|⟨b0,H⟩
  ·replace H:=ie_ H
   rcases H with ⟨b1,b2,H⟩|⟨d6,b1,b2,H⟩
   ·obtain rfl:=si_ H
    have hz16:=ch3_ a1
    go_wp2
    repeat(go_quiet (fail);try go_wp2)
    go_ret;exact⟨es_,(bw_ HB).out⟩
   obtain rfl:=si_ H
   have hz17:=ch3_ a1
   go_wp2
   repeat(go_quiet (fail);try go_wp2)
   go_ret;exact⟨es_,(bw_ HB).out⟩
  replace H:=in_ H
  rcases H with ⟨b3,H⟩|⟨b3,H⟩
  ·replace H:=oc_ H
   obtain⟨d3,a8,H⟩:=H;replace H:=il_ H
   rcases H with ⟨b4,H⟩|⟨b4,H⟩
   ·replace H:=ie_ H
    rcases H with ⟨b5,b6,H⟩|⟨d7,b5,b6,H⟩
    ·obtain rfl:=si_ H
     have hz22:=ch3_ a1
     go_wp2_with (first|(go_at_call 64;(with_reducible refine(impl_power.calls _ a8.out).mono ?_);rintro e w' ⟨rfl,⟨nd,rfl⟩⟩;(try exact dd_)))
     repeat(go_quiet (first|(go_at_call 64;(with_reducible refine(impl_power.calls _ a8.out).mono ?_);rintro e w' ⟨rfl,⟨nd,rfl⟩⟩;(try exact dd_)));try go_wp2_with (first|(go_at_call 64;(with_reducible refine(impl_power.calls _ a8.out).mono ?_);rintro e w' ⟨rfl,⟨nd,rfl⟩⟩;(try exact dd_))))
     go_ret;exact⟨es_,(bw_ HB).out⟩
    replace H:=ief_ H;obtain⟨d8,b8,b9,H⟩:=H
    obtain rfl:=si_ H
    have hz24:=ch3_ a1
    go_wp2_with (first|(go_at_call 64;(with_reducible refine(impl_power.calls _ a8.out).mono ?_);rintro e w' ⟨rfl,⟨nd,rfl⟩⟩;(try exact dd_)))
    repeat(go_quiet (first|(go_at_call 64;(with_reducible refine(impl_power.calls _ a8.out).mono ?_);rintro e w' ⟨rfl,⟨nd,rfl⟩⟩;(try exact dd_)));try go_wp2_with (first|(go_at_call 64;(with_reducible refine(impl_power.calls _ a8.out).mono ?_);rintro e w' ⟨rfl,⟨nd,rfl⟩⟩;(try exact dd_))))
    go_ret;exact⟨es_,(bw_ HB).out⟩
   obtain rfl:=si_ H
   have hz25:=ch3_ a1
   go_wp2_with (first|(go_at_call 64;(with_reducible refine(impl_power.calls _ a8.out).mono ?_);rintro e w' ⟨rfl,⟨nd,rfl⟩⟩;(try exact dd_)))
   repeat(go_quiet (first|(go_at_call 64;(with_reducible refine(impl_power.calls _ a8.out).mono ?_);rintro e w' ⟨rfl,⟨nd,rfl⟩⟩;(try exact dd_)));try go_wp2_with (first|(go_at_call 64;(with_reducible refine(impl_power.calls _ a8.out).mono ?_);rintro e w' ⟨rfl,⟨nd,rfl⟩⟩;(try exact dd_))))
   go_ret;exact⟨es_,(bw_ HB).out⟩
  obtain rfl:=si_ H
  have hz26:=ch3_ a1
  go_wp2
  repeat(go_quiet (fail);try go_wp2)
  go_ret;exact⟨es_,(bw_ HB).out⟩
/-! ### impl_isSteps: function 54 -/
def impl_isSteps.l0:Nat→Int→ByteArray→Int→Int→Option (Bool)
 |0,_,_,_,_=>none
 |k+1,x0,x1,x8,x9=>if x9<x8 then(if 0≤x9 then(if x9<(x1.size:Int) then(if (bt x1 x9)=117 then(impl_isSteps.l0 k x0 x1 x8 (wrap64 (x9+1))) else(if (bt x1 x9)<48 then(some false) else(if (((bt x1 x9) - 48)%256)≥x0 then(some false) else(impl_isSteps.l0 k x0 x1 x8 (wrap64 (x9+1)))))) else(none)) else(none)) else(some (decide ((x1.size:Int)≤40)))
def impl_isSteps.f (k:Nat) (a0:Int) (a1:ByteArray):Option (Bool):=impl_isSteps.l0 k a0 a1 (a1.size:Int) 0
theorem impl_isSteps.calls {k:Nat} {a0:Int} (a1:ByteArray) {r:Bool} (w:World) (h:impl_isSteps.f k a0 a1=some r):
  Calls Tryz.prog 54 #[i6 a0,.string a1] w fun e w'=>e= .returned (.bool r)∧Drawn0 w w':=by
 unfold impl_isSteps.f at h;have H:=h;clear h
 have H':=Aside0.mk H
 clear H
 go_enter Tryz.func54,Tryz.ntmps54
 go_wp2
 go_loopg [9] k (fun kq v9 w'=>∃(a2:Int),v9=i6 a2∧Aside0 (impl_isSteps.l0 kq a0 a1 (a1.size:Int) a2=some r)∧Aside0 (kq≤k)∧Drawn0 w w')
 case atStart=>exact⟨(0),en_,H',⟨Nat.le_refl _⟩,de_⟩
 clear H';obtain⟨a2,rfl,HA,a3,⟨m1,rfl⟩⟩:=hrel
 cases gk with
 |zero=>exact absurd HA.out (by simp[impl_isSteps.l0])
 |succ k1=>
  have H:=HA.out;clear HA
  simp only[impl_isSteps.l0] at H
  replace H:=il_ H
  rcases H with ⟨a4,H⟩|⟨a4,H⟩
  ·replace H:=imn_ H
   obtain⟨b0,H⟩:=H;replace H:=iln_ H;obtain⟨b1,H⟩:=H;replace H:=ie_ H
   rcases H with ⟨a5,a6,H⟩|⟨c7,a5,a6,H⟩
   ·have H':=Aside0.mk H
    clear H
    have p6:0≤(a2:Int):=od_
    have q6:a2<(a1.size:Int):=od_
    have a7:=bt_at a1 a2
    replace p6:=eq_true p6
    replace q6:=eq_true q6
    go_wp2
    go_roundg k1
    case measure=>have:=a3.out;omega
    case rel=>exact⟨(wrap64 (a2+1)),en_,H',⟨by have:=a3.out;omega⟩,de_⟩
   replace H:=il_ H
   rcases H with ⟨a8,H⟩|⟨a8,H⟩
   ·obtain rfl:=si_ H
    have p6:0≤(a2:Int):=od_
    have q6:a2<(a1.size:Int):=od_
    have a7:=bt_at a1 a2
    replace p6:=eq_true p6
    replace q6:=eq_true q6
    go_wp2
    go_ret
    exact⟨en_,de_⟩
   replace H:=in_ H
   rcases H with ⟨a9,H⟩|⟨a9,H⟩
   ·obtain rfl:=si_ H
    have p6:0≤(a2:Int):=od_
    have q6:a2<(a1.size:Int):=od_
    have a7:=bt_at a1 a2
    replace p6:=eq_true p6
    replace q6:=eq_true q6
    go_wp2
    go_ret
    exact⟨en_,de_⟩
   have H':=Aside0.mk H
   clear H
   have p6:0≤(a2:Int):=od_
   have q6:a2<(a1.size:Int):=od_
   have a7:=bt_at a1 a2
   replace p6:=eq_true p6
   replace q6:=eq_true q6
   go_wp2
   go_roundg k1
   case measure=>have:=a3.out;omega
   case rel=>exact⟨(wrap64 (a2+1)),en_,H',⟨by have:=a3.out;omega⟩,de_⟩
  obtain rfl:=si_ H
  go_wp2
  go_ret
  exact⟨en_,de_⟩
/-! ### impl_stepsCode: function 26 -/
def impl_stepsCode.f (k:Nat) (a0 a1_0 a1_1 a1_2:Int) (a2:ByteArray):Option (Int):=(impl_IsBall.f k a0 a1_0 a1_1 a1_2).bind fun t277=>(if t277=true then((impl_isSteps.f k a0 a2).bind fun t278=>(if t278=true then(some 0) else(some 6))) else(some 1))
theorem impl_stepsCode.calls {k:Nat} {a0 a3 a4 a5:Int} (a2:ByteArray) {r:Int} (w:World) (h:impl_stepsCode.f k a0 a3 a4 a5 a2=some r):
  Calls Tryz.prog 26 #[i6 a0,.agg #[i6 a3,i6 a4,i6 a5],.string a2] w fun e w'=>e= .returned (i6 r)∧Below w.heap.size w w':=by
 have hu42:=Tryz.underlying42
 have HB:=Aside0.mk (Below.refl w.heap.size w)
 unfold impl_stepsCode.f at h;have H:=h;clear h;replace H:=oc_ H;obtain⟨a8,A4,H⟩:=H;replace H:=ib_ H
 rcases H with ⟨rfl,H⟩|⟨rfl,H⟩
 ·replace H:=oc_ H
  obtain⟨a9,A6,H⟩:=H;replace H:=ib_ H
  rcases H with ⟨rfl,H⟩|⟨rfl,H⟩
  ·obtain rfl:=si_ H
   go_enter Tryz.func26,Tryz.ntmps26
   go_wp2_with (first|((refine gd_ 4 ?_);refine by_ 4 #[i6 a3,i6 a4,i6 a5] 42 HB ?_;intro a6 hg w8 a1 hb a7 HB_;replace HB:=HB_;clear hb hg;have hz9:=ch3_ a1)|((refine gc_ 47 ?_);refine ge_ 10 Tryz.func47 #[i6 a0,.agg #[i6 a3,i6 a4,i6 a5]] ?_;(with_reducible refine mo_ (impl_IsBall.calls _ A4.out) ?_);intro b0 hb;replace a1:=bb_ a1 hb;replace HB:=bt_ HB hb;clear hb)|((refine gc_ 54 ?_);refine ge_ 15 Tryz.func54 #[i6 a0,.string a2] ?_;(with_reducible refine mo_ (impl_isSteps.calls a2 _ A6.out) ?_);rintro w' ⟨nd,rfl⟩))
   go_ret;exact⟨es_,(bw_ HB).out⟩
  obtain rfl:=si_ H
  go_enter Tryz.func26,Tryz.ntmps26
  go_wp2_with (first|((refine gd_ 4 ?_);refine by_ 4 #[i6 a3,i6 a4,i6 a5] 42 HB ?_;intro a6 hg b1 a1 hb a7 HB_;replace HB:=HB_;clear hb hg;have hz12:=ch3_ a1)|((refine gc_ 47 ?_);refine ge_ 10 Tryz.func47 #[i6 a0,.agg #[i6 a3,i6 a4,i6 a5]] ?_;(with_reducible refine mo_ (impl_IsBall.calls _ A4.out) ?_);intro b2 hb;replace a1:=bb_ a1 hb;replace HB:=bt_ HB hb;clear hb)|((refine gc_ 54 ?_);refine ge_ 15 Tryz.func54 #[i6 a0,.string a2] ?_;(with_reducible refine mo_ (impl_isSteps.calls a2 _ A6.out) ?_);rintro w' ⟨nd,rfl⟩))
  go_ret;exact⟨es_,(bw_ HB).out⟩
 obtain rfl:=si_ H
 go_enter Tryz.func26,Tryz.ntmps26
 go_wp2_with (first|((refine gd_ 4 ?_);refine by_ 4 #[i6 a3,i6 a4,i6 a5] 42 HB ?_;intro a6 hg b3 a1 hb a7 HB_;replace HB:=HB_;clear hb hg;have hz15:=ch3_ a1)|((refine gc_ 47 ?_);refine ge_ 10 Tryz.func47 #[i6 a0,.agg #[i6 a3,i6 a4,i6 a5]] ?_;(with_reducible refine mo_ (impl_IsBall.calls _ A4.out) ?_);intro b4 hb;replace a1:=bb_ a1 hb;replace HB:=bt_ HB hb;clear hb))
 go_ret;exact⟨es_,(bw_ HB).out⟩
/-! ### impl_one: function 27 -/
def impl_one.f:Option (Int×Int×Int×Int):=some (1,0,0,1)
theorem impl_one.calls (r1 r2 r3 r4:Int) (w:World) (h:impl_one.f=some (r1,r2,r3,r4)):
  Calls Tryz.prog 27 #[] w fun e w'=>e= .returned (.agg #[i6 r1,i6 r2,i6 r3,i6 r4])∧Below w.heap.size w w':=by
 have hu28:=Tryz.underlying28
 have hu26:=Tryz.underlying26
 have HB:=Aside0.mk (Below.refl w.heap.size w)
 unfold impl_one.f at h;have H:=h;clear h
 simp only[Option.some.injEq,Prod.mk.injEq] at H
 obtain⟨rfl,rfl,rfl,rfl⟩:=H
 go_enter Tryz.func27,Tryz.ntmps27
 go_wp2_with (first|((refine gd_ 0 ?_);refine by_ 0 #[i6 0,i6 0,i6 0,i6 0] 28 HB ?_;intro a2 hg w1 a1 hb a3 HB_;replace HB:=HB_;clear hb hg;have hz2:=ch4_ a1))
 refine bodyPost_ret (results_cell_row rfl _ _ a2 28 #[i6 1,i6 0,i6 0,i6 1] (0,0) _ rfl (bp_ a1).out Tryz.underlying28 rfl (by kernel_rfl)) rfl ?_
 exact⟨es_,(bw_ HB).out⟩
/-! ### impl_determinant: function 39 -/
def impl_determinant.f (a0_0 a0_1 a0_2 a0_3:Int):Option (Int):=some (wrap64 ((wrap64 (a0_0*a0_3)) - (wrap64 (a0_1*a0_2))))
theorem impl_determinant.calls {a1 a2 a3 a4 r:Int} (w:World) (h:impl_determinant.f a1 a2 a3 a4=some r):
  Calls Tryz.prog 39 #[.agg #[i6 a1,i6 a2,i6 a3,i6 a4]] w fun e w'=>e= .returned (i6 r)∧Below w.heap.size w w':=by
 have hu28:=Tryz.underlying28
 have hu26:=Tryz.underlying26
 have HB:=Aside0.mk (Below.refl w.heap.size w)
 unfold impl_determinant.f at h;have H:=h;clear h
 obtain rfl:=si_ H
 go_enter Tryz.func39,Tryz.ntmps39
 go_wp2_with (first|((refine gd_ 1 ?_);refine by_ 1 #[i6 a1,i6 a2,i6 a3,i6 a4] 28 HB ?_;intro a6 hg w2 a5 hb a7 HB_;replace HB:=HB_;clear hb hg;have hz3:=ch4_ a5))
 go_ret;exact⟨es_,(bw_ HB).out⟩
/-! ### impl_within: function 78 -/
def impl_within.l0:Nat→Int→List Int→Int→Int→Option (Bool)
 |0,_,_,_,_=>none
 |k+1,x0,x7,x8,x9=>if x9<x8 then(if 0≤x9 then(if x9<(x7.length:Int) then(if (rd x7 x9)<(wrap64 (-x0)) then(some false) else(if (rd x7 x9)>x0 then(some false) else(impl_within.l0 k x0 x7 x8 (wrap64 (x9+1))))) else(none)) else(none)) else(some true)
def impl_within.f (k:Nat) (a0:Int) (l1:List Int):Option (Bool):=impl_within.l0 k a0 l1 (l1.length:Int) 0
theorem impl_within.calls {k:Nat} {a0:Int} (A1:Option Addr) (c1:Nat) {l1:List Int} {r:Bool} (w:World) (hr1:Kd.C (Kd.int .i64) w A1 l1.length l1) (hc1:l1.length≤c1) (h:impl_within.f k a0 l1=some r):
  Calls Tryz.prog 78 #[i6 a0,.slice A1 l1.length c1] w fun e w'=>e= .returned (.bool r)∧Drawn0 w w':=by
 have a7:=Aside0.mk hr1;have b4:=Aside0.mk hc1;clear hr1 hc1;unfold impl_within.f at h;have H:=h;clear h
 have H':=Aside0.mk H
 clear H
 go_enter Tryz.func78,Tryz.ntmps78
 go_wp2
 go_loopg [9] k (fun kq v9 w'=>∃(a1:Int),v9=i6 a1∧Aside0 (impl_within.l0 kq a0 l1 (l1.length:Int) a1=some r)∧Aside0 (kq≤k)∧Drawn0 w w')
 case atStart=>exact⟨(0),en_,H',⟨Nat.le_refl _⟩,de_⟩
 clear H'
 try clear c1
 obtain⟨a1,rfl,HA,b1,⟨m1,rfl⟩⟩:=hrel
 cases gk with
 |zero=>exact absurd HA.out (by simp[impl_within.l0])
 |succ k1=>
  have H:=HA.out;clear HA
  simp only[impl_within.l0] at H
  replace H:=il_ H
  rcases H with ⟨a8,H⟩|⟨a8,H⟩
  ·replace H:=imn_ H
   obtain⟨b2,H⟩:=H;replace H:=iln_ H;obtain⟨b3,H⟩:=H;replace H:=il_ H
   rcases H with ⟨a9,H⟩|⟨a9,H⟩
   ·obtain rfl:=si_ H
    have a2:0≤(a1:Int):=od_
    have a3:a1<(l1.length:Int):=od_
    obtain⟨a6,a5,a4⟩:=Kd.at_int a7.out a1 a2 a3
    cases a5
    replace a2:=eq_true a2
    replace a3:=eq_true a3
    go_wp2
    go_ret
    exact⟨en_,de_⟩
   replace H:=ig_ H
   rcases H with ⟨b0,H⟩|⟨b0,H⟩
   ·obtain rfl:=si_ H
    have a2:0≤(a1:Int):=od_
    have a3:a1<(l1.length:Int):=od_
    obtain⟨a6,a5,a4⟩:=Kd.at_int a7.out a1 a2 a3
    cases a5
    replace a2:=eq_true a2
    replace a3:=eq_true a3
    go_wp2
    go_ret
    exact⟨en_,de_⟩
   have H':=Aside0.mk H
   clear H
   have a2:0≤(a1:Int):=od_
   have a3:a1<(l1.length:Int):=od_
   obtain⟨a6,a5,a4⟩:=Kd.at_int a7.out a1 a2 a3
   cases a5
   replace a2:=eq_true a2
   replace a3:=eq_true a3
   go_wp2
   go_roundg k1
   case measure=>have:=b1.out;omega
   case rel=>exact⟨(wrap64 (a1+1)),en_,H',⟨by have:=b1.out;omega⟩,de_⟩
  obtain rfl:=si_ H
  go_wp2
  go_ret
  exact⟨en_,de_⟩
/-! ### impl_IsMatrix: function 48 -/
def impl_IsMatrix.f (k:Nat) (a0_0 a0_1 a0_2 a0_3:Int):Option (Bool):=(impl_within.f k 1000 (([a0_0,a0_1,a0_2,a0_3]:List Int))).bind fun t286=>(if t286=true then((impl_determinant.f a0_0 a0_1 a0_2 a0_3).bind fun t287=>(some (t287 !=0))) else(some false))
theorem impl_IsMatrix.calls {k:Nat} {a3 a4 a5 a6:Int} {r:Bool} (w:World) (h:impl_IsMatrix.f k a3 a4 a5 a6=some r):
  Calls Tryz.prog 48 #[.agg #[i6 a3,i6 a4,i6 a5,i6 a6]] w fun e w'=>e= .returned (.bool r)∧Below w.heap.size w w':=by
 have hu28:=Tryz.underlying28
 have hu26:=Tryz.underlying26
 have HB:=Aside0.mk (Below.refl w.heap.size w)
 unfold impl_IsMatrix.f at h;have H:=h;clear h
 obtain⟨b2,a7⟩:∃y_:List Int,y_=(([a3,a4,a5,a6]:List Int)):=⟨_,rfl⟩
 first|rw[←a7,Option.bind_some] at H|rw[←a7] at H|(dsimp only at H;rw[←a7] at H)
 have a8:=Aside0.mk a7;clear a7;replace H:=oc_ H;obtain⟨d0,A2,H⟩:=H;replace H:=ib_ H
 rcases H with ⟨rfl,H⟩|⟨rfl,H⟩
 ·replace H:=oc_ H
  obtain⟨d1,A4,H⟩:=H
  obtain rfl:=si_ H
  go_enter Tryz.func48,Tryz.ntmps48
  go_wp2_with (first|((refine gd_ 1 ?_);refine by_ 1 #[i6 a3,i6 a4,i6 a5,i6 a6] 28 HB ?_;intro b3 hg w5 a1 hb b4 HB_;replace HB:=HB_;clear hb hg;have hz6:=ch4_ a1)|((refine gd_ 15 ?_);refine Kd.R_lit (Kd.int .i64) _ 2 ?hg (N:=15) ?hd (xs:=([a3,a4,a5,a6]:List Int)) (inner:=[i6 a3,i6 a4,i6 a5,i6 a6]) (ok:=fun _=>True) (okp:=fun _=>True) ?hr ?hp (fun _ hk=>hk) trivial (Below.refl _ _) (Nat.le_refl _) (by simp) ?_;(case hd=>rfl);(case hg=>rfl);(case hr=>first|(go_simp;done)|(go_simp;rfl));(case hp=>exact(Reps.one (show Kd.M (Kd.int .i64) _ _ _ a3 [i6 a3] from rfl) (Reps.one (show Kd.M (Kd.int .i64) _ _ _ a4 [i6 a4] from rfl) (Reps.one (show Kd.M (Kd.int .i64) _ _ _ a5 [i6 a5] from rfl) (Reps.one (show Kd.M (Kd.int .i64) _ _ _ a6 [i6 a6] from rfl) (Reps.none _ _))))));intro b6 w7 b5 hb hg_ hnew_;clear hg_ hnew_;(first|rw[←a8.out] at b5|(simp only[Int.reduceToNat] at b5;rw[←a8.out] at b5));have a2:=Aside0.mk (Kd.R_lower b5 (below_size (bw_ HB).out));replace a1:=bb_ a1 hb;replace HB:=bt_ HB hb;clear hb b5;obtain⟨d2,d3,d4⟩:=Kd.R_slice a2.out;subst d4)|((refine gc_ 78 ?_);refine ge_ 16 Tryz.func78 #[i6 1000,.slice d2 b2.length d3] ?_;(with_reducible refine mo_ (impl_within.calls _ _ _ ?a9 ?b0 A2.out) ?_);(case a9=>exact ca_ (Kd.R_reads' a2.out).2.2);(case b0=>exact(Kd.R_reads' a2.out).2.1);rintro w' ⟨nd,rfl⟩;have hz10:=ch4_ a1)|(go_at_call 39;(with_reducible refine(impl_determinant.calls _ A4.out).mono ?_);rintro e d5 ⟨rfl,hb⟩;replace a2:=rb_ a2 hb;replace a1:=bb_ a1 hb;replace HB:=bt_ HB hb;(try clear hb)))
  go_ret;exact⟨es_,(bw_ HB).out⟩
 obtain rfl:=si_ H
 go_enter Tryz.func48,Tryz.ntmps48
 go_wp2_with (first|((refine gd_ 1 ?_);refine by_ 1 #[i6 a3,i6 a4,i6 a5,i6 a6] 28 HB ?_;intro b3 hg d6 a1 hb b4 HB_;replace HB:=HB_;clear hb hg;have hz13:=ch4_ a1)|((refine gd_ 15 ?_);refine Kd.R_lit (Kd.int .i64) _ 2 ?hg (N:=15) ?hd (xs:=([a3,a4,a5,a6]:List Int)) (inner:=[i6 a3,i6 a4,i6 a5,i6 a6]) (ok:=fun _=>True) (okp:=fun _=>True) ?hr ?hp (fun _ hk=>hk) trivial (Below.refl _ _) (Nat.le_refl _) (by simp) ?_;(case hd=>rfl);(case hg=>rfl);(case hr=>first|(go_simp;done)|(go_simp;rfl));(case hp=>exact(Reps.one (show Kd.M (Kd.int .i64) _ _ _ a3 [i6 a3] from rfl) (Reps.one (show Kd.M (Kd.int .i64) _ _ _ a4 [i6 a4] from rfl) (Reps.one (show Kd.M (Kd.int .i64) _ _ _ a5 [i6 a5] from rfl) (Reps.one (show Kd.M (Kd.int .i64) _ _ _ a6 [i6 a6] from rfl) (Reps.none _ _))))));intro b6 d7 b1 hb hg_ hnew_;clear hg_ hnew_;(first|rw[←a8.out] at b1|(simp only[Int.reduceToNat] at b1;rw[←a8.out] at b1));have a2:=Aside0.mk (Kd.R_lower b1 (below_size (bw_ HB).out));replace a1:=bb_ a1 hb;replace HB:=bt_ HB hb;clear hb b1;obtain⟨b7,b8,b9⟩:=Kd.R_slice a2.out;subst b9)|((refine gc_ 78 ?_);refine ge_ 16 Tryz.func78 #[i6 1000,.slice b7 b2.length b8] ?_;(with_reducible refine mo_ (impl_within.calls _ _ _ ?a9 ?b0 A2.out) ?_);(case a9=>exact ca_ (Kd.R_reads' a2.out).2.2);(case b0=>exact(Kd.R_reads' a2.out).2.1);rintro w' ⟨nd,rfl⟩))
 go_ret;exact⟨es_,(bw_ HB).out⟩
/-! ### impl_gcd: function 82 -/
def impl_gcd.l0:Nat→Int→Int→Option (Int)
 |0,_,_=>none
 |k+1,x0,x1=>if x1=0 then(some (mx x0 (wrap64 (-x0)))) else(impl_gcd.l0 k x1 (Int.tmod x0 x1))
def impl_gcd.f (k:Nat) (a0 a1:Int):Option (Int):=impl_gcd.l0 k a0 a1
theorem impl_gcd.calls {k:Nat} {a0 a1 r:Int} (w:World) (h:impl_gcd.f k a0 a1=some r):
  Calls Tryz.prog 82 #[i6 a0,i6 a1] w fun e w'=>e= .returned (i6 r)∧Below w.heap.size w w':=by
 have HB:=Aside0.mk (Below.refl w.heap.size w)
 unfold impl_gcd.f at h;have H:=h;clear h
 have H':=Aside0.mk H
 clear H
 go_enter Tryz.func82,Tryz.ntmps82
 go_wp2
 repeat(go_quiet (fail);try go_wp2)
 go_loopg [0,1] k (fun kq v0 v1 w'=>∃(a2:Int) (a3:Int),v0=i6 a2∧v1=i6 a3∧Aside0 (impl_gcd.l0 kq a2 a3=some r)∧Aside0 (kq≤k)∧Aside0 (Below w.heap.size w w'))
 case atStart=>exact⟨(a0),(a1),en_,en_,H',⟨Nat.le_refl _⟩,bw_ HB⟩
 clear H';obtain⟨a2,a3,rfl,rfl,HA,a7,HB⟩:=hrel
 cases gk with
 |zero=>exact absurd HA.out (by simp[impl_gcd.l0])
 |succ k1=>
  have H:=HA.out;clear HA
  simp only[impl_gcd.l0] at H
  replace H:=ie_ H
  rcases H with ⟨a5,a6,H⟩|⟨c3,a5,a6,H⟩
  ·obtain⟨a8,a4⟩:∃j_:Int,(mx a2 (wrap64 (-a2)))=j_:=⟨_,rfl⟩
   simp only[a4] at H
   have hji4_k: (if a2<(IntKind.i64.wrap (-a2)) then(IntKind.i64.wrap (-a2)) else a2)=a8:=by simp only[i64_w];exact a4
   have a9: (if a2<(wrap64 (-a2)) then(wrap64 (-a2)) else a2)=a8:=a4
   obtain rfl:=si_ H
   go_wp2
   repeat(go_quiet (fail);try go_wp2)
   go_ret
   exact⟨by first|rfl|(simp[errW_none,errW_some]<;>rfl)|(simp only[←a4];first|rfl|(simp[errW_none,errW_some]<;>rfl))|(simp[*,errW_none,errW_some]<;>rfl),(bw_ HB).out⟩
  have H':=Aside0.mk H
  clear H
  go_wp2
  repeat(go_quiet (fail);try go_wp2)
  go_roundg k1
  case measure=>have:=a7.out;omega
  case rel=>exact⟨(a3),(Int.tmod a2 a3),en_,en_,H',⟨by have:=a7.out;omega⟩,bw_ HB⟩
/-! ### impl_reduced: function 55 -/
mutual
def impl_reduced.j0:Nat→Int→Bool→Int→Int→Int→Int→Option (Int×Int×Int×Int×Bool)
 |0,_,_,_,_,_,_=>none
 |k+1,x4,x37,x289000,x289001,x289002,x289003=>if x37=true then(impl_reduced.j1 k (wrap64 (-x4)) x289000 x289001 x289002 x289003) else(impl_reduced.j1 k x4 x289000 x289001 x289002 x289003)
def impl_reduced.j1:Nat→Int→Int→Int→Int→Int→Option (Int×Int×Int×Int×Bool)
 |0,_,_,_,_,_=>none
 |k+1,x4,x289000,x289001,x289002,x289003=>impl_reduced.l0 k x4 0 x289000 x289001 x289002 x289003
def impl_reduced.l0:Nat→Int→Int→Int→Int→Int→Int→Option (Int×Int×Int×Int×Bool)
 |0,_,_,_,_,_,_=>none
 |k+1,x4,x40,x289000,x289001,x289002,x289003=>if x40<2 then(impl_reduced.l1 k x4 x40 x40 0 x289000 x289001 x289002 x289003) else((impl_IsMatrix.f k x289000 x289001 x289002 x289003).bind fun t293=>(some (x289000,x289001,x289002,x289003,t293)))
def impl_reduced.l1:Nat→Int→Int→Int→Int→Int→Int→Int→Int→Option (Int×Int×Int×Int×Bool)
 |0,_,_,_,_,_,_,_,_=>none
 |k+1,x4,x5,x40,x43,x289000,x289001,x289002,x289003=>if x43<2 then(if x5=0 then(if x43=0 then(if x4=0 then(none) else(impl_reduced.l1 k x4 x5 x40 (wrap64 (x43+1)) (wrap64 (Int.tdiv x289000 x4)) x289001 x289002 x289003)) else(if x43=1 then(if x4=0 then(none) else(impl_reduced.l1 k x4 x5 x40 (wrap64 (x43+1)) x289000 (wrap64 (Int.tdiv x289001 x4)) x289002 x289003)) else(none))) else(if x5=1 then(if x43=0 then(if x4=0 then(none) else(impl_reduced.l1 k x4 x5 x40 (wrap64 (x43+1)) x289000 x289001 (wrap64 (Int.tdiv x289002 x4)) x289003)) else(if x43=1 then(if x4=0 then(none) else(impl_reduced.l1 k x4 x5 x40 (wrap64 (x43+1)) x289000 x289001 x289002 (wrap64 (Int.tdiv x289003 x4)))) else(none))) else(none))) else(impl_reduced.l0 k x4 (wrap64 (x40+1)) x289000 x289001 x289002 x289003)
end
def impl_reduced.f (k:Nat) (a0_0 a0_1 a0_2 a0_3:Int):Option (Int×Int×Int×Int×Bool):=(impl_gcd.f k a0_0 a0_1).bind fun t290=>((impl_gcd.f k a0_2 a0_3).bind fun t291=>((impl_gcd.f k t290 t291).bind fun t292=>(if a0_0<0 then(impl_reduced.j0 k t292 true a0_0 a0_1 a0_2 a0_3) else(if a0_0=0 then(impl_reduced.j0 k t292 (decide (a0_1<0)) a0_0 a0_1 a0_2 a0_3) else(impl_reduced.j0 k t292 false a0_0 a0_1 a0_2 a0_3)))))
def impl_reduced.T1:Bool×List (List Nat×List Nat):=(true,[([],[]),([0],[0]),([1],[1]),([],[]),([3],[3]),([4],[4]),([2,5],[2,5]),([],[]),([7],[7]),([8],[8]),([],[]),([10],[10]),([11],[11]),([9,12,6],[9,12]),([6,13,13],[6,13]),([14,14,0,1,2,3,4,5,6,7,8,9,10,11,12,13,14],[14])])
def impl_reduced.B1:List Nat:=[0,1,3,0,8,24,63,0,128,384,0,1024,3072,8191,16383,32767]
theorem impl_reduced.tab1:rtab .any (opsOf Tryz.f55 1)=impl_reduced.T1:=by kernel_rfl
theorem impl_reduced.bits1:waitsOk impl_reduced.T1.2 impl_reduced.B1=true:=by kernel_rfl
def impl_reduced.T10:Bool×List (List Nat×List Nat):=(true,[([],[]),([],[]),([0],[0]),([2,1],[1,2]),([3],[3]),([],[]),([4,5],[4,5]),([0],[0]),([7,1,0,1,2,3,4,5,6],[1,7]),([8,6,0,1,2,3,4,5,6],[6,8])])
def impl_reduced.B10:List Nat:=[0,0,1,7,15,0,63,1,255,511]
theorem impl_reduced.tab10:rtab .any (opsOf Tryz.f55 10)=impl_reduced.T10:=by kernel_rfl
theorem impl_reduced.bits10:waitsOk impl_reduced.T10.2 impl_reduced.B10=true:=by kernel_rfl
theorem impl_reduced.calls {k:Nat} {b9 b8 d0 d1 r1 r2 r3 r4:Int} {r5:Bool} (w:World) (h:impl_reduced.f k b9 b8 d0 d1=some (r1,r2,r3,r4,r5)):
  Calls Tryz.prog 55 #[.agg #[i6 b9,i6 b8,i6 d0,i6 d1]] w fun e w'=>e= .returned (.tuple #[.agg #[i6 r1,i6 r2,i6 r3,i6 r4],.bool r5])∧Below w.heap.size w w':=by
 have hu28:=Tryz.underlying28
 have hu26:=Tryz.underlying26
 have HB:=Aside0.mk (Below.refl w.heap.size w)
 unfold impl_reduced.f at h;have H:=h;clear h;replace H:=oc_ H;obtain⟨g9,A2,H⟩:=H;replace H:=oc_ H;obtain⟨i4,A3,H⟩:=H;replace H:=oc_ H;obtain⟨f1,A4,H⟩:=H;have i5:=Aside0.mk H;clear H
 go_enter Tryz.func55,Tryz.ntmps55
 try go_wp2_with (first|((refine gd_ 1 ?_);refine by_ 1 #[i6 b9,i6 b8,i6 d0,i6 d1] 28 HB ?_;intro a8 hg w6 a1 hb i7 HB_;replace HB:=HB_;clear hb hg)|((refine gd_ 2 ?_);refine by_ 2 #[i6 0,i6 0,i6 0,i6 0] 28 HB ?_;intro d3 hg w7 a3 hb i8 HB_;have a2:=bm_ a1 hg;have a9:=bn_ a1 hg;replace a1:=bb_ a1 hb;replace HB:=HB_;clear hb hg))
 replace a1:=bd_ a1;replace a3:=bd_ a3;replace HB:=be_ HB
 refine start_ (n:=16) (S:=fun w'=>c_ w' a8 0 (i6 b9)∧c_ w' a8 1 (i6 b8)∧c_ w' a8 2 (i6 d0)∧c_ w' a8 3 (i6 d1)) (ds:=[]) (bv_ 16 0) (by kernel_rfl) rfl rfl ⟨cz_ a1 0,cz_ a1 1,cz_ a1 2,cz_ a1 3⟩ (fun hHeld=>?_);refine with_tabW impl_reduced.tab1 impl_reduced.bits1 (fun HT_ HW_=>?_)
 generalize w7.drew=w8 at a1 a3 HB hHeld⊢
 refine px_ HT_ 0 7 1 ?_;refine px_ HT_ 1 8 3 ?_;refine px_ HT_ 3 10 11 ?_;refine px_ HT_ 4 11 27 ?_;refine px_ HT_ 7 14 155 ?_;refine px_ HT_ 8 15 411 ?_;refine px_ HT_ 10 17 1435 ?_;refine px_ HT_ 11 18 3483 ?_
 refine ta_ HT_ HW_ 2 (some 9) (bv_ 16 3487) hHeld ?_ (hy:=by rintro w' ⟨s0,s1,s2,s3⟩;go_simp;with_reducible rfl)
 refine ta_ HT_ HW_ 5 (some 12) (bv_ 16 3519) hHeld ?_ (hy:=by rintro w' ⟨s0,s1,s2,s3⟩;go_simp;with_reducible rfl)
 refine ta_ HT_ HW_ 9 (some 16) (bv_ 16 4031) hHeld ?_ (hy:=by rintro w' ⟨s0,s1,s2,s3⟩;go_simp;with_reducible rfl)
 refine ta_ HT_ HW_ 12 (some 19) (bv_ 16 8127) hHeld ?_ (hy:=by rintro w' ⟨s0,s1,s2,s3⟩;go_simp;with_reducible rfl)
 refine on_ HT_ 6 (some 13) (bv_ 16 8191) (fun K hK=>?_)
 refine gs_ Tryz.func82 #[i6 b9,i6 b8] ?_
 with_reducible refine mo_ (impl_gcd.calls _ A2.out) ?_
 intro w9 hb;replace a1:=bb_ a1 hb;replace a3:=bb_ a3 hb;replace HB:=bt_ HB hb
 try clear hb
 refine hK.out _ _ ⟨cz_ a1 0,cz_ a1 1,cz_ a1 2,cz_ a1 3⟩ (fun hHeld=>?_)
 clear hK K;refine nm_ (some 13) ?_
 refine on_ HT_ 13 (some 20) (bv_ 16 16383) (fun K hK=>?_)
 refine gs_ Tryz.func82 #[i6 d0,i6 d1] ?_
 with_reducible refine mo_ (impl_gcd.calls _ A3.out) ?_
 intro o3 hb;replace a1:=bb_ a1 hb;replace a3:=bb_ a3 hb;replace HB:=bt_ HB hb
 try clear hb
 refine hK.out _ _ ⟨cz_ a1 0,cz_ a1 1,cz_ a1 2,cz_ a1 3⟩ (fun hHeld=>?_)
 clear hK K;refine nm_ (some 20) ?_
 refine on_ HT_ 14 (some 21) (bv_ 16 32767) (fun K hK=>?_)
 refine gs_ Tryz.func82 #[i6 g9,i6 i4] ?_
 with_reducible refine mo_ (impl_gcd.calls _ A4.out) ?_
 intro o4 hb;replace a1:=bb_ a1 hb;replace a3:=bb_ a3 hb;replace HB:=bt_ HB hb
 try clear hb
 refine hK.out _ _ ⟨cz_ a1 0,cz_ a1 1,cz_ a1 2,cz_ a1 3⟩ (fun hHeld=>?_)
 clear hK K;refine nm_ (some 21) ?_;refine px_ HT_ 15 4 65535 ?_
 refine done_ (done_of HT_.out (by kernel_rfl)) ?_
 go_upto_region 2 with (fail)
 go_cut [37] (fun m9 wc=>∃(kq:Nat) (d7:Bool),m9= .bool d7∧Aside0 (impl_reduced.j0 kq f1 d7 b9 b8 d0 d1=some (r1,r2,r3,r4,r5))∧Aside0 (kq≤k)∧Aside0 (b_ wc a8 #[i6 b9,i6 b8,i6 d0,i6 d1] 28)∧Aside0 (b_ wc d3 #[i6 0,i6 0,i6 0,i6 0] 28)∧Aside0 (Below w.heap.size w wc))
 case first=>
  have H:=i5.out;clear i5;replace H:=il_ H
  rcases H with ⟨b6,H⟩|⟨b6,H⟩
  ·(first|rw[b6]|(simp only[i64_w,i32_w];rw[b6])|skip)
   have H':=Aside0.mk H
   clear H;have:=nn_ a2;have hz14:=ch4_ a1
   go_wp2
   go_meet
   case rel=>exact⟨_,(true),en_,H',⟨by first|omega|exact Nat.le_refl _⟩,bl_ a1,bl_ a3,bw_ HB⟩
  (first|rw[b6]|(simp only[i64_w,i32_w];rw[b6])|skip)
  replace H:=ie_ H
  rcases H with ⟨d4,d5,H⟩|⟨f5,d4,d5,H⟩
  ·have H':=Aside0.mk H
   clear H;have:=nn_ a2;have hz17:=ch4_ a1
   go_wp2
   go_meet
   case rel=>exact⟨_,(decide (b8<0)),en_,H',⟨by first|omega|exact Nat.le_refl _⟩,bl_ a1,bl_ a3,bw_ HB⟩
  have H':=Aside0.mk H
  clear H;have:=nn_ a2;have hz19:=ch4_ a1
  go_wp2
  go_meet
  case rel=>exact⟨_,(false),en_,H',⟨by first|omega|exact Nat.le_refl _⟩,bl_ a1,bl_ a3,bw_ HB⟩
 clear i5
 try clear b6
 try clear f5 d4 d5
 try clear hz14
 try clear hz17
 try clear hz19
 obtain⟨kq,d7,rfl,HA,d6,a1,a3,HB⟩:=hcut
 cases kq with
 |zero=>exact absurd HA.out (by simp[impl_reduced.j0])
 |succ n0=>
  have H:=HA.out;clear HA
  simp only[impl_reduced.j0] at H
  have f2:=Aside0.mk H;clear H
  go_upto_if 37 with (fail)
  go_cut [4] (fun v4 wc=>∃(kq:Nat) (b7:Int),v4=i6 b7∧Aside0 (impl_reduced.j1 kq b7 b9 b8 d0 d1=some (r1,r2,r3,r4,r5))∧Aside0 (kq≤n0)∧Aside0 (b_ wc a8 #[i6 b9,i6 b8,i6 d0,i6 d1] 28)∧Aside0 (b_ wc d3 #[i6 0,i6 0,i6 0,i6 0] 28)∧Aside0 (Below w.heap.size w wc))
  case first=>
   have H:=f2.out;clear f2;replace H:=ib_ H
   rcases H with ⟨rfl,H⟩|⟨rfl,H⟩
   ·have H':=Aside0.mk H
    clear H
    go_wp2
    go_meet
    case rel=>exact⟨_,(wrap64 (-f1)),en_,H',⟨by have:=d6.out;first|omega|exact Nat.le_refl _⟩,bl_ a1,bl_ a3,bw_ HB⟩
   have H':=Aside0.mk H
   clear H
   go_wp2
   go_meet
   case rel=>exact⟨_,(f1),en_,H',⟨by have:=d6.out;first|omega|exact Nat.le_refl _⟩,bl_ a1,bl_ a3,bw_ HB⟩
  clear f2
  try clear b6
  try clear f5 d4 d5
  try clear hz14
  try clear hz17
  try clear hz19
  obtain⟨kq,b7,rfl,HA,d2,a1,a3,HB⟩:=hcut
  cases kq with
  |zero=>exact absurd HA.out (by simp[impl_reduced.j1])
  |succ f3=>
   have H:=HA.out;clear HA
   simp only[impl_reduced.j1] at H
   have H':=Aside0.mk H
   clear H
   go_wp2
   go_loopg [40] f3 (fun kq n1 w'=>∃(b5:Int) (b0:Int) (b1:Int) (b2:Int) (b3:Int),n1=i6 b5∧Aside0 (impl_reduced.l0 kq b7 b5 b0 b1 b2 b3=some (r1,r2,r3,r4,r5))∧Aside0 (kq≤f3)∧Aside0 (b_ w' a8 #[i6 b0,i6 b1,i6 b2,i6 b3] 28)∧Aside0 (b_ w' d3 #[i6 0,i6 0,i6 0,i6 0] 28)∧Aside0 (Below w.heap.size w w'))
   case atStart=>exact⟨(0),(b9),(b8),(d0),(d1),en_,H',⟨Nat.le_refl _⟩,bl_ a1,bl_ a3,bw_ HB⟩
   clear H'
   try clear b6
   try clear f5 d4 d5
   try clear hz14
   try clear hz17
   try clear hz19
   obtain⟨b5,b0,b1,b2,b3,rfl,HA,d8,a1,a3,HB⟩:=hrel
   cases gk with
   |zero=>exact absurd HA.out (by simp[impl_reduced.l0])
   |succ k3=>
    have H:=HA.out;clear HA
    simp only[impl_reduced.l0] at H
    replace H:=il_ H
    rcases H with ⟨f0,H⟩|⟨f0,H⟩
    ·have H':=Aside0.mk H
     clear H
     go_wp2
     go_loopg [43] k3 (fun kq n2 w'=>∃(b4:Int) (a4:Int) (a5:Int) (a6:Int) (a7:Int),n2=i6 b4∧Aside0 (impl_reduced.l1 kq b7 b5 b5 b4 a4 a5 a6 a7=some (r1,r2,r3,r4,r5))∧Aside0 (kq≤k3)∧Aside0 (b_ w' a8 #[i6 a4,i6 a5,i6 a6,i6 a7] 28)∧Aside0 (b_ w' d3 #[i6 0,i6 0,i6 0,i6 0] 28)∧Aside0 (Below w.heap.size w w'))
     case atStart=>exact⟨(0),(b0),(b1),(b2),(b3),en_,H',⟨Nat.le_refl _⟩,bl_ a1,bl_ a3,bw_ HB⟩
     clear H'
     try clear b6
     try clear f5 d4 d5
     try clear f0
     try clear hz14
     try clear hz17
     try clear hz19
     obtain⟨b4,a4,a5,a6,a7,rfl,HA,d9,a1,a3,HB⟩:=hrel
     cases gk with
     |zero=>exact absurd HA.out (by simp[impl_reduced.l1])
     |succ k4=>
      have H:=HA.out;clear HA
      simp only[impl_reduced.l1] at H
      replace H:=il_ H
      rcases H with ⟨f4,H⟩|⟨f4,H⟩
      ·by_cases f6:b5=0
       ·subst f6
        replace H:=i1_ H
        by_cases f7:b4=0
        ·subst f7
         replace H:=i1_ H;replace H:=ief_ H;obtain⟨o5,i9,j2,H⟩:=H
         have H':=Aside0.mk H
         clear H
         try go_wp2
         replace a1:=bd_ a1;replace a3:=bd_ a3;replace HB:=be_ HB
         refine start_ (n:=10) (S:=fun w'=>c_ w' a8 0 (i6 a4)∧c_ w' a8 1 (i6 a5)∧c_ w' a8 2 (i6 a6)∧c_ w' a8 3 (i6 a7)) (ds:=[9]) (bv_ 10 0) (by kernel_rfl) rfl rfl ⟨cz_ a1 0,cz_ a1 1,cz_ a1 2,cz_ a1 3⟩ (fun hHeld=>?_);refine with_tabW impl_reduced.tab10 impl_reduced.bits10 (fun HT_ HW_=>?_)
         generalize wr.drew=o6 at a1 a3 HB hHeld⊢
         refine px_ HT_ 0 46 1 ?_;refine px_ HT_ 1 47 3 ?_;refine px_ HT_ 2 48 7 ?_;refine px_ HT_ 3 49 15 ?_;refine px_ HT_ 5 51 47 ?_;refine px_ HT_ 7 53 175 ?_
         refine ta_ HT_ HW_ 4 (some 50) (bv_ 10 191) hHeld ?_ (hy:=by rintro w' ⟨s0,s1,s2,s3⟩;go_simp;with_reducible rfl)
         refine px_ HT_ 6 52 255 ?_;refine px_ HT_ 8 54 511 ?_
         refine last_ (i:=9) (N:=none) (bv_ 10 1023) rfl rfl (one_of HT_.out (by kernel_rfl)) (by decide) (fun K hK=>?_)
         have n3:=cz_ a1 0;have j3:=blk_frozen a1.out 0;have f8:=a9.out;have f9:=a2.out
         refine skip_ (w1:=?_) (by rfl) rfl ?_ ?_
         rotate_left
         ·go_simp
          rfl
         refine hK.out _ _ ?_
         clear hK K
         refine done_ (done_of HT_.out (by kernel_rfl)) ?_
         try go_wp2
         go_roundg k4
         case measure=>have:=d6.out;have:=d2.out;have:=d8.out;have:=d9.out;omega
         case rel=>exact⟨(wrap64 (0+1)),(wrap64 (Int.tdiv a4 b7)),(a5),(a6),(a7),en_,H',⟨by have:=d6.out;have:=d2.out;have:=d8.out;have:=d9.out;omega⟩,bp_ a1,fl_ a3 a9,bw_ HB⟩
        rw[if_neg f7] at H
        have j4: (b4==0)=false:=beq_eq_false_iff_ne.mpr f7
        have j5: (b4 !=0)=true:=bne_iff_ne.mpr f7
        by_cases j6:b4=1
        ·subst j6
         replace H:=i1_ H;replace H:=ief_ H;obtain⟨o7,j7,j8,H⟩:=H
         have H':=Aside0.mk H
         clear H
         try go_wp2
         replace a1:=bd_ a1;replace a3:=bd_ a3;replace HB:=be_ HB
         refine start_ (n:=10) (S:=fun w'=>c_ w' a8 0 (i6 a4)∧c_ w' a8 1 (i6 a5)∧c_ w' a8 2 (i6 a6)∧c_ w' a8 3 (i6 a7)) (ds:=[9]) (bv_ 10 0) (by kernel_rfl) rfl rfl ⟨cz_ a1 0,cz_ a1 1,cz_ a1 2,cz_ a1 3⟩ (fun hHeld=>?_);refine with_tabW impl_reduced.tab10 impl_reduced.bits10 (fun HT_ HW_=>?_)
         generalize wr.drew=o8 at a1 a3 HB hHeld⊢
         refine px_ HT_ 0 46 1 ?_;refine px_ HT_ 1 47 3 ?_;refine px_ HT_ 2 48 7 ?_;refine px_ HT_ 3 49 15 ?_;refine px_ HT_ 5 51 47 ?_;refine px_ HT_ 7 53 175 ?_
         refine ta_ HT_ HW_ 4 (some 50) (bv_ 10 191) hHeld ?_ (hy:=by rintro w' ⟨s0,s1,s2,s3⟩;go_simp;with_reducible rfl)
         refine px_ HT_ 6 52 255 ?_;refine px_ HT_ 8 54 511 ?_
         refine last_ (i:=9) (N:=none) (bv_ 10 1023) rfl rfl (one_of HT_.out (by kernel_rfl)) (by decide) (fun K hK=>?_)
         have n4:=cz_ a1 1;have j9:=blk_frozen a1.out 1;have g0:=a9.out;have g1:=a2.out
         refine skip_ (w1:=?_) (by rfl) rfl ?_ ?_
         rotate_left
         ·go_simp
          rfl
         refine hK.out _ _ ?_
         clear hK K
         refine done_ (done_of HT_.out (by kernel_rfl)) ?_
         try go_wp2
         go_roundg k4
         case measure=>have:=d6.out;have:=d2.out;have:=d8.out;have:=d9.out;omega
         case rel=>exact⟨(wrap64 (1+1)),(a4),(wrap64 (Int.tdiv a5 b7)),(a6),(a7),en_,H',⟨by have:=d6.out;have:=d2.out;have:=d8.out;have:=d9.out;omega⟩,bp_ a1,fl_ a3 a9,bw_ HB⟩
        rw[if_neg j6] at H
        exact absurd H (by simp)
       rw[if_neg f6] at H
       have l2: (b5==0)=false:=beq_eq_false_iff_ne.mpr f6
       have l3: (b5 !=0)=true:=bne_iff_ne.mpr f6
       by_cases l4:b5=1
       ·subst l4
        replace H:=i1_ H
        by_cases g2:b4=0
        ·subst g2
         replace H:=i1_ H;replace H:=ief_ H;obtain⟨o9,l5,l6,H⟩:=H
         have H':=Aside0.mk H
         clear H
         try go_wp2
         replace a1:=bd_ a1;replace a3:=bd_ a3;replace HB:=be_ HB
         refine start_ (n:=10) (S:=fun w'=>c_ w' a8 0 (i6 a4)∧c_ w' a8 1 (i6 a5)∧c_ w' a8 2 (i6 a6)∧c_ w' a8 3 (i6 a7)) (ds:=[9]) (bv_ 10 0) (by kernel_rfl) rfl rfl ⟨cz_ a1 0,cz_ a1 1,cz_ a1 2,cz_ a1 3⟩ (fun hHeld=>?_);refine with_tabW impl_reduced.tab10 impl_reduced.bits10 (fun HT_ HW_=>?_)
         generalize wr.drew=p0 at a1 a3 HB hHeld⊢
         refine px_ HT_ 0 46 1 ?_;refine px_ HT_ 1 47 3 ?_;refine px_ HT_ 2 48 7 ?_;refine px_ HT_ 3 49 15 ?_;refine px_ HT_ 5 51 47 ?_;refine px_ HT_ 7 53 175 ?_
         refine ta_ HT_ HW_ 4 (some 50) (bv_ 10 191) hHeld ?_ (hy:=by rintro w' ⟨s0,s1,s2,s3⟩;go_simp;with_reducible rfl)
         refine px_ HT_ 6 52 255 ?_;refine px_ HT_ 8 54 511 ?_
         refine last_ (i:=9) (N:=none) (bv_ 10 1023) rfl rfl (one_of HT_.out (by kernel_rfl)) (by decide) (fun K hK=>?_)
         have n5:=cz_ a1 2;have l7:=blk_frozen a1.out 2;have g3:=a9.out;have g4:=a2.out
         refine skip_ (w1:=?_) (by rfl) rfl ?_ ?_
         rotate_left
         ·go_simp
          rfl
         refine hK.out _ _ ?_
         clear hK K
         refine done_ (done_of HT_.out (by kernel_rfl)) ?_
         try go_wp2
         go_roundg k4
         case measure=>have:=d6.out;have:=d2.out;have:=d8.out;have:=d9.out;omega
         case rel=>exact⟨(wrap64 (0+1)),(a4),(a5),(wrap64 (Int.tdiv a6 b7)),(a7),en_,H',⟨by have:=d6.out;have:=d2.out;have:=d8.out;have:=d9.out;omega⟩,bp_ a1,fl_ a3 a9,bw_ HB⟩
        rw[if_neg g2] at H
        have l8: (b4==0)=false:=beq_eq_false_iff_ne.mpr g2
        have l9: (b4 !=0)=true:=bne_iff_ne.mpr g2
        by_cases m1:b4=1
        ·subst m1
         replace H:=i1_ H;replace H:=ief_ H;obtain⟨p1,m2,m3,H⟩:=H
         have H':=Aside0.mk H
         clear H
         try go_wp2
         replace a1:=bd_ a1;replace a3:=bd_ a3;replace HB:=be_ HB
         refine start_ (n:=10) (S:=fun w'=>c_ w' a8 0 (i6 a4)∧c_ w' a8 1 (i6 a5)∧c_ w' a8 2 (i6 a6)∧c_ w' a8 3 (i6 a7)) (ds:=[9]) (bv_ 10 0) (by kernel_rfl) rfl rfl ⟨cz_ a1 0,cz_ a1 1,cz_ a1 2,cz_ a1 3⟩ (fun hHeld=>?_);refine with_tabW impl_reduced.tab10 impl_reduced.bits10 (fun HT_ HW_=>?_)
         generalize wr.drew=p2 at a1 a3 HB hHeld⊢
         refine px_ HT_ 0 46 1 ?_;refine px_ HT_ 1 47 3 ?_;refine px_ HT_ 2 48 7 ?_;refine px_ HT_ 3 49 15 ?_;refine px_ HT_ 5 51 47 ?_;refine px_ HT_ 7 53 175 ?_
         refine ta_ HT_ HW_ 4 (some 50) (bv_ 10 191) hHeld ?_ (hy:=by rintro w' ⟨s0,s1,s2,s3⟩;go_simp;with_reducible rfl)
         refine px_ HT_ 6 52 255 ?_;refine px_ HT_ 8 54 511 ?_
         refine last_ (i:=9) (N:=none) (bv_ 10 1023) rfl rfl (one_of HT_.out (by kernel_rfl)) (by decide) (fun K hK=>?_)
         have n6:=cz_ a1 3;have m4:=blk_frozen a1.out 3;have g5:=a9.out;have g6:=a2.out
         refine skip_ (w1:=?_) (by rfl) rfl ?_ ?_
         rotate_left
         ·go_simp
          rfl
         refine hK.out _ _ ?_
         clear hK K
         refine done_ (done_of HT_.out (by kernel_rfl)) ?_
         try go_wp2
         go_roundg k4
         case measure=>have:=d6.out;have:=d2.out;have:=d8.out;have:=d9.out;omega
         case rel=>exact⟨(wrap64 (1+1)),(a4),(a5),(a6),(wrap64 (Int.tdiv a7 b7)),en_,H',⟨by have:=d6.out;have:=d2.out;have:=d8.out;have:=d9.out;omega⟩,bp_ a1,fl_ a3 a9,bw_ HB⟩
        rw[if_neg m1] at H
        exact absurd H (by simp)
       rw[if_neg l4] at H
       exact absurd H (by simp)
      have H':=Aside0.mk H
      clear H
      go_wp2
      go_roundg k4
      case measure=>have:=d6.out;have:=d2.out;have:=d8.out;have:=d9.out;omega
      case rel=>exact⟨(wrap64 (b5+1)),(a4),(a5),(a6),(a7),en_,H',⟨by have:=d6.out;have:=d2.out;have:=d8.out;have:=d9.out;omega⟩,bl_ a1,bl_ a3,bw_ HB⟩
    replace H:=oc_ H;obtain⟨n7,n8,H⟩:=H
    simp only[Option.some.injEq,Prod.mk.injEq] at H
    obtain⟨rfl,rfl,rfl,rfl,rfl⟩:=H
    try go_wp2
    replace a1:=bd_ a1;replace a3:=bd_ a3;replace HB:=be_ HB
    refine start_ (n:=5) (S:=fun w'=>c_ w' a8 0 (i6 b0)∧c_ w' a8 1 (i6 b1)∧c_ w' a8 2 (i6 b2)∧c_ w' a8 3 (i6 b3)) (ds:=[]) (bv_ 5 0) (by kernel_rfl) rfl rfl ⟨cz_ a1 0,cz_ a1 1,cz_ a1 2,cz_ a1 3⟩ (fun hHeld=>?_)
    generalize wr.drew=p3 at a1 a3 HB hHeld⊢
    refine take_ (i:=0) (N:=some 57) (v:=?_) (a':=?_) (bv_ 5 1) rfl rfl (by kernel_rfl) (fun _ _ _ h=>h) (Or.inl ⟨by rfl,?_⟩) hHeld ?_ ?_
    rotate_left
    ·rintro w' ⟨s0,s1,s2,s3⟩
     go_simp
     with_reducible rfl
    rotate_left
    ·simp only[Act.put,lstS,lstZ,lstC,i64_w,i32_w]
     rfl
    refine take_ (i:=1) (N:=some 58) (v:=?_) (a':=?_) (bv_ 5 3) rfl rfl (by kernel_rfl) (fun _ _ _ h=>h) (Or.inl ⟨by rfl,?_⟩) hHeld ?_ ?_
    rotate_left
    ·rintro w' ⟨s0,s1,s2,s3⟩
     go_simp
     with_reducible rfl
    rotate_left
    ·simp only[Act.put,lstS,lstZ,lstC,i64_w,i32_w]
     rfl
    refine one_ (i:=2) (N:=some 59) (bv_ 5 7) rfl rfl (by kernel_rfl) (by decide) (fun K hK=>?_)
    refine gs_ Tryz.func48 #[.agg #[i6 b0,i6 b1,i6 b2,i6 b3]] ?_
    with_reducible refine mo_ (impl_IsMatrix.calls _ n8.out) ?_
    intro p4 hb;replace a1:=bb_ a1 hb;replace a3:=bb_ a3 hb;replace HB:=bt_ HB hb
    try clear hb
    refine hK.out _ _ ⟨cz_ a1 0,cz_ a1 1,cz_ a1 2,cz_ a1 3⟩ (fun hHeld=>?_)
    clear hK K;refine nm_ (some 59) ?_
    refine one_ (i:=3) (N:=none) (bv_ 5 15) rfl rfl (by kernel_rfl) (by decide) (fun K hK=>?_)
    have n9:=cz_ a3 0;have m5:=blk_frozen a3.out 0;have g7:=a2.out;have g8:=a9.out;have o0:=cz_ a3 1;have m6:=blk_frozen a3.out 1;have o1:=cz_ a3 2;have m7:=blk_frozen a3.out 2;have o2:=cz_ a3 3;have m8:=blk_frozen a3.out 3
    refine skip_ (w1:=?_) (by rfl) rfl ?_ ?_
    rotate_left
    ·go_simp
     rfl
    refine hK.out _ _ ⟨(cg_ a2 ((cg_ a2 ((cg_ a2 ((cg_ a2 (hHeld.1)))))))),(cg_ a2 ((cg_ a2 ((cg_ a2 ((cg_ a2 (hHeld.2.1)))))))),(cg_ a2 ((cg_ a2 ((cg_ a2 ((cg_ a2 (hHeld.2.2.1)))))))),(cg_ a2 ((cg_ a2 ((cg_ a2 ((cg_ a2 (hHeld.2.2.2))))))))⟩ (fun hHeld=>?_)
    clear hK K
    refine pure_ (i:=4) (N:=some 3) (v:=?_) (a':=?_) (bv_ 5 31) rfl rfl (by kernel_rfl) (fun _ _ _ h=>h) (Or.inl ⟨by rfl,?_⟩) ?_ ?_
    rotate_left
    ·intro w'
     go_simp
     with_reducible rfl
    rotate_left
    ·simp only[Act.put,lstS,lstZ,lstC,i64_w,i32_w]
     rfl
    refine done_ (by kernel_rfl) ?_
    try go_wp2
    refine bodyPost_ret (results_ct rfl _ _ d3 28 #[i6 b0,i6 b1,i6 b2,i6 b3] (0,0) _ rfl (bp_ a3).out Tryz.underlying28 rfl (by kernel_rfl)) rfl ?_
    exact⟨es_,(bw_ HB).out⟩
end Go.Proofs.YtblmdppbbdbbjabGreat.QP
