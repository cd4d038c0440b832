import Derived.Test.YtblmdppbbdbbjabGreatQPx8
import Derived.Test.YtblmdppbbdbbjabGreatQPx55
import Derived.Test.YtblmdppbbdbbjabGreatQPx32
namespace Go.Proofs.YtblmdppbbdbbjabGreat.QP
set_option maxHeartbeats 8000000
set_option maxRecDepth 100000
open Go.RowKit Go.Proofs.YtblmdppbbdbbjabGreatW.PrintWords Go.Proofs.YtblmdppbbdbbjabGreatW.PrintLast Go.Proofs.YtblmdppbbdbbjabGreatW.PrintMore
attribute [local go_sem] isSome_setCell max2_int min2_int max_two min_two max_three min_three max_four min_four
set_option linter.unusedVariables false
set_option linter.unusedSimpArgs false
/-! ### bits_Div64: function 106 -/
mutual
def bits_Div64.j2:Nat→Int→Int→Int→Int→Int→Int→Int→Int→Option (Int×Int)
 |0,_,_,_,_,_,_,_,_=>none
 |k+1,x2,x8,x9,x10,x11,x13,x14,x15=>if x9=0 then(none) else(bits_Div64.l1 k x2 x8 x9 x10 x14 x15 (IntKind.u64.wrap ((IntKind.u64.wrap ((IntKind.u64.wrap ((IntKind.u64.wrap (x11*4294967296))+x13)) - (IntKind.u64.wrap (x15*x2)))) - (IntKind.u64.wrap ((IntKind.u64.wrap (Int.tdiv (IntKind.u64.wrap ((IntKind.u64.wrap ((IntKind.u64.wrap (x11*4294967296))+x13)) - (IntKind.u64.wrap (x15*x2)))) x9))*x9)))) (IntKind.u64.wrap ((IntKind.u64.wrap ((IntKind.u64.wrap (x11*4294967296))+x13)) - (IntKind.u64.wrap (x15*x2)))) (IntKind.u64.wrap (Int.tdiv (IntKind.u64.wrap ((IntKind.u64.wrap ((IntKind.u64.wrap (x11*4294967296))+x13)) - (IntKind.u64.wrap (x15*x2)))) x9)))
def bits_Div64.l1:Nat→Int→Int→Int→Int→Int→Int→Int→Int→Int→Option (Int×Int)
 |0,_,_,_,_,_,_,_,_,_=>none
 |k+1,x2,x8,x9,x10,x14,x15,x16,x17,x18=>if x18≥4294967296 then(bits_Div64.j4 k x2 x8 x9 x10 x14 x15 x16 x17 x18 true) else(bits_Div64.j4 k x2 x8 x9 x10 x14 x15 x16 x17 x18 (decide ((IntKind.u64.wrap (x18*x10))>(IntKind.u64.wrap ((IntKind.u64.wrap (4294967296*x16))+x14)))))
def bits_Div64.j4:Nat→Int→Int→Int→Int→Int→Int→Int→Int→Int→Bool→Option (Int×Int)
 |0,_,_,_,_,_,_,_,_,_,_=>none
 |k+1,x2,x8,x9,x10,x14,x15,x16,x17,x18,x113=>if x113=true then(if (IntKind.u64.wrap (x16+x9))≥4294967296 then(if 0≤x8 then(some (IntKind.u64.wrap ((IntKind.u64.wrap (x15*4294967296))+(IntKind.u64.wrap (x18 - 1))),shr .u64 (IntKind.u64.wrap ((IntKind.u64.wrap ((IntKind.u64.wrap (x17*4294967296))+x14)) - (IntKind.u64.wrap ((IntKind.u64.wrap (x18 - 1))*x2)))) x8)) else(none)) else(bits_Div64.l1 k x2 x8 x9 x10 x14 x15 (IntKind.u64.wrap (x16+x9)) x17 (IntKind.u64.wrap (x18 - 1)))) else(if 0≤x8 then(some (IntKind.u64.wrap ((IntKind.u64.wrap (x15*4294967296))+x18),shr .u64 (IntKind.u64.wrap ((IntKind.u64.wrap ((IntKind.u64.wrap (x17*4294967296))+x14)) - (IntKind.u64.wrap (x18*x2)))) x8)) else(none))
def bits_Div64.l0:Nat→Int→Int→Int→Int→Int→Int→Int→Int→Int→Option (Int×Int)
 |0,_,_,_,_,_,_,_,_,_=>none
 |k+1,x2,x8,x9,x10,x11,x13,x14,x15,x16=>if x15≥4294967296 then(bits_Div64.j1 k x2 x8 x9 x10 x11 x13 x14 x15 x16 true) else(bits_Div64.j1 k x2 x8 x9 x10 x11 x13 x14 x15 x16 (decide ((IntKind.u64.wrap (x15*x10))>(IntKind.u64.wrap ((IntKind.u64.wrap (4294967296*x16))+x13)))))
def bits_Div64.j1:Nat→Int→Int→Int→Int→Int→Int→Int→Int→Int→Bool→Option (Int×Int)
 |0,_,_,_,_,_,_,_,_,_,_=>none
 |k+1,x2,x8,x9,x10,x11,x13,x14,x15,x16,x78=>if x78=true then(if (IntKind.u64.wrap (x16+x9))≥4294967296 then(bits_Div64.j2 k x2 x8 x9 x10 x11 x13 x14 (IntKind.u64.wrap (x15 - 1))) else(bits_Div64.l0 k x2 x8 x9 x10 x11 x13 x14 (IntKind.u64.wrap (x15 - 1)) (IntKind.u64.wrap (x16+x9)))) else(bits_Div64.j2 k x2 x8 x9 x10 x11 x13 x14 x15)
end
def bits_Div64.f (k:Nat) (a0 a1 a2:Int):Option (Int×Int):=if a2=0 then(none) else(if a2≤a0 then(none) else(if a0=0 then(some (IntKind.u64.wrap (Int.tdiv a1 a2),Int.tmod a1 a2)) else((bits_LeadingZeros64.f k a2).bind fun t477=>(if 0≤(IntKind.u64.wrap (t477)) then(if 0≤(IntKind.u64.wrap (64 - (IntKind.u64.wrap (t477)))) then(if ((shl .u64 a2 (IntKind.u64.wrap (t477))) / 4294967296)=0 then(none) else(bits_Div64.l0 k (shl .u64 a2 (IntKind.u64.wrap (t477))) (IntKind.u64.wrap (t477)) ((shl .u64 a2 (IntKind.u64.wrap (t477))) / 4294967296) (Go.bits .and .u64 (shl .u64 a2 (IntKind.u64.wrap (t477))) 4294967295) (Go.bits .or .u64 (shl .u64 a0 (IntKind.u64.wrap (t477))) (shr .u64 a1 (IntKind.u64.wrap (64 - (IntKind.u64.wrap (t477)))))) ((shl .u64 a1 (IntKind.u64.wrap (t477))) / 4294967296) (Go.bits .and .u64 (shl .u64 a1 (IntKind.u64.wrap (t477))) 4294967295) (IntKind.u64.wrap (Int.tdiv (Go.bits .or .u64 (shl .u64 a0 (IntKind.u64.wrap (t477))) (shr .u64 a1 (IntKind.u64.wrap (64 - (IntKind.u64.wrap (t477)))))) ((shl .u64 a2 (IntKind.u64.wrap (t477))) / 4294967296))) (IntKind.u64.wrap ((Go.bits .or .u64 (shl .u64 a0 (IntKind.u64.wrap (t477))) (shr .u64 a1 (IntKind.u64.wrap (64 - (IntKind.u64.wrap (t477)))))) - (IntKind.u64.wrap ((IntKind.u64.wrap (Int.tdiv (Go.bits .or .u64 (shl .u64 a0 (IntKind.u64.wrap (t477))) (shr .u64 a1 (IntKind.u64.wrap (64 - (IntKind.u64.wrap (t477)))))) ((shl .u64 a2 (IntKind.u64.wrap (t477))) / 4294967296)))*((shl .u64 a2 (IntKind.u64.wrap (t477))) / 4294967296))))))) else(none)) else(none)))))
theorem bits_Div64.calls {k:Nat} {a0 a1 a2 r1 r2:Int} (w:World) (h:bits_Div64.f k a0 a1 a2=some (r1,r2)):
  Calls Tryz.prog 106 #[.int .u64 a0,.int .u64 a1,.int .u64 a2] w fun e w'=>e= .returned (.tuple #[.int .u64 r1,.int .u64 r2])∧Drawn0 w w':=by
 unfold bits_Div64.f at h;have H:=h;clear h;replace H:=ief_ H;obtain⟨c4,f4,f5,H⟩:=H;replace H:=imf_ H;obtain⟨f6,H⟩:=H;replace H:=ie_ H
 rcases H with ⟨f1,f2,H⟩|⟨c6,f1,f2,H⟩
 ·simp only[Option.some.injEq,Prod.mk.injEq] at H
  obtain⟨rfl,rfl⟩:=H
  go_enter Tryz.func106,Tryz.ntmps106
  go_wp2
  repeat(go_quiet (fail);try go_wp2)
  go_ret2
  exact⟨en_,de_⟩
 replace H:=oc_ H;obtain⟨j6,A7,H⟩:=H
 obtain⟨b0,g0⟩:∃j_:Int,(IntKind.u64.wrap (j6))=j_:=⟨_,rfl⟩
 simp only[g0] at H
 (try rw[g0] at A7)
 by_cases c9:0≤(b0)
 ·rw[if_pos c9] at H
  have f7:=eq_true c9
  have f8:decide (0≤(b0))=true:=decide_eq_true c9
  clear c9
  obtain⟨a3,a6⟩:∃j_:Int,(shl .u64 a2 (b0))=j_:=⟨_,rfl⟩
  simp only[a6] at H
  (try rw[a6] at A7)
  have j7: (IntKind.u64.wrap (a2*2^min (b0).toNat 64))=a3:=a6
  have hji10z: (b0)≤64→(IntKind.u64.wrap (a2*2^(b0).toNat))=a3:=shl_small a6
  have d0:=eq_true (od_:0≤(b0))
  obtain⟨a7,b1⟩:∃j_:Int,(shl .u64 a0 (b0))=j_:=⟨_,rfl⟩
  simp only[b1] at H
  (try rw[b1] at A7)
  have j8: (IntKind.u64.wrap (a0*2^min (b0).toNat 64))=a7:=b1
  have hji12z: (b0)≤64→(IntKind.u64.wrap (a0*2^(b0).toNat))=a7:=shl_small b1
  obtain⟨f3,d7⟩:∃j_:Int,(IntKind.u64.wrap (64 - (b0)))=j_:=⟨_,rfl⟩
  simp only[d7] at H
  (try rw[d7] at A7)
  by_cases f9:0≤(f3)
  ·rw[if_pos f9] at H
   have d1:=eq_true f9
   have d2:decide (0≤(f3))=true:=decide_eq_true f9
   clear f9
   obtain⟨a8,b2⟩:∃j_:Int,(shr .u64 a1 (f3))=j_:=⟨_,rfl⟩
   simp only[b2] at H
   (try rw[b2] at A7)
   have j9: (a1 / 2^min (f3).toNat 64)=a8:=b2
   have hji15z: (f3)≤64→(a1 / 2^(f3).toNat)=a8:=shr_small b2
   have d3:=eq_true (od_:0≤(b0))
   obtain⟨a5,b3⟩:∃j_:Int,(shl .u64 a1 (b0))=j_:=⟨_,rfl⟩
   simp only[b3] at H
   (try rw[b3] at A7)
   have l2: (IntKind.u64.wrap (a1*2^min (b0).toNat 64))=a5:=b3
   have hji17z: (b0)≤64→(IntKind.u64.wrap (a1*2^(b0).toNat))=a5:=shl_small b3
   replace H:=ief_ H;obtain⟨g9,d4,d5,H⟩:=H;have g5:=Aside0.mk H;clear H
   go_enter Tryz.func106,Tryz.ntmps106
   go_upto_block 0 with (first|(go_at_call 107;(with_reducible refine(bits_LeadingZeros64.calls _ A7.out).mono ?_);rintro e w' ⟨rfl,⟨nd,rfl⟩⟩;(try exact dd_)))
   repeat(go_quiet (first|(go_at_call 107;(with_reducible refine(bits_LeadingZeros64.calls _ A7.out).mono ?_);rintro e w' ⟨rfl,⟨nd,rfl⟩⟩;(try exact dd_)));go_upto_block 0 with (first|(go_at_call 107;(with_reducible refine(bits_LeadingZeros64.calls _ A7.out).mono ?_);rintro e w' ⟨rfl,⟨nd,rfl⟩⟩;(try exact dd_))))
   (try simp only[Act.put,lstS,lstZ,lstC])
   go_cut [15] (fun l3 wc=>∃(kq:Nat) (a4:Int),l3= .int .u64 a4∧Aside0 (bits_Div64.j2 kq a3 b0 ((a3) / 4294967296) (Go.bits .and .u64 (a3) 4294967295) (Go.bits .or .u64 (a7) (a8)) ((a5) / 4294967296) (Go.bits .and .u64 (a5) 4294967295) a4=some (r1,r2))∧Aside0 (kq≤k)∧Drawn0 w wc)
   case first=>
    have H:=g5.out;clear g5
    have H':=Aside0.mk H
    clear H
    go_wp2
    repeat(go_quiet (fail);try go_wp2)
    go_loopg [15,16] k (fun kq l3 l4 w'=>∃(b5:Int) (b6:Int),l3= .int .u64 b5∧l4= .int .u64 b6∧Aside0 (bits_Div64.l0 kq a3 b0 ((a3) / 4294967296) (Go.bits .and .u64 (a3) 4294967295) (Go.bits .or .u64 (a7) (a8)) ((a5) / 4294967296) (Go.bits .and .u64 (a5) 4294967295) b5 b6=some (r1,r2))∧Aside0 (kq≤k)∧Drawn0 w w')
    case atStart=>exact⟨(IntKind.u64.wrap (Int.tdiv (Go.bits .or .u64 (a7) (a8)) ((a3) / 4294967296))),(IntKind.u64.wrap ((Go.bits .or .u64 (a7) (a8)) - (IntKind.u64.wrap ((IntKind.u64.wrap (Int.tdiv (Go.bits .or .u64 (a7) (a8)) ((a3) / 4294967296)))*((a3) / 4294967296))))),(by first|rfl|(simp;done)|(simp only[←a6,←b1,←b2]<;>(first|rfl|simp))|(simp[*];done)),(by first|rfl|(simp;done)|(simp only[←a6,←b1,←b2]<;>(first|rfl|simp))|(simp[*];done)),H',⟨Nat.le_refl _⟩,de_⟩
    clear H'
    try clear c4 f4 f5
    try clear f6
    try clear c6 f1 f2
    try clear c9 f7 f8
    try clear d0
    try clear f9 d1 d2
    try clear d3
    try clear g9 d4 d5
    obtain⟨b5,b6,rfl,rfl,HA,g8,⟨m1,rfl⟩⟩:=hrel
    cases gk with
    |zero=>exact absurd HA.out (by simp[bits_Div64.l0])
    |succ k1=>
     have H:=HA.out;clear HA
     simp only[bits_Div64.l0] at H
     have g6:=Aside0.mk H;clear H
     go_upto_region 17 with (fail)
     repeat(go_quiet (fail);go_upto_region 17 with (fail))
     go_cut [78] (fun m8 wc=>∃(kq:Nat) (d6:Bool),m8= .bool d6∧Aside0 (bits_Div64.j1 kq a3 b0 ((a3) / 4294967296) (Go.bits .and .u64 (a3) 4294967295) (Go.bits .or .u64 (a7) (a8)) ((a5) / 4294967296) (Go.bits .and .u64 (a5) 4294967295) b5 b6 d6=some (r1,r2))∧Aside0 (kq≤k1)∧Drawn0 w wc)
     case first=>
      have H:=g6.out;clear g6;replace H:=in_ H
      rcases H with ⟨b4,H⟩|⟨b4,H⟩
      ·(first|rw[b4]|(simp only[i64_w,i32_w];rw[b4])|skip)
       have H':=Aside0.mk H
       clear H
       go_wp2
       repeat(go_quiet (fail);try go_wp2)
       go_meet
       case rel=>exact⟨_,(true),en_,H',⟨by have:=g8.out;first|omega|exact Nat.le_refl _⟩,de_⟩
      (first|rw[b4]|(simp only[i64_w,i32_w];rw[b4])|skip)
      have H':=Aside0.mk H
      clear H
      go_wp2
      repeat(go_quiet (fail);try go_wp2)
      go_meet
      case rel=>exact⟨_,(decide ((IntKind.u64.wrap (b5*(Go.bits .and .u64 (a3) 4294967295)))>(IntKind.u64.wrap ((IntKind.u64.wrap (4294967296*b6))+((a5) / 4294967296))))),(by first|rfl|(simp;done)|(simp only[←a6,←b3]<;>(first|rfl|simp))|(simp[*];done)),H',⟨by have:=g8.out;first|omega|exact Nat.le_refl _⟩,de_⟩
     clear g6
     try clear c4 f4 f5
     try clear f6
     try clear c6 f1 f2
     try clear c9 f7 f8
     try clear d0
     try clear f9 d1 d2
     try clear d3
     try clear g9 d4 d5
     try clear b4
     obtain⟨kq,d6,rfl,HA,g1,⟨mc19,rfl⟩⟩:=hcut
     cases kq with
     |zero=>exact absurd HA.out (by simp[bits_Div64.j1])
     |succ l5=>
      have H:=HA.out;clear HA
      simp only[bits_Div64.j1] at H
      replace H:=ib_ H
      rcases H with ⟨rfl,H⟩|⟨rfl,H⟩
      ·replace H:=in_ H
       rcases H with ⟨d8,H⟩|⟨d8,H⟩
       ·have H':=Aside0.mk H
        clear H
        go_wp2
        repeat(go_quiet (fail);try go_wp2)
        go_meet
        case rel=>exact⟨_,(IntKind.u64.wrap (b5 - 1)),en_,H',⟨by have:=g8.out;have:=g1.out;first|omega|exact Nat.le_refl _⟩,de_⟩
       have H':=Aside0.mk H
       clear H
       go_wp2
       repeat(go_quiet (fail);try go_wp2)
       go_roundg l5
       case measure=>have:=g8.out;have:=g1.out;omega
       case rel=>exact⟨(IntKind.u64.wrap (b5 - 1)),(IntKind.u64.wrap (b6+((a3) / 4294967296))),en_,(by first|rfl|(simp;done)|(simp only[←a6]<;>(first|rfl|simp))|(simp[*];done)),H',⟨by have:=g8.out;have:=g1.out;omega⟩,de_⟩
      have H':=Aside0.mk H
      clear H
      go_wp2
      repeat(go_quiet (fail);try go_wp2)
      go_meet
      case rel=>exact⟨_,(b5),en_,H',⟨by have:=g8.out;have:=g1.out;first|omega|exact Nat.le_refl _⟩,de_⟩
   clear g5
   try clear c4 f4 f5
   try clear f6
   try clear c6 f1 f2
   try clear c9 f7 f8
   try clear d0
   try clear f9 d1 d2
   try clear d3
   try clear g9 d4 d5
   try clear b4
   try clear d8
   obtain⟨kq,a4,rfl,HA,g2,⟨mc18,rfl⟩⟩:=hcut
   cases kq with
   |zero=>exact absurd HA.out (by simp[bits_Div64.j2])
   |succ i4=>
    have H:=HA.out;clear HA
    simp only[bits_Div64.j2] at H
    replace H:=ief_ H;obtain⟨m3,g3,g4,H⟩:=H
    have H':=Aside0.mk H
    clear H
    go_wp2
    repeat(go_quiet (fail);try go_wp2)
    go_loopg [16,18] i4 (fun kq l4 m9 w'=>∃(b7:Int) (a9:Int),l4= .int .u64 b7∧m9= .int .u64 a9∧Aside0 (bits_Div64.l1 kq a3 b0 ((a3) / 4294967296) (Go.bits .and .u64 (a3) 4294967295) (Go.bits .and .u64 (a5) 4294967295) a4 b7 (IntKind.u64.wrap ((IntKind.u64.wrap ((IntKind.u64.wrap ((Go.bits .or .u64 (a7) (a8))*4294967296))+((a5) / 4294967296))) - (IntKind.u64.wrap (a4*a3)))) a9=some (r1,r2))∧Aside0 (kq≤i4)∧Drawn0 w w')
    case atStart=>exact⟨(IntKind.u64.wrap ((IntKind.u64.wrap ((IntKind.u64.wrap ((IntKind.u64.wrap ((Go.bits .or .u64 (a7) (a8))*4294967296))+((a5) / 4294967296))) - (IntKind.u64.wrap (a4*a3)))) - (IntKind.u64.wrap ((IntKind.u64.wrap (Int.tdiv (IntKind.u64.wrap ((IntKind.u64.wrap ((IntKind.u64.wrap ((Go.bits .or .u64 (a7) (a8))*4294967296))+((a5) / 4294967296))) - (IntKind.u64.wrap (a4*a3)))) ((a3) / 4294967296)))*((a3) / 4294967296))))),(IntKind.u64.wrap (Int.tdiv (IntKind.u64.wrap ((IntKind.u64.wrap ((IntKind.u64.wrap ((Go.bits .or .u64 (a7) (a8))*4294967296))+((a5) / 4294967296))) - (IntKind.u64.wrap (a4*a3)))) ((a3) / 4294967296))),(by first|rfl|(simp;done)|(simp only[←a6,←b1,←b2,←b3]<;>(first|rfl|simp))|(simp[*];done)),(by first|rfl|(simp;done)|(simp only[←a6,←b1,←b2,←b3]<;>(first|rfl|simp))|(simp[*];done)),H',⟨Nat.le_refl _⟩,de_⟩
    clear H'
    try clear c4 f4 f5
    try clear f6
    try clear c6 f1 f2
    try clear c9 f7 f8
    try clear d0
    try clear f9 d1 d2
    try clear d3
    try clear g9 d4 d5
    try clear b4
    try clear d8
    try clear m3 g3 g4
    obtain⟨b7,a9,rfl,rfl,HA,j5,⟨m2,rfl⟩⟩:=hrel
    cases gk with
    |zero=>exact absurd HA.out (by simp[bits_Div64.l1])
    |succ k2=>
     have H:=HA.out;clear HA
     simp only[bits_Div64.l1] at H
     have g7:=Aside0.mk H;clear H
     go_upto_region 24 with (fail)
     repeat(go_quiet (fail);go_upto_region 24 with (fail))
     go_cut [113] (fun l6 wc=>∃(kq:Nat) (b9:Bool),l6= .bool b9∧Aside0 (bits_Div64.j4 kq a3 b0 ((a3) / 4294967296) (Go.bits .and .u64 (a3) 4294967295) (Go.bits .and .u64 (a5) 4294967295) a4 b7 (IntKind.u64.wrap ((IntKind.u64.wrap ((IntKind.u64.wrap ((Go.bits .or .u64 (a7) (a8))*4294967296))+((a5) / 4294967296))) - (IntKind.u64.wrap (a4*a3)))) a9 b9=some (r1,r2))∧Aside0 (kq≤k2)∧Drawn0 w wc)
     case first=>
      have H:=g7.out;clear g7;replace H:=in_ H
      rcases H with ⟨b8,H⟩|⟨b8,H⟩
      ·(first|rw[b8]|(simp only[i64_w,i32_w];rw[b8])|skip)
       have H':=Aside0.mk H
       clear H
       go_wp2
       repeat(go_quiet (fail);try go_wp2)
       go_meet
       case rel=>exact⟨_,(true),en_,H',⟨by have:=g2.out;have:=j5.out;first|omega|exact Nat.le_refl _⟩,de_⟩
      (first|rw[b8]|(simp only[i64_w,i32_w];rw[b8])|skip)
      have H':=Aside0.mk H
      clear H
      go_wp2
      repeat(go_quiet (fail);try go_wp2)
      go_meet
      case rel=>exact⟨_,(decide ((IntKind.u64.wrap (a9*(Go.bits .and .u64 (a3) 4294967295)))>(IntKind.u64.wrap ((IntKind.u64.wrap (4294967296*b7))+(Go.bits .and .u64 (a5) 4294967295))))),(by first|rfl|(simp;done)|(simp only[←a6,←b3]<;>(first|rfl|simp))|(simp[*];done)),H',⟨by have:=g2.out;have:=j5.out;first|omega|exact Nat.le_refl _⟩,de_⟩
     clear g7
     try clear c4 f4 f5
     try clear f6
     try clear c6 f1 f2
     try clear c9 f7 f8
     try clear d0
     try clear f9 d1 d2
     try clear d3
     try clear g9 d4 d5
     try clear b4
     try clear d8
     try clear m3 g3 g4
     try clear b8
     obtain⟨kq,b9,rfl,HA,i5,⟨mc24,rfl⟩⟩:=hcut
     cases kq with
     |zero=>exact absurd HA.out (by simp[bits_Div64.j4])
     |succ l7=>
      have H:=HA.out;clear HA
      simp only[bits_Div64.j4] at H
      replace H:=ib_ H
      rcases H with ⟨rfl,H⟩|⟨rfl,H⟩
      ·replace H:=in_ H
       rcases H with ⟨i7,H⟩|⟨i7,H⟩
       ·by_cases i8:0≤b0
        ·rw[if_pos i8] at H
         have m4:=eq_true i8
         have m5:decide (0≤b0)=true:=decide_eq_true i8
         clear i8
         obtain⟨i9,d9⟩:∃j_:Int,(shr .u64 (IntKind.u64.wrap ((IntKind.u64.wrap ((IntKind.u64.wrap ((IntKind.u64.wrap ((IntKind.u64.wrap ((IntKind.u64.wrap ((Go.bits .or .u64 (a7) (a8))*4294967296))+((a5) / 4294967296))) - (IntKind.u64.wrap (a4*a3))))*4294967296))+(Go.bits .and .u64 (a5) 4294967295))) - (IntKind.u64.wrap ((IntKind.u64.wrap (a9 - 1))*a3)))) b0)=j_:=⟨_,rfl⟩
         simp only[d9] at H
         have l8: ((IntKind.u64.wrap ((IntKind.u64.wrap ((IntKind.u64.wrap ((IntKind.u64.wrap ((IntKind.u64.wrap ((IntKind.u64.wrap ((Go.bits .or .u64 (a7) (a8))*4294967296))+((a5) / 4294967296))) - (IntKind.u64.wrap (a4*a3))))*4294967296))+(Go.bits .and .u64 (a5) 4294967295))) - (IntKind.u64.wrap ((IntKind.u64.wrap (a9 - 1))*a3)))) / 2^min b0.toNat 64)=i9:=d9
         have hji30z:b0≤64→((IntKind.u64.wrap ((IntKind.u64.wrap ((IntKind.u64.wrap ((IntKind.u64.wrap ((IntKind.u64.wrap ((IntKind.u64.wrap ((Go.bits .or .u64 (a7) (a8))*4294967296))+((a5) / 4294967296))) - (IntKind.u64.wrap (a4*a3))))*4294967296))+(Go.bits .and .u64 (a5) 4294967295))) - (IntKind.u64.wrap ((IntKind.u64.wrap (a9 - 1))*a3)))) / 2^b0.toNat)=i9:=shr_small d9
         simp only[Option.some.injEq,Prod.mk.injEq] at H
         obtain⟨rfl,rfl⟩:=H
         go_wp2
         repeat(go_quiet (fail);try go_wp2)
         go_ret2
         exact⟨by first|rfl|(simp;done)|(simp only[←g0,←a6,←b1,←d7,←b2,←b3,←d9]<;>(first|rfl|simp))|(simp[*];done),de_⟩
        rw[if_neg i8] at H
        exact absurd H (by simp)
       have H':=Aside0.mk H
       clear H
       go_wp2
       repeat(go_quiet (fail);try go_wp2)
       go_roundg l7
       case measure=>have:=g2.out;have:=j5.out;have:=i5.out;omega
       case rel=>exact⟨(IntKind.u64.wrap (b7+((a3) / 4294967296))),(IntKind.u64.wrap (a9 - 1)),(by first|rfl|(simp;done)|(simp only[←a6]<;>(first|rfl|simp))|(simp[*];done)),en_,H',⟨by have:=g2.out;have:=j5.out;have:=i5.out;omega⟩,de_⟩
      by_cases j0:0≤b0
      ·rw[if_pos j0] at H
       have m6:=eq_true j0
       have m7:decide (0≤b0)=true:=decide_eq_true j0
       clear j0
       obtain⟨j3,f0⟩:∃j_:Int,(shr .u64 (IntKind.u64.wrap ((IntKind.u64.wrap ((IntKind.u64.wrap ((IntKind.u64.wrap ((IntKind.u64.wrap ((IntKind.u64.wrap ((Go.bits .or .u64 (a7) (a8))*4294967296))+((a5) / 4294967296))) - (IntKind.u64.wrap (a4*a3))))*4294967296))+(Go.bits .and .u64 (a5) 4294967295))) - (IntKind.u64.wrap (a9*a3)))) b0)=j_:=⟨_,rfl⟩
       simp only[f0] at H
       have l9: ((IntKind.u64.wrap ((IntKind.u64.wrap ((IntKind.u64.wrap ((IntKind.u64.wrap ((IntKind.u64.wrap ((IntKind.u64.wrap ((Go.bits .or .u64 (a7) (a8))*4294967296))+((a5) / 4294967296))) - (IntKind.u64.wrap (a4*a3))))*4294967296))+(Go.bits .and .u64 (a5) 4294967295))) - (IntKind.u64.wrap (a9*a3)))) / 2^min b0.toNat 64)=j3:=f0
       have hji32z:b0≤64→((IntKind.u64.wrap ((IntKind.u64.wrap ((IntKind.u64.wrap ((IntKind.u64.wrap ((IntKind.u64.wrap ((IntKind.u64.wrap ((Go.bits .or .u64 (a7) (a8))*4294967296))+((a5) / 4294967296))) - (IntKind.u64.wrap (a4*a3))))*4294967296))+(Go.bits .and .u64 (a5) 4294967295))) - (IntKind.u64.wrap (a9*a3)))) / 2^b0.toNat)=j3:=shr_small f0
       simp only[Option.some.injEq,Prod.mk.injEq] at H
       obtain⟨rfl,rfl⟩:=H
       go_wp2
       repeat(go_quiet (fail);try go_wp2)
       go_ret2
       exact⟨by first|rfl|(simp;done)|(simp only[←g0,←a6,←b1,←d7,←b2,←b3,←f0]<;>(first|rfl|simp))|(simp[*];done),de_⟩
      rw[if_neg j0] at H
      exact absurd H (by simp)
  rw[if_neg f9] at H
  exact absurd H (by simp)
 rw[if_neg c9] at H
 exact absurd H (by simp)
/-! ### impl_times: function 91 -/
def impl_times.f (k:Nat) (a0 a1 a2:Int):Option (Int):=(impl_mod.f a0 a2).bind fun t478=>((impl_mod.f a1 a2).bind fun t479=>((bits_Mul64.f (IntKind.u64.wrap (t478)) (IntKind.u64.wrap (t479))).bind fun bt480=>(if (IntKind.u64.wrap (a2))=0 then(none) else((bits_Div64.f k (Int.tmod bt480.1 (IntKind.u64.wrap (a2))) bt480.2 (IntKind.u64.wrap (a2))).bind fun bt482=>(some (wrap64 (bt482.2)))))))
theorem impl_times.calls {k:Nat} {a0 a1 a2 r:Int} (w:World) (h:impl_times.f k a0 a1 a2=some r):
  Calls Tryz.prog 91 #[i6 a0,i6 a1,i6 a2] w fun e w'=>e= .returned (i6 r)∧Drawn0 w w':=by
 unfold impl_times.f at h;have H:=h;clear h;replace H:=oc_ H;obtain⟨a3,A4,H⟩:=H;replace H:=oc_ H;obtain⟨a4,A5,H⟩:=H;replace H:=oc_ H;obtain⟨⟨a5,a6⟩,A6,H⟩:=H;replace H:=ief_ H;obtain⟨c7,a7,a8,H⟩:=H;replace H:=oc_ H;obtain⟨⟨a9,b0⟩,A8,H⟩:=H
 obtain rfl:=si_ H
 go_enter Tryz.func91,Tryz.ntmps91
 go_wp2_with (first|((refine gc_ 105 ?_);refine ge_ 14 Tryz.func105 #[i6 a0,i6 a2] ?_;(with_reducible refine mo_ (impl_mod.calls _ A4.out) ?_);rintro w' ⟨nd,rfl⟩)|((refine gc_ 105 ?_);refine ge_ 18 Tryz.func105 #[i6 a1,i6 a2] ?_;(with_reducible refine mo_ (impl_mod.calls _ A5.out) ?_);rintro w' ⟨nd,rfl⟩)|((refine gc_ 104 ?_);refine ge_ 20 Tryz.func104 #[.int .u64 (IntKind.u64.wrap (a3)),.int .u64 (IntKind.u64.wrap (a4))] ?_;(with_reducible refine mo_ (bits_Mul64.calls _ A6.out) ?_);rintro w' ⟨nd,rfl⟩)|((refine gc_ 106 ?_);refine ge_ 31 Tryz.func106 #[.int .u64 (Int.tmod a5 (IntKind.u64.wrap (a2))),.int .u64 a6,.int .u64 (IntKind.u64.wrap (a2))] ?_;(with_reducible refine mo_ (bits_Div64.calls _ A8.out) ?_);rintro w' ⟨nd,rfl⟩))
 go_ret
 exact⟨en_,de_⟩
/-! ### impl_unit: function 92 -/
def impl_unit.f (k:Nat) (a0 a1:Int):Option (Int):=(impl_valuation.f k a0 a1).bind fun t484=>((impl_power.f k a0 t484).bind fun t485=>(if t485=0 then(none) else(some (wrap64 (Int.tdiv a1 t485)))))
theorem impl_unit.calls {k:Nat} {a0 a1 r:Int} (w:World) (h:impl_unit.f k a0 a1=some r):
  Calls Tryz.prog 92 #[i6 a0,i6 a1] w fun e w'=>e= .returned (i6 r)∧Drawn0 w w':=by
 unfold impl_unit.f at h;have H:=h;clear h;replace H:=oc_ H;obtain⟨a2,A3,H⟩:=H;replace H:=oc_ H;obtain⟨a3,A4,H⟩:=H;replace H:=ief_ H;obtain⟨c5,a4,a5,H⟩:=H
 obtain rfl:=si_ H
 go_enter Tryz.func92,Tryz.ntmps92
 go_wp2_with (first|((refine gc_ 42 ?_);refine ge_ 9 Tryz.func42 #[i6 a0,i6 a1] ?_;(with_reducible refine mo_ (impl_valuation.calls _ A3.out) ?_);rintro w' ⟨nd,rfl⟩)|((refine gc_ 64 ?_);refine ge_ 10 Tryz.func64 #[i6 a0,i6 a2] ?_;(with_reducible refine mo_ (impl_power.calls _ A4.out) ?_);rintro w' ⟨nd,rfl⟩))
 go_ret
 exact⟨en_,de_⟩
/-! ### impl_inverse: function 93 -/
def impl_inverse.l0:Nat→Int→Int→Int→Int→Int→Option (Int)
 |0,_,_,_,_,_=>none
 |k+1,x1,x5,x6,x7,x8=>if x6=0 then((impl_mod.f x7 x1).bind fun t487=>(some t487)) else(impl_inverse.l0 k x1 x6 (wrap64 (x5 - (wrap64 ((wrap64 (Int.tdiv x5 x6))*x6)))) x8 (wrap64 (x7 - (wrap64 ((wrap64 (Int.tdiv x5 x6))*x8)))))
def impl_inverse.f (k:Nat) (a0 a1:Int):Option (Int):=(impl_mod.f a0 a1).bind fun t486=>(impl_inverse.l0 k a1 t486 a1 1 0)
theorem impl_inverse.calls {k:Nat} {a0 a1 r:Int} (w:World) (h:impl_inverse.f k a0 a1=some r):
  Calls Tryz.prog 93 #[i6 a0,i6 a1] w fun e w'=>e= .returned (i6 r)∧Drawn0 w w':=by
 unfold impl_inverse.f at h;have H:=h;clear h;replace H:=oc_ H;obtain⟨a6,A3,H⟩:=H
 have H':=Aside0.mk H
 clear H
 go_enter Tryz.func93,Tryz.ntmps93
 go_wp2_with (first|((refine gc_ 105 ?_);refine ge_ 12 Tryz.func105 #[i6 a0,i6 a1] ?_;(with_reducible refine mo_ (impl_mod.calls _ A3.out) ?_);rintro w' ⟨nd,rfl⟩))
 go_loopg [5,6,7,8] k (fun kq v5 v6 v7 v8 w'=>∃(a3:Int) (a2:Int) (a4:Int) (a5:Int),v5=i6 a3∧v6=i6 a2∧v7=i6 a4∧v8=i6 a5∧Aside0 (impl_inverse.l0 kq a1 a3 a2 a4 a5=some r)∧Aside0 (kq≤k)∧Drawn0 w w')
 case atStart=>exact⟨(a6),(a1),(1),(0),en_,en_,en_,en_,H',⟨Nat.le_refl _⟩,de_⟩
 clear H';obtain⟨a3,a2,a4,a5,rfl,rfl,rfl,rfl,HA,a9,⟨m1,rfl⟩⟩:=hrel
 cases gk with
 |zero=>exact absurd HA.out (by simp[impl_inverse.l0])
 |succ k1=>
  have H:=HA.out;clear HA
  simp only[impl_inverse.l0] at H
  replace H:=ie_ H
  rcases H with ⟨a7,a8,H⟩|⟨c4,a7,a8,H⟩
  ·replace H:=oc_ H
   obtain⟨b0,A5,H⟩:=H
   obtain rfl:=si_ H
   go_wp2_with (first|((refine gc_ 105 ?_);refine ge_ 33 Tryz.func105 #[i6 a4,i6 a1] ?_;(with_reducible refine mo_ (impl_mod.calls _ A5.out) ?_);rintro w' ⟨nd,rfl⟩))
   go_ret
   exact⟨en_,de_⟩
  have H':=Aside0.mk H
  clear H
  go_wp2
  go_roundg k1
  case measure=>have:=a9.out;omega
  case rel=>exact⟨(a2),(wrap64 (a3 - (wrap64 ((wrap64 (Int.tdiv a3 a2))*a2)))),(a5),(wrap64 (a4 - (wrap64 ((wrap64 (Int.tdiv a3 a2))*a5)))),en_,en_,en_,en_,H',⟨by have:=a9.out;omega⟩,de_⟩
/-! ### impl_ofMark: function 94 -/
def impl_ofMark.f (k:Nat) (a0 a1 a2:Int):Option (Int×Int×Int×Bool):=(impl_isLevel.f a1).bind fun t489=>(if t489=true then((impl_power.f k a0 (wrap64 (a1+6))).bind fun t490=>((impl_mod.f a2 t490).bind fun t491=>((impl_valuation.f k a0 t491).bind fun t492=>((impl_power.f k a0 (wrap64 (6 - (mx (wrap64 (6 - t492)) 0)))).bind fun t493=>(if t493=0 then(none) else(some (a1,wrap64 (Int.tdiv t491 t493),mx (wrap64 (6 - t492)) 0,true))))))) else(some (0,0,0,false)))
theorem impl_ofMark.calls {k:Nat} {a0 a1 a2 r1 r2 r3:Int} {r4:Bool} (w:World) (h:impl_ofMark.f k a0 a1 a2=some (r1,r2,r3,r4)):
  Calls Tryz.prog 94 #[i6 a0,i6 a1,i6 a2] w fun e w'=>e= .returned (.tuple #[.agg #[i6 r1,i6 r2,i6 r3],.bool r4])∧Below w.heap.size w w':=by
 have hu42:=Tryz.underlying42
 have HB:=Aside0.mk (Below.refl w.heap.size w)
 unfold impl_ofMark.f at h;have H:=h;clear h;replace H:=oc_ H;obtain⟨b7,A4,H⟩:=H;replace H:=ib_ H
 rcases H with ⟨rfl,H⟩|⟨rfl,H⟩
 ·replace H:=oc_ H
  obtain⟨b1,A6,H⟩:=H;replace H:=oc_ H;obtain⟨a8,A7,H⟩:=H;replace H:=oc_ H;obtain⟨a7,A8,H⟩:=H
  obtain⟨a9,a4⟩:∃j_:Int,(mx (wrap64 (6 - a7)) 0)=j_:=⟨_,rfl⟩
  simp only[a4] at H
  (try rw[a4] at A4)
  (try rw[a4] at A6)
  (try rw[a4] at A7)
  (try rw[a4] at A8)
  (try(have hji9l:0≤a9:=by(rw[←a4];unfold mx;(repeat' split)<;>omega)))
  (try(have hji9m:0≤a9:=by omega))
  have b4: (if (wrap64 (6 - a7))<0 then 0 else(wrap64 (6 - a7)))=a9:=a4
  replace H:=oc_ H;obtain⟨b2,b8,H⟩:=H;replace H:=ief_ H;obtain⟨b9,b5,b6,H⟩:=H
  simp only[Option.some.injEq,Prod.mk.injEq] at H
  obtain⟨rfl,rfl,rfl,rfl⟩:=H
  go_enter Tryz.func94,Tryz.ntmps94
  go_wp2_with (first|((refine gd_ 6 ?_);refine by_ 6 #[i6 0,i6 0,i6 0] 42 HB ?_;intro a6 hg a5 a3 hb b0 HB_;replace HB:=HB_;clear hb hg)|((refine gc_ 77 ?_);refine ge_ 10 Tryz.func77 #[i6 a1] ?_;(with_reducible refine mo_ (impl_isLevel.calls _ A4.out) ?_);rintro w' ⟨nd,rfl⟩;(try(rw[drewN_self a5];generalize hq_:World.drewN a5 _=a5;replace a3:=bq_ a3 hq_;replace HB:=hq_' HB hq_;clear hq_)))|((refine gc_ 64 ?_);refine ge_ 17 Tryz.func64 #[i6 a0,i6 (wrap64 (a1+6))] ?_;(with_reducible refine mo_ (impl_power.calls _ A6.out) ?_);rintro w' ⟨nd,rfl⟩;(try(rw[drewN_self a5];generalize hq_:World.drewN a5 _=a5;replace a3:=bq_ a3 hq_;replace HB:=hq_' HB hq_;clear hq_)))|((refine gc_ 105 ?_);refine ge_ 18 Tryz.func105 #[i6 a2,i6 b1] ?_;(with_reducible refine mo_ (impl_mod.calls _ A7.out) ?_);rintro w' ⟨nd,rfl⟩;(try(rw[drewN_self a5];generalize hq_:World.drewN a5 _=a5;replace a3:=bq_ a3 hq_;replace HB:=hq_' HB hq_;clear hq_)))|((refine gc_ 42 ?_);refine ge_ 21 Tryz.func42 #[i6 a0,i6 a8] ?_;(with_reducible refine mo_ (impl_valuation.calls _ A8.out) ?_);rintro w' ⟨nd,rfl⟩;(try(rw[drewN_self a5];generalize hq_:World.drewN a5 _=a5;replace a3:=bq_ a3 hq_;replace HB:=hq_' HB hq_;clear hq_)))|((refine gc_ 64 ?_);refine ge_ 29 Tryz.func64 #[i6 a0,i6 (wrap64 (6 - (a9)))] ?_ (hargs:=by(try simp only[List.map_toArray,List.map_cons,List.map_nil]);first|done|(simp only[a4];rfl)|rfl|(simp only[List.length_drop,List.length_take];rfl));(with_reducible refine mo_ (impl_power.calls _ b8.out) ?_);rintro w' ⟨nd,rfl⟩;(try(rw[drewN_self a5];generalize hq_:World.drewN a5 _=a5;replace a3:=bq_ a3 hq_;replace HB:=hq_' HB hq_;clear hq_));have hz13:=ch3_ a3))
  refine bodyPost_ret (results_ct rfl _ _ a6 42 #[i6 a1,i6 (wrap64 (Int.tdiv a8 b2)),i6 a9] (0,0) _ rfl (bp_ a3).out Tryz.underlying42 rfl (by kernel_rfl)) rfl ?_
  exact⟨by first|rfl|(simp[errW_none,errW_some]<;>rfl)|(simp only[←a4];first|rfl|(simp[errW_none,errW_some]<;>rfl))|(simp[*,errW_none,errW_some]<;>rfl),(bw_ HB).out⟩
 simp only[Option.some.injEq,Prod.mk.injEq] at H
 obtain⟨rfl,rfl,rfl,rfl⟩:=H
 go_enter Tryz.func94,Tryz.ntmps94
 go_wp2_with (first|((refine gd_ 6 ?_);refine by_ 6 #[i6 0,i6 0,i6 0] 42 HB ?_;intro a6 hg b3 a3 hb b0 HB_;replace HB:=HB_;clear hb hg)|((refine gc_ 77 ?_);refine ge_ 10 Tryz.func77 #[i6 a1] ?_;(with_reducible refine mo_ (impl_isLevel.calls _ A4.out) ?_);rintro w' ⟨nd,rfl⟩;(try(rw[drewN_self b3];generalize hq_:World.drewN b3 _=b3;replace a3:=bq_ a3 hq_;replace HB:=hq_' HB hq_;clear hq_));have hz15:=ch3_ a3))
 refine bodyPost_ret (results_ct rfl _ _ a6 42 #[i6 0,i6 0,i6 0] (0,0) _ rfl (bp_ a3).out Tryz.underlying42 rfl (by kernel_rfl)) rfl ?_
 exact⟨es_,(bw_ HB).out⟩
/-! ### impl_ballAt: function 70 -/
def impl_ballAt.j0:Nat→Int→Int→Int→Int→Int→Bool→Option (Int×Int×Int×Bool)
 |0,_,_,_,_,_,_=>none
 |k+1,x0,x1,x2,x3,x10,x24=>if x24=true then(some (x3,0,0,true)) else(if x10<(-6) then(some (0,0,0,false)) else((impl_power.f k x0 (wrap64 (x3+6))).bind fun t498=>((impl_unit.f k x0 x1).bind fun t499=>((impl_unit.f k x0 x2).bind fun t500=>((impl_inverse.f k t500 t498).bind fun t501=>((impl_times.f k t499 t501 t498).bind fun t502=>((impl_power.f k x0 (wrap64 (x10+6))).bind fun t503=>((impl_times.f k t502 t503 t498).bind fun t504=>((impl_ofMark.f k x0 x3 t504).bind fun bt505=>(some (bt505.1,bt505.2.1,bt505.2.2.1,bt505.2.2.2)))))))))))
def impl_ballAt.f (k:Nat) (a0 a1 a2 a3:Int):Option (Int×Int×Int×Bool):=(impl_isLevel.f a3).bind fun t495=>(if t495=true then((impl_valuation.f k a0 a1).bind fun t496=>((impl_valuation.f k a0 a2).bind fun t497=>(if a1=0 then(impl_ballAt.j0 k a0 a1 a2 a3 (wrap64 (t496 - t497)) true) else(impl_ballAt.j0 k a0 a1 a2 a3 (wrap64 (t496 - t497)) (decide ((wrap64 (t496 - t497))≥a3)))))) else(some (0,0,0,false)))
theorem impl_ballAt.calls {k:Nat} {a0 a1 a2 a3 r1 r2 r3:Int} {r4:Bool} (w:World) (h:impl_ballAt.f k a0 a1 a2 a3=some (r1,r2,r3,r4)):
  Calls Tryz.prog 70 #[i6 a0,i6 a1,i6 a2,i6 a3] w fun e w'=>e= .returned (.tuple #[.agg #[i6 r1,i6 r2,i6 r3],.bool r4])∧Below w.heap.size w w':=by
 have hu42:=Tryz.underlying42
 have HB:=Aside0.mk (Below.refl w.heap.size w)
 unfold impl_ballAt.f at h;have H:=h;clear h;replace H:=oc_ H;obtain⟨d5,A5,H⟩:=H;replace H:=ib_ H
 rcases H with ⟨rfl,H⟩|⟨rfl,H⟩
 ·replace H:=oc_ H
  obtain⟨a9,A7,H⟩:=H;replace H:=oc_ H;obtain⟨b0,A8,H⟩:=H;have b4:=Aside0.mk H;clear H
  go_enter Tryz.func70,Tryz.ntmps70
  go_upto_region 4 with (first|((refine gd_ 8 ?_);refine by_ 8 #[i6 0,i6 0,i6 0] 42 HB ?_;intro a5 hg f7 a4 hb b2 HB_;replace HB:=HB_;clear hb hg)|((refine gc_ 77 ?_);refine ge_ 14 Tryz.func77 #[i6 a3] ?_;(with_reducible refine mo_ (impl_isLevel.calls _ A5.out) ?_);rintro w' ⟨nd,rfl⟩)|((refine gc_ 42 ?_);refine ge_ 19 Tryz.func42 #[i6 a0,i6 a1] ?_;(with_reducible refine mo_ (impl_valuation.calls _ A7.out) ?_);rintro w' ⟨nd,rfl⟩)|((refine gc_ 42 ?_);refine ge_ 22 Tryz.func42 #[i6 a0,i6 a2] ?_;(with_reducible refine mo_ (impl_valuation.calls _ A8.out) ?_);rintro w' ⟨nd,rfl⟩))
  (try simp only[Act.put,lstS,lstZ,lstC])
  go_cut [24] (fun d6 wc=>∃(kq:Nat) (a7:Bool),d6= .bool a7∧Aside0 (impl_ballAt.j0 kq a0 a1 a2 a3 (wrap64 (a9 - b0)) a7=some (r1,r2,r3,r4))∧Aside0 (kq≤k)∧Aside0 (b_ wc a5 #[i6 0,i6 0,i6 0] 42)∧Aside0 (Below w.heap.size w wc))
  case first=>
   have H:=b4.out;clear b4;replace H:=ie_ H
   rcases H with ⟨a6,a8,H⟩|⟨d7,a6,a8,H⟩
   ·(first|rw[a6]|(simp only[i64_w,i32_w];rw[a6])|skip)
    have H':=Aside0.mk H
    clear H
    go_wp2
    go_meet
    case rel=>exact⟨_,(true),en_,H',⟨by first|omega|exact Nat.le_refl _⟩,bl_ a4,bw_ HB⟩
   (first|rw[a6]|(simp only[i64_w,i32_w];rw[a6])|skip)
   have H':=Aside0.mk H
   clear H
   go_wp2
   go_meet
   case rel=>exact⟨_,(decide ((wrap64 (a9 - b0))≥a3)),en_,H',⟨by first|omega|exact Nat.le_refl _⟩,bl_ a4,bw_ HB⟩
  clear b4
  try clear d7 a6 a8
  obtain⟨kq,a7,rfl,HA,f8,a4,HB⟩:=hcut
  cases kq with
  |zero=>exact absurd HA.out (by simp[impl_ballAt.j0])
  |succ f9=>
   have H:=HA.out;clear HA
   simp only[impl_ballAt.j0] at H
   replace H:=ib_ H
   rcases H with ⟨rfl,H⟩|⟨rfl,H⟩
   ·simp only[Option.some.injEq,Prod.mk.injEq] at H
    obtain⟨rfl,rfl,rfl,rfl⟩:=H;have hz13:=ch3_ a4
    go_wp2
    refine bodyPost_ret (results_ct rfl _ _ a5 42 #[i6 a3,i6 0,i6 0] (0,0) _ rfl (bp_ a4).out Tryz.underlying42 rfl (by kernel_rfl)) rfl ?_
    exact⟨es_,(bw_ HB).out⟩
   replace H:=il_ H
   rcases H with ⟨b3,H⟩|⟨b3,H⟩
   ·simp only[Option.some.injEq,Prod.mk.injEq] at H
    obtain⟨rfl,rfl,rfl,rfl⟩:=H;have hz15:=ch3_ a4
    go_wp2
    refine bodyPost_ret (results_ct rfl _ _ a5 42 #[i6 0,i6 0,i6 0] (0,0) _ rfl (bp_ a4).out Tryz.underlying42 rfl (by kernel_rfl)) rfl ?_
    exact⟨es_,(bw_ HB).out⟩
   replace H:=oc_ H;obtain⟨b1,d8,H⟩:=H;replace H:=oc_ H;obtain⟨b5,d9,H⟩:=H;replace H:=oc_ H;obtain⟨b6,f0,H⟩:=H;replace H:=oc_ H;obtain⟨b7,f1,H⟩:=H;replace H:=oc_ H;obtain⟨b8,f2,H⟩:=H;replace H:=oc_ H;obtain⟨b9,f3,H⟩:=H;replace H:=oc_ H;obtain⟨d0,f4,H⟩:=H;replace H:=oc_ H;obtain⟨⟨d1,d2,d3,f5⟩,f6,H⟩:=H
   simp only[Option.some.injEq,Prod.mk.injEq] at H
   obtain⟨rfl,rfl,rfl,rfl⟩:=H
   go_wp2_with (first|((refine gc_ 64 ?_);refine ge_ 41 Tryz.func64 #[i6 a0,i6 (wrap64 (a3+6))] ?_;(with_reducible refine mo_ (impl_power.calls _ d8.out) ?_);rintro w' ⟨nd,rfl⟩;(try(rw[drewN_self wc];generalize hq_:World.drewN wc _=wc;replace a4:=bq_ a4 hq_;replace HB:=hq_' HB hq_;clear hq_)))|((refine gc_ 92 ?_);refine ge_ 44 Tryz.func92 #[i6 a0,i6 a1] ?_;(with_reducible refine mo_ (impl_unit.calls _ d9.out) ?_);rintro w' ⟨nd,rfl⟩;(try(rw[drewN_self wc];generalize hq_:World.drewN wc _=wc;replace a4:=bq_ a4 hq_;replace HB:=hq_' HB hq_;clear hq_)))|((refine gc_ 92 ?_);refine ge_ 47 Tryz.func92 #[i6 a0,i6 a2] ?_;(with_reducible refine mo_ (impl_unit.calls _ f0.out) ?_);rintro w' ⟨nd,rfl⟩;(try(rw[drewN_self wc];generalize hq_:World.drewN wc _=wc;replace a4:=bq_ a4 hq_;replace HB:=hq_' HB hq_;clear hq_)))|((refine gc_ 93 ?_);refine ge_ 49 Tryz.func93 #[i6 b6,i6 b1] ?_;(with_reducible refine mo_ (impl_inverse.calls _ f1.out) ?_);rintro w' ⟨nd,rfl⟩;(try(rw[drewN_self wc];generalize hq_:World.drewN wc _=wc;replace a4:=bq_ a4 hq_;replace HB:=hq_' HB hq_;clear hq_)))|((refine gc_ 91 ?_);refine ge_ 51 Tryz.func91 #[i6 b5,i6 b7,i6 b1] ?_;(with_reducible refine mo_ (impl_times.calls _ f2.out) ?_);rintro w' ⟨nd,rfl⟩;(try(rw[drewN_self wc];generalize hq_:World.drewN wc _=wc;replace a4:=bq_ a4 hq_;replace HB:=hq_' HB hq_;clear hq_)))|((refine gc_ 64 ?_);refine ge_ 58 Tryz.func64 #[i6 a0,i6 (wrap64 ((wrap64 (a9 - b0))+6))] ?_;(with_reducible refine mo_ (impl_power.calls _ f3.out) ?_);rintro w' ⟨nd,rfl⟩;(try(rw[drewN_self wc];generalize hq_:World.drewN wc _=wc;replace a4:=bq_ a4 hq_;replace HB:=hq_' HB hq_;clear hq_)))|((refine gc_ 91 ?_);refine ge_ 60 Tryz.func91 #[i6 b8,i6 b9,i6 b1] ?_;(with_reducible refine mo_ (impl_times.calls _ f4.out) ?_);rintro w' ⟨nd,rfl⟩;(try(rw[drewN_self wc];generalize hq_:World.drewN wc _=wc;replace a4:=bq_ a4 hq_;replace HB:=hq_' HB hq_;clear hq_)))|((refine gc_ 94 ?_);refine ge_ 61 Tryz.func94 #[i6 a0,i6 a3,i6 d0] ?_;(with_reducible refine mo_ (impl_ofMark.calls _ f6.out) ?_);intro g0 hb;replace a4:=bb_ a4 hb;replace HB:=bt_ HB hb;clear hb;have hz25:=ch3_ a4))
   refine bodyPost_ret (results_ct rfl _ _ a5 42 #[i6 d1,i6 d2,i6 d3] (0,0) _ rfl (bp_ a4).out Tryz.underlying42 rfl (by kernel_rfl)) rfl ?_
   exact⟨es_,(bw_ HB).out⟩
 simp only[Option.some.injEq,Prod.mk.injEq] at H
 obtain⟨rfl,rfl,rfl,rfl⟩:=H
 go_enter Tryz.func70,Tryz.ntmps70
 go_wp2_with (first|((refine gd_ 8 ?_);refine by_ 8 #[i6 0,i6 0,i6 0] 42 HB ?_;intro a5 hg d4 a4 hb b2 HB_;replace HB:=HB_;clear hb hg)|((refine gc_ 77 ?_);refine ge_ 14 Tryz.func77 #[i6 a3] ?_;(with_reducible refine mo_ (impl_isLevel.calls _ A5.out) ?_);rintro w' ⟨nd,rfl⟩;(try(rw[drewN_self d4];generalize hq_:World.drewN d4 _=d4;replace a4:=bq_ a4 hq_;replace HB:=hq_' HB hq_;clear hq_));have hz27:=ch3_ a4))
 refine bodyPost_ret (results_ct rfl _ _ a5 42 #[i6 0,i6 0,i6 0] (0,0) _ rfl (bp_ a4).out Tryz.underlying42 rfl (by kernel_rfl)) rfl ?_
 exact⟨es_,(bw_ HB).out⟩
/-! ### impl_moveBall: function 43 -/
def impl_moveBall.j0:Nat→Int→Int→Int→Int→Int→Int→Int→Int→Int→Int→Option (Int×Int×Int×Bool)
 |0,_,_,_,_,_,_,_,_,_,_=>none
 |k+1,x0,x510000,x510001,x510002,x510003,x511000,x511001,x511002,x517000,x517001=>(impl_determinant.f x510000 x510001 x510002 x510003).bind fun t519=>((impl_valuation.f k x0 t519).bind fun t520=>((impl_valuation.f k x0 x517001).bind fun t521=>((impl_ballAt.f k x0 x517000 x517001 (wrap64 ((wrap64 ((wrap64 (t520+x511000))+12)) - (wrap64 (2*t521))))).bind fun bt522=>(some (bt522.1,bt522.2.1,bt522.2.2.1,bt522.2.2.2)))))
def impl_moveBall.f (k:Nat) (a0 a1_0 a1_1 a1_2 a1_3 a2_0 a2_1 a2_2:Int):Option (Int×Int×Int×Bool):=(impl_mark.f k a0 a2_0 a2_1 a2_2).bind fun t512=>((impl_power.f k a0 6).bind fun t513=>((impl_power.f k a0 (wrap64 (a2_0+6))).bind fun t514=>((impl_valuation.f k a0 (wrap64 ((wrap64 (a1_2*t512))+(wrap64 (a1_3*t513))))).bind fun t517=>((impl_valuation.f k a0 (wrap64 (a1_2*t514))).bind fun t518=>(if t517>t518 then(impl_moveBall.j0 k a0 a1_0 a1_1 a1_2 a1_3 a2_0 a2_1 a2_2 (wrap64 (a1_0*t514)) (wrap64 (a1_2*t514))) else(impl_moveBall.j0 k a0 a1_0 a1_1 a1_2 a1_3 a2_0 a2_1 a2_2 (wrap64 ((wrap64 (a1_0*t512))+(wrap64 (a1_1*t513)))) (wrap64 ((wrap64 (a1_2*t512))+(wrap64 (a1_3*t513))))))))))
def impl_moveBall.T1:Bool×List (List Nat×List Nat):=(true,[([],[]),([],[]),([0,1],[0,1]),([],[]),([3,2],[3]),([],[]),([],[]),([6],[6]),([7],[7]),([5,8,4],[5,8]),([2,9,0,1,2],[2]),([4,10,0,1,2,3,4,10],[4]),([9,11,0,1,2,3,4,5,6,7,8,9,10,11],[9])])
def impl_moveBall.B1:List Nat:=[0,0,3,0,15,0,0,64,192,511,1023,2047,4095]
theorem impl_moveBall.tab1:rtab .any (opsOf Tryz.f43 1)=impl_moveBall.T1:=by kernel_rfl
theorem impl_moveBall.bits1:waitsOk impl_moveBall.T1.2 impl_moveBall.B1=true:=by kernel_rfl
def impl_moveBall.T4:Bool×List (List Nat×List Nat):=(true,[([],[]),([],[]),([1],[1]),([0,2],[0,2]),([],[]),([],[]),([5],[5]),([4,6,3],[4,6]),([3,7],[3,7])])
def impl_moveBall.B4:List Nat:=[0,0,2,7,0,0,32,127,255]
theorem impl_moveBall.tab4:rtab .any (opsOf Tryz.f43 4)=impl_moveBall.T4:=by kernel_rfl
theorem impl_moveBall.bits4:waitsOk impl_moveBall.T4.2 impl_moveBall.B4=true:=by kernel_rfl
def impl_moveBall.T6:Bool×List (List Nat×List Nat):=(true,[([],[]),([],[]),([1],[1]),([0,2,2],[0,2]),([],[]),([4],[4]),([3,5],[3,5]),([6],[6]),([],[]),([],[]),([9],[9]),([8,10,3],[8,10]),([11],[11]),([7,12],[7,12]),([13,11,0,1,2,3,4,5,6,7,8,9,10,11,12,13],[13])])
def impl_moveBall.B6:List Nat:=[0,0,2,7,0,16,63,127,0,0,512,1807,3855,8191,16383]
theorem impl_moveBall.tab6:rtab .any (opsOf Tryz.f43 6)=impl_moveBall.T6:=by kernel_rfl
theorem impl_moveBall.bits6:waitsOk impl_moveBall.T6.2 impl_moveBall.B6=true:=by kernel_rfl
theorem impl_moveBall.calls {k:Nat} {a0 a8 b3 a7 b0 b9 d5 d6 r1 r2 r3:Int} {r4:Bool} (w:World) (h:impl_moveBall.f k a0 a8 b3 a7 b0 b9 d5 d6=some (r1,r2,r3,r4)):
  Calls Tryz.prog 43 #[i6 a0,.agg #[i6 a8,i6 b3,i6 a7,i6 b0],.agg #[i6 b9,i6 d5,i6 d6]] w fun e w'=>e= .returned (.tuple #[.agg #[i6 r1,i6 r2,i6 r3],.bool r4])∧Below w.heap.size w w':=by
 have hu28:=Tryz.underlying28
 have hu42:=Tryz.underlying42
 have hu26:=Tryz.underlying26
 have HB:=Aside0.mk (Below.refl w.heap.size w)
 unfold impl_moveBall.f at h;have H:=h;clear h;replace H:=oc_ H;obtain⟨b1,A4,H⟩:=H;replace H:=oc_ H;obtain⟨b2,A5,H⟩:=H;replace H:=oc_ H;obtain⟨b7,A6,H⟩:=H;replace H:=oc_ H;obtain⟨j9,A7,H⟩:=H;replace H:=oc_ H;obtain⟨l0,A8,H⟩:=H;have g5:=Aside0.mk H;clear H
 go_enter Tryz.func43,Tryz.ntmps43
 try go_wp2_with (first|((refine gd_ 4 ?_);refine by_ 4 #[i6 a8,i6 b3,i6 a7,i6 b0] 28 HB ?_;intro b6 hg l8 a2 hb j4 HB_;replace HB:=HB_;clear hb hg)|((refine gd_ 5 ?_);refine by_ 5 #[i6 b9,i6 d5,i6 d6] 42 HB ?_;intro b5 hg l9 a1 hb j5 HB_;have f7:=bm_ a2 hg;have g1:=bn_ a2 hg;replace a2:=bb_ a2 hb;replace HB:=HB_;clear hb hg)|((refine gd_ 6 ?_);refine by_ 6 #[i6 0,i6 0,i6 0] 42 HB ?_;intro d7 hg l1 a4 hb j6 HB_;have f8:=bm_ a2 hg;have g2:=bn_ a2 hg;have g3:=bm_ a1 hg;have g4:=bn_ a1 hg;replace a2:=bb_ a2 hb;replace a1:=bb_ a1 hb;replace HB:=HB_;clear hb hg))
 replace a2:=bd_ a2;replace a1:=bd_ a1;replace a4:=bd_ a4;replace HB:=be_ HB
 refine start_ (n:=13) (S:=fun w'=>c_ w' b5 0 (i6 b9)∧c_ w' b5 1 (i6 d5)∧c_ w' b5 2 (i6 d6)) (ds:=[]) (bv_ 13 0) (by kernel_rfl) rfl rfl ⟨cz_ a1 0,cz_ a1 1,cz_ a1 2⟩ (fun hHeld=>?_);refine with_tabW impl_moveBall.tab1 impl_moveBall.bits1 (fun HT_ HW_=>?_)
 generalize l1.drew=m1 at a2 a1 a4 HB hHeld⊢
 refine px_ HT_ 0 14 1 ?_;refine px_ HT_ 3 17 9 ?_;refine px_ HT_ 5 19 41 ?_;refine px_ HT_ 6 20 105 ?_
 refine ta_ HT_ HW_ 1 (some 15) (bv_ 13 107) hHeld ?_ (hy:=by rintro w' ⟨s0,s1,s2⟩;go_simp;with_reducible rfl)
 refine ta_ HT_ HW_ 7 (some 21) (bv_ 13 235) hHeld ?_ (hy:=by rintro w' ⟨s0,s1,s2⟩;go_simp;with_reducible rfl)
 refine px_ HT_ 8 22 491 ?_
 refine on_ HT_ 2 (some 16) (bv_ 13 495) (fun K hK=>?_)
 refine gs_ Tryz.func69 #[i6 a0,.agg #[i6 b9,i6 d5,i6 d6]] ?_
 with_reducible refine mo_ (impl_mark.calls _ A4.out) ?_
 intro m2 hb;replace a2:=bb_ a2 hb;replace a1:=bb_ a1 hb;replace a4:=bb_ a4 hb;replace HB:=bt_ HB hb
 try clear hb
 refine hK.out _ _ ⟨cz_ a1 0,cz_ a1 1,cz_ a1 2⟩ (fun hHeld=>?_)
 clear hK K;refine nm_ (some 16) ?_
 refine on_ HT_ 4 (some 18) (bv_ 13 511) (fun K hK=>?_)
 refine gs_ Tryz.func64 #[i6 a0,i6 6] ?_
 with_reducible refine mo_ (impl_power.calls _ A5.out) ?_
 rintro w' ⟨nd,rfl⟩
 refine hK.out _ _ ⟨cz_ a1 0,cz_ a1 1,cz_ a1 2⟩ (fun hHeld=>?_)
 clear hK K;refine nm_ (some 18) ?_
 refine on_ HT_ 9 (some 23) (bv_ 13 1023) (fun K hK=>?_)
 refine gs_ Tryz.func64 #[i6 a0,i6 (wrap64 (b9+6))] ?_
 with_reducible refine mo_ (impl_power.calls _ A6.out) ?_
 rintro w' ⟨nd,rfl⟩
 refine hK.out _ _ ⟨cz_ a1 0,cz_ a1 1,cz_ a1 2⟩ (fun hHeld=>?_)
 clear hK K;refine nm_ (some 23) ?_;refine px_ HT_ 10 8 2047 ?_;refine px_ HT_ 11 9 4095 ?_;refine px_ HT_ 12 10 8191 ?_
 refine done_ (done_of HT_.out (by kernel_rfl)) ?_
 have:=nn_ f7;have:=nn_ f8;have hz17:=ch4_ a2
 try go_wp2_with (first|((refine gd_ 11 ?_);refine by_ 11 #[i6 0,i6 0] 26 HB ?_;intro b8 hg m3 a6 hb j7 HB_;have d0:=bm_ a2 hg;have d8:=bn_ a2 hg;have d1:=bm_ a1 hg;have d9:=bn_ a1 hg;have d2:=bm_ a4 hg;have f0:=bn_ a4 hg;replace a2:=bb_ a2 hb;replace a1:=bb_ a1 hb;replace a4:=bb_ a4 hb;replace HB:=HB_;clear hb hg;have:=nn_ d8;have:=nn_ d9;have:=nn_ f0;have hz22:=ch2_ a6;have hz23:=ch4_ a2)|((refine gd_ 12 ?_);refine bx_ 12 #[i6 0,i6 0] 26 ?_;intro a5 hg g0 a3 hb;have j8:=bs_ HB hg;have f1:=Aside0.mk ((by rw[hg];exact Nat.ne_of_lt (blk_lt (g:=b6) (o:= .cells #[i6 a8,i6 b3,i6 a7,i6 b0] 28 (0,0)) (fl_ a2 d0).out):b6≠a5));have f2:=Aside0.mk ((by rw[hg];exact Nat.ne_of_gt (blk_lt (g:=b6) (o:= .cells #[i6 a8,i6 b3,i6 a7,i6 b0] 28 (0,0)) (fl_ a2 d0).out):a5≠b6));have f3:=Aside0.mk ((by rw[hg];exact Nat.ne_of_lt (blk_lt (g:=b5) (o:= .cells #[i6 b9,i6 d5,i6 d6] 42 (0,0)) (fl_ a1 d1).out):b5≠a5));have f4:=Aside0.mk ((by rw[hg];exact Nat.ne_of_gt (blk_lt (g:=b5) (o:= .cells #[i6 b9,i6 d5,i6 d6] 42 (0,0)) (fl_ a1 d1).out):a5≠b5));have f5:=Aside0.mk ((by rw[hg];exact Nat.ne_of_lt (blk_lt (g:=d7) (o:= .cells #[i6 0,i6 0,i6 0] 42 (0,0)) (fl_ a4 d2).out):d7≠a5));have d3:=Aside0.mk ((by rw[hg];exact Nat.ne_of_gt (blk_lt (g:=d7) (o:= .cells #[i6 0,i6 0,i6 0] 42 (0,0)) (fl_ a4 d2).out):a5≠d7));have d4:=Aside0.mk ((by rw[hg];exact Nat.ne_of_lt (blk_lt (g:=b8) (o:= .cells #[i6 (wrap64 (a8*b7)),i6 (wrap64 (a7*b7))] 26 (0,0)) (bp_ a6).out):b8≠a5));have f9:=Aside0.mk ((by rw[hg];exact Nat.ne_of_gt (blk_lt (g:=b8) (o:= .cells #[i6 (wrap64 (a8*b7)),i6 (wrap64 (a7*b7))] 26 (0,0)) (bp_ a6).out):a5≠b8));replace a2:=fb_ a2 d0 hb;replace a1:=fb_ a1 d1 hb;replace a4:=fb_ a4 d2 hb;replace a6:=Aside0.mk (blk_below (g:=b8) (o:= .cells #[i6 (wrap64 (a8*b7)),i6 (wrap64 (a7*b7))] 26 (0,0)) (bp_ a6).out hb);replace HB:=bt_ HB hb;clear hb hg;have:=nn_ f2;have:=nn_ f4;have:=nn_ d3;have:=nn_ f9;have hz29:=ch2_ a3))
 have g6:Aside0 (((g0.setCell ⟨a5,0,none⟩ (i6 (wrap64 ((wrap64 (a8*b1))+(wrap64 (b3*b2)))))).setCell ⟨a5,1,none⟩ (i6 (wrap64 ((wrap64 (a7*b1))+(wrap64 (b0*b2)))))).heap[b6]?=some (.cells #[i6 a8,i6 b3,i6 a7,i6 b0] 28 (0,0))):=fl_ a2 f1
 have g7:Aside0 (((g0.setCell ⟨a5,0,none⟩ (i6 (wrap64 ((wrap64 (a8*b1))+(wrap64 (b3*b2)))))).setCell ⟨a5,1,none⟩ (i6 (wrap64 ((wrap64 (a7*b1))+(wrap64 (b0*b2)))))).heap[b5]?=some (.cells #[i6 b9,i6 d5,i6 d6] 42 (0,0))):=fl_ a1 f3
 have g8:Aside0 (((g0.setCell ⟨a5,0,none⟩ (i6 (wrap64 ((wrap64 (a8*b1))+(wrap64 (b3*b2)))))).setCell ⟨a5,1,none⟩ (i6 (wrap64 ((wrap64 (a7*b1))+(wrap64 (b0*b2)))))).heap[d7]?=some (.cells #[i6 0,i6 0,i6 0] 42 (0,0))):=fl_ a4 f5
 have g9:Aside0 (((g0.setCell ⟨a5,0,none⟩ (i6 (wrap64 ((wrap64 (a8*b1))+(wrap64 (b3*b2)))))).setCell ⟨a5,1,none⟩ (i6 (wrap64 ((wrap64 (a7*b1))+(wrap64 (b0*b2)))))).heap[b8]?=some (.cells #[i6 (wrap64 (a8*b7)),i6 (wrap64 (a7*b7))] 26 (0,0))):=fl_ a6 d4
 have i4:Aside0 (((g0.setCell ⟨a5,0,none⟩ (i6 (wrap64 ((wrap64 (a8*b1))+(wrap64 (b3*b2)))))).setCell ⟨a5,1,none⟩ (i6 (wrap64 ((wrap64 (a7*b1))+(wrap64 (b0*b2)))))).heap[a5]?=some (.cells #[i6 (wrap64 ((wrap64 (a8*b1))+(wrap64 (b3*b2)))),i6 (wrap64 ((wrap64 (a7*b1))+(wrap64 (b0*b2))))] 26 (0,0))):=bp_ a3
 have i5:Aside0 (Below w.heap.size w ((g0.setCell ⟨a5,0,none⟩ (i6 (wrap64 ((wrap64 (a8*b1))+(wrap64 (b3*b2)))))).setCell ⟨a5,1,none⟩ (i6 (wrap64 ((wrap64 (a7*b1))+(wrap64 (b0*b2))))))):=bw_ HB
 try clear a2
 try clear a1
 try clear a4
 try clear a6
 try clear a3
 try clear HB
 generalize ((g0.setCell ⟨a5,0,none⟩ (i6 (wrap64 ((wrap64 (a8*b1))+(wrap64 (b3*b2)))))).setCell ⟨a5,1,none⟩ (i6 (wrap64 ((wrap64 (a7*b1))+(wrap64 (b0*b2))))))=l2 at g6 g7 g8 g9 i4 i5⊢
 have a2:=g6
 have a1:=g7
 have a4:=g8
 have a6:=g9
 have a3:=i4
 have HB:=i5
 clear g6 g7 g8 g9 i4 i5;replace a2:=bd_ a2;replace a1:=bd_ a1;replace a4:=bd_ a4;replace a6:=bd_ a6;replace a3:=bd_ a3;replace HB:=be_ HB
 refine start_ (n:=9) (S:=fun w'=>c_ w' a5 0 (i6 (wrap64 ((wrap64 (a8*b1))+(wrap64 (b3*b2)))))∧c_ w' a5 1 (i6 (wrap64 ((wrap64 (a7*b1))+(wrap64 (b0*b2)))))∧c_ w' b8 0 (i6 (wrap64 (a8*b7)))∧c_ w' b8 1 (i6 (wrap64 (a7*b7)))) (ds:=[]) (bv_ 9 0) (by kernel_rfl) rfl rfl ⟨cz_ a3 0,cz_ a3 1,cz_ a6 0,cz_ a6 1⟩ (fun hHeld=>?_);refine with_tabW impl_moveBall.tab4 impl_moveBall.bits4 (fun HT_ HW_=>?_)
 generalize l2.drew=m4 at a2 a1 a4 a6 a3 HB hHeld⊢
 refine px_ HT_ 0 58 1 ?_;refine px_ HT_ 1 59 3 ?_;refine px_ HT_ 4 62 19 ?_;refine px_ HT_ 5 63 51 ?_
 refine ta_ HT_ HW_ 2 (some 60) (bv_ 9 55) hHeld ?_ (hy:=by rintro w' ⟨s0,s1,s2,s3⟩;go_simp;with_reducible rfl)
 refine ta_ HT_ HW_ 6 (some 64) (bv_ 9 119) hHeld ?_ (hy:=by rintro w' ⟨s0,s1,s2,s3⟩;go_simp;with_reducible rfl)
 refine on_ HT_ 3 (some 61) (bv_ 9 127) (fun K hK=>?_)
 refine gs_ Tryz.func42 #[i6 a0,i6 (wrap64 ((wrap64 (a7*b1))+(wrap64 (b0*b2))))] ?_
 with_reducible refine mo_ (impl_valuation.calls _ A7.out) ?_
 rintro w' ⟨nd,rfl⟩
 refine hK.out _ _ ⟨cz_ a3 0,cz_ a3 1,cz_ a6 0,cz_ a6 1⟩ (fun hHeld=>?_)
 clear hK K;refine nm_ (some 61) ?_
 refine on_ HT_ 7 (some 65) (bv_ 9 255) (fun K hK=>?_)
 refine gs_ Tryz.func42 #[i6 a0,i6 (wrap64 (a7*b7))] ?_
 with_reducible refine mo_ (impl_valuation.calls _ A8.out) ?_
 rintro w' ⟨nd,rfl⟩
 refine hK.out _ _ ⟨cz_ a3 0,cz_ a3 1,cz_ a6 0,cz_ a6 1⟩ (fun hHeld=>?_)
 clear hK K;refine nm_ (some 65) ?_;refine px_ HT_ 8 66 511 ?_
 refine done_ (done_of HT_.out (by kernel_rfl)) ?_
 go_upto_if 66 with (fail)
 go_cut [] (fun wc=>∃(kq:Nat) (b4:Int) (a9:Int),Aside0 (impl_moveBall.j0 kq a0 a8 b3 a7 b0 b9 d5 d6 b4 a9=some (r1,r2,r3,r4))∧Aside0 (kq≤k)∧Aside0 (b_ wc b6 #[i6 a8,i6 b3,i6 a7,i6 b0] 28)∧Aside0 (b_ wc b5 #[i6 b9,i6 d5,i6 d6] 42)∧Aside0 (b_ wc d7 #[i6 0,i6 0,i6 0] 42)∧Aside0 (b_ wc b8 #[i6 (wrap64 (a8*b7)),i6 (wrap64 (a7*b7))] 26)∧Aside0 (b_ wc a5 #[i6 b4,i6 a9] 26)∧Aside0 (Below w.heap.size w wc))
 case first=>
  have H:=g5.out;clear g5;replace H:=ig_ H
  rcases H with ⟨f6,H⟩|⟨f6,H⟩
  ·(first|rw[f6]|(simp only[i64_w,i32_w];rw[f6])|skip)
   have H':=Aside0.mk H
   clear H;have:=nn_ d8;have:=nn_ d9;have:=nn_ f0;have:=nn_ d4;have hz37:=ch2_ a6;have:=nn_ f2;have:=nn_ f4;have:=nn_ d3;have hz41:=ch2_ a3
   go_wp2
   go_meet
   case rel=>exact⟨_,(wrap64 (a8*b7)),(wrap64 (a7*b7)),H',⟨by first|omega|exact Nat.le_refl _⟩,fl_ a2 f1,fl_ a1 f3,fl_ a4 f5,fl_ a6 d4,bp_ a3,bw_ HB⟩
  (first|rw[f6]|(simp only[i64_w,i32_w];rw[f6])|skip)
  have H':=Aside0.mk H
  clear H
  go_wp2
  go_meet
  case rel=>exact⟨_,(wrap64 ((wrap64 (a8*b1))+(wrap64 (b3*b2)))),(wrap64 ((wrap64 (a7*b1))+(wrap64 (b0*b2)))),H',⟨by first|omega|exact Nat.le_refl _⟩,bl_ a2,bl_ a1,bl_ a4,bl_ a6,bl_ a3,bw_ HB⟩
 clear g5
 try clear f6
 try clear hz17
 try clear hz22
 try clear hz23
 try clear hz29
 try clear hz37
 try clear hz41
 obtain⟨kq,b4,a9,HA,m5,a2,a1,a4,a6,a3,HB⟩:=hcut
 cases kq with
 |zero=>exact absurd HA.out (by simp[impl_moveBall.j0])
 |succ m6=>
  have H:=HA.out;clear HA
  simp only[impl_moveBall.j0] at H
  replace H:=oc_ H;obtain⟨i7,l3,H⟩:=H;replace H:=oc_ H;obtain⟨i8,l4,H⟩:=H;replace H:=oc_ H;obtain⟨i9,l5,H⟩:=H;replace H:=oc_ H;obtain⟨⟨j1,j2,j3,l6⟩,l7,H⟩:=H
  simp only[Option.some.injEq,Prod.mk.injEq] at H
  obtain⟨rfl,rfl,rfl,rfl⟩:=H
  try go_wp2
  replace a2:=bd_ a2;replace a1:=bd_ a1;replace a4:=bd_ a4;replace a3:=bd_ a3;replace HB:=be_ HB
  refine start_ (n:=15) (S:=fun w'=>c_ w' b6 0 (i6 a8)∧c_ w' b6 1 (i6 b3)∧c_ w' b6 2 (i6 a7)∧c_ w' b6 3 (i6 b0)∧c_ w' b5 0 (i6 b9)∧c_ w' b5 1 (i6 d5)∧c_ w' b5 2 (i6 d6)∧c_ w' a5 0 (i6 b4)∧c_ w' a5 1 (i6 a9)) (ds:=[]) (bv_ 15 0) (by kernel_rfl) rfl rfl ⟨cz_ a2 0,cz_ a2 1,cz_ a2 2,cz_ a2 3,cz_ a1 0,cz_ a1 1,cz_ a1 2,cz_ a3 0,cz_ a3 1⟩ (fun hHeld=>?_);refine with_tabW impl_moveBall.tab6 impl_moveBall.bits6 (fun HT_ HW_=>?_)
  generalize wc.drew=m7 at a2 a1 a4 a3 HB hHeld⊢
  refine px_ HT_ 0 68 1 ?_;refine px_ HT_ 4 72 17 ?_;refine px_ HT_ 8 76 273 ?_;refine px_ HT_ 9 77 785 ?_
  refine ta_ HT_ HW_ 1 (some 69) (bv_ 15 787) hHeld ?_ (hy:=by rintro w' ⟨s0,s1,s2,s3,s4,s5,s6,s7,s8⟩;go_simp;with_reducible rfl)
  refine ta_ HT_ HW_ 5 (some 73) (bv_ 15 819) hHeld ?_ (hy:=by rintro w' ⟨s0,s1,s2,s3,s4,s5,s6,s7,s8⟩;go_simp;with_reducible rfl)
  refine ta_ HT_ HW_ 10 (some 78) (bv_ 15 1843) hHeld ?_ (hy:=by rintro w' ⟨s0,s1,s2,s3,s4,s5,s6,s7,s8⟩;go_simp;with_reducible rfl)
  refine on_ HT_ 2 (some 70) (bv_ 15 1847) (fun K hK=>?_)
  refine gs_ Tryz.func39 #[.agg #[i6 a8,i6 b3,i6 a7,i6 b0]] ?_
  with_reducible refine mo_ (impl_determinant.calls _ l3.out) ?_
  intro m8 hb;replace a2:=bb_ a2 hb;replace a1:=bb_ a1 hb;replace a4:=bb_ a4 hb;replace a3:=bb_ a3 hb;replace HB:=bt_ HB hb
  try clear hb
  refine hK.out _ _ ⟨cz_ a2 0,cz_ a2 1,cz_ a2 2,cz_ a2 3,cz_ a1 0,cz_ a1 1,cz_ a1 2,cz_ a3 0,cz_ a3 1⟩ (fun hHeld=>?_)
  clear hK K;refine nm_ (some 70) ?_
  refine on_ HT_ 3 (some 71) (bv_ 15 1855) (fun K hK=>?_)
  refine gs_ Tryz.func42 #[i6 a0,i6 i7] ?_
  with_reducible refine mo_ (impl_valuation.calls _ l4.out) ?_
  rintro w' ⟨nd,rfl⟩
  refine hK.out _ _ ⟨cz_ a2 0,cz_ a2 1,cz_ a2 2,cz_ a2 3,cz_ a1 0,cz_ a1 1,cz_ a1 2,cz_ a3 0,cz_ a3 1⟩ (fun hHeld=>?_)
  clear hK K;refine nm_ (some 71) ?_;refine px_ HT_ 6 74 1919 ?_;refine px_ HT_ 7 75 2047 ?_
  refine on_ HT_ 11 (some 79) (bv_ 15 4095) (fun K hK=>?_)
  refine gs_ Tryz.func42 #[i6 a0,i6 a9] ?_
  with_reducible refine mo_ (impl_valuation.calls _ l5.out) ?_
  rintro w' ⟨nd,rfl⟩
  refine hK.out _ _ ⟨cz_ a2 0,cz_ a2 1,cz_ a2 2,cz_ a2 3,cz_ a1 0,cz_ a1 1,cz_ a1 2,cz_ a3 0,cz_ a3 1⟩ (fun hHeld=>?_)
  clear hK K;refine nm_ (some 79) ?_;refine px_ HT_ 12 80 8191 ?_;refine px_ HT_ 13 81 16383 ?_;refine px_ HT_ 14 13 32767 ?_
  refine done_ (done_of HT_.out (by kernel_rfl)) ?_
  have:=nn_ d3;have hz49:=ch2_ a3
  try go_wp2_with (first|((refine gc_ 70 ?_);refine ge_ 88 Tryz.func70 #[i6 a0,i6 b4,i6 a9,i6 (wrap64 ((wrap64 ((wrap64 (i8+b9))+12)) - (wrap64 (2*i9))))] ?_;(with_reducible refine mo_ (impl_ballAt.calls _ l7.out) ?_);intro m9 hb;replace a4:=bb_ a4 hb;replace a3:=bb_ a3 hb;replace HB:=bt_ HB hb;clear hb;have hz51:=ch3_ a4))
  refine bodyPost_ret (results_ct rfl _ _ d7 42 #[i6 j1,i6 j2,i6 j3] (0,0) _ rfl (bp_ a4).out Tryz.underlying42 rfl (by kernel_rfl)) rfl ?_
  exact⟨es_,(bw_ HB).out⟩
end Go.Proofs.YtblmdppbbdbbjabGreat.QP
