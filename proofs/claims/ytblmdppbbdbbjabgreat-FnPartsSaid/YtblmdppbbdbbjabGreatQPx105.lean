import Derived.Test.YtblmdppbbdbbjabGreatQPx8
import Derived.Test.YtblmdppbbdbbjabGreatQPx40
import Derived.Test.YtblmdppbbdbbjabGreatQPx32
import Derived.Test.YtblmdppbbdbbjabGreatQPx62
import Derived.Test.YtblmdppbbdbbjabGreatQPx91
import Derived.Test.YtblmdppbbdbbjabGreatQPx81
namespace Go.Proofs.YtblmdppbbdbbjabGreat.QP
set_option maxHeartbeats 8000000
set_option maxRecDepth 100000
open Go.RowKit Go.Proofs.YtblmdppbbdbbjabGreatW.PrintWords Go.Proofs.YtblmdppbbdbbjabGreatW.PrintLast Go.Proofs.YtblmdppbbdbbjabGreatW.PrintMore
attribute [local go_sem] isSome_setCell max2_int min2_int max_two min_two max_three min_three max_four min_four
set_option linter.unusedVariables false
set_option linter.unusedSimpArgs false
/-! ### spec_NormalSteps: function 19 -/
def spec_NormalSteps.l0:Nat→ByteArray→List Int→Int→Option (ByteArray×Int)
 |0,_,_,_=>none
 |k+1,x1,x7,x8=>if x8<(x1.size:Int) then(if 0≤x8 then(if (bt x1 x8)=117 then(if (x7.length:Int)>0 then(if 0≤(wrap64 ((x7.length:Int) - 1)) then(if (wrap64 ((x7.length:Int) - 1))<(x7.length:Int) then(if (rd x7 (wrap64 ((x7.length:Int) - 1)))=117 then(if x7.length<140737488355328 then(spec_NormalSteps.l0 k x1 (x7++[bt x1 x8]) (wrap64 (x8+1))) else(none)) else(if (wrap64 ((x7.length:Int) - 1))≤(x7.length:Int) then(spec_NormalSteps.l0 k x1 (x7.take ((wrap64 ((x7.length:Int) - 1)):Int).toNat) (wrap64 (x8+1))) else(none))) else(none)) else(none)) else(if x7.length<140737488355328 then(spec_NormalSteps.l0 k x1 (x7++[bt x1 x8]) (wrap64 (x8+1))) else(none))) else(if x7.length<140737488355328 then(spec_NormalSteps.l0 k x1 (x7++[bt x1 x8]) (wrap64 (x8+1))) else(none))) else(none)) else(some (strOfNums x7,0))
def spec_NormalSteps.f (k:Nat) (a0:Int) (a1:ByteArray):Option (ByteArray×Int):=(spec_l10Code.f k a0 a1 ([]:List (S42))).bind fun t876=>(if t876=0 then(spec_NormalSteps.l0 k a1 (([]:List Int)) 0) else(some ((⟨#[]⟩:ByteArray),t876)))
theorem spec_NormalSteps.calls {k:Nat} {a0:Int} (a1:ByteArray) (r1:ByteArray) {r2:Int} (w:World) (h:spec_NormalSteps.f k a0 a1=some (r1,r2)):
  Calls Tryz.prog 19 #[i6 a0,.string a1] w fun e w'=>e= .returned (.tuple #[.string r1,i6 r2])∧Below w.heap.size w w':=by
 have HB:=Aside0.mk (Below.refl w.heap.size w)
 unfold spec_NormalSteps.f at h;have H:=h;clear h;replace H:=oc_ H;obtain⟨m4,A3,H⟩:=H;replace H:=ie_ H
 rcases H with ⟨d7,d8,H⟩|⟨c4,d7,d8,H⟩
 ·obtain⟨d9,a5⟩:∃y_:List Int,y_=(([]:List Int)):=⟨_,rfl⟩
  replace H: (spec_NormalSteps.l0 k a1 d9 0)=some (r1,r2):=by first|(rw[a5];with_reducible exact H)|(have H2_:=(Option.bind_some _ _).symm.trans H;rw[a5];with_reducible exact H2_)|(have H2_:=(Option.bind_some _ _).symm.trans H;with_reducible exact H2_)|with_reducible exact H|(rw[a5];exact H)|exact H
  have b8:=Aside0.mk a5;clear a5
  have H':=Aside0.mk H
  clear H
  go_enter Tryz.func19,Tryz.ntmps19
  go_wp2_with (first|((refine gc_ 29 ?_);refine ge_ 12 Tryz.func29 #[i6 a0,.string a1,.slice none 0 0] ?_;(refine mo_ (spec_l10Code.calls a1 _ _ _ ?b2 ?b3 A3.out (l2:=([]:List (S42)))) ?_);(case b2=>exact Kd.C_nil _ _);(case b3=>exact Nat.le_refl _);intro w5 hb;replace HB:=bt_ HB hb;clear hb)|((refine gd_ 16 ?_);refine Kd.R_lit (Kd.int .u8) _ 5 ?hg (N:=16) ?hd (xs:=([]:List Int)) (inner:=[]) (ok:=fun _=>True) (okp:=fun _=>True) ?hr ?hp (fun _ hk=>hk) trivial (Below.refl _ _) (Nat.le_refl _) (by simp) ?_;(case hd=>rfl);(case hg=>rfl);(case hr=>first|(go_simp;done)|(go_simp;rfl));(case hp=>exact(Reps.none _ _));intro m5 w6 f0 hb hg_ hnew_;clear hg_ hnew_;(first|rw[←b8.out] at f0|(simp only[Int.reduceToNat] at f0;rw[←b8.out] at f0));have f1:=Aside0.mk (Kd.R_lower f0 (below_size (bw_ HB).out));replace HB:=bt_ HB hb;clear hb f0))
  go_loopg [7,8] k (fun kq v7 v8 w'=>∃(a3:List Int) (a2:Int),v8=i6 a2∧Aside0 (spec_NormalSteps.l0 kq a1 a3 a2=some (r1,r2))∧Aside0 (kq≤k)∧Aside0 (Kd.R (Kd.int .u8) 5 w' w.heap.size (fun _=>True) v7 a3)∧Aside0 (Below w.heap.size w w'))
  case atStart=>exact⟨(d9),(0),en_,H',⟨Nat.le_refl _⟩,⟨by(with_reducible repeat(first|apply Kd.R_alloc|apply Kd.R_drewN|apply Kd.R_drew));exact f1.out⟩,bw_ HB⟩
  clear H'
  try clear c4 d7 d8
  obtain⟨a3,a2,rfl,HA,b9,HO_7,HB⟩:=hrel
  cases gk with
  |zero=>exact absurd HA.out (by simp[spec_NormalSteps.l0])
  |succ k1=>
   have H:=HA.out;clear HA
   simp only[spec_NormalSteps.l0] at H
   replace H:=il_ H
   rcases H with ⟨i9,H⟩|⟨i9,H⟩
   ·replace H:=imn_ H
    obtain⟨m6,H⟩:=H;replace H:=ie_ H
    rcases H with ⟨f2,f3,H⟩|⟨n6,f2,f3,H⟩
    ·by_cases d6: (a3.length:Int)>0
     ·rw[if_pos d6] at H
      have f4:decide (0<(a3.length:Int))=true:=decide_eq_true d6
      have f5:decide (0<a3.length)=true:=decide_eq_true (by omega)
      clear d6
      obtain⟨a4,d0⟩:∃j_:Int,(wrap64 ((a3.length:Int) - 1))=j_:=⟨_,rfl⟩
      simp only[d0] at H
      have hji13w: (IntKind.i64.wrap ((a3.length:Int) - 1))=a4:=(i64_w _).trans d0
      replace H:=imn_ H;obtain⟨l3,H⟩:=H;replace H:=iln_ H;obtain⟨l4,H⟩:=H;replace H:=ie_ H
      rcases H with ⟨f6,f7,H⟩|⟨n7,f6,f7,H⟩
      ·by_cases i5:a3.length<140737488355328
       ·rw[if_pos i5] at H
        have LMc18:=Aside0.mk i5;clear i5
        obtain⟨f8,a6⟩:∃y_:List Int,y_=(a3++[bt a1 a2]):=⟨_,rfl⟩
        replace H: (spec_NormalSteps.l0 k1 a1 f8 (wrap64 (a2+1)))=some (r1,r2):=by first|(rw[a6];with_reducible exact H)|(have H2_:=(Option.bind_some _ _).symm.trans H;rw[a6];with_reducible exact H2_)|(have H2_:=(Option.bind_some _ _).symm.trans H;with_reducible exact H2_)|with_reducible exact H|(rw[a6];exact H)|exact H
        have f9:=Aside0.mk a6;clear a6
        have H':=Aside0.mk H
        clear H
        obtain⟨m7,j0,j1⟩:=Kd.R_slice HO_7.out
        subst j1
        have b4:0≤(a2:Int):=od_
        have b5:a2<(a1.size:Int):=od_
        have d4:=bt_at a1 a2
        replace b4:=eq_true b4
        replace b5:=eq_true b5
        have b0:0≤((a4):Int):=od_
        have b1: (a4)<(a3.length:Int):=od_
        obtain⟨b6,d5,b7⟩:=Kd.at_int (Kd.R_reads' HO_7.out).2.2 (a4) b0 b1
        cases d5
        replace b0:=eq_true b0
        replace b1:=eq_true b1
        have l5:0≤(a2:Int):=od_
        have l6:a2<(a1.size:Int):=od_
        have m8:=bt_at a1 a2
        replace l5:=eq_true l5
        replace l6:=eq_true l6
        go_wp2_with (first|((with_reducible refine gate_builtin (b:= .append) (xs:=#[.tmp 45,.tmp 49]) rfl ?_);at_builtin;refine Kd.R_append (Kd.int .u8) (w0:=w) w.heap.size rfl (.tmp 45) (.tmp 49) 22 5 (.int .u8 0) 1 rfl Tryz.underlying22 info5 rfl (by decide) (by omega) (.slice (some b6) a3.length j0) a3 (bt a1 a2) [.int .u8 (bt a1 a2)] (fun _=>True) (fun _=>False) rfl rfl ?aP (fun _ hk=>hk.elim) ?aF ?aO ?aB ?aS ?aL ?_;(case aP=>exact rfl);(case aB=>exact(bw_ HB).out);(case aF=>exact(fun _ _=>trivial));(case aO=>exact(ra_ HO_7.out));(case aS=>exact(below_size (bw_ HB).out));(case aL=>have:=LMc18.out;omega);intro m9 n8 ho hb hg hat;rw[←f9.out] at ho;have d1:=Aside0.mk (hb);have d2:=Aside0.mk (ho);clear HB;clear HO_7;have HB:=d1;have g0:=d2;clear d1 d2;clear ho hb hg hat))
        go_roundg k1
        case measure=>have:=b9.out;omega
        case rel=>exact⟨(f8),(wrap64 (a2+1)),en_,H',⟨by have:=b9.out;omega⟩,⟨by(with_reducible repeat(first|apply Kd.R_alloc|apply Kd.R_drewN|apply Kd.R_drew));exact g0.out⟩,bw_ HB⟩
       rw[if_neg i5] at H
       exact absurd H (by simp)
      by_cases g1: (a4)≤(a3.length:Int)
      ·rw[if_pos g1] at H
       have l7:=eq_true g1
       have l8:decide ((a4)≤(a3.length:Int))=true:=decide_eq_true g1
       clear g1
       obtain⟨g2,a7⟩:∃y_:List Int,y_=(a3.take ((a4):Int).toNat):=⟨_,rfl⟩
       first|rw[←a7,Option.bind_some] at H|rw[←a7] at H|(dsimp only at H;rw[←a7] at H)
       have d3:=Aside0.mk a7;clear a7
       have H':=Aside0.mk H
       clear H
       obtain⟨n0,j2,j3⟩:=Kd.R_slice HO_7.out
       subst j3
       have b4:0≤(a2:Int):=od_
       have b5:a2<(a1.size:Int):=od_
       have d4:=bt_at a1 a2
       replace b4:=eq_true b4
       replace b5:=eq_true b5
       have b0:0≤((a4):Int):=od_
       have b1: (a4)<(a3.length:Int):=od_
       obtain⟨b6,d5,b7⟩:=Kd.at_int (Kd.R_reads' HO_7.out).2.2 (a4) b0 b1
       cases d5
       replace b0:=eq_true b0
       replace b1:=eq_true b1
       have j4: ((a4):Int)≤((a3.length:Int):Int):=od_
       obtain⟨n1,hi023,_,hsz23,_⟩:=info_parts info5
       have hcut23:=cut_to (P:=Tryz.prog) 22 5 .i64 Tryz.underlying22 hi023 (some b6) a3.length j2 (a4) od_ j4 (Kd.R_reads' HO_7.out).2.1
       have hr23:=Kd.R_take (m:=((a4):Int).toNat) HO_7.out (by omega)
       have g3:g2.length=((a4):Int).toNat:=(by rw[d3.out,List.length_take];omega)
       rw[←d3.out] at hr23
       rw[←g3] at hr23 hcut23
       clear g3 hi023 hsz23 HO_7;have g4:=Aside0.mk hr23;clear hr23
       replace j4:=eq_true j4
       go_wp2
       go_roundg k1
       case measure=>have:=b9.out;omega
       case rel=>exact⟨(g2),(wrap64 (a2+1)),en_,H',⟨by have:=b9.out;omega⟩,⟨by(with_reducible repeat(first|apply Kd.R_alloc|apply Kd.R_drewN|apply Kd.R_drew));exact g4.out⟩,bw_ HB⟩
      rw[if_neg g1] at H
      exact absurd H (by simp)
     rw[if_neg d6] at H
     have f4:decide (0<(a3.length:Int))=false:=decide_eq_false d6
     have f5:decide (0<a3.length)=false:=decide_eq_false (by omega)
     clear d6
     by_cases i7:a3.length<140737488355328
     ·rw[if_pos i7] at H
      have LMc25:=Aside0.mk i7;clear i7
      obtain⟨g5,a8⟩:∃y_:List Int,y_=(a3++[bt a1 a2]):=⟨_,rfl⟩
      replace H: (spec_NormalSteps.l0 k1 a1 g5 (wrap64 (a2+1)))=some (r1,r2):=by first|(rw[a8];with_reducible exact H)|(have H2_:=(Option.bind_some _ _).symm.trans H;rw[a8];with_reducible exact H2_)|(have H2_:=(Option.bind_some _ _).symm.trans H;with_reducible exact H2_)|with_reducible exact H|(rw[a8];exact H)|exact H
      have g6:=Aside0.mk a8;clear a8
      have H':=Aside0.mk H
      clear H
      obtain⟨j5,j6,j7⟩:=Kd.R_slice HO_7.out
      subst j7
      have b4:0≤(a2:Int):=od_
      have b5:a2<(a1.size:Int):=od_
      have d4:=bt_at a1 a2
      replace b4:=eq_true b4
      replace b5:=eq_true b5
      have l9:0≤(a2:Int):=od_
      have m1:a2<(a1.size:Int):=od_
      have n2:=bt_at a1 a2
      replace l9:=eq_true l9
      replace m1:=eq_true m1
      go_wp2_with (first|((with_reducible refine gate_builtin (b:= .append) (xs:=#[.tmp 45,.tmp 49]) rfl ?_);at_builtin;refine Kd.R_append (Kd.int .u8) (w0:=w) w.heap.size rfl (.tmp 45) (.tmp 49) 22 5 (.int .u8 0) 1 rfl Tryz.underlying22 info5 rfl (by decide) (by omega) (.slice j5 a3.length j6) a3 (bt a1 a2) [.int .u8 (bt a1 a2)] (fun _=>True) (fun _=>False) rfl rfl ?aP (fun _ hk=>hk.elim) ?aF ?aO ?aB ?aS ?aL ?_;(case aP=>exact rfl);(case aB=>exact(bw_ HB).out);(case aF=>exact(fun _ _=>trivial));(case aO=>exact(ra_ HO_7.out));(case aS=>exact(below_size (bw_ HB).out));(case aL=>have:=LMc25.out;omega);intro n3 n9 ho hb hg hat;rw[←g6.out] at ho;have d1:=Aside0.mk (hb);have d2:=Aside0.mk (ho);clear HB;clear HO_7;have HB:=d1;have g7:=d2;clear d1 d2;clear ho hb hg hat))
      go_roundg k1
      case measure=>have:=b9.out;omega
      case rel=>exact⟨(g5),(wrap64 (a2+1)),en_,H',⟨by have:=b9.out;omega⟩,⟨by(with_reducible repeat(first|apply Kd.R_alloc|apply Kd.R_drewN|apply Kd.R_drew));exact g7.out⟩,bw_ HB⟩
     rw[if_neg i7] at H
     exact absurd H (by simp)
    by_cases i8:a3.length<140737488355328
    ·rw[if_pos i8] at H
     have LMc29:=Aside0.mk i8;clear i8
     obtain⟨g8,a9⟩:∃y_:List Int,y_=(a3++[bt a1 a2]):=⟨_,rfl⟩
     replace H: (spec_NormalSteps.l0 k1 a1 g8 (wrap64 (a2+1)))=some (r1,r2):=by first|(rw[a9];with_reducible exact H)|(have H2_:=(Option.bind_some _ _).symm.trans H;rw[a9];with_reducible exact H2_)|(have H2_:=(Option.bind_some _ _).symm.trans H;with_reducible exact H2_)|with_reducible exact H|(rw[a9];exact H)|exact H
     have g9:=Aside0.mk a9;clear a9
     have H':=Aside0.mk H
     clear H
     obtain⟨j8,j9,l1⟩:=Kd.R_slice HO_7.out
     subst l1
     have b4:0≤(a2:Int):=od_
     have b5:a2<(a1.size:Int):=od_
     have d4:=bt_at a1 a2
     replace b4:=eq_true b4
     replace b5:=eq_true b5
     have m2:0≤(a2:Int):=od_
     have m3:a2<(a1.size:Int):=od_
     have n4:=bt_at a1 a2
     replace m2:=eq_true m2
     replace m3:=eq_true m3
     go_wp2_with (first|((with_reducible refine gate_builtin (b:= .append) (xs:=#[.tmp 45,.tmp 49]) rfl ?_);at_builtin;refine Kd.R_append (Kd.int .u8) (w0:=w) w.heap.size rfl (.tmp 45) (.tmp 49) 22 5 (.int .u8 0) 1 rfl Tryz.underlying22 info5 rfl (by decide) (by omega) (.slice j8 a3.length j9) a3 (bt a1 a2) [.int .u8 (bt a1 a2)] (fun _=>True) (fun _=>False) rfl rfl ?aP (fun _ hk=>hk.elim) ?aF ?aO ?aB ?aS ?aL ?_;(case aP=>exact rfl);(case aB=>exact(bw_ HB).out);(case aF=>exact(fun _ _=>trivial));(case aO=>exact(ra_ HO_7.out));(case aS=>exact(below_size (bw_ HB).out));(case aL=>have:=LMc29.out;omega);intro n5 o0 ho hb hg hat;rw[←g9.out] at ho;have d1:=Aside0.mk (hb);have d2:=Aside0.mk (ho);clear HB;clear HO_7;have HB:=d1;have i4:=d2;clear d1 d2;clear ho hb hg hat))
     go_roundg k1
     case measure=>have:=b9.out;omega
     case rel=>exact⟨(g8),(wrap64 (a2+1)),en_,H',⟨by have:=b9.out;omega⟩,⟨by(with_reducible repeat(first|apply Kd.R_alloc|apply Kd.R_drewN|apply Kd.R_drew));exact i4.out⟩,bw_ HB⟩
    rw[if_neg i8] at H
    exact absurd H (by simp)
   simp only[Option.some.injEq,Prod.mk.injEq] at H
   obtain⟨rfl,rfl⟩:=H
   have hcv32:=own_string (P:=Tryz.prog) Tryz.underlying22 Tryz.underlying5 Tryz.underlying9 (Kd.own_of_R HO_7.out)
   go_wp2
   go_ret2
   exact⟨es_,(bw_ HB).out⟩
 simp only[Option.some.injEq,Prod.mk.injEq] at H
 obtain⟨rfl,rfl⟩:=H
 go_enter Tryz.func19,Tryz.ntmps19
 go_wp2_with (first|((refine gc_ 29 ?_);refine ge_ 12 Tryz.func29 #[i6 a0,.string a1,.slice none 0 0] ?_;(refine mo_ (spec_l10Code.calls a1 _ _ _ ?b2 ?b3 A3.out (l2:=([]:List (S42)))) ?_);(case b2=>exact Kd.C_nil _ _);(case b3=>exact Nat.le_refl _);intro o1 hb;replace HB:=bt_ HB hb;clear hb))
 go_ret2
 exact⟨es_,(bw_ HB).out⟩
/-! ### impl_fitted: function 49 -/
def impl_fitted.f (a0_0 a0_1 a0_2:Int) (a1:Bool):Option (Int×Int×Int×Int):=if a1=true then(some (a0_0,a0_1,a0_2,0)) else(some (0,0,0,3))
theorem impl_fitted.calls {a6 a7 a8:Int} {a1:Bool} {r1 r2 r3 r4:Int} (w:World) (h:impl_fitted.f a6 a7 a8 a1=some (r1,r2,r3,r4)):
  Calls Tryz.prog 49 #[.agg #[i6 a6,i6 a7,i6 a8],.bool a1] w fun e w'=>e= .returned (.tuple #[.agg #[i6 r1,i6 r2,i6 r3],i6 r4])∧Below w.heap.size w w':=by
 have hu42:=Tryz.underlying42
 have HB:=Aside0.mk (Below.refl w.heap.size w)
 unfold impl_fitted.f at h;have H:=h;clear h;replace H:=ib_ H
 rcases H with ⟨rfl,H⟩|⟨rfl,H⟩
 ·simp only[Option.some.injEq,Prod.mk.injEq] at H
  obtain⟨rfl,rfl,rfl,rfl⟩:=H
  go_enter Tryz.func49,Tryz.ntmps49
  go_wp2_with (first|((refine gd_ 2 ?_);refine by_ 2 #[i6 a6,i6 a7,i6 a8] 42 HB ?_;intro b0 hg w4 a2 hb b1 HB_;replace HB:=HB_;clear hb hg)|((refine gd_ 4 ?_);refine by_ 4 #[i6 0,i6 0,i6 0] 42 HB ?_;intro a9 hg w5 a5 hb b2 HB_;have a3:=bm_ a2 hg;have a4:=bn_ a2 hg;replace a2:=bb_ a2 hb;replace HB:=HB_;clear hb hg;have:=nn_ a3;have hz7:=ch3_ a2;have hz8:=ch3_ a5))
  refine bodyPost_ret (results_ct rfl _ _ a9 42 #[i6 a6,i6 a7,i6 a8] (0,0) _ rfl (bp_ a5).out Tryz.underlying42 rfl (by kernel_rfl)) rfl ?_
  exact⟨es_,(bw_ HB).out⟩
 simp only[Option.some.injEq,Prod.mk.injEq] at H
 obtain⟨rfl,rfl,rfl,rfl⟩:=H
 go_enter Tryz.func49,Tryz.ntmps49
 go_wp2_with (first|((refine gd_ 2 ?_);refine by_ 2 #[i6 a6,i6 a7,i6 a8] 42 HB ?_;intro b0 hg w9 a2 hb b1 HB_;replace HB:=HB_;clear hb hg)|((refine gd_ 4 ?_);refine by_ 4 #[i6 0,i6 0,i6 0] 42 HB ?_;intro a9 hg b3 a5 hb b2 HB_;have a3:=bm_ a2 hg;have a4:=bn_ a2 hg;replace a2:=bb_ a2 hb;replace HB:=HB_;clear hb hg;have:=nn_ a4;have hz12:=ch3_ a5))
 refine bodyPost_ret (results_ct rfl _ _ a9 42 #[i6 0,i6 0,i6 0] (0,0) _ rfl (bp_ a5).out Tryz.underlying42 rfl (by kernel_rfl)) rfl ?_
 exact⟨es_,(bw_ HB).out⟩
/-! ### impl_MoveBall: function 20 -/
def impl_MoveBall.j0:Nat→Int→Bool→Int→Int→Int→Int→Int→Int→Int→Option (Int×Int×Int×Int)
 |0,_,_,_,_,_,_,_,_,_=>none
 |k+1,x0,x16,x896000,x896001,x896002,x896003,x897000,x897001,x897002=>if x16=true then(some (0,0,0,1)) else((impl_moveBall.f k x0 x896000 x896001 x896002 x896003 x897000 x897001 x897002).bind fun bt900=>((impl_fitted.f bt900.1 bt900.2.1 bt900.2.2.1 bt900.2.2.2).bind fun bt904=>(some (bt904.1,bt904.2.1,bt904.2.2.1,bt904.2.2.2))))
def impl_MoveBall.f (k:Nat) (a0 a1_0 a1_1 a1_2 a1_3 a2_0 a2_1 a2_2:Int):Option (Int×Int×Int×Int):=(impl_IsBall.f k a0 a2_0 a2_1 a2_2).bind fun t898=>(if t898=true then((impl_IsMatrix.f k a1_0 a1_1 a1_2 a1_3).bind fun t899=>(impl_MoveBall.j0 k a0 (!t899) a1_0 a1_1 a1_2 a1_3 a2_0 a2_1 a2_2)) else(impl_MoveBall.j0 k a0 true a1_0 a1_1 a1_2 a1_3 a2_0 a2_1 a2_2))
theorem impl_MoveBall.calls {k:Nat} {a0 b0 b1 b2 b3 a7 a8 a9 r1 r2 r3 r4:Int} (w:World) (h:impl_MoveBall.f k a0 b0 b1 b2 b3 a7 a8 a9=some (r1,r2,r3,r4)):
  Calls Tryz.prog 20 #[i6 a0,.agg #[i6 b0,i6 b1,i6 b2,i6 b3],.agg #[i6 a7,i6 a8,i6 a9]] w fun e w'=>e= .returned (.tuple #[.agg #[i6 r1,i6 r2,i6 r3],i6 r4])∧Below w.heap.size w w':=by
 have hu28:=Tryz.underlying28
 have hu42:=Tryz.underlying42
 have HB:=Aside0.mk (Below.refl w.heap.size w)
 unfold impl_MoveBall.f at h;have H:=h;clear h;have d1:=Aside0.mk H;clear H
 go_enter Tryz.func20,Tryz.ntmps20
 go_upto_region 1 with (first|((refine gd_ 4 ?_);refine by_ 4 #[i6 b0,i6 b1,i6 b2,i6 b3] 28 HB ?_;intro b9 hg w5 a1 hb f0 HB_;replace HB:=HB_;clear hb hg)|((refine gd_ 5 ?_);refine by_ 5 #[i6 a7,i6 a8,i6 a9] 42 HB ?_;intro d0 hg w6 a2 hb f1 HB_;have b4:=bm_ a1 hg;have a5:=bn_ a1 hg;replace a1:=bb_ a1 hb;replace HB:=HB_;clear hb hg)|((refine gd_ 6 ?_);refine by_ 6 #[i6 0,i6 0,i6 0] 42 HB ?_;intro b7 hg w7 a3 hb f2 HB_;have a6:=bm_ a1 hg;have b5:=bn_ a1 hg;have a4:=bm_ a2 hg;have b6:=bn_ a2 hg;replace a1:=bb_ a1 hb;replace a2:=bb_ a2 hb;replace HB:=HB_;clear hb hg))
 (try simp only[Act.put,lstS,lstZ,lstC])
 go_cut [16] (fun f3 wc=>∃(kq:Nat) (b8:Bool),f3= .bool b8∧Aside0 (impl_MoveBall.j0 kq a0 b8 b0 b1 b2 b3 a7 a8 a9=some (r1,r2,r3,r4))∧Aside0 (kq≤k)∧Aside0 (b_ wc b9 #[i6 b0,i6 b1,i6 b2,i6 b3] 28)∧Aside0 (b_ wc d0 #[i6 a7,i6 a8,i6 a9] 42)∧Aside0 (b_ wc b7 #[i6 0,i6 0,i6 0] 42)∧Aside0 (Below w.heap.size w wc))
 case first=>
  have H:=d1.out;clear d1;replace H:=oc_ H;obtain⟨f4,A8,H⟩:=H;replace H:=ib_ H
  rcases H with ⟨rfl,H⟩|⟨rfl,H⟩
  ·replace H:=oc_ H
   obtain⟨d2,f5,H⟩:=H
   have H':=Aside0.mk H
   clear H;have:=nn_ a5;have:=nn_ a4;have hz13:=ch3_ a2
   go_wp2_with (first|((refine gc_ 47 ?_);refine ge_ 10 Tryz.func47 #[i6 a0,.agg #[i6 a7,i6 a8,i6 a9]] ?_;(with_reducible refine mo_ (impl_IsBall.calls _ A8.out) ?_);intro f9 hb;replace a1:=bb_ a1 hb;replace a2:=bb_ a2 hb;replace a3:=bb_ a3 hb;replace HB:=bt_ HB hb;clear hb;have:=nn_ a6;have hz16:=ch4_ a1)|(go_at_call 48;(with_reducible refine(impl_IsMatrix.calls _ f5.out).mono ?_);rintro e g0 ⟨rfl,hb⟩;replace a1:=bb_ a1 hb;replace a2:=bb_ a2 hb;replace a3:=bb_ a3 hb;replace HB:=bt_ HB hb;(try clear hb)))
   go_meet
   case rel=>exact⟨_,(!d2),en_,H',⟨by first|omega|exact Nat.le_refl _⟩,bl_ a1,bl_ a2,bl_ a3,bw_ HB⟩
  have H':=Aside0.mk H
  clear H;have:=nn_ a5;have:=nn_ a4;have hz20:=ch3_ a2
  go_wp2_with (first|((refine gc_ 47 ?_);refine ge_ 10 Tryz.func47 #[i6 a0,.agg #[i6 a7,i6 a8,i6 a9]] ?_;(with_reducible refine mo_ (impl_IsBall.calls _ A8.out) ?_);intro g1 hb;replace a1:=bb_ a1 hb;replace a2:=bb_ a2 hb;replace a3:=bb_ a3 hb;replace HB:=bt_ HB hb;clear hb))
  go_meet
  case rel=>exact⟨_,(true),en_,H',⟨by first|omega|exact Nat.le_refl _⟩,bl_ a1,bl_ a2,bl_ a3,bw_ HB⟩
 clear d1
 try clear hz13
 try clear hz16
 try clear hz20
 obtain⟨kq,b8,rfl,HA,g2,a1,a2,a3,HB⟩:=hcut
 cases kq with
 |zero=>exact absurd HA.out (by simp[impl_MoveBall.j0])
 |succ g3=>
  have H:=HA.out;clear HA
  simp only[impl_MoveBall.j0] at H
  replace H:=ib_ H
  rcases H with ⟨rfl,H⟩|⟨rfl,H⟩
  ·simp only[Option.some.injEq,Prod.mk.injEq] at H
   obtain⟨rfl,rfl,rfl,rfl⟩:=H;have:=nn_ b5;have:=nn_ b6;have hz25:=ch3_ a3
   go_wp2
   refine bodyPost_ret (results_ct rfl _ _ b7 42 #[i6 0,i6 0,i6 0] (0,0) _ rfl (bp_ a3).out Tryz.underlying42 rfl (by kernel_rfl)) rfl ?_
   exact⟨es_,(bw_ HB).out⟩
  replace H:=oc_ H;obtain⟨⟨d3,d4,d5,d6⟩,f6,H⟩:=H;replace H:=oc_ H;obtain⟨⟨d7,d8,d9,f7⟩,f8,H⟩:=H
  simp only[Option.some.injEq,Prod.mk.injEq] at H
  obtain⟨rfl,rfl,rfl,rfl⟩:=H;have:=nn_ b4;have:=nn_ a6;have hz30:=ch4_ a1;have:=nn_ a4;have hz32:=ch3_ a2
  go_wp2_with (first|((refine gc_ 43 ?_);refine ge_ 21 Tryz.func43 #[i6 a0,.agg #[i6 b0,i6 b1,i6 b2,i6 b3],.agg #[i6 a7,i6 a8,i6 a9]] ?_;(with_reducible refine mo_ (impl_moveBall.calls _ f6.out) ?_);intro g4 hb;replace a1:=bb_ a1 hb;replace a2:=bb_ a2 hb;replace a3:=bb_ a3 hb;replace HB:=bt_ HB hb;clear hb)|((refine gc_ 49 ?_);refine ge_ 24 Tryz.func49 #[.agg #[i6 d3,i6 d4,i6 d5],.bool d6] ?_;(with_reducible refine mo_ (impl_fitted.calls _ f8.out) ?_);intro g5 hb;replace a1:=bb_ a1 hb;replace a2:=bb_ a2 hb;replace a3:=bb_ a3 hb;replace HB:=bt_ HB hb;clear hb;have hz35:=ch3_ a3))
  refine bodyPost_ret (results_ct rfl _ _ b7 42 #[i6 d7,i6 d8,i6 d9] (0,0) _ rfl (bp_ a3).out Tryz.underlying42 rfl (by kernel_rfl)) rfl ?_
  exact⟨es_,(bw_ HB).out⟩
/-! ### impl_follow: function 50 -/
def impl_follow.l0:Nat→Int→ByteArray→List (S42)→Int→Int→Int→Int→Int→Option ((List (S42))×Bool)
 |0,_,_,_,_,_,_,_,_=>none
 |k+1,x0,x2,x8,x16,x17,x909000,x909001,x909002=>if x17<x16 then(if 0≤x17 then(if x17<(x2.size:Int) then(if (bt x2 x17)=117 then((impl_neighbour.f k x0 x909000 x909001 x909002 0).bind fun bt912=>(if bt912.2.2.2=true then(if x8.length<5864062014805 then(impl_follow.l0 k x0 x2 (x8++[(⟨bt912.1,bt912.2.1,bt912.2.2.1⟩:S42)]) x16 (wrap64 (x17+1)) bt912.1 bt912.2.1 bt912.2.2.1) else(none)) else(some (([]:List (S42)),false)))) else((impl_neighbour.f k x0 x909000 x909001 x909002 ((((bt x2 x17) - 48)%256)+1)).bind fun bt920=>(if bt920.2.2.2=true then(if x8.length<5864062014805 then(impl_follow.l0 k x0 x2 (x8++[(⟨bt920.1,bt920.2.1,bt920.2.2.1⟩:S42)]) x16 (wrap64 (x17+1)) bt920.1 bt920.2.1 bt920.2.2.1) else(none)) else(some (([]:List (S42)),false))))) else(none)) else(none)) else(some (x8,true))
def impl_follow.f (k:Nat) (a0 a1_0 a1_1 a1_2:Int) (a2:ByteArray):Option ((List (S42))×Bool):=impl_follow.l0 k a0 a2 (([(⟨a1_0,a1_1,a1_2⟩:S42)]:List (S42))) (a2.size:Int) 0 a1_0 a1_1 a1_2
theorem impl_follow.calls {k:Nat} {a0 b2 b3 b4:Int} (a2:ByteArray) {r1:List (S42)} {r2:Bool} (w:World) (h:impl_follow.f k a0 b2 b3 b4 a2=some (r1,r2)):
  Calls Tryz.prog 50 #[i6 a0,.agg #[i6 b2,i6 b3,i6 b4],.string a2] w fun e w'=>∃j2:Value,e= .returned (.tuple #[j2,.bool r2])∧Kd.R k42 42 w' w.heap.size (fun _=>True) j2 r1∧Below w.heap.size w w':=by
 have hu42:=Tryz.underlying42
 have HB:=Aside0.mk (Below.refl w.heap.size w)
 unfold impl_follow.f at h;have H:=h;clear h
 obtain⟨i7,d4⟩:∃y_:List (S42),y_=(([(⟨b2,b3,b4⟩:S42)]:List (S42))):=⟨_,rfl⟩
 first|rw[←d4,Option.bind_some] at H|rw[←d4] at H|(dsimp only at H;rw[←d4] at H)
 have f1:=Aside0.mk d4;clear d4
 have H':=Aside0.mk H
 clear H
 go_enter Tryz.func50,Tryz.ntmps50
 go_wp2_with (first|((refine gd_ 4 ?_);refine by_ 4 #[i6 b2,i6 b3,i6 b4] 42 HB ?_;intro a7 hg w4 a1 hb j3 HB_;replace HB:=HB_;clear hb hg;have hz5:=ch3_ a1)|((refine gd_ 14 ?_);refine Kd.R_lit k42 _ 42 ?hg (N:=14) ?hd (xs:=([(⟨b2,b3,b4⟩:S42)]:List (S42))) (inner:=[i6 b2,i6 b3,i6 b4]) (ok:=fun _=>True) (okp:=fun _=>True) ?hr ?hp (fun _ hk=>hk) trivial (Below.refl _ _) (Nat.le_refl _) (by simp) ?_;(case hd=>rfl);(case hg=>rfl);(case hr=>first|(go_simp;done)|(go_simp;rfl));(case hp=>exact(Reps.c3 (show Kd.M k42 _ _ _ (⟨b2,b3,b4⟩:S42) [i6 b2,i6 b3,i6 b4] from (k42_mkM _ _ _ (⟨b2,b3,b4⟩:S42))) (Reps.none _ _)));intro j7 w6 f3 hb hg_ hnew_;clear hg_ hnew_;(first|rw[←f1.out] at f3|(simp only[Int.reduceToNat] at f3;rw[←f1.out] at f3));have f4:=Aside0.mk (Kd.R_lower (Kd.R_newB f3 (g:=a7) (o:= .cells #[i6 b2,i6 b3,i6 b4] 42 (0,0)) (bl_ a1).out) (below_size (bw_ HB).out));replace a1:=bb_ a1 hb;replace HB:=bt_ HB hb;clear hb f3))
 go_loopg [8,17] k (fun kq v8 j8 w'=>∃(d3:List (S42)) (a3:Int) (a4:Int) (a5:Int) (a6:Int),j8=i6 a3∧Aside0 (impl_follow.l0 kq a0 a2 d3 (a2.size:Int) a3 a4 a5 a6=some (r1,r2))∧Aside0 (kq≤k)∧Aside0 (Kd.R k42 42 w' w.heap.size (fun k_=>k_≠a7) v8 d3)∧Aside0 (b_ w' a7 #[i6 a4,i6 a5,i6 a6] 42)∧Aside0 (Below w.heap.size w w'))
 case atStart=>exact⟨(i7),(0),(b2),(b3),(b4),en_,H',⟨Nat.le_refl _⟩,⟨by(with_reducible repeat(first|apply Kd.R_alloc|apply Kd.R_drewN|apply Kd.R_drew));exact Kd.R_mono f4.out (fun _ hk=>hk.2)⟩,bl_ a1,bw_ HB⟩
 clear H'
 try clear c3
 try clear hz5
 obtain⟨d3,a3,a4,a5,a6,rfl,HA,g9,HO_8,a1,HB⟩:=hrel
 cases gk with
 |zero=>exact absurd HA.out (by simp[impl_follow.l0])
 |succ k1=>
  have H:=HA.out;clear HA
  simp only[impl_follow.l0] at H
  replace H:=il_ H
  rcases H with ⟨i8,H⟩|⟨i8,H⟩
  ·replace H:=imn_ H
   obtain⟨j9,H⟩:=H;replace H:=iln_ H;obtain⟨j4,H⟩:=H;replace H:=ie_ H
   rcases H with ⟨f5,f6,H⟩|⟨l5,f5,f6,H⟩
   ·replace H:=oc_ H
    obtain⟨⟨b5,b6,b7,l1⟩,j5,H⟩:=H;replace H:=ib_ H
    rcases H with ⟨rfl,H⟩|⟨rfl,H⟩
    ·by_cases i4:d3.length<5864062014805
     ·rw[if_pos i4] at H
      have LMc15:=Aside0.mk i4;clear i4
      obtain⟨i9,d5⟩:∃y_:List (S42),y_=(d3++[(⟨b5,b6,b7⟩:S42)]):=⟨_,rfl⟩
      first|rw[←d5,Option.bind_some] at H|rw[←d5] at H|(dsimp only at H;rw[←d5] at H)
      have f7:=Aside0.mk d5;clear d5
      have H':=Aside0.mk H
      clear H
      have d9:0≤(a3:Int):=od_
      have f0:a3<(a2.size:Int):=od_
      have f2:=bt_at a2 a3
      replace d9:=eq_true d9
      replace f0:=eq_true f0
      have hz16:=ch3_ a1
      go_wp2_with (first|((refine gc_ 79 ?_);refine ge_ 34 Tryz.func79 #[i6 a0,.agg #[i6 a4,i6 a5,i6 a6],i6 0] ?_;(with_reducible refine mo_ (impl_neighbour.calls _ j5.out) ?_);intro l6 hb;replace HO_8:=rb_ HO_8 hb;replace a1:=bb_ a1 hb;replace HB:=bt_ HB hb;clear hb)|((refine gd_ 11 ?_);refine bx_ 11 #[i6 0,i6 0,i6 0] 42 ?_;intro a8 hg l7 b8 hb;have f8:=bs_ HB hg;have d7:=bm_ a1 hg;have b0:=bn_ a1 hg;replace HO_8:=Aside0.mk (Kd.R_below (Kd.R_elderB (ra_ HO_8.out) a8 (Nat.le_of_eq hg.symm)) hb);replace a1:=bb_ a1 hb;replace HB:=bt_ HB hb;clear hb hg;have:=nn_ b0;have hz20:=ch3_ b8;have hz21:=ch3_ a1)|((with_reducible refine gate_builtin (b:= .append) (xs:=#[.tmp 40,.tmp 42]) rfl ?_);at_builtin;refine Kd.R_append k42 (w0:=w) w.heap.size rfl (.tmp 40) (.tmp 42) 71 42 (.agg #[(i6 0),(i6 0),(i6 0)]) 24 rfl Tryz.underlying71 info42 rfl (by decide) (by omega) u8 d3 (⟨b5,b6,b7⟩:S42) [i6 b5,i6 b6,i6 b7] (fun k_=>k_≠a7∧k_≠a8) (fun _=>False) rfl (by first|(go_simp;done)|(go_simp;rfl)) ?aP (fun _ hk=>hk.elim) ?aF ?aO ?aB ?aS ?aL ?_;(case aP=>exact k42_mkM _ _ _ (⟨b5,b6,b7⟩:S42));(case aB=>exact(bw_ HB).out);(case aF=>exact(fun k_ hk=>⟨Kd.freshB (g:=a7) (o:= .cells #[i6 b5,i6 b6,i6 b7] 42 (0,0)) (bp_ a1).out k_ hk,Kd.freshB (g:=a8) (o:= .cells #[i6 b5,i6 b6,i6 b7] 42 (0,0)) (bp_ b8).out k_ hk⟩));(case aO=>exact(by(with_reducible repeat(first|apply Kd.R_alloc|apply Kd.R_drewN|apply Kd.R_drew));exact Kd.R_mono (Kd.R_far (p:=⟨a7,2,none⟩) (Kd.R_far (p:=⟨a7,1,none⟩) (Kd.R_far (p:=⟨a7,0,none⟩) (Kd.R_far (p:=⟨a8,2,none⟩) (Kd.R_far (p:=⟨a8,1,none⟩) (Kd.R_far (p:=⟨a8,0,none⟩) (Kd.R_mono (Kd.R_mono HO_8.out (fun k_ hk=>(⟨hk,hk.2⟩:_∧k_≠a8))) (fun k_ hk=>(⟨hk,hk.1.1⟩:_∧k_≠a7))) (fun _ hk=>hk.1.2) (i6 b5)) (fun _ hk=>hk.1.2) (i6 b6)) (fun _ hk=>hk.1.2) (i6 b7)) (fun _ hk=>hk.2) (i6 b5)) (fun _ hk=>hk.2) (i6 b6)) (fun _ hk=>hk.2) (i6 b7)) (fun _ hk=>⟨hk.1.1.1,hk.1.1.2⟩)));(case aS=>exact(below_size (bw_ HB).out));(case aL=>have:=LMc15.out;omega);intro l2 l8 ho hb hg hat;rw[←f7.out] at ho;have f9:=Aside0.mk (blk_grown (g:=a7) (o:= .cells #[i6 b5,i6 b6,i6 b7] 42 (0,0)) (bp_ a1).out hg (Kd.R_away HO_8.out (fun _ hk=>hk.1)));have g0:=Aside0.mk (blk_grown (g:=a8) (o:= .cells #[i6 b5,i6 b6,i6 b7] 42 (0,0)) (bp_ b8).out hg (Kd.R_away HO_8.out (fun _ hk=>hk.2)));have g1:=Aside0.mk (hb);have g2:=Aside0.mk (ho);clear a1;clear b8;clear HB;clear HO_8;have a1:=f9;have b8:=g0;have HB:=g1;have g3:=g2;clear f9 g0 g1 g2;clear ho hb hg hat))
      go_roundg k1
      case measure=>have:=g9.out;omega
      case rel=>exact⟨(i9),(wrap64 (a3+1)),(b5),(b6),(b7),en_,H',⟨by have:=g9.out;omega⟩,⟨by(with_reducible repeat(first|apply Kd.R_alloc|apply Kd.R_drewN|apply Kd.R_drew));exact Kd.R_mono g3.out (fun _ hk=>hk.1)⟩,bl_ a1,bw_ HB⟩
     rw[if_neg i4] at H
     exact absurd H (by simp)
    simp only[Option.some.injEq,Prod.mk.injEq] at H
    obtain⟨rfl,rfl⟩:=H
    have d9:0≤(a3:Int):=od_
    have f0:a3<(a2.size:Int):=od_
    have f2:=bt_at a2 a3
    replace d9:=eq_true d9
    replace f0:=eq_true f0
    have hz23:=ch3_ a1
    go_wp2_with (first|((refine gc_ 79 ?_);refine ge_ 34 Tryz.func79 #[i6 a0,.agg #[i6 a4,i6 a5,i6 a6],i6 0] ?_;(with_reducible refine mo_ (impl_neighbour.calls _ j5.out) ?_);intro l9 hb;replace HO_8:=rb_ HO_8 hb;replace a1:=bb_ a1 hb;replace HB:=bt_ HB hb;clear hb)|((refine gd_ 11 ?_);refine bx_ 11 #[i6 0,i6 0,i6 0] 42 ?_;intro a8 hg m1 b8 hb;have f8:=bs_ HB hg;have d7:=bm_ a1 hg;have b0:=bn_ a1 hg;replace HO_8:=Aside0.mk (Kd.R_below (Kd.R_elderB (ra_ HO_8.out) a8 (Nat.le_of_eq hg.symm)) hb);replace a1:=bb_ a1 hb;replace HB:=bt_ HB hb;clear hb hg;have:=nn_ b0;have hz27:=ch3_ b8))
    go_ret2
    exact⟨_,es_,by first|exact Kd.R_nil _ _ _ _ _|exact Kd.N_nil _ _ _ _ _|exact Kd.V_nil _ _ _ _ _|exact Kd.Q_nil _ _ _ _ _|exact Kd.S_nil _ _ _ _ _,(bw_ HB).out⟩
   replace H:=oc_ H;obtain⟨⟨b9,d0,d1,l3⟩,j6,H⟩:=H;replace H:=ib_ H
   rcases H with ⟨rfl,H⟩|⟨rfl,H⟩
   ·by_cases i5:d3.length<5864062014805
    ·rw[if_pos i5] at H
     have LMc31:=Aside0.mk i5;clear i5
     obtain⟨j0,d6⟩:∃y_:List (S42),y_=(d3++[(⟨b9,d0,d1⟩:S42)]):=⟨_,rfl⟩
     first|rw[←d6,Option.bind_some] at H|rw[←d6] at H|(dsimp only at H;rw[←d6] at H)
     have g4:=Aside0.mk d6;clear d6
     have H':=Aside0.mk H
     clear H
     have d9:0≤(a3:Int):=od_
     have f0:a3<(a2.size:Int):=od_
     have f2:=bt_at a2 a3
     replace d9:=eq_true d9
     replace f0:=eq_true f0
     have g5:0≤(a3:Int):=od_
     have g6:a3<(a2.size:Int):=od_
     have j1:=bt_at a2 a3
     replace g5:=eq_true g5
     replace g6:=eq_true g6
     have hz32:=ch3_ a1
     go_wp2_with (first|((refine gc_ 79 ?_);refine ge_ 34 Tryz.func79 #[i6 a0,.agg #[i6 a4,i6 a5,i6 a6],i6 ((((bt a2 a3) - 48)%256)+1)] ?_;(with_reducible refine mo_ (impl_neighbour.calls _ j6.out) ?_);intro m2 hb;replace HO_8:=rb_ HO_8 hb;replace a1:=bb_ a1 hb;replace HB:=bt_ HB hb;clear hb)|((refine gd_ 11 ?_);refine bx_ 11 #[i6 0,i6 0,i6 0] 42 ?_;intro a9 hg m3 d2 hb;have g7:=bs_ HB hg;have d8:=bm_ a1 hg;have b1:=bn_ a1 hg;replace HO_8:=Aside0.mk (Kd.R_below (Kd.R_elderB (ra_ HO_8.out) a9 (Nat.le_of_eq hg.symm)) hb);replace a1:=bb_ a1 hb;replace HB:=bt_ HB hb;clear hb hg;have:=nn_ b1;have hz36:=ch3_ d2;have hz37:=ch3_ a1)|((with_reducible refine gate_builtin (b:= .append) (xs:=#[.tmp 40,.tmp 42]) rfl ?_);at_builtin;refine Kd.R_append k42 (w0:=w) w.heap.size rfl (.tmp 40) (.tmp 42) 71 42 (.agg #[(i6 0),(i6 0),(i6 0)]) 24 rfl Tryz.underlying71 info42 rfl (by decide) (by omega) u8 d3 (⟨b9,d0,d1⟩:S42) [i6 b9,i6 d0,i6 d1] (fun k_=>k_≠a7∧k_≠a9) (fun _=>False) rfl (by first|(go_simp;done)|(go_simp;rfl)) ?aP (fun _ hk=>hk.elim) ?aF ?aO ?aB ?aS ?aL ?_;(case aP=>exact k42_mkM _ _ _ (⟨b9,d0,d1⟩:S42));(case aB=>exact(bw_ HB).out);(case aF=>exact(fun k_ hk=>⟨Kd.freshB (g:=a7) (o:= .cells #[i6 b9,i6 d0,i6 d1] 42 (0,0)) (bp_ a1).out k_ hk,Kd.freshB (g:=a9) (o:= .cells #[i6 b9,i6 d0,i6 d1] 42 (0,0)) (bp_ d2).out k_ hk⟩));(case aO=>exact(by(with_reducible repeat(first|apply Kd.R_alloc|apply Kd.R_drewN|apply Kd.R_drew));exact Kd.R_mono (Kd.R_far (p:=⟨a7,2,none⟩) (Kd.R_far (p:=⟨a7,1,none⟩) (Kd.R_far (p:=⟨a7,0,none⟩) (Kd.R_far (p:=⟨a9,2,none⟩) (Kd.R_far (p:=⟨a9,1,none⟩) (Kd.R_far (p:=⟨a9,0,none⟩) (Kd.R_mono (Kd.R_mono HO_8.out (fun k_ hk=>(⟨hk,hk.2⟩:_∧k_≠a9))) (fun k_ hk=>(⟨hk,hk.1.1⟩:_∧k_≠a7))) (fun _ hk=>hk.1.2) (i6 b9)) (fun _ hk=>hk.1.2) (i6 d0)) (fun _ hk=>hk.1.2) (i6 d1)) (fun _ hk=>hk.2) (i6 b9)) (fun _ hk=>hk.2) (i6 d0)) (fun _ hk=>hk.2) (i6 d1)) (fun _ hk=>⟨hk.1.1.1,hk.1.1.2⟩)));(case aS=>exact(below_size (bw_ HB).out));(case aL=>have:=LMc31.out;omega);intro l4 m4 ho hb hg hat;rw[←g4.out] at ho;have f9:=Aside0.mk (blk_grown (g:=a7) (o:= .cells #[i6 b9,i6 d0,i6 d1] 42 (0,0)) (bp_ a1).out hg (Kd.R_away HO_8.out (fun _ hk=>hk.1)));have g0:=Aside0.mk (blk_grown (g:=a9) (o:= .cells #[i6 b9,i6 d0,i6 d1] 42 (0,0)) (bp_ d2).out hg (Kd.R_away HO_8.out (fun _ hk=>hk.2)));have g1:=Aside0.mk (hb);have g2:=Aside0.mk (ho);clear a1;clear d2;clear HB;clear HO_8;have a1:=f9;have d2:=g0;have HB:=g1;have g8:=g2;clear f9 g0 g1 g2;clear ho hb hg hat))
     go_roundg k1
     case measure=>have:=g9.out;omega
     case rel=>exact⟨(j0),(wrap64 (a3+1)),(b9),(d0),(d1),en_,H',⟨by have:=g9.out;omega⟩,⟨by(with_reducible repeat(first|apply Kd.R_alloc|apply Kd.R_drewN|apply Kd.R_drew));exact Kd.R_mono g8.out (fun _ hk=>hk.1)⟩,bl_ a1,bw_ HB⟩
    rw[if_neg i5] at H
    exact absurd H (by simp)
   simp only[Option.some.injEq,Prod.mk.injEq] at H
   obtain⟨rfl,rfl⟩:=H
   have d9:0≤(a3:Int):=od_
   have f0:a3<(a2.size:Int):=od_
   have f2:=bt_at a2 a3
   replace d9:=eq_true d9
   replace f0:=eq_true f0
   have g5:0≤(a3:Int):=od_
   have g6:a3<(a2.size:Int):=od_
   have j1:=bt_at a2 a3
   replace g5:=eq_true g5
   replace g6:=eq_true g6
   have hz39:=ch3_ a1
   go_wp2_with (first|((refine gc_ 79 ?_);refine ge_ 34 Tryz.func79 #[i6 a0,.agg #[i6 a4,i6 a5,i6 a6],i6 ((((bt a2 a3) - 48)%256)+1)] ?_;(with_reducible refine mo_ (impl_neighbour.calls _ j6.out) ?_);intro m5 hb;replace HO_8:=rb_ HO_8 hb;replace a1:=bb_ a1 hb;replace HB:=bt_ HB hb;clear hb)|((refine gd_ 11 ?_);refine bx_ 11 #[i6 0,i6 0,i6 0] 42 ?_;intro a9 hg m6 d2 hb;have g7:=bs_ HB hg;have d8:=bm_ a1 hg;have b1:=bn_ a1 hg;replace HO_8:=Aside0.mk (Kd.R_below (Kd.R_elderB (ra_ HO_8.out) a9 (Nat.le_of_eq hg.symm)) hb);replace a1:=bb_ a1 hb;replace HB:=bt_ HB hb;clear hb hg;have:=nn_ b1;have hz43:=ch3_ d2))
   go_ret2
   exact⟨_,es_,by first|exact Kd.R_nil _ _ _ _ _|exact Kd.N_nil _ _ _ _ _|exact Kd.V_nil _ _ _ _ _|exact Kd.Q_nil _ _ _ _ _|exact Kd.S_nil _ _ _ _ _,(bw_ HB).out⟩
  simp only[Option.some.injEq,Prod.mk.injEq] at H
  obtain⟨rfl,rfl⟩:=H
  go_wp2
  go_ret2
  exact⟨_,es_,by(with_reducible repeat(first|apply Kd.R_alloc|apply Kd.R_drewN|apply Kd.R_drew));exact Kd.R_mono HO_8.out (fun _ hk=>trivial),(bw_ HB).out⟩
/-! ### impl_FollowSteps: function 21 -/
def impl_FollowSteps.f (k:Nat) (a0 a1_0 a1_1 a1_2:Int) (a2:ByteArray):Option (Int×Int×Int×Int):=(impl_stepsCode.f k a0 a1_0 a1_1 a1_2 a2).bind fun t930=>(if t930=0 then((impl_follow.f k a0 a1_0 a1_1 a1_2 a2).bind fun bt931=>(if bt931.2=true then(if 0≤(wrap64 ((bt931.1.length:Int) - 1)) then(if (wrap64 ((bt931.1.length:Int) - 1))<(bt931.1.length:Int) then(some ((rd_T42 bt931.1 (wrap64 ((bt931.1.length:Int) - 1))).f0,(rd_T42 bt931.1 (wrap64 ((bt931.1.length:Int) - 1))).f1,(rd_T42 bt931.1 (wrap64 ((bt931.1.length:Int) - 1))).f2,0)) else(none)) else(none)) else(some (0,0,0,3)))) else(some (0,0,0,t930)))
theorem impl_FollowSteps.calls {k:Nat} {a0 a5 a6 a7:Int} (a2:ByteArray) {r1 r2 r3 r4:Int} (w:World) (h:impl_FollowSteps.f k a0 a5 a6 a7 a2=some (r1,r2,r3,r4)):
  Calls Tryz.prog 21 #[i6 a0,.agg #[i6 a5,i6 a6,i6 a7],.string a2] w fun e w'=>e= .returned (.tuple #[.agg #[i6 r1,i6 r2,i6 r3],i6 r4])∧Below w.heap.size w w':=by
 have hu42:=Tryz.underlying42
 have HB:=Aside0.mk (Below.refl w.heap.size w)
 unfold impl_FollowSteps.f at h;have H:=h;clear h;replace H:=oc_ H;obtain⟨f3,A4,H⟩:=H;replace H:=ie_ H
 rcases H with ⟨d3,d4,H⟩|⟨c5,d3,d4,H⟩
 ·replace H:=oc_ H
  obtain⟨⟨b1,f4⟩,A6,H⟩:=H;replace H:=ib_ H
  rcases H with ⟨rfl,H⟩|⟨rfl,H⟩
  ·obtain⟨b6,b2⟩:∃j_:Int,(wrap64 ((b1.length:Int) - 1))=j_:=⟨_,rfl⟩
   simp only[b2] at H
   (try rw[b2] at A4)
   (try rw[b2] at A6)
   have hji8w: (IntKind.i64.wrap ((b1.length:Int) - 1))=b6:=(i64_w _).trans b2
   replace H:=imn_ H;obtain⟨f5,H⟩:=H;replace H:=iln_ H;obtain⟨d8,H⟩:=H
   simp only[Option.some.injEq,Prod.mk.injEq] at H
   obtain⟨rfl,rfl,rfl,rfl⟩:=H
   go_enter Tryz.func21,Tryz.ntmps21
   go_wp2_with (first|((refine gd_ 4 ?_);refine by_ 4 #[i6 a5,i6 a6,i6 a7] 42 HB ?_;intro b0 hg f8 a1 hb b4 HB_;replace HB:=HB_;clear hb hg)|((refine gd_ 6 ?_);refine by_ 6 #[i6 0,i6 0,i6 0] 42 HB ?_;intro a8 hg f9 a3 hb b5 HB_;have a4:=bm_ a1 hg;have a9:=bn_ a1 hg;replace a1:=bb_ a1 hb;replace HB:=HB_;clear hb hg;have:=nn_ a4;have hz14:=ch3_ a1)|((refine gc_ 26 ?_);refine ge_ 14 Tryz.func26 #[i6 a0,.agg #[i6 a5,i6 a6,i6 a7],.string a2] ?_;(with_reducible refine mo_ (impl_stepsCode.calls a2 _ A4.out) ?_);intro g0 hb;replace a1:=bb_ a1 hb;replace a3:=bb_ a3 hb;replace HB:=bt_ HB hb;clear hb;have hz16:=ch3_ a1)|((refine gc_ 50 ?_);refine ge_ 23 Tryz.func50 #[i6 a0,.agg #[i6 a5,i6 a6,i6 a7],.string a2] ?_;(with_reducible refine(impl_follow.calls a2 _ A6.out).mono ?_);rintro e g1 ⟨d5,rfl,b9,hb⟩;refine⟨_,rfl,?_⟩;have b3:=Aside0.mk (Kd.R_lower (Kd.R_newB (Kd.R_newB b9 (g:=b0) (o:= .cells #[i6 a5,i6 a6,i6 a7] 42 (0,0)) (bl_ a1).out) (g:=a8) (o:= .cells #[i6 0,i6 0,i6 0] 42 (0,0)) (bl_ a3).out) (below_size (bw_ HB).out));replace a1:=bb_ a1 hb;replace a3:=bb_ a3 hb;replace HB:=bt_ HB hb;(try clear hb);(try clear b9);obtain⟨f6,f7,d6⟩:=Kd.R_slice b3.out;subst d6;have b7:0≤((b6):Int):=od_;have b8: (b6)<(b1.length:Int):=od_;obtain⟨d9,d7,d0,d1,d2⟩:=at_T42 (Kd.R_reads' b3.out).2.2 (b6) b7 b8;cases d7;replace b7:=eq_true b7;replace b8:=eq_true b8;have hz19:=ch3_ a3))
   refine bodyPost_ret (results_ct rfl _ _ a8 42 #[i6 ((rd_T42 b1 (b6)).f0),i6 ((rd_T42 b1 (b6)).f1),i6 ((rd_T42 b1 (b6)).f2)] (0,0) _ rfl (bp_ a3).out Tryz.underlying42 rfl (by kernel_rfl)) rfl ?_
   exact⟨by first|rfl|(simp[errW_none,errW_some]<;>rfl)|(simp only[←b2];first|rfl|(simp[errW_none,errW_some]<;>rfl))|(simp[*,errW_none,errW_some]<;>rfl),(bw_ HB).out⟩
  simp only[Option.some.injEq,Prod.mk.injEq] at H
  obtain⟨rfl,rfl,rfl,rfl⟩:=H
  go_enter Tryz.func21,Tryz.ntmps21
  go_wp2_with (first|((refine gd_ 4 ?_);refine by_ 4 #[i6 a5,i6 a6,i6 a7] 42 HB ?_;intro b0 hg g2 a1 hb b4 HB_;replace HB:=HB_;clear hb hg)|((refine gd_ 6 ?_);refine by_ 6 #[i6 0,i6 0,i6 0] 42 HB ?_;intro a8 hg g3 a3 hb b5 HB_;have a4:=bm_ a1 hg;have a9:=bn_ a1 hg;replace a1:=bb_ a1 hb;replace HB:=HB_;clear hb hg;have:=nn_ a4;have hz23:=ch3_ a1)|((refine gc_ 26 ?_);refine ge_ 14 Tryz.func26 #[i6 a0,.agg #[i6 a5,i6 a6,i6 a7],.string a2] ?_;(with_reducible refine mo_ (impl_stepsCode.calls a2 _ A4.out) ?_);intro g4 hb;replace a1:=bb_ a1 hb;replace a3:=bb_ a3 hb;replace HB:=bt_ HB hb;clear hb;have hz25:=ch3_ a1)|((refine gc_ 50 ?_);refine ge_ 23 Tryz.func50 #[i6 a0,.agg #[i6 a5,i6 a6,i6 a7],.string a2] ?_;(with_reducible refine(impl_follow.calls a2 _ A6.out).mono ?_);rintro e g5 ⟨d5,rfl,b9,hb⟩;refine⟨_,rfl,?_⟩;have b3:=Aside0.mk (Kd.R_lower (Kd.R_newB (Kd.R_newB b9 (g:=b0) (o:= .cells #[i6 a5,i6 a6,i6 a7] 42 (0,0)) (bl_ a1).out) (g:=a8) (o:= .cells #[i6 0,i6 0,i6 0] 42 (0,0)) (bl_ a3).out) (below_size (bw_ HB).out));replace a1:=bb_ a1 hb;replace a3:=bb_ a3 hb;replace HB:=bt_ HB hb;(try clear hb);(try clear b9);have hz27:=ch3_ a3))
  refine bodyPost_ret (results_ct rfl _ _ a8 42 #[i6 0,i6 0,i6 0] (0,0) _ rfl (bp_ a3).out Tryz.underlying42 rfl (by kernel_rfl)) rfl ?_
  exact⟨es_,(bw_ HB).out⟩
 simp only[Option.some.injEq,Prod.mk.injEq] at H
 obtain⟨rfl,rfl,rfl,rfl⟩:=H
 go_enter Tryz.func21,Tryz.ntmps21
 go_wp2_with (first|((refine gd_ 4 ?_);refine by_ 4 #[i6 a5,i6 a6,i6 a7] 42 HB ?_;intro b0 hg g6 a1 hb b4 HB_;replace HB:=HB_;clear hb hg)|((refine gd_ 6 ?_);refine by_ 6 #[i6 0,i6 0,i6 0] 42 HB ?_;intro a8 hg g7 a3 hb b5 HB_;have a4:=bm_ a1 hg;have a9:=bn_ a1 hg;replace a1:=bb_ a1 hb;replace HB:=HB_;clear hb hg;have:=nn_ a4;have hz31:=ch3_ a1)|((refine gc_ 26 ?_);refine ge_ 14 Tryz.func26 #[i6 a0,.agg #[i6 a5,i6 a6,i6 a7],.string a2] ?_;(with_reducible refine mo_ (impl_stepsCode.calls a2 _ A4.out) ?_);intro g8 hb;replace a1:=bb_ a1 hb;replace a3:=bb_ a3 hb;replace HB:=bt_ HB hb;clear hb;have hz33:=ch3_ a3))
 refine bodyPost_ret (results_ct rfl _ _ a8 42 #[i6 0,i6 0,i6 0] (0,0) _ rfl (bp_ a3).out Tryz.underlying42 rfl (by kernel_rfl)) rfl ?_
 exact⟨es_,(bw_ HB).out⟩
/-! ### impl_distance: function 51 -/
def impl_distance.f (k:Nat) (a0 a1_0 a1_1 a1_2 a2_0 a2_1 a2_2:Int):Option (Int):=(impl_joinLevel.f k a0 a1_0 a1_1 a1_2 a2_0 a2_1 a2_2).bind fun t938=>(some (wrap64 ((wrap64 (a1_0+a2_0)) - (wrap64 (2*t938)))))
def impl_distance.T1:Bool×List (List Nat×List Nat):=(true,[([],[]),([0],[0]),([],[]),([2],[2]),([1,3],[1,3]),([],[]),([],[]),([],[]),([5,6,7],[5,6,7]),([8],[8]),([4,9],[4,9]),([10,8,0,1,2,3,4,5,6,7,8,9,10],[10])])
def impl_distance.B1:List Nat:=[0,1,0,4,15,0,0,0,224,480,1023,2047]
theorem impl_distance.tab1:rtab .any (opsOf Tryz.f51 1)=impl_distance.T1:=by kernel_rfl
theorem impl_distance.bits1:waitsOk impl_distance.T1.2 impl_distance.B1=true:=by kernel_rfl
theorem impl_distance.calls {k:Nat} {a0 a3 a4 a5 a6 a7 a8 r:Int} (w:World) (h:impl_distance.f k a0 a3 a4 a5 a6 a7 a8=some r):
  Calls Tryz.prog 51 #[i6 a0,.agg #[i6 a3,i6 a4,i6 a5],.agg #[i6 a6,i6 a7,i6 a8]] w fun e w'=>e= .returned (i6 r)∧Below w.heap.size w w':=by
 have hu42:=Tryz.underlying42
 have HB:=Aside0.mk (Below.refl w.heap.size w)
 unfold impl_distance.f at h;have H:=h;clear h;replace H:=oc_ H;obtain⟨b5,A4,H⟩:=H
 obtain rfl:=si_ H
 go_enter Tryz.func51,Tryz.ntmps51
 try go_wp2_with (first|((refine gd_ 4 ?_);refine by_ 4 #[i6 a3,i6 a4,i6 a5] 42 HB ?_;intro a9 hg w5 a1 hb b3 HB_;replace HB:=HB_;clear hb hg)|((refine gd_ 5 ?_);refine by_ 5 #[i6 a6,i6 a7,i6 a8] 42 HB ?_;intro b0 hg w6 a2 hb b4 HB_;have b1:=bm_ a1 hg;have b2:=bn_ a1 hg;replace a1:=bb_ a1 hb;replace HB:=HB_;clear hb hg))
 replace a1:=bd_ a1;replace a2:=bd_ a2;replace HB:=be_ HB
 refine start_ (n:=12) (S:=fun w'=>c_ w' a9 0 (i6 a3)∧c_ w' a9 1 (i6 a4)∧c_ w' a9 2 (i6 a5)∧c_ w' b0 0 (i6 a6)∧c_ w' b0 1 (i6 a7)∧c_ w' b0 2 (i6 a8)) (ds:=[]) (bv_ 12 0) (by kernel_rfl) rfl rfl ⟨cz_ a1 0,cz_ a1 1,cz_ a1 2,cz_ a2 0,cz_ a2 1,cz_ a2 2⟩ (fun hHeld=>?_);refine with_tabW impl_distance.tab1 impl_distance.bits1 (fun HT_ HW_=>?_)
 generalize w6.drew=w7 at a1 a2 HB hHeld⊢
 refine px_ HT_ 0 7 1 ?_;refine px_ HT_ 2 9 5 ?_;refine px_ HT_ 5 12 37 ?_
 refine ta_ HT_ HW_ 1 (some 8) (bv_ 12 39) hHeld ?_ (hy:=by rintro w' ⟨s0,s1,s2,s3,s4,s5⟩;go_simp;with_reducible rfl)
 refine ta_ HT_ HW_ 3 (some 10) (bv_ 12 47) hHeld ?_ (hy:=by rintro w' ⟨s0,s1,s2,s3,s4,s5⟩;go_simp;with_reducible rfl)
 refine px_ HT_ 4 11 63 ?_
 refine ta_ HT_ HW_ 6 (some 13) (bv_ 12 127) hHeld ?_ (hy:=by rintro w' ⟨s0,s1,s2,s3,s4,s5⟩;go_simp;with_reducible rfl)
 refine ta_ HT_ HW_ 7 (some 14) (bv_ 12 255) hHeld ?_ (hy:=by rintro w' ⟨s0,s1,s2,s3,s4,s5⟩;go_simp;with_reducible rfl)
 refine on_ HT_ 8 (some 15) (bv_ 12 511) (fun K hK=>?_)
 refine gs_ Tryz.func80 #[i6 a0,.agg #[i6 a3,i6 a4,i6 a5],.agg #[i6 a6,i6 a7,i6 a8]] ?_
 with_reducible refine mo_ (impl_joinLevel.calls _ A4.out) ?_
 intro w8 hb;replace a1:=bb_ a1 hb;replace a2:=bb_ a2 hb;replace HB:=bt_ HB hb
 try clear hb
 refine hK.out _ _ ⟨cz_ a1 0,cz_ a1 1,cz_ a1 2,cz_ a2 0,cz_ a2 1,cz_ a2 2⟩ (fun hHeld=>?_)
 clear hK K;refine nm_ (some 15) ?_;refine px_ HT_ 9 16 1023 ?_;refine px_ HT_ 10 17 2047 ?_;refine px_ HT_ 11 6 4095 ?_
 refine done_ (done_of HT_.out (by kernel_rfl)) ?_
 try go_wp2
 go_ret;exact⟨es_,(bw_ HB).out⟩
/-! ### impl_DisplacementOf: function 22 -/
def impl_DisplacementOf.f (k:Nat) (a0 a1_0 a1_1 a1_2 a1_3 a2_0 a2_1 a2_2:Int):Option (Int×Int):=(impl_MoveBall.f k a0 a1_0 a1_1 a1_2 a1_3 a2_0 a2_1 a2_2).bind fun bt941=>(if bt941.2.2.2=0 then((impl_distance.f k a0 a2_0 a2_1 a2_2 bt941.1 bt941.2.1 bt941.2.2.1).bind fun t946=>(some (t946,0))) else(some (0,bt941.2.2.2)))
theorem impl_DisplacementOf.calls {k:Nat} {a0 b2 b3 b4 b5 a9 b0 b1 r1 r2:Int} (w:World) (h:impl_DisplacementOf.f k a0 b2 b3 b4 b5 a9 b0 b1=some (r1,r2)):
  Calls Tryz.prog 22 #[i6 a0,.agg #[i6 b2,i6 b3,i6 b4,i6 b5],.agg #[i6 a9,i6 b0,i6 b1]] w fun e w'=>e= .returned (.tuple #[i6 r1,i6 r2])∧Below w.heap.size w w':=by
 have hu28:=Tryz.underlying28
 have hu42:=Tryz.underlying42
 have HB:=Aside0.mk (Below.refl w.heap.size w)
 unfold impl_DisplacementOf.f at h;have H:=h;clear h;replace H:=oc_ H;obtain⟨⟨b8,b9,d0,d8⟩,A4,H⟩:=H;replace H:=ie_ H
 rcases H with ⟨d6,d7,H⟩|⟨c5,d6,d7,H⟩
 ·replace H:=oc_ H
  obtain⟨d9,A6,H⟩:=H
  simp only[Option.some.injEq,Prod.mk.injEq] at H
  obtain⟨rfl,rfl⟩:=H
  go_enter Tryz.func22,Tryz.ntmps22
  go_wp2_with (first|((refine gd_ 4 ?_);refine by_ 4 #[i6 b2,i6 b3,i6 b4,i6 b5] 28 HB ?_;intro d1 hg w7 a1 hb d2 HB_;replace HB:=HB_;clear hb hg)|((refine gd_ 5 ?_);refine by_ 5 #[i6 a9,i6 b0,i6 b1] 42 HB ?_;intro d3 hg w8 a2 hb d4 HB_;have a3:=bm_ a1 hg;have b6:=bn_ a1 hg;replace a1:=bb_ a1 hb;replace HB:=HB_;clear hb hg;have:=nn_ a3;have hz10:=ch4_ a1;have hz11:=ch3_ a2)|((refine gc_ 20 ?_);refine ge_ 14 Tryz.func20 #[i6 a0,.agg #[i6 b2,i6 b3,i6 b4,i6 b5],.agg #[i6 a9,i6 b0,i6 b1]] ?_;(with_reducible refine mo_ (impl_MoveBall.calls _ A4.out) ?_);intro f0 hb;replace a1:=bb_ a1 hb;replace a2:=bb_ a2 hb;replace HB:=bt_ HB hb;clear hb)|((refine gd_ 8 ?_);refine by_ 8 #[i6 0,i6 0,i6 0] 42 HB ?_;intro b7 hg f1 a8 hb d5 HB_;have a6:=bm_ a1 hg;have a4:=bn_ a1 hg;have a7:=bm_ a2 hg;have a5:=bn_ a2 hg;replace a1:=bb_ a1 hb;replace a2:=bb_ a2 hb;replace HB:=HB_;clear hb hg;have:=nn_ a4;have:=nn_ a5;have hz16:=ch3_ a8;have hz17:=ch3_ a2)|((refine gc_ 51 ?_);refine ge_ 23 Tryz.func51 #[i6 a0,.agg #[i6 a9,i6 b0,i6 b1],.agg #[i6 b8,i6 b9,i6 d0]] ?_;(with_reducible refine mo_ (impl_distance.calls _ A6.out) ?_);intro f2 hb;replace a1:=fb_ a1 a6 hb;replace a2:=fb_ a2 a7 hb;replace a8:=Aside0.mk (blk_below (g:=b7) (o:= .cells #[i6 b8,i6 b9,i6 d0] 42 (0,0)) (bp_ a8).out hb);replace HB:=bt_ HB hb;(try clear hb)))
  go_ret2
  exact⟨es_,(bw_ HB).out⟩
 simp only[Option.some.injEq,Prod.mk.injEq] at H
 obtain⟨rfl,rfl⟩:=H
 go_enter Tryz.func22,Tryz.ntmps22
 go_wp2_with (first|((refine gd_ 4 ?_);refine by_ 4 #[i6 b2,i6 b3,i6 b4,i6 b5] 28 HB ?_;intro d1 hg f3 a1 hb d2 HB_;replace HB:=HB_;clear hb hg)|((refine gd_ 5 ?_);refine by_ 5 #[i6 a9,i6 b0,i6 b1] 42 HB ?_;intro d3 hg f4 a2 hb d4 HB_;have a3:=bm_ a1 hg;have b6:=bn_ a1 hg;replace a1:=bb_ a1 hb;replace HB:=HB_;clear hb hg;have:=nn_ a3;have hz22:=ch4_ a1;have hz23:=ch3_ a2)|((refine gc_ 20 ?_);refine ge_ 14 Tryz.func20 #[i6 a0,.agg #[i6 b2,i6 b3,i6 b4,i6 b5],.agg #[i6 a9,i6 b0,i6 b1]] ?_;(with_reducible refine mo_ (impl_MoveBall.calls _ A4.out) ?_);intro f5 hb;replace a1:=bb_ a1 hb;replace a2:=bb_ a2 hb;replace HB:=bt_ HB hb;clear hb)|((refine gd_ 8 ?_);refine by_ 8 #[i6 0,i6 0,i6 0] 42 HB ?_;intro b7 hg f6 a8 hb d5 HB_;have a6:=bm_ a1 hg;have a4:=bn_ a1 hg;have a7:=bm_ a2 hg;have a5:=bn_ a2 hg;replace a1:=bb_ a1 hb;replace a2:=bb_ a2 hb;replace HB:=HB_;clear hb hg;have:=nn_ a4;have:=nn_ a5;have hz28:=ch3_ a8))
 go_ret2
 exact⟨es_,(bw_ HB).out⟩
/-! ### impl_areMatrices: function 52 -/
def impl_areMatrices.l0:Nat→List (S28)→Int→Int→Option (Bool)
 |0,_,_,_=>none
 |k+1,x5,x6,x7=>if x7<x6 then(if 0≤x7 then(if x7<(x5.length:Int) then((impl_IsMatrix.f k ((rd_T28 x5 x7).f0.f0) ((rd_T28 x5 x7).f0.f1) ((rd_T28 x5 x7).f1.f0) ((rd_T28 x5 x7).f1.f1)).bind fun t949=>(if t949=true then(impl_areMatrices.l0 k x5 x6 (wrap64 (x7+1))) else(some false))) else(none)) else(none)) else(some true)
def impl_areMatrices.f (k:Nat) (l0:List (S28)):Option (Bool):=impl_areMatrices.l0 k l0 (l0.length:Int) 0
theorem impl_areMatrices.calls {k:Nat} (A0:Option Addr) (c0:Nat) {l0:List (S28)} {r:Bool} (w:World) (hr0:Kd.C k28 w A0 l0.length l0) (hc0:l0.length≤c0) (h:impl_areMatrices.f k l0=some r):
  Calls Tryz.prog 52 #[.slice A0 l0.length c0] w fun e w'=>e= .returned (.bool r)∧Below w.heap.size w w':=by
 have hu28:=Tryz.underlying28
 have b4:=Aside0.mk hr0;have b9:=Aside0.mk hc0;clear hr0 hc0
 have HB:=Aside0.mk (Below.refl w.heap.size w)
 unfold impl_areMatrices.f at h;have H:=h;clear h
 have H':=Aside0.mk H
 clear H
 go_enter Tryz.func52,Tryz.ntmps52
 go_wp2
 go_loopg [7] k (fun kq v7 w'=>∃(a1:Int),v7=i6 a1∧Aside0 (impl_areMatrices.l0 kq l0 (l0.length:Int) a1=some r)∧Aside0 (kq≤k)∧Aside0 (Below w.heap.size w w'))
 case atStart=>exact⟨(0),en_,H',⟨Nat.le_refl _⟩,bw_ HB⟩
 clear H';obtain⟨a1,rfl,HA,b5,HB⟩:=hrel
 cases gk with
 |zero=>exact absurd HA.out (by simp[impl_areMatrices.l0])
 |succ k1=>
  have H:=HA.out;clear HA
  simp only[impl_areMatrices.l0] at H
  replace H:=il_ H
  rcases H with ⟨b3,H⟩|⟨b3,H⟩
  ·replace H:=imn_ H
   obtain⟨b6,H⟩:=H;replace H:=iln_ H;obtain⟨b7,H⟩:=H;replace H:=oc_ H;obtain⟨b8,A5,H⟩:=H;replace H:=ib_ H
   rcases H with ⟨rfl,H⟩|⟨rfl,H⟩
   ·have H':=Aside0.mk H
    clear H
    have a7:0≤(a1:Int):=od_
    have a8:a1<(l0.length:Int):=od_
    obtain⟨b1,b0,a2,a3,a4,a5⟩:=at_T28 b4.out a1 a7 a8
    cases b0
    replace a2:=clTr HB.out a2
    replace a3:=clTr HB.out a3
    replace a4:=clTr HB.out a4
    replace a5:=clTr HB.out a5
    replace a7:=eq_true a7
    replace a8:=eq_true a8
    go_wp2_with (first|((refine gd_ 4 ?_);refine by_ 4 #[i6 0,i6 0,i6 0,i6 0] 28 HB ?_;intro a9 hg w7 a6 hb b2 HB_;replace HB:=HB_;clear hb hg;have hz8:=ch4_ a6)|((refine gc_ 48 ?_);refine ge_ 12 Tryz.func48 #[.agg #[i6 ((rd_T28 l0 a1).f0.f0),i6 ((rd_T28 l0 a1).f0.f1),i6 ((rd_T28 l0 a1).f1.f0),i6 ((rd_T28 l0 a1).f1.f1)]] ?_;(with_reducible refine mo_ (impl_IsMatrix.calls _ A5.out) ?_);intro w9 hb;replace a6:=Aside0.mk (blk_below (g:=a9) (o:= .cells #[i6 ((rd_T28 l0 a1).f0.f0),i6 ((rd_T28 l0 a1).f0.f1),i6 ((rd_T28 l0 a1).f1.f0),i6 ((rd_T28 l0 a1).f1.f1)] 28 (0,0)) (bp_ a6).out hb);replace HB:=bt_ HB hb;(try clear hb)))
    go_roundg k1
    case measure=>have:=b5.out;omega
    case rel=>exact⟨(wrap64 (a1+1)),en_,H',⟨by have:=b5.out;omega⟩,bw_ HB⟩
   obtain rfl:=si_ H
   have a7:0≤(a1:Int):=od_
   have a8:a1<(l0.length:Int):=od_
   obtain⟨b1,b0,a2,a3,a4,a5⟩:=at_T28 b4.out a1 a7 a8
   cases b0
   replace a2:=clTr HB.out a2
   replace a3:=clTr HB.out a3
   replace a4:=clTr HB.out a4
   replace a5:=clTr HB.out a5
   replace a7:=eq_true a7
   replace a8:=eq_true a8
   go_wp2_with (first|((refine gd_ 4 ?_);refine by_ 4 #[i6 0,i6 0,i6 0,i6 0] 28 HB ?_;intro a9 hg d0 a6 hb b2 HB_;replace HB:=HB_;clear hb hg;have hz11:=ch4_ a6)|((refine gc_ 48 ?_);refine ge_ 12 Tryz.func48 #[.agg #[i6 ((rd_T28 l0 a1).f0.f0),i6 ((rd_T28 l0 a1).f0.f1),i6 ((rd_T28 l0 a1).f1.f0),i6 ((rd_T28 l0 a1).f1.f1)]] ?_;(with_reducible refine mo_ (impl_IsMatrix.calls _ A5.out) ?_);intro d1 hb;replace a6:=Aside0.mk (blk_below (g:=a9) (o:= .cells #[i6 ((rd_T28 l0 a1).f0.f0),i6 ((rd_T28 l0 a1).f0.f1),i6 ((rd_T28 l0 a1).f1.f0),i6 ((rd_T28 l0 a1).f1.f1)] 28 (0,0)) (bp_ a6).out hb);replace HB:=bt_ HB hb;(try clear hb)))
   go_ret;exact⟨es_,(bw_ HB).out⟩
  obtain rfl:=si_ H
  go_wp2
  go_ret;exact⟨es_,(bw_ HB).out⟩
end Go.Proofs.YtblmdppbbdbbjabGreat.QP
