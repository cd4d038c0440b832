import Derived.Test.YtblmdppbbdbbjabGreatVP
import Derived.Test.YtblmdppbbdbbjabGreatProg
import Derived.Below
import Derived.Deep.Draws
import Derived.Deep.AppendLies
import Derived.Maps.AppendAt
import Derived.OwnWalk
import Derived.Laws.BytesArg
import Derived.Laws.MakeOwn
import Derived.Laws.OwnMore
import Derived.Deep.OwnRows
import Derived.Tactics
import Derived.Lib.ConvBytes
import Derived.Laws.Slices
import Derived.WalkKit
import Derived.KernelRfl
import Derived.RowKit3
import Derived.Deep.LoopGhost
import Derived.Deep.QuietTactic
import Derived.BigQuiet
import Derived.WideLaws
import Derived.Deep.DeepCutAuto
import Derived.Deep.CutBlock
import Derived.Deep.RegionHeld3
import Derived.Laws.Rows
import Derived.Lib.AppendStr
import Derived.ArgAppend
import Derived.Laws.IdiomCopy
import Derived.OrdersHeld
import Derived.Laws.BitsLemmas
import Derived.RowKit
namespace Go.Proofs.YtblmdppbbdbbjabGreat.QP
set_option maxHeartbeats 8000000
set_option maxRecDepth 100000
open Go.RowKit Go.Proofs.YtblmdppbbdbbjabGreatW.PrintWords Go.Proofs.YtblmdppbbdbbjabGreatW.PrintLast Go.Proofs.YtblmdppbbdbbjabGreatW.PrintMore
attribute [local go_sem] isSome_setCell max2_int min2_int max_two min_two max_three min_three max_four min_four
set_option linter.unusedVariables false
set_option linter.unusedSimpArgs false
def errW:Option Int→Value
 |none=> .nilIface
 |some c=> .iface 0 (i6 c)
theorem errW_none:errW none= .nilIface:=rfl
theorem errW_some (c:Int):errW (some c)= .iface 0 (i6 c):=rfl
theorem info2: (Tryz.prog.info? 2).map (fun i=>(i.zero,i.size,i.bytes))=some (some (i6 0),1,8):=by kernel_rfl
theorem info5: (Tryz.prog.info? 5).map (fun i=>(i.zero,i.size,i.bytes))=some (some (.int .u8 0),1,1):=by kernel_rfl
theorem info28: (Tryz.prog.info? 28).map (fun i=>(i.zero,i.size,i.bytes))=some (some (.agg #[(i6 0),(i6 0),(i6 0),(i6 0)]),4,32):=by kernel_rfl
theorem info42: (Tryz.prog.info? 42).map (fun i=>(i.zero,i.size,i.bytes))=some (some (.agg #[(i6 0),(i6 0),(i6 0)]),3,24):=by kernel_rfl
/-! #### struct type 42 -/
structure S42 where
 f0:Int
 f1:Int
 f2:Int
def z42:S42:=⟨(0:Int),(0:Int),(0:Int)⟩
def k42:Kd S42:=Kd.iso (Kd.pair (Kd.int .i64) (Kd.pair (Kd.int .i64) (Kd.int .i64))) (fun x:S42=>(x.f0,x.f1,x.f2))
theorem k42_open {w:World} {x:S42} {cs:List Value} (h:k42.K w x cs):cs= [i6 x.f0,i6 x.f1,i6 x.f2]:=by
 obtain⟨_,_,rfl,rfl,⟨_,_,rfl,rfl,rfl⟩⟩:=h
 exact rfl
theorem k42_openM {w:World} {base:Nat} {ok:Nat→Prop} {x:S42} {cs:List Value} (h:k42.M w base ok x cs):cs= [i6 x.f0,i6 x.f1,i6 x.f2]:=by
 obtain⟨_,_,rfl,rfl,⟨_,_,rfl,rfl,rfl⟩⟩:=h
 exact rfl
theorem k42_mk (w:World) (x:S42):k42.K w x [i6 x.f0,i6 x.f1,i6 x.f2]:=⟨[i6 x.f0],[i6 x.f1,i6 x.f2],rfl,rfl,⟨[i6 x.f1],[i6 x.f2],rfl,rfl,rfl⟩⟩
theorem k42_mkM (w:World) (base:Nat) (ok:Nat→Prop) (x:S42):k42.M w base ok x [i6 x.f0,i6 x.f1,i6 x.f2]:=⟨[i6 x.f0],[i6 x.f1,i6 x.f2],rfl,rfl,⟨[i6 x.f1],[i6 x.f2],rfl,rfl,rfl⟩⟩
def rd_T42 (xs:List S42) (i:Int):S42:=xs.getD i.toNat z42
theorem at_T42 {w:World} {A:Option Addr} {n:Nat} {xs:List S42} (h:Kd.C k42 w A n xs) (i:Int) (h0:0≤i) (h1:i<n):∃ad,A=some ad∧w.cell? (ad.add (i.toNat*3))=some (i6 (rd_T42 xs i).f0)∧w.cell? ⟨(ad.add (i.toNat*3)).block,(ad.add (i.toNat*3)).off+1,none⟩=some (i6 (rd_T42 xs i).f1)∧w.cell? ⟨(ad.add (i.toNat*3)).block,(ad.add (i.toNat*3)).off+2,none⟩=some (i6 (rd_T42 xs i).f2):=by
 obtain⟨ad,c,e,_,hK,hc0⟩:=Kd.C_get h z42 i h0 h1
 have hc:∀j u,c[j]?=some u→w.cell? (ad.add (i.toNat*3+j))=some u:=hc0
 obtain rfl:=k42_open hK
 exact⟨ad,e,hc 0 _ rfl,by rw[←add_field _ _ 1 (by omega)];exact hc 1 _ rfl,by rw[←add_field _ _ 2 (by omega)];exact hc 2 _ rfl⟩
/-! #### struct type 26 -/
structure S26 where
 f0:Int
 f1:Int
def z26:S26:=⟨(0:Int),(0:Int)⟩
def k26:Kd S26:=Kd.iso (Kd.pair (Kd.int .i64) (Kd.int .i64)) (fun x:S26=>(x.f0,x.f1))
theorem k26_open {w:World} {x:S26} {cs:List Value} (h:k26.K w x cs):cs= [i6 x.f0,i6 x.f1]:=by
 obtain⟨_,_,rfl,rfl,rfl⟩:=h
 exact rfl
theorem k26_openM {w:World} {base:Nat} {ok:Nat→Prop} {x:S26} {cs:List Value} (h:k26.M w base ok x cs):cs= [i6 x.f0,i6 x.f1]:=by
 obtain⟨_,_,rfl,rfl,rfl⟩:=h
 exact rfl
theorem k26_mk (w:World) (x:S26):k26.K w x [i6 x.f0,i6 x.f1]:=⟨[i6 x.f0],[i6 x.f1],rfl,rfl,rfl⟩
theorem k26_mkM (w:World) (base:Nat) (ok:Nat→Prop) (x:S26):k26.M w base ok x [i6 x.f0,i6 x.f1]:=⟨[i6 x.f0],[i6 x.f1],rfl,rfl,rfl⟩
def rd_T26 (xs:List S26) (i:Int):S26:=xs.getD i.toNat z26
theorem at_T26 {w:World} {A:Option Addr} {n:Nat} {xs:List S26} (h:Kd.C k26 w A n xs) (i:Int) (h0:0≤i) (h1:i<n):∃ad,A=some ad∧w.cell? (ad.add (i.toNat*2))=some (i6 (rd_T26 xs i).f0)∧w.cell? ⟨(ad.add (i.toNat*2)).block,(ad.add (i.toNat*2)).off+1,none⟩=some (i6 (rd_T26 xs i).f1):=by
 obtain⟨ad,c,e,_,hK,hc0⟩:=Kd.C_get h z26 i h0 h1
 have hc:∀j u,c[j]?=some u→w.cell? (ad.add (i.toNat*2+j))=some u:=hc0
 obtain rfl:=k26_open hK
 exact⟨ad,e,hc 0 _ rfl,by rw[←add_field _ _ 1 (by omega)];exact hc 1 _ rfl⟩
/-! #### struct type 28 -/
structure S28 where
 f0:S26
 f1:S26
def z28:S28:=⟨z26,z26⟩
def k28:Kd S28:=Kd.iso (Kd.pair k26 k26) (fun x:S28=>(x.f0,x.f1))
theorem k28_open {w:World} {x:S28} {cs:List Value} (h:k28.K w x cs):cs= [i6 x.f0.f0,i6 x.f0.f1,i6 x.f1.f0,i6 x.f1.f1]:=by
 obtain⟨_,_,rfl,s0,s2⟩:=h
 obtain rfl:=k26_open s0
 obtain rfl:=k26_open s2
 exact rfl
theorem k28_openM {w:World} {base:Nat} {ok:Nat→Prop} {x:S28} {cs:List Value} (h:k28.M w base ok x cs):cs= [i6 x.f0.f0,i6 x.f0.f1,i6 x.f1.f0,i6 x.f1.f1]:=by
 obtain⟨_,_,rfl,s0,s2⟩:=h
 obtain rfl:=k26_openM s0
 obtain rfl:=k26_openM s2
 exact rfl
theorem k28_mk (w:World) (x:S28):k28.K w x [i6 x.f0.f0,i6 x.f0.f1,i6 x.f1.f0,i6 x.f1.f1]:=⟨[i6 x.f0.f0,i6 x.f0.f1],[i6 x.f1.f0,i6 x.f1.f1],rfl,(k26_mk w x.f0),(k26_mk w x.f1)⟩
theorem k28_mkM (w:World) (base:Nat) (ok:Nat→Prop) (x:S28):k28.M w base ok x [i6 x.f0.f0,i6 x.f0.f1,i6 x.f1.f0,i6 x.f1.f1]:=⟨[i6 x.f0.f0,i6 x.f0.f1],[i6 x.f1.f0,i6 x.f1.f1],rfl,(k26_mkM w base ok x.f0),(k26_mkM w base ok x.f1)⟩
def rd_T28 (xs:List S28) (i:Int):S28:=xs.getD i.toNat z28
theorem at_T28 {w:World} {A:Option Addr} {n:Nat} {xs:List S28} (h:Kd.C k28 w A n xs) (i:Int) (h0:0≤i) (h1:i<n):∃ad,A=some ad∧w.cell? (ad.add (i.toNat*4))=some (i6 (rd_T28 xs i).f0.f0)∧w.cell? ⟨(ad.add (i.toNat*4)).block,(ad.add (i.toNat*4)).off+1,none⟩=some (i6 (rd_T28 xs i).f0.f1)∧w.cell? ⟨(ad.add (i.toNat*4)).block,(ad.add (i.toNat*4)).off+2,none⟩=some (i6 (rd_T28 xs i).f1.f0)∧w.cell? ⟨(ad.add (i.toNat*4)).block,(ad.add (i.toNat*4)).off+3,none⟩=some (i6 (rd_T28 xs i).f1.f1):=by
 obtain⟨ad,c,e,_,hK,hc0⟩:=Kd.C_get h z28 i h0 h1
 have hc:∀j u,c[j]?=some u→w.cell? (ad.add (i.toNat*4+j))=some u:=hc0
 obtain rfl:=k28_open hK
 exact⟨ad,e,hc 0 _ rfl,by rw[←add_field _ _ 1 (by omega)];exact hc 1 _ rfl,by rw[←add_field _ _ 2 (by omega)];exact hc 2 _ rfl,by rw[←add_field _ _ 3 (by omega)];exact hc 3 _ rfl⟩
theorem eqA26 (d:Nat) (w:World) (x0 y0:Int) (x1 y1:Int):
  (Op.equalIn (d+2) 26 (.agg #[i6 x0,i6 x1]) (.agg #[i6 y0,i6 y1])).run Tryz.prog w= .ok (x0==y0&&(x1==y1)) w:=by
 refine eqR_of (size:=1) Tryz.underlying26 (by kernel_rfl) (by kernel_rfl) ?_
 refine eqi_cons (by go_simp;rfl) (by go_simp;rfl) (by go_simp) ?_
 exact eqi_last (by go_simp;rfl) (by go_simp;rfl) (by go_simp)
theorem eqA28 (d:Nat) (w:World) (x0 y0:Int) (x1 y1:Int) (x2 y2:Int) (x3 y3:Int):
  (Op.equalIn (d+3) 28 (.agg #[i6 x0,i6 x1,i6 x2,i6 x3]) (.agg #[i6 y0,i6 y1,i6 y2,i6 y3])).run Tryz.prog w= .ok ((x0==y0&&(x1==y1))&&((x2==y2&&(x3==y3)))) w:=by
 refine eqR_of (size:=2) Tryz.underlying28 (by kernel_rfl) (by kernel_rfl) ?_
 refine eqi_cons (by go_simp) (by go_simp) (eqA26 (d+0) w _ _ _ _) ?_
 exact eqi_last (by go_simp) (by go_simp) (eqA26 (d+0) w _ _ _ _)
theorem eqA42 (d:Nat) (w:World) (x0 y0:Int) (x1 y1:Int) (x2 y2:Int):
  (Op.equalIn (d+2) 42 (.agg #[i6 x0,i6 x1,i6 x2]) (.agg #[i6 y0,i6 y1,i6 y2])).run Tryz.prog w= .ok (x0==y0&&(x1==y1&&(x2==y2))) w:=by
 refine eqA_of Tryz.underlying42 (by kernel_rfl) ?_
 refine eqf_cons (by rfl) (by go_simp;rfl) (by go_simp;rfl) (by go_simp) ?_
 refine eqf_cons (by rfl) (by go_simp;rfl) (by go_simp;rfl) (by go_simp) ?_
 exact eqf_last (by rfl) (by go_simp;rfl) (by go_simp;rfl) (by go_simp)
/-! ### laws_big: function 4 -/
def laws_big.f (l0:List Int):Option (Bool):=some (decide ((l0.length:Int)>4096))
theorem laws_big.calls (A0:Option Addr) (c0:Nat) {l0:List Int} {r:Bool} (w:World) (hr0:Kd.C (Kd.int .u8) w A0 l0.length l0) (hc0:l0.length≤c0) (h:laws_big.f l0=some r):
  Calls Tryz.prog 4 #[.slice A0 l0.length c0] w fun e w'=>e= .returned (.bool r)∧Drawn0 w w':=by
 have a1:=Aside0.mk hr0;have a2:=Aside0.mk hc0;clear hr0 hc0;unfold laws_big.f at h;have H:=h;clear h
 obtain rfl:=si_ H
 go_enter Tryz.func4,Tryz.ntmps4
 go_wp2
 go_ret
 exact⟨en_,de_⟩
/-- A state of type 100 at block g of W; what its slices lead to came in by w0. -/
def IsS100 (w0 W:World) (g:Nat) (f0:List Int) (f1 f2:Int):Prop:=∃A0 c0,W.heap[g]?=some (.cells #[.slice A0 f0.length c0,i6 f1,.int .u64 f2] 100 (0,0))∧w0.heap.size≤g∧Kd.C (Kd.int .u8) w0 A0 f0.length f0
theorem IsS100.grown {w0 W:World} {g:Nat} {f0:List Int} {f1:Int} {f2:Int} {W1:World} {row:Option Nat} (h:IsS100 w0 W g f0 f1 f2) (hw:W.grownBy W1 row) (hne:some g≠row):IsS100 w0 W1 g f0 f1 f2:=by
 obtain⟨A0,c0,hb,hg,hr0⟩:=h
 exact⟨A0,c0,blk_grown hb hw hne,hg,hr0⟩
theorem IsS100.own_neN {w0 W:World} {g:Nat} {f0:List Int} {f1:Int} {f2:Int} {α:Type} {d:Kd α} {e:Nat} {base:Nat} {ok:Nat→Prop} {v:Value} {xs:List α} (h:IsS100 w0 W g f0 f1 f2) (ho:Kd.N d e W base ok v xs) (ht:e≠100):some g≠v.ownBlock:=by
 obtain⟨A0,c0,hb,hg,hr0⟩:=h
 exact Kd.N_ne ho hb ht
theorem IsS100.fresh {w0 W:World} {g:Nat} {f0:List Int} {f1:Int} {f2:Int} (h:IsS100 w0 W g f0 f1 f2):∀k,W.heap.size≤k→k≠g:=by
 obtain⟨A0,c0,hb,hg,hr0⟩:=h
 exact Kd.freshB hb
theorem IsS100.kept {w0 W:World} {g:Nat} {f0:List Int} {f1:Int} {f2:Int} {W1:World} {S:Nat→Prop} (h:IsS100 w0 W g f0 f1 f2) (hk:Kept W W1 S) (hne:¬S g):IsS100 w0 W1 g f0 f1 f2:=by
 obtain⟨A0,c0,hb,hg,hr0⟩:=h
 exact⟨A0,c0,blk_kept hb hk hne,hg,hr0⟩
theorem IsS100.below {w0 W:World} {g:Nat} {f0:List Int} {f1:Int} {f2:Int} {W1:World} (h:IsS100 w0 W g f0 f1 f2) (hw:Below W.heap.size W W1):IsS100 w0 W1 g f0 f1 f2:=h.grown (grown_of_below hw none) (by simp)
theorem IsS100.alloc {w0 W:World} {g:Nat} {f0:List Int} {f1:Int} {f2:Int} (h:IsS100 w0 W g f0 f1 f2) (o:Obj):IsS100 w0 (W.alloc o) g f0 f1 f2:=h.below (below_alloc (Below.refl _ _) o)
theorem IsS100.drewN {w0 W:World} {g:Nat} {f0:List Int} {f1:Int} {f2:Int} (h:IsS100 w0 W g f0 f1 f2) (m:Nat):IsS100 w0 (W.drewN m) g f0 f1 f2:=h
theorem IsS100.drew {w0 W:World} {g:Nat} {f0:List Int} {f1:Int} {f2:Int} (h:IsS100 w0 W g f0 f1 f2):IsS100 w0 W.drew g f0 f1 f2:=h
theorem IsS100.at_ {w0 W:World} {g:Nat} {f0:List Int} {f1:Int} {f2:Int} {w':World} {m:Nat} (hq:W.drewN m=w') (h:IsS100 w0 W g f0 f1 f2):IsS100 w0 w' g f0 f1 f2:=by subst hq;exact IsS100.drewN h m
theorem IsS100.apart {w0 W:World} {g:Nat} {f0:List Int} {f1:Int} {f2:Int} {α:Type} {d:Kd α} {e:Nat} {base:Nat} {ok:Nat→Prop} {v:Value} {xs:List α} (h:IsS100 w0 W g f0 f1 f2) (ho:d.R e W base ok v xs) (ht:∀q,q∈e::d.E→q≠100):d.R e W base (fun k=>ok k∧k≠g) v xs:=by
 obtain⟨A0,c0,hb,hg,hr0⟩:=h
 exact Kd.R_types ho hb ht
theorem IsS100.own_ne {w0 W:World} {g:Nat} {f0:List Int} {f1:Int} {f2:Int} {α:Type} {d:Kd α} {e:Nat} {base:Nat} {ok:Nat→Prop} {v:Value} {xs:List α} (h:IsS100 w0 W g f0 f1 f2) (ho:d.R e W base ok v xs) (ht:e≠100):some g≠v.ownBlock:=by
 obtain⟨A0,c0,hb,hg,hr0⟩:=h
 exact Kd.R_ne ho hb ht
theorem IsS100.apartQ {w0 W:World} {g:Nat} {f0:List Int} {f1:Int} {f2:Int} {α:Type} {d:Kd α} {e:Nat} {base:Nat} {ok:Nat→Prop} {v:Value} {xs:List α} (h:IsS100 w0 W g f0 f1 f2) (ho:d.Q e W base ok v xs) (ht:∀q,q∈e::d.E→q≠100):d.Q e W base (fun k=>ok k∧k≠g) v xs:=by
 obtain⟨A0,c0,hb,hg,hr0⟩:=h
 exact Kd.Q_types ho hb ht
theorem IsS100.own_neQ {w0 W:World} {g:Nat} {f0:List Int} {f1:Int} {f2:Int} {α:Type} {d:Kd α} {e:Nat} {base:Nat} {ok:Nat→Prop} {v:Value} {xs:List α} (h:IsS100 w0 W g f0 f1 f2) (ho:d.Q e W base ok v xs) (ht:e≠100):some g≠v.ownBlock:=by
 obtain⟨A0,c0,hb,hg,hr0⟩:=h
 exact Kd.Q_ne ho hb ht
theorem IsS100.apartS {w0 W:World} {g:Nat} {f0:List Int} {f1:Int} {f2:Int} {α:Type} {d:Kd α} {e:Nat} {base:Nat} {ok:Nat→Prop} {v:Value} {xs:List α} (h:IsS100 w0 W g f0 f1 f2) (ho:d.S e W base ok v xs) (ht:∀q,q∈e::d.E→q≠100):d.S e W base (fun k=>ok k∧k≠g) v xs:=by
 obtain⟨A0,c0,hb,hg,hr0⟩:=h
 exact Kd.S_types ho hb ht
theorem IsS100.own_neS {w0 W:World} {g:Nat} {f0:List Int} {f1:Int} {f2:Int} {α:Type} {d:Kd α} {e:Nat} {base:Nat} {ok:Nat→Prop} {v:Value} {xs:List α} (h:IsS100 w0 W g f0 f1 f2) (ho:d.S e W base ok v xs) (ht:e≠100):some g≠v.ownBlock:=by
 obtain⟨A0,c0,hb,hg,hr0⟩:=h
 exact Kd.S_ne ho hb ht
theorem IsS100.lt {w0 W:World} {g:Nat} {f0:List Int} {f1:Int} {f2:Int} (h:IsS100 w0 W g f0 f1 f2):g<W.heap.size:=by
 obtain⟨A0,c0,hb,hg,hr0⟩:=h
 exact blk_lt hb
theorem IsS100.ge {w0 W:World} {g:Nat} {f0:List Int} {f1:Int} {f2:Int} (h:IsS100 w0 W g f0 f1 f2):w0.heap.size≤g:=by
 obtain⟨A0,c0,hb,hg,hr0⟩:=h
 exact hg
theorem IsS100.ne_blk {w0 W:World} {g:Nat} {f0:List Int} {f1:Int} {f2:Int} {a:Nat} {cs:Array Value} {t:TypeId} {fr:Nat×Nat} (h:IsS100 w0 W g f0 f1 f2) (hb2:W.heap[a]?=some (.cells cs t fr)) (ht:t≠100):g≠a:=by
 obtain⟨A0,c0,hb,hg,hr0⟩:=h
 rintro rfl
 rw[hb] at hb2
 injection hb2 with hb2
 injection hb2 with _ ht2
 exact ht ht2.symm
theorem IsS100.far {w0 W:World} {g:Nat} {f0:List Int} {f1:Int} {f2:Int} {p:Addr} (h:IsS100 w0 W g f0 f1 f2) (hne:g≠p.block) (u:Value):IsS100 w0 (W.setCell p u) g f0 f1 f2:=by
 obtain⟨A0,c0,hb,hg,hr0⟩:=h
 exact⟨A0,c0,blk_far hb hne u,hg,hr0⟩
theorem cellS100_0 {W:World} {g:Nat} {A0:Option Addr} {c0:Nat} {f0:List Int} {f1:Int} {f2:Int} (h:W.heap[g]?=some (.cells #[.slice A0 f0.length c0,i6 f1,.int .u64 f2] 100 (0,0))):W.cell? ⟨g,0,none⟩=some (.slice A0 f0.length c0):=(blk_cell h 0).trans rfl
theorem cellS100_1 {W:World} {g:Nat} {A0:Option Addr} {c0:Nat} {f0:List Int} {f1:Int} {f2:Int} (h:W.heap[g]?=some (.cells #[.slice A0 f0.length c0,i6 f1,.int .u64 f2] 100 (0,0))):W.cell? ⟨g,1,none⟩=some (i6 f1):=(blk_cell h 1).trans rfl
theorem IsS100.set_1 {w0 W:World} {g:Nat} {f0:List Int} {f1:Int} {f2:Int} (h:IsS100 w0 W g f0 f1 f2) (x:Int):IsS100 w0 (W.setCell ⟨g,1,none⟩ (i6 x)) g f0 x f2:=by
 obtain⟨A0,c0,hb,hg,hr0⟩:=h
 exact⟨A0,c0,by simpa using blk_set hb 1 (i6 x),hg,hr0⟩
theorem cellS100_2 {W:World} {g:Nat} {A0:Option Addr} {c0:Nat} {f0:List Int} {f1:Int} {f2:Int} (h:W.heap[g]?=some (.cells #[.slice A0 f0.length c0,i6 f1,.int .u64 f2] 100 (0,0))):W.cell? ⟨g,2,none⟩=some (.int .u64 f2):=(blk_cell h 2).trans rfl
theorem IsS100.set_2 {w0 W:World} {g:Nat} {f0:List Int} {f1:Int} {f2:Int} (h:IsS100 w0 W g f0 f1 f2) (x:Int):IsS100 w0 (W.setCell ⟨g,2,none⟩ (.int .u64 x)) g f0 f1 x:=by
 obtain⟨A0,c0,hb,hg,hr0⟩:=h
 exact⟨A0,c0,by simpa using blk_set hb 2 (.int .u64 x),hg,hr0⟩
theorem IsS100.xl {w0 W W1:World} {g gb:Nat} {f0:List Int} {f1:Int} {f2:Int} {f0':List Int} {f1':Int} {f2':Int} (B:Aside0 (IsS100 w0 W g f0 f1 f2)) (hg:gb=W1.heap.size) (h:IsS100 w0 W g f0 f1 f2→IsS100 w0 W1 g f0' f1' f2':=by exact fun h_=>(xi100_ ⟨h_⟩).out):Aside0 (g≠gb):=⟨hg▸Nat.ne_of_lt (IsS100.lt (h B.out))⟩
theorem IsS100.xm {w0 W W1:World} {g gb:Nat} {f0:List Int} {f1:Int} {f2:Int} {f0':List Int} {f1':Int} {f2':Int} (B:Aside0 (IsS100 w0 W g f0 f1 f2)) (hg:gb=W1.heap.size) (h:IsS100 w0 W g f0 f1 f2→IsS100 w0 W1 g f0' f1' f2':=by exact fun h_=>(xi100_ ⟨h_⟩).out):Aside0 (gb≠g):=⟨hg▸Nat.ne_of_gt (IsS100.lt (h B.out))⟩
theorem IsS100.xs {w0 W W1 W2:World} {g:Nat} {f0:List Int} {f1:Int} {f2:Int} {f0':List Int} {f1':Int} {f2':Int} (B:Aside0 (IsS100 w0 W g f0 f1 f2)) (hb:Below W1.heap.size W1 W2) (h:IsS100 w0 W g f0 f1 f2→IsS100 w0 W1 g f0' f1' f2':=by exact fun h_=>(xi100_ ⟨h_⟩).out):Aside0 (IsS100 w0 W2 g f0' f1' f2'):=⟨IsS100.below (h B.out) hb⟩
theorem IsS100.xn {w0 W w1 w2:World} {g a:Nat} {f0:List Int} {f1:Int} {f2:Int} {cs:Array Value} {t:TypeId} {fr:Nat×Nat} (hi:IsS100 w0 W g f0 f1 f2) (B:Aside0 (w1.heap[a]?=some (.cells cs t fr))) (hb:Below w2.heap.size w2 W) (h:w1.heap[a]?=some (.cells cs t fr)→w2.heap[a]?=some (.cells cs t fr):=by intro h_;(with_reducible repeat first|apply blk_drewN|apply blk_drew|apply blk_alloc);exact h_) (ht:t≠100:=by decide):Aside0 (g≠a):=⟨IsS100.ne_blk hi (blk_below (h B.out) hb) ht⟩
theorem IsS100.xo {w0 W w1 w2:World} {g a:Nat} {f0:List Int} {f1:Int} {f2:Int} {cs:Array Value} {t:TypeId} {fr:Nat×Nat} (hi:IsS100 w0 W g f0 f1 f2) (B:Aside0 (w1.heap[a]?=some (.cells cs t fr))) (hb:Below w2.heap.size w2 W) (h:w1.heap[a]?=some (.cells cs t fr)→w2.heap[a]?=some (.cells cs t fr):=by intro h_;(with_reducible repeat first|apply blk_drewN|apply blk_drew|apply blk_alloc);exact h_) (ht:t≠100:=by decide):Aside0 (a≠g):=⟨Ne.symm (IsS100.ne_blk hi (blk_below (h B.out) hb) ht)⟩
theorem IsS100.new (w0 W:World) (A0:Option Addr) (c0:Nat) (f0:List Int) (f1 f2:Int) (hB:Below w0.heap.size w0 W) (hr0:Kd.C (Kd.int .u8) w0 A0 f0.length f0):IsS100 w0 (W.alloc (.cells #[.slice A0 f0.length c0,i6 f1,.int .u64 f2] 100)) W.heap.size f0 f1 f2:=⟨A0,c0,by simpa using heap_alloc_new W _,hB.size,hr0⟩
/-! ### spec_l01From: function 59 -/
def spec_l01From.l0:Nat→List Int→Int→List Int→Int→Int→Option (List Int×Int×Int)
 |0,_,_,_,_,_=>none
 |k+1,x0,x4,x102000,x102001,x102002=>if x4<(x0.length:Int) then(if x4<4096 then(if 0≤x4 then(spec_l01From.l0 k x0 (wrap64 (x4+1)) x102000 x102001 (IntKind.u64.wrap ((IntKind.u64.wrap ((IntKind.u64.wrap (x102002*1099511628211))+(IntKind.u64.wrap (rd x0 x4))))+71))) else(none)) else(some (x102000,x102001,x102002))) else(some (x102000,x102001,x102002))
def spec_l01From.f (k:Nat) (l0:List Int):Option (List Int×Int×Int):=spec_l01From.l0 k l0 0 l0 0 (IntKind.u64.wrap (12527+(IntKind.u64.wrap ((l0.length:Int)))))
def spec_l01From.T5:Bool×List (List Nat×List Nat):=(true,[([],[]),([],[]),([1],[1]),([2],[2]),([3],[3]),([4],[4]),([],[]),([],[]),([6,7],[6,7]),([8],[8]),([9],[9]),([5,10],[5,10]),([11],[11]),([0,0,1,2,3,4,5,6,7,8,9,10,11,12],[0]),([13,0,1,2,3,4,5,6,7,8,9,10,11,12],[13]),([14,12,0,1,2,3,4,5,6,7,8,9,10,11,12],[12,14])])
def spec_l01From.B5:List Nat:=[0,0,2,6,14,30,0,0,192,448,960,2046,4094,8191,16383,32767]
theorem spec_l01From.tab5:rtab .any (opsOf Tryz.f59 5)=spec_l01From.T5:=by kernel_rfl
theorem spec_l01From.bits5:waitsOk spec_l01From.T5.2 spec_l01From.B5=true:=by kernel_rfl
theorem spec_l01From.calls {k:Nat} (A0:Option Addr) (c0:Nat) {l0 r1:List Int} {r2 r3:Int} (w0 w:World) (hB:Below w0.heap.size w0 w) (hr0:Kd.C (Kd.int .u8) w0 A0 l0.length l0) (hc0:l0.length≤c0) (h:spec_l01From.f k l0=some (r1,r2,r3)):
  Calls Tryz.prog 59 #[.slice A0 l0.length c0] w fun e w'=>∃g_:Nat,e= .returned (.pointer (some ⟨g_,0,none⟩))∧IsS100 w0 w' g_ r1 r2 r3∧Below w0.heap.size w0 w'∧Below w.heap.size w w':=by
 have hu100:=Tryz.underlying100
 have b1:=Aside0.mk hr0;have b9:=Aside0.mk hc0;clear hr0 hc0
 have HBW:=Aside0.mk (Below.refl w.heap.size w)
 have HW0:=Aside0.mk hB.size
 have HB:=Aside0.mk hB;clear hB;unfold spec_l01From.f at h;have H:=h;clear h
 have H':=Aside0.mk H
 clear H
 go_enter Tryz.func59,Tryz.ntmps59
 go_wp2_with (first|((refine gd_ 11 ?_);refine bx_ 11 #[.slice A0 l0.length c0,i6 0,.int .u64 (IntKind.u64.wrap (12527+(IntKind.u64.wrap ((l0.length:Int)))))] 100 ?_;intro a3 hg w2 a2 hb;have b5:=bs_ HBW hg;have a7:=Aside0.mk ((Nat.le_trans HW0.out (by rw[hg];exact(below_size (bw_ HBW).out):w.heap.size≤a3):w0.heap.size≤a3));replace HBW:=Aside0.mk (below_step HBW.out hb);replace HB:=bt_ HB hb;clear hb hg))
 go_loopg [4] k (fun kq v4 w'=>∃(a5:Int) (a1:Int),v4=i6 a5∧Aside0 (spec_l01From.l0 kq l0 a5 l0 0 a1=some (r1,r2,r3))∧Aside0 (kq≤k)∧Aside0 (b_ w' a3 #[(.slice A0 l0.length c0),i6 0,.int .u64 a1] 100)∧Aside0 (Below w0.heap.size w0 w')∧Aside0 (Below w.heap.size w w'))
 case atStart=>exact⟨(0),(IntKind.u64.wrap (12527+(IntKind.u64.wrap ((l0.length:Int))))),en_,H',⟨Nat.le_refl _⟩,bl_ a2,bw_ HB,bw_ HBW⟩
 clear H';obtain⟨a5,a1,rfl,HA,b6,a2,HB,HBW⟩:=hrel
 cases gk with
 |zero=>exact absurd HA.out (by simp[spec_l01From.l0])
 |succ k1=>
  have H:=HA.out;clear HA
  simp only[spec_l01From.l0] at H
  replace H:=il_ H
  rcases H with ⟨b2,H⟩|⟨b2,H⟩
  ·replace H:=il_ H
   rcases H with ⟨b3,H⟩|⟨b3,H⟩
   ·replace H:=imn_ H
    obtain⟨b7,H⟩:=H
    have H':=Aside0.mk H
    clear H
    try go_wp2
    replace a2:=bd_ a2;replace HB:=be_ HB
    replace HBW:=Aside0.mk (below_drew1 HBW.out)
    have a9:0≤(a5:Int):=od_
    have b0:a5<(l0.length:Int):=od_
    obtain⟨a8,b4,a4⟩:=Kd.at_int b1.out a5 a9 b0
    have a6:=a4
    cases b4
    replace a4:=pw_cell_below HB.out a4
    replace a9:=eq_true a9
    replace b0:=eq_true b0
    refine start_ (n:=16) (S:=fun w'=>c_ w' a3 0 (.slice (some a8) l0.length c0)∧c_ w' a3 1 (i6 0)∧c_ w' a3 2 (.int .u64 a1)∧w'.cell? (a8.add (a5).toNat)=some (.int .u8 (rd l0 a5))) (ds:=[15]) (bv_ 16 0) (by kernel_rfl) rfl rfl ⟨cz_ a2 0,cz_ a2 1,cz_ a2 2,(clTr HB.out a6:)⟩ (fun hHeld=>?_);refine with_tabW spec_l01From.tab5 spec_l01From.bits5 (fun HT_ HW_=>?_)
    generalize wr.drew=w6 at a2 HB HBW a4 hHeld⊢
    refine px_ HT_ 0 22 1 ?_;refine px_ HT_ 1 23 3 ?_;refine px_ HT_ 2 24 7 ?_;refine px_ HT_ 3 25 15 ?_;refine px_ HT_ 6 28 79 ?_;refine px_ HT_ 7 29 207 ?_;refine px_ HT_ 8 30 463 ?_
    refine ta_ HT_ HW_ 4 (some 26) (bv_ 16 479) hHeld ?_ (hy:=by rintro w' ⟨s0,s1,s2,s3⟩;go_simp;with_reducible rfl)
    refine px_ HT_ 5 27 511 ?_
    refine ta_ HT_ HW_ 9 (some 31) (bv_ 16 1023) hHeld ?_ (hy:=by rintro w' ⟨s0,s1,s2,s3⟩;go_simp;with_reducible rfl)
    refine px_ HT_ 10 32 2047 ?_;refine px_ HT_ 11 33 4095 ?_;refine px_ HT_ 12 34 8191 ?_;refine px_ HT_ 13 35 16383 ?_;refine px_ HT_ 14 36 32767 ?_
    refine last_ (i:=15) (N:=none) (bv_ 16 65535) rfl rfl (one_of HT_.out (by kernel_rfl)) (by decide) (fun K hK=>?_)
    have d0:=cz_ a2 2;have b8:=blk_frozen a2.out 2
    refine skip_ (w1:=?_) (by rfl) rfl ?_ ?_
    rotate_left
    ·go_simp
     rfl
    refine hK.out _ _ ?_
    clear hK K
    refine done_ (done_of HT_.out (by kernel_rfl)) ?_
    try go_wp2
    go_roundg k1
    case measure=>have:=b6.out;omega
    case rel=>exact⟨(wrap64 (a5+1)),(IntKind.u64.wrap ((IntKind.u64.wrap ((IntKind.u64.wrap (a1*1099511628211))+(IntKind.u64.wrap (rd l0 a5))))+71)),en_,H',⟨by have:=b6.out;omega⟩,bp_ a2,bw_ HB,bw_ HBW⟩
   simp only[Option.some.injEq,Prod.mk.injEq] at H
   obtain⟨rfl,rfl,rfl⟩:=H
   go_wp2
   go_ret
   exact⟨_,rfl,(show IsS100 w0 _ a3 l0 0 a1 from ⟨_,_,by(with_reducible repeat first|apply blk_drewN|apply blk_drew|apply blk_alloc);exact a2.out,a7.out,b1.out⟩),(bw_ HB).out,(bw_ HBW).out⟩
  simp only[Option.some.injEq,Prod.mk.injEq] at H
  obtain⟨rfl,rfl,rfl⟩:=H
  go_wp2
  go_ret
  exact⟨_,rfl,(show IsS100 w0 _ a3 l0 0 a1 from ⟨_,_,by(with_reducible repeat first|apply blk_drewN|apply blk_drew|apply blk_alloc);exact a2.out,a7.out,b1.out⟩),(bw_ HB).out,(bw_ HBW).out⟩
/-! ### spec_l01Next: function 61 -/
def spec_l01Next.f (s0_0:List Int) (s0_1 s0_2 a1:Int):Option (Int×Int×Int):=if a1<1 then(some (0,s0_1,s0_2)) else(if s0_1<(s0_0.length:Int) then(if 0≤s0_1 then(if a1=0 then(none) else(some (Int.tmod (wrap64 ((wrap64 (Go.bits .and .u64 ((IntKind.u64.wrap ((IntKind.u64.wrap (s0_2*6364136223846793005))+1442695040888963407)) / 8388608) 17179869183))+(wrap64 (rd s0_0 s0_1)))) a1,wrap64 (s0_1+1),IntKind.u64.wrap ((IntKind.u64.wrap (s0_2*6364136223846793005))+1442695040888963407)))) else(none)) else(if a1=0 then(none) else(some (Int.tmod (wrap64 (Go.bits .and .u64 ((IntKind.u64.wrap ((IntKind.u64.wrap (s0_2*6364136223846793005))+1442695040888963407)) / 8388608) 17179869183)) a1,s0_1,IntKind.u64.wrap ((IntKind.u64.wrap (s0_2*6364136223846793005))+1442695040888963407)))))
theorem spec_l01Next.calls (g:Nat) {a4:List Int} {a3 a5 a1 r1 r2 r3:Int} (w0 w:World) (hI:IsS100 w0 w g a4 a3 a5) (hB:Below w0.heap.size w0 w) (h:spec_l01Next.f a4 a3 a5 a1=some (r1,r2,r3)):
  Calls Tryz.prog 61 #[.pointer (some ⟨g,0,none⟩),i6 a1] w fun e w'=>e= .returned (i6 r1)∧IsS100 w0 w' g a4 r2 r3∧Below w0.heap.size w0 w'∧KeepBut w w' g none:=by
 have hu100:=Tryz.underlying100
 have HI0:=Aside0.mk hI
 have HK:=Aside0.mk (KeepBut.refl w g none)
 have HL:=Aside0.mk hB.size
 clear hI
 have HW0:=Aside0.mk hB.size
 have HB:=Aside0.mk hB;clear hB;unfold spec_l01Next.f at h;have H:=h;clear h;replace H:=il_ H
 rcases H with ⟨b0,H⟩|⟨b0,H⟩
 ·simp only[Option.some.injEq,Prod.mk.injEq] at H
  obtain⟨rfl,rfl,rfl⟩:=H
  go_enter Tryz.func61,Tryz.ntmps61
  go_wp2
  repeat(go_quiet (fail);try go_wp2)
  go_ret
  exact⟨es_,(xi100_ HI0).out,(bw_ HB).out,(xk_ HK).out⟩
 replace H:=il_ H
 rcases H with ⟨b1,H⟩|⟨b1,H⟩
 ·replace H:=imn_ H
  obtain⟨d3,H⟩:=H;replace H:=ief_ H;obtain⟨c6,d4,d5,H⟩:=H
  simp only[Option.some.injEq,Prod.mk.injEq] at H
  obtain⟨rfl,rfl,rfl⟩:=H
  obtain⟨ASz7_0,cSz7_0,HGz7,hgz7,HSz7_0⟩:=HI0.out
  have b2:=cellS100_0 HGz7
  have b3:=cellS100_1 HGz7
  have b4:=cellS100_2 HGz7
  have b5:=blk_frozen HGz7 1
  have b6:=blk_frozen HGz7 2
  clear HGz7 hgz7
  have a6:0≤(a3:Int):=od_
  have a7:a3<(a4.length:Int):=od_
  obtain⟨a8,b7,a2⟩:=Kd.at_int HSz7_0 a3 a6 a7
  cases b7
  have hn103_0:a8.block≠g:=Nat.ne_of_lt (Nat.lt_of_lt_of_le (by have:=World.block_lt_of_cell? _ _ a2;first|rwa [add_block] at this|exact this) (IsS100.ge HI0.out))
  replace a2:=pw_cell_below HB.out a2
  replace a2:=(cell_far (p:=⟨g,2,none⟩) (by first|(rw[add_block];exact hn103_0)|(show (Addr.add _ _).block≠_;rw[add_block];exact hn103_0)|exact hn103_0) (.int .u64 (IntKind.u64.wrap ((IntKind.u64.wrap (a5*6364136223846793005))+1442695040888963407)))).trans a2
  (try have a9:=fun (n_:Nat)=>(show (((w.drewN n_).setCell ⟨g,2,none⟩ (.int .u64 (IntKind.u64.wrap ((IntKind.u64.wrap (a5*6364136223846793005))+1442695040888963407))))).cell? _=some _ from a2))
  clear hn103_0
  replace a6:=eq_true a6
  replace a7:=eq_true a7
  go_enter Tryz.func61,Tryz.ntmps61
  go_wp2
  repeat(go_quiet (fail);try go_wp2)
  go_ret
  exact⟨es_,(xi100_ HI0).out,(bw_ HB).out,(xk_ HK).out⟩
 replace H:=ief_ H;obtain⟨c8,d6,d7,H⟩:=H
 simp only[Option.some.injEq,Prod.mk.injEq] at H
 obtain⟨rfl,rfl,rfl⟩:=H
 obtain⟨ASz9_0,cSz9_0,HGz9,hgz9,HSz9_0⟩:=HI0.out
 have b8:=cellS100_0 HGz9
 have b9:=cellS100_1 HGz9
 have d0:=cellS100_2 HGz9
 have d1:=blk_frozen HGz9 1
 have d2:=blk_frozen HGz9 2
 clear HGz9 hgz9
 go_enter Tryz.func61,Tryz.ntmps61
 go_wp2
 repeat(go_quiet (fail);try go_wp2)
 go_ret
 exact⟨es_,(xi100_ HI0).out,(bw_ HB).out,(xk_ HK).out⟩
/-! ### spec_l01Pick: function 90 -/
def spec_l01Pick.f (s0_0:List Int) (s0_1 s0_2:Int) (l1:List Int):Option (Int×Int×Int):=(spec_l01Next.f s0_0 s0_1 s0_2 (l1.length:Int)).bind fun bt104=>(if 0≤bt104.1 then(if bt104.1<(l1.length:Int) then(some (rd l1 bt104.1,bt104.2.1,bt104.2.2)) else(none)) else(none))
theorem spec_l01Pick.calls (g:Nat) {a2:List Int} {a6 a7:Int} (A1:Option Addr) (c1:Nat) {l1:List Int} {r1 r2 r3:Int} (w0 w:World) (hI:IsS100 w0 w g a2 a6 a7) (hB:Below w0.heap.size w0 w) (hr1:Kd.C (Kd.int .i64) w A1 l1.length l1) (hc1:l1.length≤c1) (hf1:∀ad,A1=some ad→0<l1.length→ad.block≠g) (h:spec_l01Pick.f a2 a6 a7 l1=some (r1,r2,r3)):
  Calls Tryz.prog 90 #[.pointer (some ⟨g,0,none⟩),.slice A1 l1.length c1] w fun e w'=>e= .returned (i6 r1)∧IsS100 w0 w' g a2 r2 r3∧Below w0.heap.size w0 w'∧KeepBut w w' g none:=by
 have b2:=Aside0.mk hr1;have b7:=Aside0.mk hc1;clear hr1 hc1;have HI0:=Aside0.mk hI
 have HK:=Aside0.mk (KeepBut.refl w g none)
 have HL:=Aside0.mk hB.size
 clear hI
 have HW0:=Aside0.mk hB.size
 have HB:=Aside0.mk hB;clear hB;unfold spec_l01Pick.f at h;have H:=h;clear h;replace H:=oc_ H;obtain⟨⟨a3,b3,b4⟩,A3,H⟩:=H;replace H:=imn_ H;obtain⟨b5,H⟩:=H;replace H:=iln_ H;obtain⟨b6,H⟩:=H
 simp only[Option.some.injEq,Prod.mk.injEq] at H
 obtain⟨rfl,rfl,rfl⟩:=H
 go_enter Tryz.func90,Tryz.ntmps90
 go_wp2_with (first|((refine gc_ 61 ?_);refine ge_ 9 Tryz.func61 #[.pointer (some ⟨g,0,none⟩),i6 (l1.length:Int)] ?_;(with_reducible refine mo_ (spec_l01Next.calls g w0 _ ?a8 ?a9 A3.out) ?_);(case a8=>exact(xi100_ HI0).out);(case a9=>exact(bw_ HB).out);rintro w6 ⟨hi,hb,hk⟩;replace HK:=xt_ HK hk;replace HB:=Aside0.mk (hb);replace HI0:=Aside0.mk (hi);clear hb hk hi;have a4:0≤(a3:Int):=od_;have a5:a3<(l1.length:Int):=od_;obtain⟨b0,b1,a1⟩:=Kd.at_int b2.out a3 a4 a5;cases b1;replace a1:=keep_cell HK.out a1 (by first|(rw[add_block];exact hf1 _ rfl (by omega))|exact hf1 _ rfl (by omega)|exact hf1 b0 rfl (by omega));replace a4:=eq_true a4;replace a5:=eq_true a5))
 go_ret
 exact⟨es_,(xi100_ HI0).out,(bw_ HB).out,(xk_ HK).out⟩
/-! ### spec_l01DrawPrime: function 87 -/
def spec_l01DrawPrime.f (s0_0:List Int) (s0_1 s0_2:Int):Option (Int×Int×Int):=(spec_l01Pick.f s0_0 s0_1 s0_2 (([2,2,3,3,5,7]:List Int))).bind fun bt111=>(some (bt111.1,bt111.2.1,bt111.2.2))
theorem spec_l01DrawPrime.calls (g:Nat) {a3:List Int} {a5 a6 r1 r2 r3:Int} (w0 w:World) (hI:IsS100 w0 w g a3 a5 a6) (hB:Below w0.heap.size w0 w) (h:spec_l01DrawPrime.f a3 a5 a6=some (r1,r2,r3)):
  Calls Tryz.prog 87 #[.pointer (some ⟨g,0,none⟩)] w fun e w'=>e= .returned (i6 r1)∧IsS100 w0 w' g a3 r2 r3∧Below w0.heap.size w0 w'∧KeepBut w w' g none:=by
 have HI0:=Aside0.mk hI
 have HK:=Aside0.mk (KeepBut.refl w g none)
 have HL:=Aside0.mk hB.size
 clear hI
 have HW0:=Aside0.mk hB.size
 have HB:=Aside0.mk hB;clear hB;unfold spec_l01DrawPrime.f at h;have H:=h;clear h
 obtain⟨b3,a2⟩:∃y_:List Int,y_=(([2,2,3,3,5,7]:List Int)):=⟨_,rfl⟩
 first|rw[←a2,Option.bind_some] at H|rw[←a2] at H|(dsimp only at H;rw[←a2] at H)
 have a4:=Aside0.mk a2;clear a2;replace H:=oc_ H;obtain⟨⟨b4,b5,b6⟩,A2,H⟩:=H
 simp only[Option.some.injEq,Prod.mk.injEq] at H
 obtain⟨rfl,rfl,rfl⟩:=H
 go_enter Tryz.func87,Tryz.ntmps87
 go_wp2_with (first|((refine gd_ 4 ?_);refine Kd.R_lit (Kd.int .i64) _ 2 ?hg (N:=4) ?hd (xs:=([2,2,3,3,5,7]:List Int)) (inner:=[i6 2,i6 2,i6 3,i6 3,i6 5,i6 7]) (ok:=fun _=>True) (okp:=fun _=>True) ?hr ?hp (fun _ hk=>hk) trivial (Below.refl _ _) (Nat.le_refl _) (by simp) ?_;(case hd=>rfl);(case hg=>rfl);(case hr=>first|(go_simp;done)|(go_simp;rfl));(case hp=>exact(Reps.one (show Kd.M (Kd.int .i64) _ _ _ 2 [i6 2] from rfl) (Reps.one (show Kd.M (Kd.int .i64) _ _ _ 2 [i6 2] from rfl) (Reps.one (show Kd.M (Kd.int .i64) _ _ _ 3 [i6 3] from rfl) (Reps.one (show Kd.M (Kd.int .i64) _ _ _ 3 [i6 3] from rfl) (Reps.one (show Kd.M (Kd.int .i64) _ _ _ 5 [i6 5] from rfl) (Reps.one (show Kd.M (Kd.int .i64) _ _ _ 7 [i6 7] from rfl) (Reps.none _ _))))))));intro b7 w3 a7 hb hg_ hnew_;clear hg_ hnew_;(first|rw[←a4.out] at a7|(simp only[Int.reduceToNat] at a7;rw[←a4.out] at a7));have a1:=Aside0.mk (Kd.R_lower a7 (keep_size (w:=w) (g:=g) (row:=none) (xk_ HK).out));replace HK:=xu_ HK hb;replace HB:=bt_ HB hb;replace HI0:=IsS100.xs HI0 hb;clear hb a7;obtain⟨b8,b9,d0⟩:=Kd.R_slice a1.out;subst d0)|((refine gc_ 90 ?_);refine ge_ 5 Tryz.func90 #[.pointer (some ⟨g,0,none⟩),.slice b8 b3.length b9] ?_;(with_reducible refine mo_ (spec_l01Pick.calls g _ _ w0 _ ?a8 ?a9 ?b0 ?b1 ?b2 A2.out) ?_);(case a8=>exact(xi100_ HI0).out);(case a9=>exact(bw_ HB).out);(case b0=>exact ca_ (Kd.R_reads' a1.out).2.2);(case b1=>exact(Kd.R_reads' a1.out).2.1);(case b2=>exact far_slice (IsS100.own_ne HI0.out a1.out (by decide)));rintro w6 ⟨hi,hb,hk⟩;replace a1:=Aside0.mk (Kd.R_mono (Kd.R_keep (IsS100.apart (show IsS100 w0 _ g a3 a5 a6 from (xi100_ HI0).out) (ra_ a1.out) (by decide)) hk (fun _ h=>h.2)) (fun _ h=>h.1));replace HK:=xt_ HK hk;replace HB:=Aside0.mk (hb);replace HI0:=Aside0.mk (hi);(try clear hb);(try clear hk);(try clear hi)))
 go_ret
 exact⟨es_,(xi100_ HI0).out,(bw_ HB).out,(xk_ HK).out⟩
/-! ### spec_l01Bad: function 88 -/
def spec_l01Bad.f (s0_0:List Int) (s0_1 s0_2 a1_0 a1_1 a1_2:Int):Option (Int×Int×Int×Int×Int):=(spec_l01Next.f s0_0 s0_1 s0_2 40).bind fun bt116=>(if bt116.1=0 then((spec_l01Pick.f s0_0 bt116.2.1 bt116.2.2 (([(-7),7,wrap64 (a1_0 - 1),1099511627776]:List Int))).bind fun bt122=>(some (bt122.1,a1_1,a1_2,bt122.2.1,bt122.2.2))) else(if bt116.1=1 then((spec_l01Pick.f s0_0 bt116.2.1 bt116.2.2 (([(-1),wrap64 (a1_1*7),1099511627776]:List Int))).bind fun bt128=>(some (a1_0,bt128.1,a1_2,bt128.2.1,bt128.2.2))) else(if bt116.1=2 then((spec_l01Pick.f s0_0 bt116.2.1 bt116.2.2 (([(-1),wrap64 (a1_2+1),7]:List Int))).bind fun bt134=>(some (a1_0,a1_1,bt134.1,bt134.2.1,bt134.2.2))) else(some (a1_0,a1_1,a1_2,bt116.2.1,bt116.2.2)))))
theorem spec_l01Bad.calls (g:Nat) {d6:List Int} {f8 f9 a8 a9 b0 r1 r2 r3 r4 r5:Int} (w0 w:World) (hI:IsS100 w0 w g d6 f8 f9) (hB:Below w0.heap.size w0 w) (h:spec_l01Bad.f d6 f8 f9 a8 a9 b0=some (r1,r2,r3,r4,r5)):
  Calls Tryz.prog 88 #[.pointer (some ⟨g,0,none⟩),.agg #[i6 a8,i6 a9,i6 b0]] w fun e w'=>e= .returned (.agg #[i6 r1,i6 r2,i6 r3])∧IsS100 w0 w' g d6 r4 r5∧Below w0.heap.size w0 w'∧KeepBut w w' g none:=by
 have hu42:=Tryz.underlying42
 have HI0:=Aside0.mk hI
 have HK:=Aside0.mk (KeepBut.refl w g none)
 have HL:=Aside0.mk hB.size
 clear hI
 have HW0:=Aside0.mk hB.size
 have HB:=Aside0.mk hB;clear hB;unfold spec_l01Bad.f at h;have H:=h;clear h;replace H:=oc_ H;obtain⟨⟨j6,f6,f7⟩,A3,H⟩:=H;replace H:=ie_ H
 rcases H with ⟨g4,g5,H⟩|⟨c4,g4,g5,H⟩
 ·obtain⟨g6,d0⟩:∃y_:List Int,y_=(([(-7),7,wrap64 (a8 - 1),1099511627776]:List Int)):=⟨_,rfl⟩
  first|rw[←d0,Option.bind_some] at H|rw[←d0] at H|(dsimp only at H;rw[←d0] at H)
  have f3:=Aside0.mk d0;clear d0;replace H:=oc_ H;obtain⟨⟨g7,j7,j8⟩,A5,H⟩:=H
  simp only[Option.some.injEq,Prod.mk.injEq] at H
  obtain⟨rfl,rfl,rfl,rfl,rfl⟩:=H
  go_enter Tryz.func88,Tryz.ntmps88
  go_wp2_with (first|((refine gd_ 3 ?_);refine bx_ 3 #[i6 a8,i6 a9,i6 b0] 42 ?_;intro d7 hg w6 a1 hb;have b2:=xg_ HK hg;have d8:=xh_ HW0 b2;have b8:=IsS100.xl HI0 hg;have a3:=IsS100.xm HI0 hg;replace HK:=xu_ HK hb;replace HI0:=IsS100.xs HI0 hb;replace HB:=bt_ HB hb;clear hb hg)|((refine gd_ 4 ?_);refine bx_ 4 #[i6 0,i6 0,i6 0] 42 ?_;intro b3 hg w7 a2 hb;have b4:=xg_ HK hg;have d9:=xh_ HW0 b4;have a5:=bm_ a1 hg;have b1:=bn_ a1 hg;have b9:=IsS100.xl HI0 hg;have a4:=IsS100.xm HI0 hg;replace a1:=bb_ a1 hb;replace HK:=xu_ HK hb;replace HI0:=IsS100.xs HI0 hb;replace HB:=bt_ HB hb;clear hb hg)|((refine gc_ 61 ?_);refine ge_ 6 Tryz.func61 #[.pointer (some ⟨g,0,none⟩),i6 40] ?_;(with_reducible refine mo_ (spec_l01Next.calls g w0 _ ?a6 ?a7 A3.out) ?_);(case a6=>exact(xi100_ HI0).out);(case a7=>exact(bw_ HB).out);rintro w8 ⟨hi,hb,hk⟩;replace a1:=xb_ hk a1 a3;replace a2:=xb_ hk a2 a4;replace HK:=xt_ HK hk;replace HB:=Aside0.mk (hb);replace HI0:=Aside0.mk (hi);clear hb hk hi;have:=nn_ a5;have:=nn_ a3;have hz11:=ch3_ a1)|((refine gd_ 13 ?_);refine Kd.R_lit (Kd.int .i64) _ 2 ?hg (N:=13) ?hd (xs:=([(-7),7,wrap64 (a8 - 1),1099511627776]:List Int)) (inner:=[i6 (-7),i6 7,i6 (wrap64 (a8 - 1)),i6 1099511627776]) (ok:=fun _=>True) (okp:=fun _=>True) ?hr ?hp (fun _ hk=>hk) trivial (Below.refl _ _) (Nat.le_refl _) (by simp) ?_;(case hd=>rfl);(case hg=>rfl);(case hr=>first|(go_simp;done)|(go_simp;rfl));(case hp=>exact(Reps.one (show Kd.M (Kd.int .i64) _ _ _ (-7) [i6 (-7)] from rfl) (Reps.one (show Kd.M (Kd.int .i64) _ _ _ 7 [i6 7] from rfl) (Reps.one (show Kd.M (Kd.int .i64) _ _ _ (wrap64 (a8 - 1)) [i6 (wrap64 (a8 - 1))] from rfl) (Reps.one (show Kd.M (Kd.int .i64) _ _ _ 1099511627776 [i6 1099511627776] from rfl) (Reps.none _ _))))));intro j9 l8 f0 hb hg_ hnew_;clear hg_ hnew_;(first|rw[←f3.out] at f0|(simp only[Int.reduceToNat] at f0;rw[←f3.out] at f0));have b5:=Aside0.mk (Kd.R_lower f0 (keep_size (w:=w) (g:=g) (row:=none) (xk_ HK).out));replace a1:=bb_ a1 hb;replace a2:=bb_ a2 hb;replace HK:=xu_ HK hb;replace HB:=bt_ HB hb;replace HI0:=IsS100.xs HI0 hb;clear hb f0;obtain⟨g8,g9,i4⟩:=Kd.R_slice b5.out;subst i4)|((refine gc_ 90 ?_);refine ge_ 14 Tryz.func90 #[.pointer (some ⟨g,0,none⟩),.slice g8 g6.length g9] ?_;(with_reducible refine mo_ (spec_l01Pick.calls g _ _ w0 _ ?a6 ?a7 ?d1 ?d2 ?d3 A5.out) ?_);(case a6=>exact(xi100_ HI0).out);(case a7=>exact(bw_ HB).out);(case d1=>exact ca_ (Kd.R_reads' b5.out).2.2);(case d2=>exact(Kd.R_reads' b5.out).2.1);(case d3=>exact far_slice (IsS100.own_ne HI0.out b5.out (by decide)));rintro l9 ⟨hi,hb,hk⟩;replace a1:=xb_ hk a1 a3;replace a2:=xb_ hk a2 a4;replace b5:=Aside0.mk (Kd.R_mono (Kd.R_keep (IsS100.apart (show IsS100 w0 _ g d6 f6 f7 from (xi100_ HI0).out) (ra_ b5.out) (by decide)) hk (fun _ h=>h.2)) (fun _ h=>h.1));replace HK:=xt_ HK hk;replace HB:=Aside0.mk (hb);replace HI0:=Aside0.mk (hi);(try clear hb);(try clear hk);(try clear hi);have hz16:=ch3_ a1;have:=nn_ a4;have hz18:=ch3_ a2))
  refine bodyPost_ret (results_cell_row rfl _ _ b3 42 #[i6 g7,i6 a9,i6 b0] (0,0) _ rfl (bp_ a2).out Tryz.underlying42 rfl (by kernel_rfl)) rfl ?_
  exact⟨es_,(xi100_ HI0).out,(bw_ HB).out,(xk_ HK).out⟩
 replace H:=ie_ H
 rcases H with ⟨g0,g1,H⟩|⟨m1,g0,g1,H⟩
 ·obtain⟨i5,d4⟩:∃y_:List Int,y_=(([(-1),wrap64 (a9*7),1099511627776]:List Int)):=⟨_,rfl⟩
  first|rw[←d4,Option.bind_some] at H|rw[←d4] at H|(dsimp only at H;rw[←d4] at H)
  have f4:=Aside0.mk d4;clear d4;replace H:=oc_ H;obtain⟨⟨i7,l0,l1⟩,l2,H⟩:=H
  simp only[Option.some.injEq,Prod.mk.injEq] at H
  obtain⟨rfl,rfl,rfl,rfl,rfl⟩:=H
  go_enter Tryz.func88,Tryz.ntmps88
  go_wp2_with (first|((refine gd_ 3 ?_);refine bx_ 3 #[i6 a8,i6 a9,i6 b0] 42 ?_;intro d7 hg m2 a1 hb;have b2:=xg_ HK hg;have d8:=xh_ HW0 b2;have b8:=IsS100.xl HI0 hg;have a3:=IsS100.xm HI0 hg;replace HK:=xu_ HK hb;replace HI0:=IsS100.xs HI0 hb;replace HB:=bt_ HB hb;clear hb hg)|((refine gd_ 4 ?_);refine bx_ 4 #[i6 0,i6 0,i6 0] 42 ?_;intro b3 hg m3 a2 hb;have b4:=xg_ HK hg;have d9:=xh_ HW0 b4;have a5:=bm_ a1 hg;have b1:=bn_ a1 hg;have b9:=IsS100.xl HI0 hg;have a4:=IsS100.xm HI0 hg;replace a1:=bb_ a1 hb;replace HK:=xu_ HK hb;replace HI0:=IsS100.xs HI0 hb;replace HB:=bt_ HB hb;clear hb hg)|((refine gc_ 61 ?_);refine ge_ 6 Tryz.func61 #[.pointer (some ⟨g,0,none⟩),i6 40] ?_;(with_reducible refine mo_ (spec_l01Next.calls g w0 _ ?a6 ?a7 A3.out) ?_);(case a6=>exact(xi100_ HI0).out);(case a7=>exact(bw_ HB).out);rintro m4 ⟨hi,hb,hk⟩;replace a1:=xb_ hk a1 a3;replace a2:=xb_ hk a2 a4;replace HK:=xt_ HK hk;replace HB:=Aside0.mk (hb);replace HI0:=Aside0.mk (hi);clear hb hk hi;have:=nn_ a5;have:=nn_ a3;have hz26:=ch3_ a1)|((refine gd_ 22 ?_);refine Kd.R_lit (Kd.int .i64) _ 2 ?hg (N:=22) ?hd (xs:=([(-1),wrap64 (a9*7),1099511627776]:List Int)) (inner:=[i6 (-1),i6 (wrap64 (a9*7)),i6 1099511627776]) (ok:=fun _=>True) (okp:=fun _=>True) ?hr ?hp (fun _ hk=>hk) trivial (Below.refl _ _) (Nat.le_refl _) (by simp) ?_;(case hd=>rfl);(case hg=>rfl);(case hr=>first|(go_simp;done)|(go_simp;rfl));(case hp=>exact(Reps.one (show Kd.M (Kd.int .i64) _ _ _ (-1) [i6 (-1)] from rfl) (Reps.one (show Kd.M (Kd.int .i64) _ _ _ (wrap64 (a9*7)) [i6 (wrap64 (a9*7))] from rfl) (Reps.one (show Kd.M (Kd.int .i64) _ _ _ 1099511627776 [i6 1099511627776] from rfl) (Reps.none _ _)))));intro l3 m5 f1 hb hg_ hnew_;clear hg_ hnew_;(first|rw[←f4.out] at f1|(simp only[Int.reduceToNat] at f1;rw[←f4.out] at f1));have b6:=Aside0.mk (Kd.R_lower f1 (keep_size (w:=w) (g:=g) (row:=none) (xk_ HK).out));replace a1:=bb_ a1 hb;replace a2:=bb_ a2 hb;replace HK:=xu_ HK hb;replace HB:=bt_ HB hb;replace HI0:=IsS100.xs HI0 hb;clear hb f1;obtain⟨i8,i9,j0⟩:=Kd.R_slice b6.out;subst j0)|((refine gc_ 90 ?_);refine ge_ 23 Tryz.func90 #[.pointer (some ⟨g,0,none⟩),.slice i8 i5.length i9] ?_;(with_reducible refine mo_ (spec_l01Pick.calls g _ _ w0 _ ?a6 ?a7 ?d1 ?d2 ?d3 l2.out) ?_);(case a6=>exact(xi100_ HI0).out);(case a7=>exact(bw_ HB).out);(case d1=>exact ca_ (Kd.R_reads' b6.out).2.2);(case d2=>exact(Kd.R_reads' b6.out).2.1);(case d3=>exact far_slice (IsS100.own_ne HI0.out b6.out (by decide)));rintro m6 ⟨hi,hb,hk⟩;replace a1:=xb_ hk a1 a3;replace a2:=xb_ hk a2 a4;replace b6:=Aside0.mk (Kd.R_mono (Kd.R_keep (IsS100.apart (show IsS100 w0 _ g d6 f6 f7 from (xi100_ HI0).out) (ra_ b6.out) (by decide)) hk (fun _ h=>h.2)) (fun _ h=>h.1));replace HK:=xt_ HK hk;replace HB:=Aside0.mk (hb);replace HI0:=Aside0.mk (hi);(try clear hb);(try clear hk);(try clear hi);have hz31:=ch3_ a1;have:=nn_ a4;have hz33:=ch3_ a2))
  refine bodyPost_ret (results_cell_row rfl _ _ b3 42 #[i6 a8,i6 i7,i6 b0] (0,0) _ rfl (bp_ a2).out Tryz.underlying42 rfl (by kernel_rfl)) rfl ?_
  exact⟨es_,(xi100_ HI0).out,(bw_ HB).out,(xk_ HK).out⟩
 replace H:=ie_ H
 rcases H with ⟨g2,g3,H⟩|⟨m7,g2,g3,H⟩
 ·obtain⟨j1,d5⟩:∃y_:List Int,y_=(([(-1),wrap64 (b0+1),7]:List Int)):=⟨_,rfl⟩
  first|rw[←d5,Option.bind_some] at H|rw[←d5] at H|(dsimp only at H;rw[←d5] at H)
  have f5:=Aside0.mk d5;clear d5;replace H:=oc_ H;obtain⟨⟨j2,l4,l5⟩,l6,H⟩:=H
  simp only[Option.some.injEq,Prod.mk.injEq] at H
  obtain⟨rfl,rfl,rfl,rfl,rfl⟩:=H
  go_enter Tryz.func88,Tryz.ntmps88
  go_wp2_with (first|((refine gd_ 3 ?_);refine bx_ 3 #[i6 a8,i6 a9,i6 b0] 42 ?_;intro d7 hg m8 a1 hb;have b2:=xg_ HK hg;have d8:=xh_ HW0 b2;have b8:=IsS100.xl HI0 hg;have a3:=IsS100.xm HI0 hg;replace HK:=xu_ HK hb;replace HI0:=IsS100.xs HI0 hb;replace HB:=bt_ HB hb;clear hb hg)|((refine gd_ 4 ?_);refine bx_ 4 #[i6 0,i6 0,i6 0] 42 ?_;intro b3 hg m9 a2 hb;have b4:=xg_ HK hg;have d9:=xh_ HW0 b4;have a5:=bm_ a1 hg;have b1:=bn_ a1 hg;have b9:=IsS100.xl HI0 hg;have a4:=IsS100.xm HI0 hg;replace a1:=bb_ a1 hb;replace HK:=xu_ HK hb;replace HI0:=IsS100.xs HI0 hb;replace HB:=bt_ HB hb;clear hb hg)|((refine gc_ 61 ?_);refine ge_ 6 Tryz.func61 #[.pointer (some ⟨g,0,none⟩),i6 40] ?_;(with_reducible refine mo_ (spec_l01Next.calls g w0 _ ?a6 ?a7 A3.out) ?_);(case a6=>exact(xi100_ HI0).out);(case a7=>exact(bw_ HB).out);rintro n0 ⟨hi,hb,hk⟩;replace a1:=xb_ hk a1 a3;replace a2:=xb_ hk a2 a4;replace HK:=xt_ HK hk;replace HB:=Aside0.mk (hb);replace HI0:=Aside0.mk (hi);clear hb hk hi;have:=nn_ a5;have:=nn_ a3;have hz41:=ch3_ a1)|((refine gd_ 31 ?_);refine Kd.R_lit (Kd.int .i64) _ 2 ?hg (N:=31) ?hd (xs:=([(-1),wrap64 (b0+1),7]:List Int)) (inner:=[i6 (-1),i6 (wrap64 (b0+1)),i6 7]) (ok:=fun _=>True) (okp:=fun _=>True) ?hr ?hp (fun _ hk=>hk) trivial (Below.refl _ _) (Nat.le_refl _) (by simp) ?_;(case hd=>rfl);(case hg=>rfl);(case hr=>first|(go_simp;done)|(go_simp;rfl));(case hp=>exact(Reps.one (show Kd.M (Kd.int .i64) _ _ _ (-1) [i6 (-1)] from rfl) (Reps.one (show Kd.M (Kd.int .i64) _ _ _ (wrap64 (b0+1)) [i6 (wrap64 (b0+1))] from rfl) (Reps.one (show Kd.M (Kd.int .i64) _ _ _ 7 [i6 7] from rfl) (Reps.none _ _)))));intro l7 n1 f2 hb hg_ hnew_;clear hg_ hnew_;(first|rw[←f5.out] at f2|(simp only[Int.reduceToNat] at f2;rw[←f5.out] at f2));have b7:=Aside0.mk (Kd.R_lower f2 (keep_size (w:=w) (g:=g) (row:=none) (xk_ HK).out));replace a1:=bb_ a1 hb;replace a2:=bb_ a2 hb;replace HK:=xu_ HK hb;replace HB:=bt_ HB hb;replace HI0:=IsS100.xs HI0 hb;clear hb f2;obtain⟨j3,j4,j5⟩:=Kd.R_slice b7.out;subst j5)|((refine gc_ 90 ?_);refine ge_ 32 Tryz.func90 #[.pointer (some ⟨g,0,none⟩),.slice j3 j1.length j4] ?_;(with_reducible refine mo_ (spec_l01Pick.calls g _ _ w0 _ ?a6 ?a7 ?d1 ?d2 ?d3 l6.out) ?_);(case a6=>exact(xi100_ HI0).out);(case a7=>exact(bw_ HB).out);(case d1=>exact ca_ (Kd.R_reads' b7.out).2.2);(case d2=>exact(Kd.R_reads' b7.out).2.1);(case d3=>exact far_slice (IsS100.own_ne HI0.out b7.out (by decide)));rintro n2 ⟨hi,hb,hk⟩;replace a1:=xb_ hk a1 a3;replace a2:=xb_ hk a2 a4;replace b7:=Aside0.mk (Kd.R_mono (Kd.R_keep (IsS100.apart (show IsS100 w0 _ g d6 f6 f7 from (xi100_ HI0).out) (ra_ b7.out) (by decide)) hk (fun _ h=>h.2)) (fun _ h=>h.1));replace HK:=xt_ HK hk;replace HB:=Aside0.mk (hb);replace HI0:=Aside0.mk (hi);(try clear hb);(try clear hk);(try clear hi);have hz46:=ch3_ a1;have:=nn_ a4;have hz48:=ch3_ a2))
  refine bodyPost_ret (results_cell_row rfl _ _ b3 42 #[i6 a8,i6 a9,i6 j2] (0,0) _ rfl (bp_ a2).out Tryz.underlying42 rfl (by kernel_rfl)) rfl ?_
  exact⟨es_,(xi100_ HI0).out,(bw_ HB).out,(xk_ HK).out⟩
 simp only[Option.some.injEq,Prod.mk.injEq] at H
 obtain⟨rfl,rfl,rfl,rfl,rfl⟩:=H
 go_enter Tryz.func88,Tryz.ntmps88
 go_wp2_with (first|((refine gd_ 3 ?_);refine bx_ 3 #[i6 a8,i6 a9,i6 b0] 42 ?_;intro d7 hg n3 a1 hb;have b2:=xg_ HK hg;have d8:=xh_ HW0 b2;have b8:=IsS100.xl HI0 hg;have a3:=IsS100.xm HI0 hg;replace HK:=xu_ HK hb;replace HI0:=IsS100.xs HI0 hb;replace HB:=bt_ HB hb;clear hb hg)|((refine gd_ 4 ?_);refine bx_ 4 #[i6 0,i6 0,i6 0] 42 ?_;intro b3 hg n4 a2 hb;have b4:=xg_ HK hg;have d9:=xh_ HW0 b4;have a5:=bm_ a1 hg;have b1:=bn_ a1 hg;have b9:=IsS100.xl HI0 hg;have a4:=IsS100.xm HI0 hg;replace a1:=bb_ a1 hb;replace HK:=xu_ HK hb;replace HI0:=IsS100.xs HI0 hb;replace HB:=bt_ HB hb;clear hb hg)|((refine gc_ 61 ?_);refine ge_ 6 Tryz.func61 #[.pointer (some ⟨g,0,none⟩),i6 40] ?_;(with_reducible refine mo_ (spec_l01Next.calls g w0 _ ?a6 ?a7 A3.out) ?_);(case a6=>exact(xi100_ HI0).out);(case a7=>exact(bw_ HB).out);rintro n5 ⟨hi,hb,hk⟩;replace a1:=xb_ hk a1 a3;replace a2:=xb_ hk a2 a4;replace HK:=xt_ HK hk;replace HB:=Aside0.mk (hb);replace HI0:=Aside0.mk (hi);clear hb hk hi;have:=nn_ a5;have:=nn_ a3;have hz54:=ch3_ a1;have:=nn_ a4;have hz56:=ch3_ a2))
 refine bodyPost_ret (results_cell_row rfl _ _ b3 42 #[i6 a8,i6 a9,i6 b0] (0,0) _ rfl (bp_ a2).out Tryz.underlying42 rfl (by kernel_rfl)) rfl ?_
 exact⟨es_,(xi100_ HI0).out,(bw_ HB).out,(xk_ HK).out⟩
end Go.Proofs.YtblmdppbbdbbjabGreat.QP
