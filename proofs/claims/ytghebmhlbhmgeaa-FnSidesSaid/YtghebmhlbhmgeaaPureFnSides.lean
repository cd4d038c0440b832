/- FnSides: both texts move sides alike, moved sides have the moved ends, the mover of two balls is free; no condition beyond the row's. -/
import Derived.Test.YtghebmhlbhmgeaaTXd
import Derived.Test.YtghebmhlbhmgeaaWSized
namespace Go.Proofs.Ytghebmhlbhmgeaa.PrintWords
open Go.ChangeShapes Go.WideShapes
/-- The name by which the printed row calls the word. -/
theorem sized_ints {H:Type} {enc:TypeId×Value→H} {P:Program} {W:World} {base:Nat} {spare:Nat→Bool} {held:Bool} {t e:TypeId} {k:IntKind} {a:Option Addr} {len cap:Nat} {d:DataW H} {ps:List MemPlace} {ts:List TypeId} {ds:List (DataW H)} {j:Nat}
    (hsz: (DataW.weightsEach P ts ds).all (·≤reachBytes)=true) (ht:ts[j]? =some t) (hd:ds[j]? =some d) (hu:P.underlying t=some (.slice e)) (he:P.underlying e=some (.int k)) (hc:P.cellsOf e=1) {B:Nat} (hB:P.bytesOf e=B)
    (h:DataW.Trod enc P W base spare held t (.slice a len cap) d ps):len*B≤140737488351232:=
  Go.Proofs.YtghebmhlbhmgeaaW.PrintWords.sized_ints hsz ht hd hu he hc hB h
end Go.Proofs.Ytghebmhlbhmgeaa.PrintWords
namespace Go.Proofs.Ytghebmhlbhmgeaa.Pure
open Go.RowKit Go.Proofs.Ytghebmhlbhmgeaa.QS Go.Proofs.YtghebmhlbhmgeaaW.PrintWords Go.Proofs.YtghebmhlbhmgeaaW.PrintLast
set_option linter.unusedVariables false
set_option linter.unusedSimpArgs false
set_option linter.unusedSectionVars false
theorem wid {n:Int} (h0: -9223372036854775808≤n:=by omega) (h1:n≤9223372036854775807:=by omega):wrap64 n=n:=by unfold wrap64;omega
theorem Ev.val {α:Type} {o:Option α} {r:α} (h:o=some r):Ev (fun _=>o) r:=⟨0,fun _ _=>h⟩
theorem Ev.bindv {α β:Type} {o:Option α} {f:Nat→α→Option β} {a:α} {r:β} (h:o=some a) (k:Ev (fun n=>f n a) r):Ev (fun n=>o.bind (f n)) r:=by
  subst h;exact k
def entB (x:Int):Bool:=decide (-1000≤x∧x≤1000)
def matB (a b c d:Int):Bool:=(entB a&&(entB b&&(entB c&&entB d)))&&!(a*d - b*c==0)
theorem ent_lo {x:Int} (h:entB x=true): -1000≤x:=by unfold entB at h;simp at h;omega
theorem ent_hi {x:Int} (h:entB x=true):x≤1000:=by unfold entB at h;simp at h;omega
theorem mul_bd {x y m n:Int} (hx: -m≤x) (hx2:x≤m) (hy: -n≤y) (hy2:y≤n) (hm:0≤m) (hn:0≤n): -(m*n)≤x*y∧x*y≤m*n:=by
  have h1:=Int.mul_nonneg (show 0≤m - x by omega) (show 0≤n - y by omega)
  have h2:=Int.mul_nonneg (show 0≤m+x by omega) (show 0≤n+y by omega)
  have h3:=Int.mul_nonneg (show 0≤m - x by omega) (show 0≤n+y by omega)
  have h4:=Int.mul_nonneg (show 0≤m+x by omega) (show 0≤n - y by omega)
  simp only[Int.sub_mul,Int.mul_sub,Int.add_mul,Int.mul_add] at h1 h2 h3 h4
  constructor<;>omega
theorem det_bd {a b c d m:Int} (hm:0≤m) (ha: -m≤a∧a≤m) (hb: -m≤b∧b≤m) (hc: -m≤c∧c≤m) (hd: -m≤d∧d≤m): (-(m*m)≤a*d∧a*d≤m*m)∧(-(m*m)≤b*c∧b*c≤m*m):=
  ⟨mul_bd ha.1 ha.2 hd.1 hd.2 hm hm,mul_bd hb.1 hb.2 hc.1 hc.2 hm hm⟩
theorem mx_abs (a:Int) (h: -9223372036854775807≤a) (h2:a≤9223372036854775807):mx a (wrap64 (-a))=(a.natAbs:Int):=by
  rw[wid (by omega) (by omega)];unfold mx;split<;>omega
theorem gcd_step (a b:Int) (h:b≠0):Int.gcd b (Int.tmod a b)=Int.gcd a b:=by
  unfold Int.gcd
  rw[Int.natAbs_tmod,Nat.gcd_comm a.natAbs b.natAbs]
  conv=>rhs;rw[Nat.gcd_rec]
  rw[Nat.gcd_comm]
def bd62 (x:Int):Prop:= -4611686018427387904≤x∧x≤4611686018427387904
def g4 (a b c d:Int):Int:=(Int.gcd (Int.gcd a b:Int) (Int.gcd c d:Int):Int)
def sg (a b:Int):Int:=if a<0∨(a=0∧b<0) then -1 else 1
def byM (a b c d:Int):Int:=g4 a b c d*sg a b
theorem sg_or (a b:Int):sg a b=1∨sg a b= -1:=by unfold sg;split<;>simp
theorem g4_nonneg (a b c d:Int):0≤g4 a b c d:=by unfold g4;omega
theorem g4_dvd (a b c d:Int):g4 a b c d∣a∧g4 a b c d∣b∧g4 a b c d∣c∧g4 a b c d∣d:=by
  unfold g4
  have h1:=Int.gcd_dvd_left (Int.gcd a b:Int) (Int.gcd c d:Int)
  have h2:=Int.gcd_dvd_right (Int.gcd a b:Int) (Int.gcd c d:Int)
  exact⟨Int.dvd_trans h1 (Int.gcd_dvd_left a b),Int.dvd_trans h1 (Int.gcd_dvd_right a b),Int.dvd_trans h2 (Int.gcd_dvd_left c d),Int.dvd_trans h2 (Int.gcd_dvd_right c d)⟩
theorem g4_ne {a b:Int} (c d:Int) (h:a≠0∨b≠0):g4 a b c d≠0:=by
  intro e
  obtain⟨h1,h2,_⟩:=g4_dvd a b c d
  rw[e] at h1 h2
  rcases h with h|h
  · exact h (Int.zero_dvd.1 h1)
  · exact h (Int.zero_dvd.1 h2)
theorem byM_ne {a b:Int} (c d:Int) (h:a≠0∨b≠0):byM a b c d≠0:=by
  have:=g4_ne c d h
  unfold byM
  rcases sg_or a b with e|e<;>rw[e]<;>omega
theorem byM_dvd (a b c d:Int):byM a b c d∣a∧byM a b c d∣b∧byM a b c d∣c∧byM a b c d∣d:=by
  have h:=g4_dvd a b c d
  unfold byM
  rcases sg_or a b with e|e<;>rw[e]
  · simpa using h
  · simpa using h
theorem gcd_le {a b M:Int} (ha: -M≤a∧a≤M) (hb: -M≤b∧b≤M): (Int.gcd a b:Int)≤M:=by
  by_cases h:a=0
  · subst h;rw[Int.gcd_zero_left];omega
  · have:Int.gcd a b≤a.natAbs:=Nat.gcd_le_left _ (by omega)
    omega
theorem tdiv_bd {x M:Int} (g:Int) (hx: -M≤x∧x≤M): -M≤Int.tdiv x g∧Int.tdiv x g≤M:=by
  have:=Int.natAbs_tdiv_le_natAbs x g
  omega
theorem redDet {a b c d:Int} (h:a*d - b*c≠0):Int.tdiv a (byM a b c d)*Int.tdiv d (byM a b c d) - Int.tdiv b (byM a b c d)*Int.tdiv c (byM a b c d)≠0:=by
  obtain⟨h1,h2,h3,h4⟩:=byM_dvd a b c d
  generalize byM a b c d=m at*
  have e1:=Int.tdiv_mul_cancel h1
  have e2:=Int.tdiv_mul_cancel h2
  have e3:=Int.tdiv_mul_cancel h3
  have e4:=Int.tdiv_mul_cancel h4
  generalize Int.tdiv a m=a' at*
  generalize Int.tdiv b m=b' at*
  generalize Int.tdiv c m=c' at*
  generalize Int.tdiv d m=d' at*
  intro e
  apply h
  rw[←e1,←e2,←e3,←e4]
  have:a'*m*(d'*m) - b'*m*(c'*m)=(a'*d' - b'*c')*(m*m):=by
    rw[Int.sub_mul];simp only[Int.mul_assoc,Int.mul_comm,Int.mul_left_comm]
  rw[this,e,Int.zero_mul]
def rM (a b c d x:Int):Int:=Int.tdiv x (byM a b c d)
def fitM (a b c d:Int):Bool:=entB (rM a b c d a)&&(entB (rM a b c d b)&&(entB (rM a b c d c)&&entB (rM a b c d d)))
theorem matB_red {a b c d:Int} (h:a*d - b*c≠0):matB (rM a b c d a) (rM a b c d b) (rM a b c d c) (rM a b c d d)=fitM a b c d:=by
  unfold matB fitM rM
  rw[beq_eq_false_iff_ne.2 (redDet h),Bool.not_false,Bool.and_true]
theorem rowNe {a b c d:Int} (h:a*d - b*c≠0):a≠0∨b≠0:=by
  by_cases ha:a=0
  · right;intro hb;apply h;rw[ha,hb];simp
  · left;exact ha
theorem gcd_mul (m a b:Int): (Int.gcd (m*a) (m*b):Int)=(m.natAbs:Int)*(Int.gcd a b:Int):=by
  rw[Int.gcd_mul_left];simp
theorem g4_mul (m a b c d:Int):g4 (m*a) (m*b) (m*c) (m*d)=(m.natAbs:Int)*g4 a b c d:=by
  unfold g4
  rw[gcd_mul,gcd_mul,gcd_mul,Int.natAbs_natCast]
theorem sg_mul {m a b:Int} (hm:m≠0) (h:a≠0∨b≠0):sg (m*a) (m*b)=(if m<0 then -1 else 1)*sg a b:=by
  have key:∀x:Int,(m*x<0↔if m<0 then 0<x else x<0):=by
    intro x
    by_cases hn:m<0
    · rw[if_pos hn]
      constructor
      · intro h1
        rcases Int.lt_trichotomy x 0 with h2|h2|h2
        · have:=Int.mul_pos_of_neg_of_neg hn h2;omega
        · subst h2;simp at h1
        · exact h2
      · intro h1;exact Int.mul_neg_of_neg_of_pos hn h1
    · rw[if_neg hn]
      have hp:0<m:=by omega
      constructor
      · intro h1
        rcases Int.lt_trichotomy x 0 with h2|h2|h2
        · exact h2
        · subst h2;simp at h1
        · have:=Int.mul_pos hp h2;omega
      · intro h1;exact Int.mul_neg_of_pos_of_neg hp h1
  have z:m*a=0↔a=0:=by
    rw[Int.mul_eq_zero]
    constructor
    · intro h
      rcases h with h|h
      · exact absurd h hm
      · exact h
    · intro h;exact .inr h
  have ka:=key a
  have kb:=key b
  unfold sg
  by_cases hn:m<0
  · rw[if_pos hn] at ka kb
    rw[if_pos hn]
    by_cases h1:a<0
    · rw[if_neg (by rw[ka,kb,z];omega),if_pos (.inl h1)];rfl
    · by_cases h2:a=0
      · by_cases h3:b<0
        · rw[if_neg (by rw[ka,kb,z];omega),if_pos (.inr ⟨h2,h3⟩)];rfl
        · rw[if_pos (by rw[ka,kb,z];omega),if_neg (by omega)];rfl
      · rw[if_pos (by rw[ka,kb,z];omega),if_neg (by omega)];rfl
  · rw[if_neg hn] at ka kb
    rw[if_neg hn,Int.one_mul]
    by_cases h1:a<0∨(a=0∧b<0)
    · rw[if_pos h1,if_pos (by rw[ka,kb,z];exact h1)]
    · rw[if_neg h1,if_neg (by rw[ka,kb,z];exact h1)]
theorem byM_mul {m a b:Int} (c d:Int) (hm:m≠0) (h:a≠0∨b≠0):byM (m*a) (m*b) (m*c) (m*d)=m*byM a b c d:=by
  unfold byM
  rw[g4_mul,sg_mul hm h]
  by_cases hn:m<0
  · rw[if_pos hn,show (m.natAbs:Int)= -m from by omega]
    simp only[Int.neg_mul,Int.mul_neg,Int.one_mul,Int.neg_neg,Int.mul_assoc]
  · rw[if_neg hn,show (m.natAbs:Int)=m from by omega,Int.one_mul,Int.mul_assoc]
theorem tdiv_mul_same {m x y:Int} (hm:m≠0) (h:y∣x):Int.tdiv (m*x) (m*y)=Int.tdiv x y:=by
  obtain⟨q,rfl⟩:=h
  by_cases hy:y=0
  · subst hy;simp
  · rw[←Int.mul_assoc,Int.mul_tdiv_cancel_left _ (Int.mul_ne_zero hm hy),Int.mul_tdiv_cancel_left _ hy]
theorem rM_mul {m a b:Int} (c d:Int) (hm:m≠0) (h:a≠0∨b≠0):rM (m*a) (m*b) (m*c) (m*d) (m*a)=rM a b c d a∧rM (m*a) (m*b) (m*c) (m*d) (m*b)=rM a b c d b∧rM (m*a) (m*b) (m*c) (m*d) (m*c)=rM a b c d c∧rM (m*a) (m*b) (m*c) (m*d) (m*d)=rM a b c d d:=by
  obtain⟨h1,h2,h3,h4⟩:=byM_dvd a b c d
  unfold rM
  rw[byM_mul c d hm h]
  exact⟨tdiv_mul_same hm h1,tdiv_mul_same hm h2,tdiv_mul_same hm h3,tdiv_mul_same hm h4⟩
theorem impl_gcd_l (n:Nat):∀(a b:Int),b.natAbs<n→ -9223372036854775807≤a→a≤9223372036854775807→ -9223372036854775807≤b→b≤9223372036854775807→Ev (fun k=>impl_gcd.l0 k a b) (Int.gcd a b:Int):=by
  induction n with
  |zero=>intro a b h;omega
  |succ n ih=>
   intro a b hn ha1 ha2 hb1 hb2
   by_cases hb:b=0
   · subst hb
     refine Ev.step (f:=fun _=>some (mx a (wrap64 (-a)))) (fun k=>by simp only[impl_gcd.l0,if_true]) ?_
     rw[mx_abs a ha1 ha2,Int.gcd_zero_right];exact Ev.now _
   · have hlt: (Int.tmod a b).natAbs<b.natAbs:=by rw[Int.natAbs_tmod];exact Nat.mod_lt _ (by omega)
     refine Ev.step (f:=fun k=>impl_gcd.l0 k b (Int.tmod a b)) (fun k=>by simp only[impl_gcd.l0];rw[if_neg hb]) ?_
     rw[←gcd_step a b hb]
     exact ih _ _ (by omega) hb1 hb2 (by omega) (by omega)
theorem impl_gcd_ev (a b:Int) (ha1: -9223372036854775807≤a) (ha2:a≤9223372036854775807) (hb1: -9223372036854775807≤b) (hb2:b≤9223372036854775807):Ev (fun k=>impl_gcd.f k a b) (Int.gcd a b:Int):=by
  unfold impl_gcd.f
  exact impl_gcd_l (b.natAbs+1) a b (by omega) ha1 ha2 hb1 hb2
theorem rd_nat (l:List Int) (j:Nat) (h:j<l.length):rd l (j:Int)=l[j]:=by
  unfold rd;rw[Int.toNat_natCast,List.getD_eq_getElem?_getD,List.getElem?_eq_getElem h];rfl
theorem all_ev {β:Type} (g:Nat→Int→Option β) (n:Nat) (p:Nat→Bool) (yes no:β)
    (hstep:∀(i:Nat),i<n→p i=true→Ev (fun k=>g k ((i:Int)+1)) yes→Ev (fun k=>g k i) yes)
    (hstepno:∀(i:Nat),i<n→p i=true→Ev (fun k=>g k ((i:Int)+1)) no→Ev (fun k=>g k i) no)
    (hno:∀(i:Nat),i<n→p i=false→Ev (fun k=>g k i) no)
    (hend:Ev (fun k=>g k n) yes):Ev (fun k=>g k 0) (if (List.range n).all p then yes else no):=by
  have key:∀(d i:Nat),i+d=n→Ev (fun k=>g k i) (if (List.range' i d).all p then yes else no):=by
    intro d
    induction d with
    |zero=>intro i hi;have:i=n:=by omega
           subst this;simpa using hend
    |succ d ih=>
     intro i hi
     have h:=ih (i+1) (by omega)
     rw[List.range'_succ,List.all_cons]
     cases e:p i with
     |false=>simpa using hno i (by omega) e
     |true=>
      rw[Bool.true_and]
      have e1: (((i+1:Nat):Int))=(i:Int)+1:=by omega
      rw[e1] at h
      cases e2: (List.range' (i+1) d).all p with
      |true=>rw[e2] at h;exact hstep i (by omega) e h
      |false=>rw[e2] at h;exact hstepno i (by omega) e h
  have:=key n 0 (by omega)
  rw[←List.range_eq_range'] at this
  exact this
theorem all_range_rd (l:List Int) (q:Int→Bool): (List.range l.length).all (fun i=>q (rd l (i:Int)))=l.all q:=by
  rw[Bool.eq_iff_iff]
  simp only[List.all_eq_true,List.mem_range]
  constructor
  · intro h x hx
    obtain⟨i,hi,rfl⟩:=List.mem_iff_getElem.1 hx
    have:=h i hi
    rwa [rd_nat l i hi] at this
  · intro h i hi
    rw[rd_nat l i hi]
    exact h _ (List.getElem_mem hi)
theorem all_range_getD {α:Type} (l:List α) (d:α) (q:α→Bool): (List.range l.length).all (fun i=>q (l.getD i d))=l.all q:=by
  rw[Bool.eq_iff_iff]
  simp only[List.all_eq_true,List.mem_range]
  constructor
  · intro h x hx
    obtain⟨i,hi,rfl⟩:=List.mem_iff_getElem.1 hx
    have:=h i hi
    rwa [List.getD_eq_getElem?_getD,List.getElem?_eq_getElem hi] at this
  · intro h i hi
    rw[List.getD_eq_getElem?_getD,List.getElem?_eq_getElem hi]
    exact h _ (List.getElem_mem hi)
theorem all_ev' {β:Type} (g:Nat→Int→Option β) (n:Nat) (p:Nat→Bool) (yes no:β)
    (hstep:∀(i:Nat) (r:β),i<n→p i=true→Ev (fun k=>g k ((i:Int)+1)) r→Ev (fun k=>g k i) r)
    (hno:∀(i:Nat),i<n→p i=false→Ev (fun k=>g k i) no)
    (hend:Ev (fun k=>g k n) yes):Ev (fun k=>g k 0) (if (List.range n).all p then yes else no):=
  all_ev g n p yes no (fun i hi hp h=>hstep i yes hi hp h) (fun i hi hp h=>hstep i no hi hp h) hno hend
theorem ite_tf (b:Bool): (if b then true else false)=b:=by cases b<;>rfl
theorem impl_within_ev (m:Int) (l:List Int) (hm:0≤m) (hm2:m≤4611686018427387904) (hl:l.length≤4611686018427387904):Ev (fun k=>impl_within.f k m l) (l.all (fun x=>decide (-m≤x∧x≤m))):=by
  unfold impl_within.f
  rw[←ite_tf (l.all _),←all_range_rd]
  have w:wrap64 (-m)= -m:=wid (by omega) (by omega)
  refine all_ev' (fun k i=>impl_within.l0 k m l l.length i) l.length (fun i=>decide (-m≤rd l (i:Int)∧rd l (i:Int)≤m)) true false ?_ ?_ ?_
  · intro i r hi hp hr
    have hp:=of_decide_eq_true hp
    refine Ev.step (f:=fun k=>impl_within.l0 k m l l.length ((i:Int)+1)) (fun k=>?_) hr
    simp only[impl_within.l0]
    rw[if_pos (by omega),if_pos (by omega),if_pos (by omega),w,if_neg (by omega),if_neg (by omega),wid (by omega) (by omega)]
  · intro i hi hp
    have hp:=of_decide_eq_false hp
    refine Ev.step (f:=fun _=>some false) (fun k=>?_) (Ev.now _)
    simp only[impl_within.l0]
    rw[if_pos (by omega),if_pos (by omega),if_pos (by omega),w]
    by_cases h:rd l (i:Int)< -m
    · rw[if_pos h]
    · rw[if_neg h,if_pos (by omega)]
  · exact Ev.step (f:=fun _=>some true) (fun k=>by simp only[impl_within.l0];rw[if_neg (by omega)]) (Ev.now _)
theorem impl_determinant_eq {a b c d m:Int} (hm:0≤m) (hm2:m≤2000000000) (ha: -m≤a∧a≤m) (hb: -m≤b∧b≤m) (hc: -m≤c∧c≤m) (hd: -m≤d∧d≤m):impl_determinant.f a b c d=some (a*d - b*c):=by
  have hmm:m*m≤4000000000000000000:=by have:=Int.mul_le_mul hm2 hm2 hm (by omega);omega
  obtain⟨h1,h2⟩:=det_bd hm ha hb hc hd
  unfold impl_determinant.f
  rw[wid (n:=a*d) (by omega) (by omega),wid (n:=b*c) (by omega) (by omega),wid (by omega) (by omega)]
theorem impl_IsMatrix_ev (a b c d:Int):Ev (fun k=>impl_IsMatrix.f k a b c d) (matB a b c d):=by
  unfold impl_IsMatrix.f matB
  refine Ev.bind (impl_within_ev 1000 [a,b,c,d] (by omega) (by omega) (by simp)) ?_
  rw[show ([a,b,c,d]:List Int).all (fun x=>decide (-1000≤x∧x≤1000))=(entB a&&(entB b&&(entB c&&entB d))) from by simp[entB]]
  cases h: (entB a&&(entB b&&(entB c&&entB d))) with
  |false=>simp only[Bool.false_eq_true,if_false,Bool.false_and];exact Ev.now _
  |true=>
   simp only[Bool.and_eq_true] at h
   simp only[if_true,Bool.true_and]
   refine Ev.bindv (impl_determinant_eq (m:=1000) (by omega) (by omega) ⟨ent_lo h.1,ent_hi h.1⟩ ⟨ent_lo h.2.1,ent_hi h.2.1⟩ ⟨ent_lo h.2.2.1,ent_hi h.2.2.1⟩ ⟨ent_lo h.2.2.2,ent_hi h.2.2.2⟩) ?_
   exact Ev.now _
theorem impl_reduced_l {a b c d y:Int} (ha:bd62 a) (hb:bd62 b) (hc:bd62 c) (hd:bd62 d) (hy:y≠0):
    Ev (fun k=>impl_reduced.l0 k y 0 a b c d) (Int.tdiv a y,Int.tdiv b y,Int.tdiv c y,Int.tdiv d y,matB (Int.tdiv a y) (Int.tdiv b y) (Int.tdiv c y) (Int.tdiv d y)):=by
  have w0:wrap64 1=1:=wid (by omega) (by omega)
  have w1:wrap64 2=2:=wid (by omega) (by omega)
  have wx:∀x,bd62 x→wrap64 (Int.tdiv x y)=Int.tdiv x y:=fun x hx=>by have:=tdiv_bd y hx;exact wid (by omega) (by omega)
  refine Ev.step (f:=fun k=>impl_reduced.l1 k y 0 0 0 a b c d) (fun k=>by simp[impl_reduced.l0]) ?_
  refine Ev.step (f:=fun k=>impl_reduced.l1 k y 0 0 1 (Int.tdiv a y) b c d) (fun k=>by simp[impl_reduced.l1,hy,w0,wx a ha]) ?_
  refine Ev.step (f:=fun k=>impl_reduced.l1 k y 0 0 2 (Int.tdiv a y) (Int.tdiv b y) c d) (fun k=>by simp[impl_reduced.l1,hy,w1,wx b hb]) ?_
  refine Ev.step (f:=fun k=>impl_reduced.l0 k y 1 (Int.tdiv a y) (Int.tdiv b y) c d) (fun k=>by simp[impl_reduced.l1,w0]) ?_
  refine Ev.step (f:=fun k=>impl_reduced.l1 k y 1 1 0 (Int.tdiv a y) (Int.tdiv b y) c d) (fun k=>by simp[impl_reduced.l0]) ?_
  refine Ev.step (f:=fun k=>impl_reduced.l1 k y 1 1 1 (Int.tdiv a y) (Int.tdiv b y) (Int.tdiv c y) d) (fun k=>by simp[impl_reduced.l1,hy,w0,wx c hc]) ?_
  refine Ev.step (f:=fun k=>impl_reduced.l1 k y 1 1 2 (Int.tdiv a y) (Int.tdiv b y) (Int.tdiv c y) (Int.tdiv d y)) (fun k=>by simp[impl_reduced.l1,hy,w1,wx d hd]) ?_
  refine Ev.step (f:=fun k=>impl_reduced.l0 k y 2 (Int.tdiv a y) (Int.tdiv b y) (Int.tdiv c y) (Int.tdiv d y)) (fun k=>by simp[impl_reduced.l1,w1]) ?_
  refine Ev.step (f:=fun k=>(impl_IsMatrix.f k (Int.tdiv a y) (Int.tdiv b y) (Int.tdiv c y) (Int.tdiv d y)).bind fun t=>some (Int.tdiv a y,Int.tdiv b y,Int.tdiv c y,Int.tdiv d y,t)) (fun k=>by simp[impl_reduced.l0]) ?_
  exact Ev.bind (impl_IsMatrix_ev _ _ _ _) (Ev.now _)
theorem impl_reduced_ev {a b c d:Int} (ha:bd62 a) (hb:bd62 b) (hc:bd62 c) (hd:bd62 d) (hne:a≠0∨b≠0):
    Ev (fun k=>impl_reduced.f k a b c d) (rM a b c d a,rM a b c d b,rM a b c d c,rM a b c d d,matB (rM a b c d a) (rM a b c d b) (rM a b c d c) (rM a b c d d)):=by
  have k1:=gcd_le ha hb
  have k2:=gcd_le hc hd
  have k3:g4 a b c d≤4611686018427387904:=gcd_le (a:=Int.gcd a b) (b:=Int.gcd c d) (by omega) (by omega)
  have k0:=g4_nonneg a b c d
  have hy:=byM_ne c d hne
  have main:=impl_reduced_l ha hb hc hd hy
  unfold bd62 at ha hb hc hd
  unfold impl_reduced.f
  refine Ev.bind (impl_gcd_ev a b (by omega) (by omega) (by omega) (by omega)) (Ev.bind (impl_gcd_ev c d (by omega) (by omega) (by omega) (by omega)) (Ev.bind (impl_gcd_ev _ _ (by omega) (by omega) (by omega) (by omega)) ?_))
  have neg:sg a b= -1→Ev (fun k=>impl_reduced.j0 k (g4 a b c d) true a b c d) (rM a b c d a,rM a b c d b,rM a b c d c,rM a b c d d,matB (rM a b c d a) (rM a b c d b) (rM a b c d c) (rM a b c d d)):=by
    intro e
    refine Ev.step (f:=fun k=>impl_reduced.j1 k (wrap64 (-(g4 a b c d))) a b c d) (fun k=>by simp[impl_reduced.j0]) ?_
    refine Ev.step (f:=fun k=>impl_reduced.l0 k (wrap64 (-(g4 a b c d))) 0 a b c d) (fun k=>by simp[impl_reduced.j1]) ?_
    rw[wid (n:= -(g4 a b c d)) (by omega) (by omega),show -(g4 a b c d)=byM a b c d from by unfold byM;rw[e];omega]
    exact main
  have pos:sg a b=1→Ev (fun k=>impl_reduced.j0 k (g4 a b c d) false a b c d) (rM a b c d a,rM a b c d b,rM a b c d c,rM a b c d d,matB (rM a b c d a) (rM a b c d b) (rM a b c d c) (rM a b c d d)):=by
    intro e
    refine Ev.step (f:=fun k=>impl_reduced.j1 k (g4 a b c d) a b c d) (fun k=>by simp[impl_reduced.j0]) ?_
    refine Ev.step (f:=fun k=>impl_reduced.l0 k (g4 a b c d) 0 a b c d) (fun k=>by simp[impl_reduced.j1]) ?_
    rw[show g4 a b c d=byM a b c d from by unfold byM;rw[e];omega]
    exact main
  by_cases h1:a<0
  · simp only[if_pos h1];exact neg (by unfold sg;rw[if_pos (.inl h1)])
  · simp only[if_neg h1]
    by_cases h2:a=0
    · simp only[if_pos h2]
      by_cases h3:b<0
      · rw[decide_eq_true h3];exact neg (by unfold sg;rw[if_pos (.inr ⟨h2,h3⟩)])
      · rw[decide_eq_false h3];exact pos (by unfold sg;rw[if_neg (by omega)])
    · simp only[if_neg h2];exact pos (by unfold sg;rw[if_neg (by omega)])
def powW (p:Int):Nat→Int→Int
  |0,acc=>acc
  |n+1,acc=>powW p n (wrap64 (acc*p))
def primeB (p:Int):Bool:=p==2||(p==3||(p==5||p==7))
theorem prime_cases {p:Int} (h:primeB p=true):p=2∨p=3∨p=5∨p=7:=by
  simpa [primeB] using h
theorem prime_lo {p:Int} (h:primeB p=true):2≤p:=by rcases prime_cases h with h|h|h|h<;>omega
theorem prime_hi {p:Int} (h:primeB p=true):p≤7:=by rcases prime_cases h with h|h|h|h<;>omega
theorem ipow_pos {p:Int} (hp:1≤p) (n:Nat): (1:Int)≤p^n:=by
  have:=Int.pow_pos (n:=p) (m:=n) (by omega)
  omega
theorem ipow_mono {p:Int} (hp:1≤p) {m n:Nat} (h:m≤n):p^m≤p^n:=by
  obtain⟨d,rfl⟩:∃d,n=m+d:=⟨n - m,by omega⟩
  rw[Int.pow_add]
  have h1:=ipow_pos hp m
  have h2:=ipow_pos hp d
  have:=Int.mul_le_mul_of_nonneg_left h2 (show 0≤p^m by omega)
  rwa [Int.mul_one] at this
theorem powW_fit (p:Int) (hp:1≤p) (n:Nat):∀(acc:Int),0≤acc→acc*p^n≤9223372036854775807→powW p n acc=acc*p^n:=by
  induction n with
  |zero=>intro acc _ _;simp[powW]
  |succ n ih=>
   intro acc h0 h
   have hpn: (1:Int)≤p^n:=ipow_pos hp n
   have e:acc*p^(n+1)=acc*p*p^n:=by rw[Int.pow_succ,Int.mul_comm (p^n) p,←Int.mul_assoc]
   have h1:0≤acc*p:=Int.mul_nonneg h0 (by omega)
   have h2:acc*p≤acc*p*p^n:=by
      have:=Int.mul_le_mul_of_nonneg_left hpn h1
      rwa [Int.mul_one] at this
   simp only[powW]
   rw[wid (by omega) (by omega),ih _ h1 (by omega),e]
theorem pow_le_top {p:Int} (h:primeB p=true) (n:Nat) (hn:n≤22):p^n≤9223372036854775807:=by
  have hp:=prime_lo h
  have h1:p^n≤p^22:=ipow_mono (by omega) hn
  have h2:p^22≤9223372036854775807:=by
    rcases prime_cases h with rfl|rfl|rfl|rfl<;>decide
  omega
theorem powW_prime {p:Int} (h:primeB p=true) (n:Nat) (hn:n≤22):powW p n 1=p^n:=by
  have hp:=prime_lo h
  rw[powW_fit p (by omega) n 1 (by omega) (by rw[Int.one_mul];exact pow_le_top h n hn),Int.one_mul]
def ballB (p L T D:Int):Bool:=
  primeB p&&(decide (-6≤L∧L≤6)&&(decide (0≤D∧D≤6)&&(if L+D≤0 then T==0&&D==0 else decide (0≤T∧T<p^(L+D).toNat)&&(D==0||!(Int.tmod T p==0)))))
def valF (p:Int):Nat→Int→Nat
  |0,_=>0
  |f+1,n=>if n%p=0 then valF p f (n / p)+1 else 0
def val (p n:Int):Nat:=valF p n.natAbs n
theorem valF_spec {p:Int} (hp:2≤p) (f:Nat):∀n:Int,n≠0→n.natAbs≤f→∃u,n=p^(valF p f n)*u∧¬p∣u:=by
  induction f with
  |zero=>intro n h0 hf;omega
  |succ f ih=>
   intro n h0 hf
   unfold valF
   by_cases h:n%p=0
   · rw[if_pos h]
     obtain⟨q,hq⟩:=Int.dvd_of_emod_eq_zero h
     have hq0:q≠0:=by intro e;subst e;simp at hq;exact h0 hq
     have hdiv:n / p=q:=by rw[hq];exact Int.mul_ediv_cancel_left q (by omega)
     rw[hdiv]
     have hlt:q.natAbs≤f:=by
        have:n.natAbs=p.natAbs*q.natAbs:=by rw[hq,Int.natAbs_mul]
        have h2:2*q.natAbs≤p.natAbs*q.natAbs:=Nat.mul_le_mul_right _ (by omega)
        omega
     obtain⟨u,hu,hn⟩:=ih q hq0 hlt
     refine⟨u,?_,hn⟩
     conv=>lhs;rw[hq,hu]
     rw[Int.pow_succ',Int.mul_assoc]
   · rw[if_neg h]
     exact⟨n,by simp,fun hd=>h (Int.emod_eq_zero_of_dvd hd)⟩
theorem val_spec {p n:Int} (hp:2≤p) (h:n≠0):∃u,n=p^(val p n)*u∧¬p∣u:=valF_spec hp _ n h (Nat.le_refl _)
theorem pow_unique {p u u':Int} (hp:2≤p) (hu:¬p∣u) (hu':¬p∣u'):∀(v v':Nat),p^v*u=p^v'*u'→v=v':=by
  have key:∀(v d:Nat) (x x':Int),¬p∣x→p^v*x=p^(v+(d+1))*x'→False:=by
    intro v d x x' hx h
    rw[Int.pow_add,Int.mul_assoc] at h
    have h2:x=p^(d+1)*x':=Int.eq_of_mul_eq_mul_left (Int.pow_ne_zero (by omega)) h
    apply hx
    rw[h2,Int.pow_succ',Int.mul_assoc]
    exact Int.dvd_mul_right _ _
  intro v v' h
  rcases Nat.lt_trichotomy v v' with h1|h1|h1
  · obtain⟨d,rfl⟩:∃d,v'=v+(d+1):=⟨v' - v - 1,by omega⟩
    exact(key v d u u' hu h).elim
  · exact h1
  · obtain⟨d,rfl⟩:∃d,v=v'+(d+1):=⟨v - v' - 1,by omega⟩
    exact(key v' d u' u hu' h.symm).elim
theorem val_eq {p n u:Int} {v:Nat} (hp:2≤p) (h:n=p^v*u) (hu:¬p∣u):val p n=v:=by
  have hn:n≠0:=by
    intro e;rw[e] at h
    rcases Int.mul_eq_zero.1 h.symm with h|h
    · exact Int.pow_ne_zero (by omega) h
    · exact hu (by rw[h];exact Int.dvd_zero p)
  obtain⟨u',h',hu'⟩:=val_spec hp hn
  exact pow_unique hp hu' hu _ _ (h'.symm.trans h)
theorem val_pow_mul {p e:Int} (j:Nat) (hp:2≤p) (he:e≠0):val p (p^j*e)=j+val p e:=by
  obtain⟨u,h,hu⟩:=val_spec hp he
  refine val_eq hp (u:=u) ?_ hu
  conv=>lhs;rw[h]
  rw[Int.pow_add,Int.mul_assoc]
theorem val_dvd {p n:Int} (hp:2≤p) (h:n≠0) (j:Nat):p^j∣n↔j≤val p n:=by
  obtain⟨u,hu,hn⟩:=val_spec hp h
  constructor
  · rintro⟨q,hq⟩
    rcases Nat.lt_or_ge (val p n) j with h1|h1
    · exfalso
      obtain⟨d,hd⟩:∃d,j=val p n+(d+1):=⟨j - val p n - 1,by omega⟩
      have h2:p^(val p n)*u=p^(val p n)*(p^(d+1)*q):=by
        have e:n=p^(val p n)*(p^(d+1)*q):=by rw[←Int.mul_assoc,←Int.pow_add,←hd];exact hq
        exact hu.symm.trans e
      have h3:=Int.eq_of_mul_eq_mul_left (Int.pow_ne_zero (by omega)) h2
      apply hn
      rw[h3,Int.pow_succ',Int.mul_assoc]
      exact Int.dvd_mul_right _ _
    · exact h1
  · intro h1
    obtain⟨d,hd⟩:∃d,val p n=j+d:=⟨val p n - j,by omega⟩
    refine⟨p^d*u,?_⟩
    conv=>lhs;rw[hu,hd,Int.pow_add,Int.mul_assoc]
theorem val_le_of_lt {p n:Int} (hp:2≤p) (h:n≠0) (j:Nat) (hlt:n.natAbs<2^j):val p n<j:=by
  rcases Nat.lt_or_ge (val p n) j with h1|h1
  · exact h1
  · exfalso
    obtain⟨q,hq⟩:=(val_dvd hp h j).2 h1
    have hq0:q≠0:=by intro e;subst e;simp at hq;exact h hq
    have:n.natAbs=p.natAbs^j*q.natAbs:=by rw[hq,Int.natAbs_mul,Int.natAbs_pow]
    have h2:2^j≤p.natAbs^j:=Nat.pow_le_pow_left (by omega) j
    have h3:p.natAbs^j*1≤p.natAbs^j*q.natAbs:=Nat.mul_le_mul_left _ (by omega)
    omega
theorem tdiv_bdv {x M:Int} (g:Int) (hx: -M≤x∧x≤M): -M≤Int.tdiv x g∧Int.tdiv x g≤M:=by
  have:=Int.natAbs_tdiv_le_natAbs x g
  omega
theorem pow_13 {p:Int} (hp:primeB p=true) (n:Nat) (h:n≤12):p^n≤13841287201:=by
  have hp2:=prime_lo hp
  have h1:p^n≤p^12:=ipow_mono (by omega) h
  have h2:p^12≤13841287201:=by rcases prime_cases hp with rfl|rfl|rfl|rfl<;>decide
  omega
theorem pow_6 {p:Int} (hp:primeB p=true) (n:Nat) (h:n≤6):p^n≤117649:=by
  have hp2:=prime_lo hp
  have h1:p^n≤p^6:=ipow_mono (by omega) h
  have h2:p^6≤117649:=by rcases prime_cases hp with rfl|rfl|rfl|rfl<;>decide
  omega
def markOf (p T D:Int):Int:=T*p^(6 - D).toNat
def ofM (p L X:Int):Int×Int×Int:=
  let x:=X%p^(L+6).toNat
  let dn:Int:=if x=0 then 0 else if (val p x:Int)<6 then 6 - val p x else 0
  (L,x / p^(6 - dn).toNat,dn)
theorem ofM_of {p L X T D:Int} (hp:2≤p) (hx:X%p^(L+6).toNat=T*p^(6 - D).toNat) (hD:0≤D∧D≤6) (hu:D=0∨¬p∣T):ofM p L X=(L,T,D):=by
  unfold ofM
  simp only[hx]
  have hpow:∀j:Nat,p^j≠0:=fun j=>Int.pow_ne_zero (by omega)
  by_cases h0:T*p^(6 - D).toNat=0
  · have hT:T=0:=by
      rcases Int.mul_eq_zero.1 h0 with h|h
      · exact h
      · exact absurd h (hpow _)
    have hD0:D=0:=by
      rcases hu with h|h
      · exact h
      · exact absurd (by rw[hT];exact Int.dvd_zero p) h
    subst hT;subst hD0
    simp
  · rw[if_neg h0]
    have hT:T≠0:=by intro e;rw[e] at h0;simp at h0
    have hv:val p (T*p^(6 - D).toNat)=(6 - D).toNat+val p T:=by rw[Int.mul_comm];exact val_pow_mul _ hp hT
    have hdn: (if ((val p (T*p^(6 - D).toNat):Nat):Int)<6 then 6 - ((val p (T*p^(6 - D).toNat):Nat):Int) else 0)=D:=by
      rw[hv]
      rcases hu with h|h
      · rw[if_neg (by omega)];exact h.symm
      · have:val p T=0:=val_eq hp (u:=T) (by simp) h
        rw[this]
        by_cases hd:D=0
        · rw[if_neg (by omega)];exact hd.symm
        · rw[if_pos (by omega)];omega
    rw[hdn,Int.mul_ediv_cancel _ (hpow _)]
theorem ofM_mod (p L X:Int):ofM p L (X%p^(L+6).toNat)=ofM p L X:=by unfold ofM;simp only[Int.emod_emod]
theorem ofM_back {p L X:Int} (hp:2≤p): (ofM p L X).2.1*p^(6 - (ofM p L X).2.2).toNat=X%p^(L+6).toNat∧(0≤(ofM p L X).2.2∧(ofM p L X).2.2≤6)∧((ofM p L X).2.2=0∨¬p∣(ofM p L X).2.1):=by
  unfold ofM
  simp only
  generalize hx:X%p^(L+6).toNat=x
  by_cases h0:x=0
  · rw[if_pos h0];simp[h0]
  · rw[if_neg h0]
    obtain⟨u,hu,hn⟩:=val_spec hp h0
    have hpow:∀j:Nat,p^j≠0:=fun j=>Int.pow_ne_zero (by omega)
    by_cases hv: ((val p x:Nat):Int)<6
    · rw[if_pos hv]
      have e: (6 - (6 - ((val p x:Nat):Int))).toNat=val p x:=by omega
      rw[e]
      have hq:x / p^val p x=u:=by
        conv=>lhs;lhs;rw[hu]
        exact Int.mul_ediv_cancel_left _ (hpow _)
      rw[hq]
      refine⟨?_,by omega,.inr hn⟩
      rw[Int.mul_comm];exact hu.symm
    · rw[if_neg hv]
      refine⟨?_,by omega,.inl rfl⟩
      have hd:p^(6 - (0:Int)).toNat∣x:=(val_dvd hp h0 _).2 (by omega)
      exact Int.ediv_mul_cancel hd
theorem ofM_inj {p L X Y:Int} (hp:2≤p):ofM p L X=ofM p L Y↔X%p^(L+6).toNat=Y%p^(L+6).toNat:=by
  constructor
  · intro h
    rw[←(ofM_back (X:=X) hp).1,←(ofM_back (X:=Y) hp).1,h]
  · intro h
    rw[←ofM_mod p L X,h,ofM_mod]
theorem ball_parts {p L T D:Int} (h:ballB p L T D=true):primeB p=true∧(-6≤L∧L≤6)∧(0≤D∧D≤6)∧(L+D≤0→T=0∧D=0)∧(0<L+D→(0≤T∧T<p^(L+D).toNat)∧(D=0∨¬p∣T)):=by
  unfold ballB at h
  simp only[Bool.and_eq_true,decide_eq_true_eq] at h
  obtain⟨h1,h2,h3,h4⟩:=h
  refine⟨h1,h2,h3,?_,?_⟩
  · intro hn;rw[if_pos hn] at h4;simpa using h4
  · intro hn
    rw[if_neg (by omega)] at h4
    simp only[Bool.and_eq_true,decide_eq_true_eq,Bool.or_eq_true,beq_iff_eq,Bool.not_eq_true',beq_eq_false_iff_ne] at h4
    refine⟨h4.1,?_⟩
    rcases h4.2 with h5|h5
    · exact .inl h5
    · exact .inr (fun hd=>h5 (Int.tmod_eq_zero_of_dvd hd))
theorem mark_lt {p L T D:Int} (h:ballB p L T D=true):0≤markOf p T D∧markOf p T D<p^(L+6).toNat:=by
  obtain⟨hp,hL,hD,h0,h1⟩:=ball_parts h
  have hp2:=prime_lo hp
  unfold markOf
  by_cases hn:L+D≤0
  · rw[(h0 hn).1]
    have:=ipow_pos (p:=p) (by omega) (L+6).toNat
    omega
  · obtain⟨⟨a,b⟩,_⟩:=h1 (by omega)
    have hq:=ipow_pos (p:=p) (by omega) (6 - D).toNat
    refine⟨Int.mul_nonneg a (by omega),?_⟩
    have e:p^(L+6).toNat=p^(L+D).toNat*p^(6 - D).toNat:=by rw[←Int.pow_add];congr 1;omega
    rw[e]
    exact Int.mul_lt_mul_of_pos_right b (by omega)
theorem mark_mod {p L T D:Int} (h:ballB p L T D=true):markOf p T D%p^(L+6).toNat=markOf p T D:=Int.emod_eq_of_lt (mark_lt h).1 (mark_lt h).2
theorem ball_unit {p L T D:Int} (h:ballB p L T D=true):D=0∨¬p∣T:=by
  obtain⟨_,_,_,h0,h1⟩:=ball_parts h
  by_cases hn:L+D≤0
  · exact .inl (h0 hn).2
  · exact(h1 (by omega)).2
theorem ofM_mark {p L T D:Int} (h:ballB p L T D=true):ofM p L (markOf p T D)=(L,T,D):=
  ofM_of (prime_lo (ball_parts h).1) (mark_mod h) (ball_parts h).2.2.1 (ball_unit h)
theorem ofM_ball {p L X:Int} (hp:primeB p=true) (hL: -6≤L∧L≤6):ballB p L (ofM p L X).2.1 (ofM p L X).2.2=true:=by
  have hp2:=prime_lo hp
  obtain⟨hx,hD,hu⟩:=ofM_back (p:=p) (L:=L) (X:=X) hp2
  have hpos:=ipow_pos (p:=p) (by omega) (L+6).toNat
  have hx0:=Int.emod_nonneg X (show p^(L+6).toNat≠0 by omega)
  have hx1:=Int.emod_lt_of_pos X (show 0<p^(L+6).toNat by omega)
  generalize (ofM p L X).2.1=T at*
  generalize (ofM p L X).2.2=D at*
  have hq:=ipow_pos (p:=p) (by omega) (6 - D).toNat
  rw[←hx] at hx0 hx1
  have hT0:0≤T:=by
    rcases Int.lt_or_le T 0 with h|h
    · have:=Int.mul_neg_of_neg_of_pos h (show 0<p^(6 - D).toNat by omega);omega
    · exact h
  unfold ballB
  rw[hp,decide_eq_true hL,decide_eq_true hD,Bool.true_and,Bool.true_and,Bool.true_and]
  by_cases hn:L+D≤0
  · rw[if_pos hn]
    have hT:T=0:=by
      rcases Int.lt_or_eq_of_le hT0 with h|h
      · exfalso
        have e:p^(6 - D).toNat=p^(L+6).toNat*p^(-(L+D)).toNat:=by rw[←Int.pow_add];congr 1;omega
        have h2:=ipow_pos (p:=p) (by omega) (-(L+D)).toNat
        have h3:p^(L+6).toNat*1≤p^(L+6).toNat*p^(-(L+D)).toNat:=Int.mul_le_mul_of_nonneg_left (by omega) (by omega)
        have h4:1*p^(6 - D).toNat≤T*p^(6 - D).toNat:=Int.mul_le_mul_of_nonneg_right (by omega) (by omega)
        omega
      · exact h.symm
    have hD0:D=0:=by
      rcases hu with h|h
      · exact h
      · exact absurd (by rw[hT];exact Int.dvd_zero p) h
    simp[hT,hD0]
  · rw[if_neg hn]
    have hlt:T<p^(L+D).toNat:=by
      have e:p^(L+6).toNat=p^(L+D).toNat*p^(6 - D).toNat:=by rw[←Int.pow_add];congr 1;omega
      rw[e] at hx1
      exact Int.lt_of_mul_lt_mul_right hx1 (by omega)
    rw[decide_eq_true (show 0≤T∧T<p^(L+D).toNat from ⟨hT0,hlt⟩),Bool.true_and]
    rcases hu with h|h
    · simp[h]
    · have: (Int.tmod T p==0)=false:=beq_eq_false_iff_ne.2 (fun e=>h (Int.dvd_of_tmod_eq_zero e))
      simp[this]
theorem ball_num {p L T D:Int} (h:ballB p L T D=true):0≤T∧T≤13841287201:=by
  obtain⟨hp,hL,hD,h0,h1⟩:=ball_parts h
  have hp2:=prime_lo hp
  by_cases hn:L+D≤0
  · rw[(h0 hn).1];omega
  · have:=(h1 (by omega)).1
    have:=pow_13 hp (L+D).toNat (by omega)
    omega
theorem spec_l01Gcd_l (n:Nat):∀(a b:Int),b.natAbs<n→ -9223372036854775807≤a→a≤9223372036854775807→ -9223372036854775807≤b→b≤9223372036854775807→Ev (fun k=>spec_l01Gcd.l0 k a b) (Int.gcd a b:Int):=by
  induction n with
  |zero=>intro a b h;omega
  |succ n ih=>
   intro a b hn ha1 ha2 hb1 hb2
   by_cases hb:b=0
   · subst hb
     refine Ev.step (f:=fun _=>some (mx a (wrap64 (-a)))) (fun k=>by simp only[spec_l01Gcd.l0,if_true]) ?_
     rw[mx_abs a ha1 ha2,Int.gcd_zero_right];exact Ev.now _
   · have hlt: (Int.tmod a b).natAbs<b.natAbs:=by rw[Int.natAbs_tmod];exact Nat.mod_lt _ (by omega)
     refine Ev.step (f:=fun k=>spec_l01Gcd.l0 k b (Int.tmod a b)) (fun k=>by simp only[spec_l01Gcd.l0];rw[if_neg hb]) ?_
     rw[←gcd_step a b hb]
     exact ih _ _ (by omega) hb1 hb2 (by omega) (by omega)
theorem spec_l01Gcd_ev (a b:Int) (ha1: -9223372036854775807≤a) (ha2:a≤9223372036854775807) (hb1: -9223372036854775807≤b) (hb2:b≤9223372036854775807):Ev (fun k=>spec_l01Gcd.f k a b) (Int.gcd a b:Int):=by
  unfold spec_l01Gcd.f
  exact spec_l01Gcd_l (b.natAbs+1) a b (by omega) ha1 ha2 hb1 hb2
theorem In_eq (a b c:Int):spec_l01In.f a b c=some (decide (b≤a∧a≤c)):=by
  unfold spec_l01In.f
  by_cases h:a≥b
  · rw[if_pos h];congr 1;exact decide_eq_decide.2 ⟨fun h2=>⟨h,h2⟩,fun h2=>h2.2⟩
  · rw[if_neg h];congr 1;exact(decide_eq_false (fun h2=>h h2.1)).symm
theorem spec_l01Power_l (p:Int) (n:Nat):∀(x acc:Int),(n:Int)≤9223372036854775807→(x=n∨(n=0∧x≤0))→Ev (fun k=>spec_l01Power.l0 k p x acc) (powW p n acc):=by
  induction n with
  |zero=>
   intro x acc _ hx
   exact Ev.step (f:=fun _=>some acc) (fun k=>by simp only[spec_l01Power.l0];rw[if_neg (by omega)]) (Ev.now _)
  |succ n ih=>
   intro x acc hn hx
   have hx':x=n+1:=by omega
   exact Ev.step (f:=fun k=>spec_l01Power.l0 k p n (wrap64 (acc*p))) (fun k=>by
      simp only[spec_l01Power.l0];rw[if_pos (by omega),show wrap64 (x - 1)=(n:Int) from by rw[hx',wid (by omega) (by omega)];omega]) (ih n _ (by omega) (.inl rfl))
theorem spec_l01Power_ev (p x:Int) (h:x≤9223372036854775807):Ev (fun k=>spec_l01Power.f k p x) (powW p x.toNat 1):=by
  refine Ev.congr (f:=fun k=>spec_l01Power.l0 k p x 1) (fun k=>rfl) (spec_l01Power_l p x.toNat x 1 (by omega) (by omega))
theorem impl_power_l (p N:Int) (hN:N≤9223372036854775807) (n:Nat):∀(acc i:Int),0≤i→(i+n=N∨(n=0∧N≤i))→Ev (fun k=>impl_power.l0 k p acc N i) (powW p n acc):=by
  induction n with
  |zero=>
   intro acc i hi hx
   exact Ev.step (f:=fun _=>some acc) (fun k=>by simp only[impl_power.l0];rw[if_neg (by omega)]) (Ev.now _)
  |succ n ih=>
   intro acc i hi hx
   exact Ev.step (f:=fun k=>impl_power.l0 k p (wrap64 (acc*p)) N (i+1)) (fun k=>by
      simp only[impl_power.l0];rw[if_pos (by omega),show wrap64 (i+1)=i+1 from wid (by omega) (by omega)]) (ih _ (i+1) (by omega) (by omega))
theorem impl_power_ev (p x:Int) (h:x≤9223372036854775807):Ev (fun k=>impl_power.f k p x) (powW p x.toNat 1):=by
  refine Ev.congr (f:=fun k=>impl_power.l0 k p 1 x 0) (fun k=>rfl) (impl_power_l p x h x.toNat 1 0 (by omega) (by omega))
theorem Ev.up {α:Type} {g:Nat→Option α} {r:α} (h:Ev (fun k=>g (k+1)) r):Ev g r:=Ev.step (f:=fun k=>g (k+1)) (fun _=>rfl) h
theorem pow_b {p:Int} (hp:primeB p=true) (n:Nat) (h:n≤22∨(n≤23∧p≠7)):p^n≤3909821048582988049:=by
  rcases prime_cases hp with e|e|e|e
  · have h1:p^n≤p^23:=ipow_mono (by omega) (by omega)
    have h2:p^23≤3909821048582988049:=by subst e;decide
    omega
  · have h1:p^n≤p^23:=ipow_mono (by omega) (by omega)
    have h2:p^23≤3909821048582988049:=by subst e;decide
    omega
  · have h1:p^n≤p^23:=ipow_mono (by omega) (by omega)
    have h2:p^23≤3909821048582988049:=by subst e;decide
    omega
  · have h1:p^n≤p^22:=ipow_mono (by omega) (by omega)
    have h2:p^22≤3909821048582988049:=by subst e;decide
    omega
theorem cop {p:Int} (hp:primeB p=true) {g:Int} (h:¬p∣g):Int.gcd g p=1:=by
  have h1: (Int.gcd g p:Int)∣g:=Int.gcd_dvd_left g p
  have h2: (Int.gcd g p:Int)∣p:=Int.gcd_dvd_right g p
  generalize Int.gcd g p=n at h1 h2
  rcases prime_cases hp with e|e|e|e<;>subst e
  · have h3:n∣2:=Int.natCast_dvd_natCast.1 h2
    have:∀n,n<3→n∣2→n=1∨n=2:=by decide
    rcases this n (by have:=Nat.le_of_dvd (by omega) h3;omega) h3 with h4|h4
    · exact h4
    · subst h4;exact absurd h1 h
  · have h3:n∣3:=Int.natCast_dvd_natCast.1 h2
    have:∀n,n<4→n∣3→n=1∨n=3:=by decide
    rcases this n (by have:=Nat.le_of_dvd (by omega) h3;omega) h3 with h4|h4
    · exact h4
    · subst h4;exact absurd h1 h
  · have h3:n∣5:=Int.natCast_dvd_natCast.1 h2
    have:∀n,n<6→n∣5→n=1∨n=5:=by decide
    rcases this n (by have:=Nat.le_of_dvd (by omega) h3;omega) h3 with h4|h4
    · exact h4
    · subst h4;exact absurd h1 h
  · have h3:n∣7:=Int.natCast_dvd_natCast.1 h2
    have:∀n,n<8→n∣7→n=1∨n=7:=by decide
    rcases this n (by have:=Nat.le_of_dvd (by omega) h3;omega) h3 with h4|h4
    · exact h4
    · subst h4;exact absurd h1 h
theorem unit_of {p:Int} (hp:primeB p=true) {g:Int} (h0:0≤g) (h:¬p∣g) (j:Nat) (hj:g∣p^j):g=1:=by
  induction j with
  |zero=>
   rw[Int.pow_zero] at hj
   have:=Int.eq_one_of_dvd_one h0 hj
   exact this
  |succ j ih=>
   rw[Int.pow_succ] at hj
   have hk:g.natAbs∣(p^j).natAbs*p.natAbs:=by rw[←Int.natAbs_mul];exact Int.natAbs_dvd_natAbs.2 hj
   exact ih (Int.natAbs_dvd_natAbs.1 (Nat.Coprime.dvd_of_dvd_mul_right (show Nat.Coprime g.natAbs p.natAbs from cop hp h) hk))
theorem g4_one {p:Int} (hp:primeB p=true) {a b d:Int} (j:Nat) (h:j=0∨¬p∣a∨¬p∣b∨¬p∣d):g4 a b (p^j) d=1:=by
  obtain⟨h1,h2,h3,h4⟩:=g4_dvd a b (p^j) d
  have h0:=g4_nonneg a b (p^j) d
  rcases h with h|h
  · subst h
    exact Int.eq_one_of_dvd_one h0 (Int.dvd_trans h3 (by rw[Int.pow_zero];exact Int.dvd_refl 1))
  · refine unit_of hp h0 (fun hd=>?_) j h3
    rcases h with h|h|h
    · exact h (Int.dvd_trans hd h1)
    · exact h (Int.dvd_trans hd h2)
    · exact h (Int.dvd_trans hd h4)
theorem fit_one {a b c d:Int} (h:g4 a b c d=1):fitM a b c d=true→(-1000≤a∧a≤1000)∧(-1000≤b∧b≤1000)∧(-1000≤c∧c≤1000)∧(-1000≤d∧d≤1000):=by
  intro hf
  unfold fitM entB rM byM at hf
  rw[h] at hf
  simp only[Bool.and_eq_true,decide_eq_true_eq] at hf
  rcases sg_or a b with e|e
  · rw[e] at hf;simpa using hf
  · rw[e] at hf
    simp only[Int.one_mul,Int.tdiv_neg,Int.tdiv_one] at hf
    omega
def pmA (p T:Int) (D e:Int):Int:=T*p^D.toNat*p^(max (-e) 0).toNat
def pmB (p S T D D' e:Int):Int:=p^(max e 0).toNat*p^D.toNat*p^D'.toNat - S*T*p^(max (-e) 0).toNat
def pmC (p D D' e:Int):Int:=p^D.toNat*p^D'.toNat*p^(max (-e) 0).toNat
def pmD (p S D' e:Int):Int:= -S*p^D'.toNat*p^(max (-e) 0).toNat
theorem pm_det {p:Int} (hp:2≤p) (S T D D' e:Int):pmA p T D e*pmD p S D' e - pmB p S T D D' e*pmC p D D' e≠0:=by
  have h:pmA p T D e*pmD p S D' e - pmB p S T D D' e*pmC p D D' e= -(p^(max e 0).toNat*p^D.toNat*p^D'.toNat*(p^D.toNat*p^D'.toNat*p^(max (-e) 0).toNat)):=by
    unfold pmA pmB pmC pmD
    generalize p^(max e 0).toNat=u
    generalize p^D.toNat=x
    generalize p^D'.toNat=y
    generalize p^(max (-e) 0).toNat=z
    rw[Int.sub_mul]
    have:T*x*z*(-S*y*z)= -(S*T*z*(x*y*z)):=by
      simp only[Int.neg_mul,Int.mul_neg]
      congr 1
      ac_rfl
    omega
  rw[h]
  have hpos:∀n:Nat,p^n≠0:=fun n=>Int.pow_ne_zero (by omega)
  intro h0
  have:=Int.neg_eq_zero.1 h0
  simp only[Int.mul_eq_zero] at this
  rcases this with ((h|h)|h)|((h|h)|h)<;>exact hpos _ h
theorem pm_norm {p:Int} (hp:primeB p=true) (B C La Sa Da Lb Tb Db:Int) (n:Nat):∀(num:Int),(n:Int)≤1000→B*p^n=num*C→∃(num':Int) (n':Nat),n'≤n∧B*p^n'=num'*C∧(n'=0∨¬p∣num')∧num'.natAbs≤num.natAbs∧
    (num.natAbs≤4611686018427387904→∀r,Ev (fun k=>impl_PairedMover.j4 k p num' n' La Sa Da Lb Tb Db) r→Ev (fun k=>impl_PairedMover.l0 k p num n La Sa Da Lb Tb Db) r):=by
  have hp2:=prime_lo hp
  induction n with
  |zero=>
   intro num _ h
   refine⟨num,0,Nat.le_refl _,h,.inl rfl,Nat.le_refl _,fun hb r hr=>?_⟩
   have h3:Ev (fun k=>impl_PairedMover.j3 k p num ((0:Nat):Int) La Sa Da Lb Tb Db) r:=by
      refine Ev.up ?_
      simp only[impl_PairedMover.j3]
      by_cases h0:num=0
      · simp only[if_pos h0];exact hr
      · simp only[if_neg h0];exact hr
   refine Ev.up ?_
   simp only[impl_PairedMover.l0]
   by_cases h0:num=0
   · simp only[if_pos h0];exact h3
   · simp only[if_neg h0,if_neg (show ¬((0:Nat):Int)>0 by omega)];exact h3
  |succ n ih=>
   intro num hn h
   by_cases h0:num=0
   · refine⟨0,0,by omega,?_,.inl rfl,by omega,fun hb r hr=>?_⟩
     · subst h0
       rw[Int.zero_mul] at h
       have hB:B=0:=by
          rcases Int.mul_eq_zero.1 h with h|h
          · exact h
          · exact absurd h (Int.pow_ne_zero (by omega))
       rw[hB];simp
     · refine Ev.up ?_
       simp only[impl_PairedMover.l0,if_pos h0]
       refine Ev.up ?_
       simp only[impl_PairedMover.j3,if_pos h0]
       rw[h0];exact hr
   · by_cases hd:p∣num
     · obtain⟨u,hu⟩:=hd
       have h1:B*p^n=u*C:=by
          rw[hu,Int.pow_succ] at h
          refine Int.eq_of_mul_eq_mul_left (a:=p) (by omega) ?_
          rw[Int.mul_left_comm p B,Int.mul_comm p (p^n),h,Int.mul_assoc]
       have hq:Int.tdiv num p=u:=by rw[hu];exact Int.mul_tdiv_cancel_left _ (by omega)
       have hua:u.natAbs≤num.natAbs:=by
          rw[hu,Int.natAbs_mul]
          exact Nat.le_mul_of_pos_left _ (by omega)
       obtain⟨num',n',q1,q2,q3,q4,q5⟩:=ih u (by omega) h1
       refine⟨num',n',by omega,q2,q3,by omega,fun hb r hr=>?_⟩
       refine Ev.up ?_
       simp only[impl_PairedMover.l0,if_neg h0,if_pos (show ((n+1:Nat):Int)>0 by omega),if_neg (show ¬p=0 by omega),if_pos (Int.tmod_eq_zero_of_dvd ⟨u,hu⟩)]
       rw[hq,wid (n:=u) (by omega) (by omega),wid (n:=((n+1:Nat):Int) - 1) (by omega) (by omega),show ((n+1:Nat):Int) - 1=(n:Int) by omega]
       exact q5 (by omega) r hr
     · refine⟨num,n+1,Nat.le_refl _,h,.inr hd,Nat.le_refl _,fun hb r hr=>?_⟩
       refine Ev.up ?_
       simp only[impl_PairedMover.l0,if_neg h0,if_pos (show ((n+1:Nat):Int)>0 by omega),if_neg (show ¬p=0 by omega),if_neg (show ¬Int.tmod num p=0 from fun h=>hd (Int.dvd_of_tmod_eq_zero h))]
       refine Ev.up ?_
       simp only[impl_PairedMover.j3,if_neg h0]
       exact hr
theorem pm_same {p:Int} (hp:primeB p=true) {S T D D' e num:Int} {n j:Nat} (hD:0≤D) (hD':0≤D') (hB:pmB p S T D D' e*p^n=num*pmC p D D' e) (h1:D.toNat≤j) (h2:D'.toNat≤j) (h3:n≤j):
    (rM (pmA p T D e) (pmB p S T D D' e) (pmC p D D' e) (pmD p S D' e) (pmA p T D e)=rM (T*p^(j - D'.toNat)) (num*p^(j - n)) (p^j) (-S*p^(j - D.toNat)) (T*p^(j - D'.toNat))∧
    rM (pmA p T D e) (pmB p S T D D' e) (pmC p D D' e) (pmD p S D' e) (pmB p S T D D' e)=rM (T*p^(j - D'.toNat)) (num*p^(j - n)) (p^j) (-S*p^(j - D.toNat)) (num*p^(j - n))∧
    rM (pmA p T D e) (pmB p S T D D' e) (pmC p D D' e) (pmD p S D' e) (pmC p D D' e)=rM (T*p^(j - D'.toNat)) (num*p^(j - n)) (p^j) (-S*p^(j - D.toNat)) (p^j)∧
    rM (pmA p T D e) (pmB p S T D D' e) (pmC p D D' e) (pmD p S D' e) (pmD p S D' e)=rM (T*p^(j - D'.toNat)) (num*p^(j - n)) (p^j) (-S*p^(j - D.toNat)) (-S*p^(j - D.toNat)))∧
    T*p^(j - D'.toNat)*(-S*p^(j - D.toNat)) - num*p^(j - n)*p^j≠0:=by
  have hp2:=prime_lo hp
  have hpos:∀n:Nat,p^n≠0:=fun n=>Int.pow_ne_zero (by omega)
  have hC:pmC p D D' e≠0:=by
    unfold pmC
    intro h
    simp only[Int.mul_eq_zero] at h
    rcases h with (h|h)|h<;>exact hpos _ h
  have eA:p^j*pmA p T D e=pmC p D D' e*(T*p^(j - D'.toNat)):=by
    have hj:p^j=p^D'.toNat*p^(j - D'.toNat):=by rw[←Int.pow_add];congr 1;omega
    unfold pmA pmC
    rw[hj]
    generalize p^(j - D'.toNat)=w
    ac_rfl
  have eD:p^j*pmD p S D' e=pmC p D D' e*(-S*p^(j - D.toNat)):=by
    have hj:p^j=p^D.toNat*p^(j - D.toNat):=by rw[←Int.pow_add];congr 1;omega
    unfold pmD pmC
    rw[hj]
    generalize p^(j - D.toNat)=w
    generalize -S=s
    ac_rfl
  have eB:p^j*pmB p S T D D' e=pmC p D D' e*(num*p^(j - n)):=by
    have hj:p^j=p^n*p^(j - n):=by rw[←Int.pow_add];congr 1;omega
    rw[hj,show p^n*p^(j - n)*pmB p S T D D' e=pmB p S T D D' e*p^n*p^(j - n) from by ac_rfl,hB]
    ac_rfl
  have eC:p^j*pmC p D D' e=pmC p D D' e*p^j:=Int.mul_comm _ _
  have hdet:=pm_det hp2 S T D D' e
  have hne:=rowNe hdet
  have det2:T*p^(j - D'.toNat)*(-S*p^(j - D.toNat)) - num*p^(j - n)*p^j≠0:=by
    intro h0
    apply hdet
    have q:p^j*p^j*(pmA p T D e*pmD p S D' e - pmB p S T D D' e*pmC p D D' e)=0:=by
      rw[Int.mul_sub,show p^j*p^j*(pmA p T D e*pmD p S D' e)=(p^j*pmA p T D e)*(p^j*pmD p S D' e) from by ac_rfl,
        show p^j*p^j*(pmB p S T D D' e*pmC p D D' e)=(p^j*pmB p S T D D' e)*(p^j*pmC p D D' e) from by ac_rfl,eA,eB,eC,eD,
        show pmC p D D' e*(T*p^(j - D'.toNat))*(pmC p D D' e*(-S*p^(j - D.toNat)))=pmC p D D' e*pmC p D D' e*(T*p^(j - D'.toNat)*(-S*p^(j - D.toNat))) from by ac_rfl,
        show pmC p D D' e*(num*p^(j - n))*(pmC p D D' e*p^j)=pmC p D D' e*pmC p D D' e*(num*p^(j - n)*p^j) from by ac_rfl,←Int.mul_sub,h0,Int.mul_zero]
    rcases Int.mul_eq_zero.1 q with h|h
    · rcases Int.mul_eq_zero.1 h with h|h<;>exact absurd h (hpos _)
    · exact h
  have hne2:=rowNe det2
  have k1:=rM_mul (m:=p^j) (pmC p D D' e) (pmD p S D' e) (hpos j) hne
  have k2:=rM_mul (m:=pmC p D D' e) (p^j) (-S*p^(j - D.toNat)) hC hne2
  rw[eA,eB,eC,eD] at k1
  exact⟨⟨k1.1.symm.trans k2.1,k1.2.1.symm.trans k2.2.1,k1.2.2.1.symm.trans k2.2.2.1,k1.2.2.2.symm.trans k2.2.2.2⟩,det2⟩
theorem spec_l01Prime_eq (p:Int):spec_l01Prime.f p=some (primeB p):=by
  unfold spec_l01Prime.f primeB
  by_cases h2:p=2
  · simp[h2]
  · by_cases h3:p=3
    · simp[h3]
    · by_cases h5:p=5
      · simp[h5]
      · rw[if_neg h2,if_neg h3,if_neg h5,beq_eq_false_iff_ne.2 h2,beq_eq_false_iff_ne.2 h3,beq_eq_false_iff_ne.2 h5];rfl
theorem spec_l01Is_ev (p L T D:Int):Ev (fun k=>spec_l01Is.f k p L T D) (ballB p L T D):=by
  have hno:Ev (fun k=>spec_l01Is.j0 k p true L T D) false:=Ev.step (f:=fun _=>some false) (fun k=>by simp only[spec_l01Is.j0,if_true]) (Ev.now _)
  unfold spec_l01Is.f
  refine Ev.bindv (spec_l01Prime_eq p) ?_
  unfold ballB
  cases hp:primeB p with
  |false=>simpa using hno
  |true=>
   have hp2:=prime_lo hp
   simp only[if_true,Bool.true_and]
   refine Ev.bindv (In_eq L (-6) 6) ?_
   by_cases hL: -6≤L∧L≤6
   · rw[decide_eq_true hL];simp only[if_true,Bool.true_and]
     refine Ev.bindv (In_eq D 0 6) ?_
     by_cases hD:0≤D∧D≤6
     · rw[decide_eq_true hD];simp only[Bool.not_true,Bool.true_and]
       have hn:=wid (n:=L+D) (by omega) (by omega)
       by_cases h0:L+D≤0
       · rw[if_pos h0]
         refine Ev.step (f:=fun _=>some (T==0&&D==0)) (fun k=>?_) (Ev.now _)
         simp only[spec_l01Is.j0]
         rw[if_neg (by decide),hn,if_pos h0]
         by_cases hT:T=0
         · simp[hT]
         · simp[hT]
       · rw[if_neg h0]
         refine Ev.step (f:=fun k=>(spec_l01Power.f k p (L+D)).bind fun t=>(spec_l01In.f T 0 (wrap64 (t - 1))).bind fun t2=>if t2=true then(if D=0 then some true else if p=0 then none else some (Int.tmod T p !=0)) else some false) (fun k=>by simp only[spec_l01Is.j0];rw[if_neg (by decide),hn,if_neg h0]) ?_
         refine Ev.bind (spec_l01Power_ev p (L+D) (by omega)) ?_
         rw[powW_prime hp _ (by omega)]
         have hpp:=ipow_pos (p:=p) (by omega) (L+D).toNat
         have hpt:=pow_le_top hp (L+D).toNat (by omega)
         rw[wid (n:=p^(L+D).toNat - 1) (by omega) (by omega)]
         refine Ev.bindv (In_eq _ _ _) ?_
         rw[show decide (0≤T∧T≤p^(L+D).toNat - 1)=decide (0≤T∧T<p^(L+D).toNat) from decide_eq_decide.2 (by omega)]
         cases decide (0≤T∧T<p^(L+D).toNat) with
         |false=>simp only[Bool.false_eq_true,if_false,Bool.false_and];exact Ev.now _
         |true=>
          simp only[if_true,Bool.true_and]
          by_cases hd:D=0
          · simp only[hd,if_true];simp;exact Ev.now _
          · rw[if_neg hd,if_neg (by omega),show (D==0)=false from beq_eq_false_iff_ne.2 hd,Bool.false_or]
            exact Ev.now _
     · rw[decide_eq_false hD];simpa using hno
   · rw[decide_eq_false hL];simpa using hno
def codeB (p:Int) (l:List S28):Bool:=primeB p&&l.all (fun b=>ballB p b.f0 b.f1 b.f2)
theorem spec_l01Code_ev (p:Int) (l:List S28) (hl:l.length≤4611686018427387904):Ev (fun k=>spec_l01Code.f k p l) (if codeB p l then 0 else 1):=by
  unfold spec_l01Code.f codeB
  refine Ev.bindv (spec_l01Prime_eq p) ?_
  cases hp:primeB p with
  |false=>simp;exact Ev.now _
  |true=>
   simp only[if_true,Bool.true_and]
   rw[←all_range_getD l z28]
   refine all_ev' (fun k i=>spec_l01Code.l0 k p l i) l.length (fun i=>ballB p (l.getD i z28).f0 (l.getD i z28).f1 (l.getD i z28).f2) 0 1 ?_ ?_ ?_
   · intro i r hi hb hr
     refine Ev.step (f:=fun k=>(spec_l01Is.f k p (l.getD i z28).f0 (l.getD i z28).f1 (l.getD i z28).f2).bind fun t=>if t=true then spec_l01Code.l0 k p l ((i:Int)+1) else some 1) (fun k=>?_) ?_
     · simp only[spec_l01Code.l0]
       rw[if_pos (by omega),if_pos (by omega),wid (by omega) (by omega)];rfl
     · refine Ev.bind (spec_l01Is_ev _ _ _ _) ?_
       rw[hb];simpa using hr
   · intro i hi hb
     refine Ev.step (f:=fun k=>(spec_l01Is.f k p (l.getD i z28).f0 (l.getD i z28).f1 (l.getD i z28).f2).bind fun t=>if t=true then spec_l01Code.l0 k p l ((i:Int)+1) else some 1) (fun k=>?_) ?_
     · simp only[spec_l01Code.l0]
       rw[if_pos (by omega),if_pos (by omega),wid (by omega) (by omega)];rfl
     · refine Ev.bind (spec_l01Is_ev _ _ _ _) ?_
       rw[hb];simp;exact Ev.now _
   · exact Ev.step (f:=fun _=>some 0) (fun k=>by simp only[spec_l01Code.l0];rw[if_neg (by omega)]) (Ev.now _)
def holdsB (p L T D L' T' D':Int):Bool:=decide (L≤L')&&((markOf p T' D' - markOf p T D)%p^(L+6).toNat==0)
theorem holds_iff {p L T D T' D':Int} (h:ballB p L T D=true):ofM p L (markOf p T' D')=(L,T,D)↔(markOf p T' D' - markOf p T D)%p^(L+6).toNat=0:=by
  have hp2:=prime_lo (ball_parts h).1
  rw[←ofM_mark h,ofM_inj hp2]
  exact Int.emod_eq_emod_iff_emod_sub_eq_zero
theorem spec_l01Val_l (p:Int) (hp:2≤p) (v:Nat):∀(n u acc:Int),n=p^v*u→¬p∣u→n≠0→ -4611686018427387904≤n→n≤4611686018427387904→0≤acc→acc+v≤4611686018427387904→Ev (fun k=>spec_l01Val.l0 k p n acc) (acc+v):=by
  induction v with
  |zero=>
   intro n u acc h hu h0 h1 h2 h3 h4
   refine Ev.step (f:=fun _=>some acc) (fun k=>?_) (by simp;exact Ev.now _)
   simp only[spec_l01Val.l0]
   rw[if_neg (by omega),if_neg]
   intro e
   rw[h] at e
   exact hu (by simpa using Int.dvd_of_tmod_eq_zero e)
  |succ v ih=>
   intro n u acc h hu h0 h1 h2 h3 h4
   have hn:n=p*(p^v*u):=by rw[h,Int.pow_succ',Int.mul_assoc]
   have hm:Int.tmod n p=0:=by rw[hn];exact Int.mul_tmod_right p _
   have hd:Int.tdiv n p=p^v*u:=by rw[hn];exact Int.mul_tdiv_cancel_left _ (by omega)
   have hb:=tdiv_bdv p (show -4611686018427387904≤n∧n≤4611686018427387904 from ⟨h1,h2⟩)
   have hne:p^v*u≠0:=by intro e;rw[e] at hn;simp at hn;exact h0 hn
   refine Ev.step (f:=fun k=>spec_l01Val.l0 k p (p^v*u) (acc+1)) (fun k=>?_) ?_
   · simp only[spec_l01Val.l0]
     rw[if_neg (by omega),if_pos hm,hd]
     rw[hd] at hb
     rw[wid (n:=p^v*u) (by omega) (by omega),wid (n:=acc+1) (by omega) (by omega)]
   · rw[hd] at hb
     have:=ih (p^v*u) u (acc+1) rfl hu hne hb.1 hb.2 (by omega) (by omega)
     rw[show acc+((v+1:Nat):Int)=acc+1+(v:Int) from by omega]
     exact this
theorem spec_l01Val_ev {p n:Int} (hp:2≤p) (h0:n≠0) (h1: -4611686018427387904≤n:=by omega) (h2:n≤4611686018427387904:=by omega):Ev (fun k=>spec_l01Val.f k p n) (val p n:Int):=by
  obtain⟨u,h,hu⟩:=val_spec hp h0
  have hv:=val_le_of_lt hp h0 63 (by omega)
  have:=spec_l01Val_l p hp (val p n) n u 0 h hu h0 h1 h2 (by omega) (by omega)
  rw[Int.zero_add] at this
  unfold spec_l01Val.f
  exact this
theorem tmod_cast {a m:Int} (h:0≤a):Int.tmod a m=a%m:=Int.tmod_eq_emod_of_nonneg h
theorem tdiv_cast {a m:Int} (h:0≤a):Int.tdiv a m=a / m:=Int.tdiv_eq_ediv_of_nonneg h
theorem tmod_lt' {a m:Int} (hm:0<m): -m<Int.tmod a m∧Int.tmod a m<m:=by
  have h1:=Int.natAbs_tmod a m
  have h2:=Nat.mod_lt a.natAbs (show 0<m.natAbs by omega)
  omega
theorem emod_mul_emod' (a b m:Int):a%m*b%m=a*b%m:=by rw[Int.mul_emod (a%m) b m,Int.emod_emod,←Int.mul_emod]
theorem modW {a m:Int} (hm:1≤m) (hm2:m≤2305843009213693952):Int.tmod (wrap64 (Int.tmod a m+m)) m=a%m:=by
  obtain⟨h1,h2⟩:=tmod_lt' (a:=a) (show 0<m by omega)
  rw[wid (by omega) (by omega),tmod_cast (by omega),Int.add_emod_right]
  have e:=Int.tmod_add_mul_tdiv a m
  conv=>rhs;rw[←e,Int.add_mul_emod_self_left]
theorem spec_l01MulMod_eq {a b m:Int} (hm:1≤m) (hm2:m≤100000000000):spec_l01MulMod.f a b m=some (a*b%m):=by
  unfold spec_l01MulMod.f
  rw[if_neg (by omega),modW hm (by omega),modW hm (by omega)]
  have a0:=Int.emod_nonneg a (show m≠0 by omega)
  have a1:=Int.emod_lt_of_pos a (show 0<m by omega)
  have b0:=Int.emod_nonneg b (show m≠0 by omega)
  have b1:=Int.emod_lt_of_pos b (show 0<m by omega)
  have hab:a*b%m=(a%m)*(b%m)%m:=Int.mul_emod a b m
  rw[hab]
  generalize a%m=x at*
  generalize b%m=y at*
  rw[tdiv_cast b0,tmod_cast b0]
  have q0:0≤y / 1000000:=by omega
  have q1:y / 1000000≤100000:=by omega
  have r0:0≤y%1000000:=by omega
  have r1:y%1000000≤1000000:=by omega
  have p0:0≤x*(y / 1000000):=Int.mul_nonneg a0 q0
  have p1:x*(y / 1000000)≤100000000000*100000:=Int.mul_le_mul (by omega) q1 q0 (by omega)
  have s0:0≤x*(y%1000000):=Int.mul_nonneg a0 r0
  have s1:x*(y%1000000)≤100000000000*1000000:=Int.mul_le_mul (by omega) r1 r0 (by omega)
  rw[wid (n:=y / 1000000) (by omega) (by omega),wid (n:=x*(y / 1000000)) (by omega) (by omega),wid (n:=x*(y%1000000)) (by omega) (by omega),tmod_cast p0,tmod_cast s0]
  have t0:=Int.emod_nonneg (x*(y / 1000000)) (show m≠0 by omega)
  have t1:=Int.emod_lt_of_pos (x*(y / 1000000)) (show 0<m by omega)
  rw[wid (n:=x*(y / 1000000)%m*1000000) (by omega) (by omega),tmod_cast (a:=x*(y / 1000000)%m*1000000) (by omega)]
  have u0:=Int.emod_nonneg (x*(y / 1000000)%m*1000000) (show m≠0 by omega)
  have u1:=Int.emod_lt_of_pos (x*(y / 1000000)%m*1000000) (show 0<m by omega)
  have v0:=Int.emod_nonneg (x*(y%1000000)) (show m≠0 by omega)
  have v1:=Int.emod_lt_of_pos (x*(y%1000000)) (show 0<m by omega)
  rw[wid (n:=x*(y / 1000000)%m*1000000%m+x*(y%1000000)%m) (by omega) (by omega),tmod_cast (a:=x*(y / 1000000)%m*1000000%m+x*(y%1000000)%m) (by omega)]
  congr 1
  have e1:x*(y / 1000000)%m*1000000%m=x*(y / 1000000)*1000000%m:=by rw[emod_mul_emod']
  rw[e1,←Int.add_emod]
  congr 1
  rw[Int.mul_assoc,←Int.mul_add]
  congr 1
  omega
theorem spec_l01InvMod_one {m:Int} (hm:2≤m) (hm2:m≤100000000000):Ev (fun k=>spec_l01InvMod.f k 1 m) 1:=by
  have h1:Int.tmod (wrap64 (Int.tmod 1 m+m)) m=1:=by rw[modW (by omega) (by omega)];exact Int.emod_eq_of_lt (by omega) (by omega)
  refine Ev.congr (f:=fun k=>spec_l01InvMod.l0 k m 1 m 1 0) (fun k=>by unfold spec_l01InvMod.f;rw[if_neg (by omega),h1]) ?_
  have q0:Int.tdiv 1 m=0:=by rw[tdiv_cast (by omega)];exact Int.ediv_eq_zero_of_lt (by omega) (by omega)
  have q1:Int.tdiv m 1=m:=Int.tdiv_one m
  have z0:wrap64 0=0:=wid (by omega) (by omega)
  have z1:wrap64 1=1:=wid (by omega) (by omega)
  refine Ev.step (f:=fun k=>spec_l01InvMod.l0 k m m 1 0 1) (fun k=>?_) ?_
  · simp only[spec_l01InvMod.l0]
    rw[if_neg (by omega),q0,z0,Int.zero_mul,z0,Int.sub_zero,z1,Int.mul_zero,z0,Int.sub_zero,z1]
  refine Ev.step (f:=fun k=>spec_l01InvMod.l0 k m 1 0 1 (-m)) (fun k=>?_) ?_
  · simp only[spec_l01InvMod.l0]
    rw[if_neg (by omega),q1,wid (n:=m) (by omega) (by omega),Int.mul_one,wid (n:=m) (by omega) (by omega),Int.sub_self,z0,Int.zero_sub,wid (n:= -m) (by omega) (by omega)]
  refine Ev.step (f:=fun _=>some 1) (fun k=>?_) (Ev.now _)
  simp only[spec_l01InvMod.l0]
  rw[if_pos trivial,if_neg (by omega),h1]
theorem mx_eq (a b:Int):mx a b=if a<b then b else a:=rfl
theorem spec_l01Of_pow {p num L:Int} (D:Nat) (hp:primeB p=true) (hD:D≤6) (h1: -1152921504606846976≤num) (h2:num≤1152921504606846976) (hL: -6≤L∧L≤6):
    Ev (fun k=>spec_l01Of.f k p num (p^D) L) ((ofM p L (num*p^(6 - D))).1,(ofM p L (num*p^(6 - D))).2.1,(ofM p L (num*p^(6 - D))).2.2,true):=by
  have hp2:=prime_lo hp
  have hpow:∀j:Nat,p^j≠0:=fun j=>Int.pow_ne_zero (by omega)
  have hpD:=pow_13 hp D (by omega)
  have hpD1:=ipow_pos (p:=p) (by omega) D
  unfold spec_l01Of.f
  refine Ev.bindv (In_eq _ _ _) ?_
  rw[decide_eq_true hL]
  simp only[if_true]
  by_cases h0:num=0
  · simp only[if_pos h0]
    have e:ofM p L (num*p^(6 - D))=(L,0,0):=by
      rw[h0,Int.zero_mul];exact ofM_of hp2 (by simp) (by omega) (.inl rfl)
    rw[e];exact Ev.now _
  simp only[if_neg h0]
  have hvD:val p (p^D)=D:=val_eq hp2 (u:=1) (by simp) (fun h=>by have:=Int.le_of_dvd (by omega) h;omega)
  have hv60:=val_le_of_lt hp2 h0 61 (by omega)
  refine Ev.bind (spec_l01Val_ev hp2 h0 (by omega) (by omega)) (Ev.bind (spec_l01Val_ev hp2 (hpow D) (by omega) (by omega)) ?_)
  rw[hvD]
  obtain⟨u,hu,hn⟩:=val_spec hp2 h0
  generalize hv:val p num=v at*
  rw[wid (n:=(v:Int) - (D:Int)) (by omega) (by omega),wid (n:=(D:Int) - (v:Int)) (by omega) (by omega)]
  have hX:num*p^(6 - D)=p^(v+(6 - D))*u:=by
    rw[hu,Int.pow_add,Int.mul_assoc,Int.mul_assoc,Int.mul_comm u]
  by_cases hle:L≤(v:Int) - (D:Int)
  · simp only[if_pos hle]
    have e:ofM p L (num*p^(6 - D))=(L,0,0):=by
      refine ofM_of hp2 ?_ (by omega) (.inl rfl)
      rw[hX,Int.zero_mul,show v+(6 - D)=(L+6).toNat+(v+(6 - D) - (L+6).toNat) from by omega,Int.pow_add,Int.mul_assoc]
      exact Int.mul_emod_right _ _
    rw[e];exact Ev.now _
  simp only[if_neg hle]
  obtain⟨dn,hdn⟩:∃dn:Nat,(dn:Int)=mx ((D:Int) - (v:Int)) 0:=⟨D - v,by rw[mx_eq];split<;>omega⟩
  have hdn2: (dn:Int)=if (D:Int) - v<0 then 0 else(D:Int) - v:=by rw[hdn,mx_eq]
  rw[←hdn]
  have hdn6:dn≤D:=by split at hdn2<;>omega
  have hmp:1≤L+dn:=by split at hdn2<;>omega
  have hmp2: (L+dn).toNat≤12:=by omega
  simp only[if_neg (show ¬(dn:Int)>6 by omega)]
  rw[wid (n:=L+(dn:Int)) (by omega) (by omega)]
  refine Ev.bind (spec_l01Power_ev p (L+dn) (by omega)) ?_
  rw[powW_prime hp _ (by omega)]
  have hu0:u≠0:=by intro e;rw[e] at hn;exact hn (Int.dvd_zero p)
  have hpv1:=ipow_pos (p:=p) (by omega) v
  have hpv:p^v≤1152921504606846976:=by
    have:num.natAbs=(p^v).natAbs*u.natAbs:=by rw[←Int.natAbs_mul,←hu]
    have h3: (p^v).natAbs*1≤(p^v).natAbs*u.natAbs:=Nat.mul_le_mul_left _ (by omega)
    omega
  have hub: -1152921504606846976≤u∧u≤1152921504606846976:=by
    have:num.natAbs=(p^v).natAbs*u.natAbs:=by rw[←Int.natAbs_mul,←hu]
    have h3:1*u.natAbs≤(p^v).natAbs*u.natAbs:=Nat.mul_le_mul_right _ (by omega)
    omega
  have pv:powW p v 1=p^v:=by rw[powW_fit p (by omega) v 1 (by omega) (by omega),Int.one_mul]
  refine Ev.bind (spec_l01Power_ev p v (by omega)) ?_
  rw[Int.toNat_natCast,pv]
  simp only[if_neg (hpow v)]
  refine Ev.bind (spec_l01Power_ev p D (by omega)) ?_
  rw[Int.toNat_natCast,powW_prime hp D (by omega)]
  simp only[if_neg (hpow D)]
  rw[Int.tdiv_self (hpow D),show wrap64 1=1 from wid (by omega) (by omega)]
  have hm1:p^(L+(dn:Int)).toNat≤13841287201:=pow_13 hp _ hmp2
  have hm0:2≤p^(L+(dn:Int)).toNat:=by
    have:=ipow_mono (p:=p) (by omega) (show 1≤(L+(dn:Int)).toNat by omega)
    rw[Int.pow_one] at this;omega
  refine Ev.bind (spec_l01InvMod_one hm0 (by omega)) ?_
  have hq:Int.tdiv num (p^v)=u:=by
    conv=>lhs;lhs;rw[hu]
    exact Int.mul_tdiv_cancel_left _ (hpow v)
  rw[hq,wid (n:=u) (by omega) (by omega)]
  refine Ev.bindv (spec_l01MulMod_eq (by omega) (by omega)) ?_
  rw[Int.mul_one]
  obtain⟨e,he⟩:∃e:Nat,(e:Int)=mx ((v:Int) - (D:Int)) 0:=⟨v - D,by rw[mx_eq];split<;>omega⟩
  have he2: (e:Int)=if (v:Int) - D<0 then 0 else(v:Int) - D:=by rw[he,mx_eq]
  rw[←he]
  have hev:e≤v:=by split at he2<;>omega
  have hpe:p^e≤p^v:=ipow_mono (by omega) hev
  refine Ev.bind (spec_l01Power_ev p e (by omega)) ?_
  rw[Int.toNat_natCast,powW_fit p (by omega) e 1 (by omega) (by omega),Int.one_mul]
  refine Ev.bindv (spec_l01MulMod_eq (by omega) (by omega)) ?_
  have hT:u%p^(L+(dn:Int)).toNat*p^e%p^(L+(dn:Int)).toNat=u*p^e%p^(L+(dn:Int)).toNat:=by rw[emod_mul_emod']
  rw[hT]
  have hexp:v+(6 - D)=(6 - (dn:Int)).toNat+e:=by split at hdn2<;>split at he2<;>omega
  have hexp2: (L+6).toNat=(6 - (dn:Int)).toNat+(L+(dn:Int)).toNat:=by omega
  have key:ofM p L (num*p^(6 - D))=(L,u*p^e%p^(L+(dn:Int)).toNat,(dn:Int)):=by
    refine ofM_of hp2 ?_ (by omega) ?_
    · rw[hX,hexp,hexp2,Int.pow_add,Int.pow_add,Int.mul_assoc,Int.mul_emod_mul_of_pos _ _ (Int.lt_of_lt_of_le (by omega) (ipow_pos (p:=p) (by omega) _)),Int.mul_comm (p^e) u,Int.mul_comm]
    · by_cases hz:dn=0
      · left;omega
      · right
        have e0:e=0:=by split at hdn2<;>split at he2<;>omega
        rw[e0,Int.pow_zero,Int.mul_one]
        intro hd
        apply hn
        have hpm:p∣p^(L+(dn:Int)).toNat:=by
          obtain⟨j,hj⟩:∃j,(L+(dn:Int)).toNat=j+1:=⟨(L+(dn:Int)).toNat - 1,by omega⟩
          rw[hj,Int.pow_succ'];exact Int.dvd_mul_right _ _
        have:=Int.dvd_add hd (Int.dvd_trans hpm (Int.dvd_mul_right (p^(L+(dn:Int)).toNat) (u / p^(L+(dn:Int)).toNat)))
        rwa [Int.emod_add_mul_ediv] at this
  rw[key]
  exact Ev.now _
theorem spec_l01Holds_ev {p L T D L' T' D':Int} (h:ballB p L T D=true) (h':ballB p L' T' D'=true):Ev (fun k=>spec_l01Holds.f k p L T D L' T' D') (holdsB p L T D L' T' D'):=by
  obtain⟨hp,hL,hD,_⟩:=ball_parts h
  obtain⟨_,hL',hD',_⟩:=ball_parts h'
  have hT':=ball_num h'
  unfold spec_l01Holds.f holdsB
  by_cases hle:L≤L'
  · simp only[if_neg (show ¬L>L' by omega),decide_eq_true hle,Bool.true_and]
    refine Ev.bind (spec_l01Power_ev p D' (by omega)) ?_
    rw[powW_prime hp _ (by omega)]
    have:=spec_l01Of_pow (num:=T') D'.toNat hp (by omega) (by omega) (by omega) hL
    rw[show 6 - D'.toNat=(6 - D').toNat from by omega] at this
    refine Ev.bind this ?_
    simp only[if_true]
    rw[show ((ofM p L (T'*p^(6 - D').toNat)).1==L&&((ofM p L (T'*p^(6 - D').toNat)).2.1==T&&(ofM p L (T'*p^(6 - D').toNat)).2.2==D))=((markOf p T' D' - markOf p T D)%p^(L+6).toNat==0) from by
      rw[Bool.eq_iff_iff]
      simp only[Bool.and_eq_true,beq_iff_eq]
      rw[←holds_iff h]
      show _↔ofM p L (T'*p^(6 - D').toNat)=(L,T,D)
      constructor
      · rintro⟨e1,e2,e3⟩;exact Prod.ext e1 (Prod.ext e2 e3)
      · intro e;rw[e];exact⟨rfl,rfl,rfl⟩]
    exact Ev.now _
  · simp only[if_pos (show L>L' by omega),decide_eq_false hle,Bool.false_and];exact Ev.now _
theorem g4_chain (A B C D:Int): (Int.gcd D (Int.gcd C (Int.gcd B (Int.gcd A 0:Int):Int):Int):Int)=g4 A B C D:=by
  unfold g4
  congr 1
  show Nat.gcd D.natAbs (Nat.gcd C.natAbs (Nat.gcd B.natAbs (Nat.gcd A.natAbs 0)))=Nat.gcd (Nat.gcd A.natAbs B.natAbs) (Nat.gcd C.natAbs D.natAbs)
  rw[Nat.gcd_zero_right]
  apply Nat.dvd_antisymm
  · refine Nat.dvd_gcd (Nat.dvd_gcd ?_ ?_) (Nat.dvd_gcd ?_ ?_)
    · exact Nat.dvd_trans (Nat.gcd_dvd_right _ _) (Nat.dvd_trans (Nat.gcd_dvd_right _ _) (Nat.gcd_dvd_right _ _))
    · exact Nat.dvd_trans (Nat.gcd_dvd_right _ _) (Nat.dvd_trans (Nat.gcd_dvd_right _ _) (Nat.gcd_dvd_left _ _))
    · exact Nat.dvd_trans (Nat.gcd_dvd_right _ _) (Nat.gcd_dvd_left _ _)
    · exact Nat.gcd_dvd_left _ _
  · refine Nat.dvd_gcd ?_ (Nat.dvd_gcd ?_ (Nat.dvd_gcd ?_ ?_))
    · exact Nat.dvd_trans (Nat.gcd_dvd_right _ _) (Nat.gcd_dvd_right _ _)
    · exact Nat.dvd_trans (Nat.gcd_dvd_right _ _) (Nat.gcd_dvd_left _ _)
    · exact Nat.dvd_trans (Nat.gcd_dvd_left _ _) (Nat.gcd_dvd_right _ _)
    · exact Nat.dvd_trans (Nat.gcd_dvd_left _ _) (Nat.gcd_dvd_left _ _)
theorem gstep {β:Type} {v d:Int} {cont:Nat→Int→Option β} {r:β} (hv:bd62 v) (hd:bd62 d) (h:Ev (fun k=>cont k (Int.gcd v d:Int)) r):
    Ev (fun k=>if v=0 then(if d=0 then cont k d else(spec_l01Gcd.f k v d).bind fun t=>cont k t) else(spec_l01Gcd.f k v d).bind fun t=>cont k t) r:=by
  unfold bd62 at hv hd
  have hb:Ev (fun k=>(spec_l01Gcd.f k v d).bind fun t=>cont k t) r:=Ev.bind (spec_l01Gcd_ev v d (by omega) (by omega) (by omega) (by omega)) h
  by_cases h1:v=0
  · by_cases h2:d=0
    · simp only[if_pos h1,if_pos h2]
      rw[h1,h2] at h
      rw[h2]
      exact h
    · simp only[if_pos h1,if_neg h2];exact hb
  · simp only[if_neg h1];exact hb
theorem gcd_bd62 {a b:Int} (ha:bd62 a) (hb:bd62 b):bd62 (Int.gcd a b:Int):=by
  have:=gcd_le ha hb
  unfold bd62
  omega
theorem paired_l2 {A B C D y:Int} (hA:bd62 A) (hB:bd62 B) (hC:bd62 C) (hD:bd62 D) (hy:y≠0):
    Ev (fun k=>spec_l09Paired.l2 k y 0 A B C D) (if entB (Int.tdiv A y)&&(entB (Int.tdiv B y)&&(entB (Int.tdiv C y)&&entB (Int.tdiv D y))) then(Int.tdiv A y,Int.tdiv B y,Int.tdiv C y,Int.tdiv D y,true) else(0,0,0,0,false)):=by
  have wx:∀x,bd62 x→wrap64 (Int.tdiv x y)=Int.tdiv x y:=fun x hx=>by have:=tdiv_bd y hx;exact wid (by omega) (by omega)
  have w1:wrap64 (0+1)=1:=by rw[wid (by omega) (by omega)];rfl
  have w2:wrap64 (1+1)=2:=by rw[wid (by omega) (by omega)];rfl
  have w3:wrap64 (2+1)=3:=by rw[wid (by omega) (by omega)];rfl
  have w4:wrap64 (3+1)=4:=by rw[wid (by omega) (by omega)];rfl
  refine Ev.up ?_
  simp only[spec_l09Paired.l2,if_pos (show (0:Int)<4 by decide),if_pos (rfl: (0:Int)=0),if_neg hy,wx A hA]
  refine Ev.bindv (In_eq _ _ _) ?_
  show Ev _ (if entB (Int.tdiv A y)&&_ then _ else _)
  cases hEA:entB (Int.tdiv A y) with
  |false=>
   rw[show decide (-1000≤Int.tdiv A y∧Int.tdiv A y≤1000)=false from hEA]
   simp only[Bool.false_eq_true,if_false,Bool.false_and];exact Ev.now _
  |true=>
   rw[show decide (-1000≤Int.tdiv A y∧Int.tdiv A y≤1000)=true from hEA]
   simp only[if_true,Bool.true_and,w1]
   refine Ev.up ?_
   simp only[spec_l09Paired.l2,if_pos (show (1:Int)<4 by decide),if_neg (show ¬(1:Int)=0 by decide),if_pos (rfl: (1:Int)=1),if_neg hy,wx B hB]
   refine Ev.bindv (In_eq _ _ _) ?_
   cases hEB:entB (Int.tdiv B y) with
   |false=>
    rw[show decide (-1000≤Int.tdiv B y∧Int.tdiv B y≤1000)=false from hEB]
    simp only[Bool.false_eq_true,if_false,Bool.false_and];exact Ev.now _
   |true=>
    rw[show decide (-1000≤Int.tdiv B y∧Int.tdiv B y≤1000)=true from hEB]
    simp only[if_true,Bool.true_and,w2]
    refine Ev.up ?_
    simp only[spec_l09Paired.l2,if_pos (show (2:Int)<4 by decide),if_neg (show ¬(2:Int)=0 by decide),if_neg (show ¬(2:Int)=1 by decide),if_pos (rfl: (2:Int)=2),if_neg hy,wx C hC]
    refine Ev.bindv (In_eq _ _ _) ?_
    cases hEC:entB (Int.tdiv C y) with
    |false=>
     rw[show decide (-1000≤Int.tdiv C y∧Int.tdiv C y≤1000)=false from hEC]
     simp only[Bool.false_eq_true,if_false,Bool.false_and];exact Ev.now _
    |true=>
     rw[show decide (-1000≤Int.tdiv C y∧Int.tdiv C y≤1000)=true from hEC]
     simp only[if_true,Bool.true_and,w3]
     refine Ev.up ?_
     simp only[spec_l09Paired.l2,if_pos (show (3:Int)<4 by decide),if_neg (show ¬(3:Int)=0 by decide),if_neg (show ¬(3:Int)=1 by decide),if_neg (show ¬(3:Int)=2 by decide),if_pos (rfl: (3:Int)=3),if_neg hy,wx D hD]
     refine Ev.bindv (In_eq _ _ _) ?_
     cases hED:entB (Int.tdiv D y) with
     |false=>
      rw[show decide (-1000≤Int.tdiv D y∧Int.tdiv D y≤1000)=false from hED]
      simp only[Bool.false_eq_true,if_false];exact Ev.now _
     |true=>
      rw[show decide (-1000≤Int.tdiv D y∧Int.tdiv D y≤1000)=true from hED]
      simp only[if_true,w4]
      refine Ev.up ?_
      simp only[spec_l09Paired.l2,if_neg (show ¬(4:Int)<4 by decide)]
      exact Ev.now _
theorem paired_l0 {A B C D:Int} (hA:bd62 A) (hB:bd62 B) (hC:bd62 C) (hD:bd62 D) (hne:A≠0∨B≠0):
    Ev (fun k=>spec_l09Paired.l0 k 0 0 A B C D) (if fitM A B C D then(rM A B C D A,rM A B C D B,rM A B C D C,rM A B C D D,true) else(0,0,0,0,false)):=by
  have w1:wrap64 (0+1)=1:=by rw[wid (by omega) (by omega)];rfl
  have w2:wrap64 (1+1)=2:=by rw[wid (by omega) (by omega)];rfl
  have w3:wrap64 (2+1)=3:=by rw[wid (by omega) (by omega)];rfl
  have w4:wrap64 (3+1)=4:=by rw[wid (by omega) (by omega)];rfl
  have z:bd62 0:=by unfold bd62;omega
  have d1:=gcd_bd62 hA z
  have d2:=gcd_bd62 hB d1
  have d3:=gcd_bd62 hC d2
  have d4:=gcd_bd62 hD d3
  refine Ev.up ?_
  simp only[spec_l09Paired.l0,if_pos (show (0:Int)<4 by decide),if_pos (rfl: (0:Int)=0),w1]
  refine gstep (cont:=fun k t=>spec_l09Paired.l0 k t 1 A B C D) hA z (Ev.up ?_)
  simp only[spec_l09Paired.l0,if_pos (show (1:Int)<4 by decide),if_neg (show ¬(1:Int)=0 by decide),if_pos (rfl: (1:Int)=1),w2]
  refine gstep (cont:=fun k t=>spec_l09Paired.l0 k t 2 A B C D) hB d1 (Ev.up ?_)
  simp only[spec_l09Paired.l0,if_pos (show (2:Int)<4 by decide),if_neg (show ¬(2:Int)=0 by decide),if_neg (show ¬(2:Int)=1 by decide),if_pos (rfl: (2:Int)=2),w3]
  refine gstep (cont:=fun k t=>spec_l09Paired.l0 k t 3 A B C D) hC d2 (Ev.up ?_)
  simp only[spec_l09Paired.l0,if_pos (show (3:Int)<4 by decide),if_neg (show ¬(3:Int)=0 by decide),if_neg (show ¬(3:Int)=1 by decide),if_neg (show ¬(3:Int)=2 by decide),if_pos (rfl: (3:Int)=3),w4]
  refine gstep (cont:=fun k t=>spec_l09Paired.l0 k t 4 A B C D) hD d3 (Ev.up ?_)
  simp only[spec_l09Paired.l0,if_neg (show ¬(4:Int)<4 by decide)]
  rw[g4_chain] at d4⊢
  have hy:=byM_ne C D hne
  have fin:=paired_l2 hA hB hC hD hy
  have j3:Ev (fun k=>spec_l09Paired.j3 k (byM A B C D) A B C D) (if fitM A B C D then(rM A B C D A,rM A B C D B,rM A B C D C,rM A B C D D,true) else(0,0,0,0,false)):=by
    refine Ev.up ?_
    simp only[spec_l09Paired.j3]
    exact fin
  unfold bd62 at d4
  have pos:sg A B=1→g4 A B C D=byM A B C D:=fun e=>by unfold byM;rw[e];omega
  have neg:sg A B= -1→wrap64 (-(g4 A B C D))=byM A B C D:=fun e=>by rw[wid (by omega) (by omega)];unfold byM;rw[e];omega
  refine Ev.up ?_
  simp only[spec_l09Paired.l1,if_pos (show (0:Int)<4 by decide),if_pos (rfl: (0:Int)=0),w1]
  by_cases hA0:A=0
  · simp only[if_pos hA0]
    have hB0:=hne.resolve_left (fun h=>h hA0)
    refine Ev.up ?_
    simp only[spec_l09Paired.l1,if_pos (show (1:Int)<4 by decide),if_neg (show ¬(1:Int)=0 by decide),if_pos (rfl: (1:Int)=1),if_neg hB0]
    by_cases hBn:B<0
    · simp only[if_pos hBn]
      rw[neg (by unfold sg;rw[if_pos (.inr ⟨hA0,hBn⟩)])];exact j3
    · simp only[if_neg hBn]
      rw[pos (by unfold sg;rw[if_neg (by omega)])];exact j3
  · simp only[if_neg hA0]
    by_cases hAn:A<0
    · simp only[if_pos hAn]
      rw[neg (by unfold sg;rw[if_pos (.inl hAn)])];exact j3
    · simp only[if_neg hAn]
      rw[pos (by unfold sg;rw[if_neg (by omega)])];exact j3
theorem impl_mark_ev {p L T D:Int} (h:ballB p L T D=true):Ev (fun k=>impl_mark.f k p L T D) (markOf p T D):=by
  obtain⟨hp,hL,hD,_,_⟩:=ball_parts h
  have hp2:=prime_lo hp
  obtain⟨m0,m1⟩:=mark_lt h
  have m2:=pow_13 hp (L+6).toNat (by omega)
  unfold impl_mark.f
  rw[wid (n:=6 - D) (by omega) (by omega)]
  refine Ev.bind (impl_power_ev p _ (by omega)) ?_
  rw[powW_prime hp _ (by omega),show T*p^(6 - D).toNat=markOf p T D from rfl,wid (by omega) (by omega)]
  exact Ev.now _
theorem impl_holds_ev {p L T D L' T' D':Int} (h:ballB p L T D=true) (h':ballB p L' T' D'=true):Ev (fun k=>impl_holds.f k p L T D L' T' D') (holdsB p L T D L' T' D'):=by
  obtain⟨hp,hL,_⟩:=ball_parts h
  have hp2:=prime_lo hp
  have hL':=(ball_parts h').2.1
  obtain⟨a0,a1⟩:=mark_lt h
  obtain⟨b0,b1⟩:=mark_lt h'
  have m2:=pow_13 hp (L+6).toNat (by omega)
  have m2':=pow_13 hp (L'+6).toNat (by omega)
  have m1:=ipow_pos (p:=p) (by omega) (L+6).toNat
  unfold impl_holds.f holdsB
  by_cases hle:L≤L'
  · simp only[if_pos hle,decide_eq_true hle,Bool.true_and]
    refine Ev.bind (impl_mark_ev h') (Ev.bind (impl_mark_ev h) ?_)
    rw[wid (n:=L+6) (by omega) (by omega)]
    refine Ev.bind (impl_power_ev p _ (by omega)) ?_
    rw[powW_prime hp _ (by omega),wid (n:=markOf p T' D' - markOf p T D) (by omega) (by omega)]
    simp only[if_neg (show ¬p^(L+6).toNat=0 by omega)]
    rw[show (Int.tmod (markOf p T' D' - markOf p T D) (p^(L+6).toNat)==0)=((markOf p T' D' - markOf p T D)%p^(L+6).toNat==0) from by
      rw[Bool.eq_iff_iff,beq_iff_eq,beq_iff_eq,←Int.dvd_iff_tmod_eq_zero,←Int.dvd_iff_emod_eq_zero]]
    exact Ev.now _
  · simp only[if_neg hle,decide_eq_false hle,Bool.false_and];exact Ev.now _
theorem impl_isPrime_eq (p:Int):impl_isPrime.f p=some (primeB p):=by
  unfold impl_isPrime.f primeB
  by_cases h2:p=2
  · simp[h2]
  · by_cases h3:p=3
    · simp[h3]
    · by_cases h5:p=5
      · simp[h5]
      · rw[if_neg h2,if_neg h3,if_neg h5,beq_eq_false_iff_ne.2 h2,beq_eq_false_iff_ne.2 h3,beq_eq_false_iff_ne.2 h5];rfl
theorem impl_isLevel_eq (L:Int):impl_isLevel.f L=some (decide (-6≤L∧L≤6)):=by
  unfold impl_isLevel.f
  by_cases h:L≥ -6
  · rw[if_pos h];congr 1;exact decide_eq_decide.2 ⟨fun h2=>⟨h,h2⟩,fun h2=>h2.2⟩
  · rw[if_neg h];congr 1;exact(decide_eq_false (fun h2=>h h2.1)).symm
theorem impl_IsBall_ev (p L T D:Int):Ev (fun k=>impl_IsBall.f k p L T D) (ballB p L T D):=by
  have hno:Ev (fun k=>impl_IsBall.j0 k p true L T D) false:=Ev.step (f:=fun _=>some false) (fun k=>by simp only[impl_IsBall.j0,if_true]) (Ev.now _)
  unfold impl_IsBall.f
  refine Ev.bindv (impl_isPrime_eq p) ?_
  unfold ballB
  cases hp:primeB p with
  |false=>simpa using hno
  |true=>
   have hp2:=prime_lo hp
   simp only[if_true,Bool.true_and]
   refine Ev.bindv (impl_isLevel_eq L) ?_
   by_cases hL: -6≤L∧L≤6
   · rw[decide_eq_true hL];simp only[if_true,Bool.true_and]
     by_cases hD0:D<0
     · rw[decide_eq_false (show ¬(0≤D∧D≤6) by omega)];simp only[if_pos hD0,Bool.false_and];exact hno
     simp only[if_neg hD0]
     by_cases hD:0≤D∧D≤6
     · rw[decide_eq_true hD,decide_eq_false (show ¬D>6 by omega)];simp only[Bool.true_and]
       have hn:=wid (n:=L+D) (by omega) (by omega)
       by_cases h0:L+D≤0
       · rw[if_pos h0]
         refine Ev.step (f:=fun _=>some (T==0&&D==0)) (fun k=>?_) (Ev.now _)
         simp only[impl_IsBall.j0]
         rw[if_neg (by decide),hn,if_pos h0]
         by_cases hT:T=0
         · simp[hT]
         · simp[hT]
       · rw[if_neg h0]
         by_cases hT0:T≥0
         · refine Ev.step (f:=fun k=>(impl_power.f k p (L+D)).bind fun t=>if T<t then(if D=0 then some true else if p=0 then none else some (Int.tmod T p !=0)) else some false) (fun k=>by simp only[impl_IsBall.j0];rw[if_neg (by decide),hn,if_neg h0,if_pos hT0]) ?_
           refine Ev.bind (impl_power_ev p (L+D) (by omega)) ?_
           rw[powW_prime hp _ (by omega)]
           by_cases hT1:T<p^(L+D).toNat
           · rw[if_pos hT1,decide_eq_true (show 0≤T∧T<p^(L+D).toNat from ⟨hT0,hT1⟩),Bool.true_and]
             by_cases hd:D=0
             · simp only[hd,if_true];simp;exact Ev.now _
             · rw[if_neg hd,if_neg (by omega),show (D==0)=false from beq_eq_false_iff_ne.2 hd,Bool.false_or]
               exact Ev.now _
           · rw[if_neg hT1,decide_eq_false (show ¬(0≤T∧T<p^(L+D).toNat) from fun h=>hT1 h.2),Bool.false_and]
             exact Ev.now _
         · rw[decide_eq_false (show ¬(0≤T∧T<p^(L+D).toNat) from fun h=>hT0 h.1),Bool.false_and]
           refine Ev.step (f:=fun _=>some false) (fun k=>?_) (Ev.now _)
           simp only[impl_IsBall.j0]
           rw[if_neg (by decide),hn,if_neg h0,if_neg hT0]
     · rw[decide_eq_false hD,decide_eq_true (show D>6 by omega)];simpa using hno
   · rw[decide_eq_false hL];simpa using hno
theorem impl_areBalls_ev (p:Int) (l:List S28) (hl:l.length≤4611686018427387904):Ev (fun k=>impl_areBalls.f k p l) (primeB p&&l.all (fun b=>ballB p b.f0 b.f1 b.f2)):=by
  unfold impl_areBalls.f
  have hr:∀(i:Nat) (k:Nat),i<l.length→impl_areBalls.l0 (k+1) p l l.length i=(impl_IsBall.f k p (l.getD i z28).f0 (l.getD i z28).f1 (l.getD i z28).f2).bind fun t=>if t=true then impl_areBalls.l0 k p l l.length ((i:Int)+1) else some false:=by
    intro i k hi
    simp only[impl_areBalls.l0]
    rw[if_pos (by omega),if_pos (by omega),if_pos (by omega),wid (by omega) (by omega)];rfl
  have:=all_ev' (fun k i=>impl_areBalls.l0 k p l l.length i) l.length (fun i=>ballB p (l.getD i z28).f0 (l.getD i z28).f1 (l.getD i z28).f2) (primeB p) false (by
    intro i r hi hb hr'
    refine Ev.step (hr i · hi) (Ev.bind (impl_IsBall_ev _ _ _ _) ?_)
    rw[hb];simpa using hr') (by
    intro i hi hb
    refine Ev.step (hr i · hi) (Ev.bind (impl_IsBall_ev _ _ _ _) ?_)
    rw[hb];simp;exact Ev.now _) (by
    refine Ev.step (f:=fun _=>(impl_isPrime.f p).bind fun t=>some t) (fun k=>by simp only[impl_areBalls.l0];rw[if_neg (by omega)]) ?_
    exact Ev.bindv (impl_isPrime_eq p) (Ev.now _))
  rw[all_range_getD l z28 (fun b=>ballB p b.f0 b.f1 b.f2)] at this
  rw[show (primeB p&&l.all (fun b=>ballB p b.f0 b.f1 b.f2))=(if l.all (fun b=>ballB p b.f0 b.f1 b.f2)=true then primeB p else false) from by cases l.all (fun b=>ballB p b.f0 b.f1 b.f2)<;>simp]
  exact this
theorem mx_max3 (a b:Int):mx a b=max a b:=by unfold mx;split<;>omega
theorem pow_14 {p:Int} (hp:primeB p=true) (n:Nat) (h:n≤13):p^n≤96889010407:=by
  have hp2:=prime_lo hp
  have h1:p^n≤p^13:=ipow_mono (by omega) h
  have h2:p^13≤96889010407:=by rcases prime_cases hp with rfl|rfl|rfl|rfl<;>decide
  omega
theorem mulB {x y M N:Int} (hx:0≤x∧x≤M) (hy:0≤y∧y≤N):0≤x*y∧x*y≤M*N:=
  ⟨Int.mul_nonneg hx.1 hy.1,Int.mul_le_mul hx.2 hy.2 hy.1 (by omega)⟩
section
variable {p La Sa Da Lb Tb Db:Int} (h:ballB p La Sa Da=true) (h':ballB p Lb Tb Db=true)
def pmW (p La Sa Da Lb Tb Db:Int):Int×Int×Int×Int×Bool:=
  if fitM (pmA p Tb Da (La+Lb - 1)) (pmB p Sa Tb Da Db (La+Lb - 1)) (pmC p Da Db (La+Lb - 1)) (pmD p Sa Db (La+Lb - 1)) then
    (rM (pmA p Tb Da (La+Lb - 1)) (pmB p Sa Tb Da Db (La+Lb - 1)) (pmC p Da Db (La+Lb - 1)) (pmD p Sa Db (La+Lb - 1)) (pmA p Tb Da (La+Lb - 1)),
     rM (pmA p Tb Da (La+Lb - 1)) (pmB p Sa Tb Da Db (La+Lb - 1)) (pmC p Da Db (La+Lb - 1)) (pmD p Sa Db (La+Lb - 1)) (pmB p Sa Tb Da Db (La+Lb - 1)),
     rM (pmA p Tb Da (La+Lb - 1)) (pmB p Sa Tb Da Db (La+Lb - 1)) (pmC p Da Db (La+Lb - 1)) (pmD p Sa Db (La+Lb - 1)) (pmC p Da Db (La+Lb - 1)),
     rM (pmA p Tb Da (La+Lb - 1)) (pmB p Sa Tb Da Db (La+Lb - 1)) (pmC p Da Db (La+Lb - 1)) (pmD p Sa Db (La+Lb - 1)) (pmD p Sa Db (La+Lb - 1)),true)
  else(0,0,0,0,false)
def pmN (p La Sa Da Lb Tb Db:Int):Int:=if La+Lb - 1+(Da+Db)≥0 then p^(La+Lb - 1+(Da+Db)).toNat - Sa*Tb else 1 - Sa*Tb*p^(-(La+Lb - 1+(Da+Db))).toNat
def pmE (La Da Lb Db:Int):Nat:=if La+Lb - 1+(Da+Db)≥0 then(Da+Db).toNat else(-(La+Lb - 1)).toNat
include h h' in
theorem pm_rel:pmB p Sa Tb Da Db (La+Lb - 1)*p^pmE La Da Lb Db=pmN p La Sa Da Lb Tb Db*pmC p Da Db (La+Lb - 1):=by
  obtain⟨hp,hL,hD,_,_⟩:=ball_parts h
  obtain⟨_,hL',hD',_,_⟩:=ball_parts h'
  unfold pmB pmC pmN pmE
  by_cases hu:La+Lb - 1+(Da+Db)≥0
  · rw[if_pos hu,if_pos hu]
    have e1:p^(max (La+Lb - 1) 0).toNat*p^Da.toNat*p^Db.toNat=p^(La+Lb - 1+(Da+Db)).toNat*p^(max (-(La+Lb - 1)) 0).toNat:=by
      rw[←Int.pow_add,←Int.pow_add,←Int.pow_add];congr 1;omega
    have e2:p^(Da+Db).toNat=p^Da.toNat*p^Db.toNat:=by rw[←Int.pow_add];congr 1;omega
    rw[e1,e2,←Int.sub_mul]
    ac_rfl
  · rw[if_neg hu,if_neg hu]
    have e0:p^(max (La+Lb - 1) 0).toNat=1:=by rw[show (max (La+Lb - 1) 0).toNat=0 by omega,Int.pow_zero]
    have e1:p^(max (-(La+Lb - 1)) 0).toNat=p^Da.toNat*p^Db.toNat*p^(-(La+Lb - 1+(Da+Db))).toNat:=by
      rw[←Int.pow_add,←Int.pow_add];congr 1;omega
    have e2:p^(-(La+Lb - 1)).toNat=p^(max (-(La+Lb - 1)) 0).toNat:=by congr 1;omega
    rw[e0,Int.one_mul,e2,e1]
    generalize p^Da.toNat=x
    generalize p^Db.toNat=y
    generalize p^(-(La+Lb - 1+(Da+Db))).toNat=w
    rw[show Sa*Tb*(x*y*w)=x*y*(Sa*Tb*w) from by ac_rfl,show x*y - x*y*(Sa*Tb*w)=x*y*(1 - Sa*Tb*w) from by rw[Int.mul_sub,Int.mul_one]]
    ac_rfl
include h h' in
theorem pm_facts {num:Int} {n:Nat} (hn:n≤1000) (hB:pmB p Sa Tb Da Db (La+Lb - 1)*p^n=num*pmC p Da Db (La+Lb - 1)) (hu:n=0∨¬p∣num)
    (hf:fitM (pmA p Tb Da (La+Lb - 1)) (pmB p Sa Tb Da Db (La+Lb - 1)) (pmC p Da Db (La+Lb - 1)) (pmD p Sa Db (La+Lb - 1))=true):
    (0≤Tb∧Tb≤1000)∧(0≤Sa∧Sa≤1000)∧p^(max (max Da.toNat Db.toNat) n)≤1000∧(-1000≤num∧num≤1000):=by
  obtain⟨hp,hL,hD,_,_⟩:=ball_parts h
  obtain⟨_,hL',hD',_,_⟩:=ball_parts h'
  have hp2:=prime_lo hp
  have s0:=(ball_num h).1
  have t0:=(ball_num h').1
  have us:=ball_unit h
  have ut:=ball_unit h'
  generalize hj:max (max Da.toNat Db.toNat) n=j
  obtain⟨⟨r1,r2,r3,r4⟩,_⟩:=pm_same (S:=Sa) (T:=Tb) (j:=j) hp hD.1 hD'.1 hB (by omega) (by omega) (by omega)
  unfold fitM at hf
  rw[r1,r2,r3,r4] at hf
  have g1:g4 (Tb*p^(j - Db.toNat)) (num*p^(j - n)) (p^j) (-Sa*p^(j - Da.toNat))=1:=by
    refine g4_one hp j ?_
    by_cases j0:j=0
    · exact .inl j0
    · right
      rcases(show j=Db.toNat∨j=n∨j=Da.toNat by omega) with e|e|e
      · left
        rw[show j - Db.toNat=0 by omega,Int.pow_zero,Int.mul_one]
        exact ut.resolve_left (by omega)
      · right;left
        rw[show j - n=0 by omega,Int.pow_zero,Int.mul_one]
        exact hu.resolve_left (by omega)
      · right;right
        rw[show j - Da.toNat=0 by omega,Int.pow_zero,Int.mul_one]
        intro hd
        exact us.resolve_left (by omega) (Int.dvd_neg.1 hd)
  obtain⟨f1,f2,f3,f4⟩:=fit_one g1 hf
  have q1:=ipow_pos (show 1≤p by omega) (j - Db.toNat)
  have q2:=ipow_pos (show 1≤p by omega) (j - n)
  have q4:=ipow_pos (show 1≤p by omega) (j - Da.toNat)
  have k1:=Int.mul_nonneg t0 (show 0≤p^(j - Db.toNat) - 1 by omega)
  have k4:=Int.mul_nonneg s0 (show 0≤p^(j - Da.toNat) - 1 by omega)
  rw[Int.mul_sub] at k1 k4
  rw[Int.neg_mul] at f4
  refine⟨⟨t0,by omega⟩,⟨s0,by omega⟩,f3.2,?_⟩
  by_cases hn0:0≤num
  · have k2:=Int.mul_nonneg hn0 (show 0≤p^(j - n) - 1 by omega)
    rw[Int.mul_sub] at k2
    omega
  · have k2:=Int.mul_nonneg (show 0≤ -num by omega) (show 0≤p^(j - n) - 1 by omega)
    rw[Int.mul_sub,Int.neg_mul] at k2
    omega
include h h' in
theorem pm_small (hf:fitM (pmA p Tb Da (La+Lb - 1)) (pmB p Sa Tb Da Db (La+Lb - 1)) (pmC p Da Db (La+Lb - 1)) (pmD p Sa Db (La+Lb - 1))=true):
    (0≤Tb∧Tb≤1000)∧(0≤Sa∧Sa≤1000)∧p^(max Da.toNat Db.toNat)≤1000∧La+Lb - 1+(Da+Db)≤19:=by
  obtain⟨hp,hL,hD,_,_⟩:=ball_parts h
  obtain⟨_,hL',hD',_,_⟩:=ball_parts h'
  have hp2:=prime_lo hp
  have us:=ball_unit h
  have ut:=ball_unit h'
  have hE:pmE La Da Lb Db≤1000:=by unfold pmE;split<;>omega
  obtain⟨num,n,n1,n2,n3,n4,_⟩:=pm_norm hp (pmB p Sa Tb Da Db (La+Lb - 1)) (pmC p Da Db (La+Lb - 1)) La Sa Da Lb Tb Db (pmE La Da Lb Db) (pmN p La Sa Da Lb Tb Db) (by omega) (pm_rel h h')
  obtain⟨a1,a2,a3,a4⟩:=pm_facts h h' (by omega) n2 n3 hf
  have hm:p^(max Da.toNat Db.toNat)≤1000:=by
    have:=ipow_mono (p:=p) (by omega) (show max Da.toNat Db.toNat≤max (max Da.toNat Db.toNat) n by omega)
    omega
  refine⟨a1,a2,hm,?_⟩
  apply Decidable.byContradiction
  intro hup
  have hDD:0<Da∧0<Db:=by omega
  have hs:=us.resolve_left (by omega)
  have ht:=ut.resolve_left (by omega)
  have hN:pmN p La Sa Da Lb Tb Db=p^(La+Lb - 1+(Da+Db)).toNat - Sa*Tb:=by unfold pmN;rw[if_pos (by omega)]
  have hC:pmC p Da Db (La+Lb - 1)≠0:=by
    have hpos:∀n:Nat,p^n≠0:=fun n=>Int.pow_ne_zero (by omega)
    unfold pmC
    intro h
    simp only[Int.mul_eq_zero] at h
    rcases h with (h|h)|h<;>exact hpos _ h
  have hnd:¬p∣pmN p La Sa Da Lb Tb Db:=by
    intro hd
    rw[hN] at hd
    have h1:p∣p^(La+Lb - 1+(Da+Db)).toNat:=⟨p^((La+Lb - 1+(Da+Db)).toNat - 1),by rw[←Int.pow_succ'];congr 1;omega⟩
    have h2:p∣Sa*Tb:=by
      have:=Int.dvd_sub h1 hd
      rwa [Int.sub_sub_self] at this
    have h3:p.natAbs∣Sa.natAbs*Tb.natAbs:=by rw[←Int.natAbs_mul];exact Int.natAbs_dvd_natAbs.2 h2
    have h4:Nat.Coprime p.natAbs Sa.natAbs:=by rw[Nat.coprime_comm];exact cop hp hs
    exact ht (Int.natAbs_dvd_natAbs.1 (Nat.Coprime.dvd_of_dvd_mul_left h4 h3))
  have hnn:num*p^(pmE La Da Lb Db - n)=pmN p La Sa Da Lb Tb Db:=by
    refine Int.eq_of_mul_eq_mul_right hC ?_
    rw[←pm_rel h h',show num*p^(pmE La Da Lb Db - n)*pmC p Da Db (La+Lb - 1)=num*pmC p Da Db (La+Lb - 1)*p^(pmE La Da Lb Db - n) from by ac_rfl,←n2,Int.mul_assoc,←Int.pow_add]
    congr 2;omega
  have hnE:pmE La Da Lb Db - n=0:=by
    apply Decidable.byContradiction
    intro h0
    exact hnd (hnn▸⟨num*p^(pmE La Da Lb Db - n - 1),by
      rw[show p*(num*p^(pmE La Da Lb Db - n - 1))=num*(p^(pmE La Da Lb Db - n - 1)*p) from by ac_rfl,←Int.pow_succ]
      congr 2;omega⟩)
  rw[hnE,Int.pow_zero,Int.mul_one,hN] at hnn
  have hpw: (1048576:Int)≤p^(La+Lb - 1+(Da+Db)).toNat:=by
    have h1:=ipow_mono (p:=p) (by omega) (show 20≤(La+Lb - 1+(Da+Db)).toNat by omega)
    have h2: (1048576:Int)≤p^20:=by rcases prime_cases hp with rfl|rfl|rfl|rfl<;>decide
    omega
  have:=mulB a2 a1
  omega
include h h' in
theorem spec_l09Paired_ev:Ev (fun k=>spec_l09Paired.f k p La Sa Da Lb Tb Db) (pmW p La Sa Da Lb Tb Db):=by
  obtain⟨hp,hL,hD,hz,hS⟩:=ball_parts h
  obtain⟨_,hL',hD',hz',hS'⟩:=ball_parts h'
  have hp2:=prime_lo hp
  have s0:=ball_num h
  have t0:=ball_num h'
  have stop (nf:fitM (pmA p Tb Da (La+Lb - 1)) (pmB p Sa Tb Da Db (La+Lb - 1)) (pmC p Da Db (La+Lb - 1)) (pmD p Sa Db (La+Lb - 1))≠true) (m:Int):Ev (fun k=>spec_l09Paired.j0 k p m true La Sa Da Lb Tb Db) (pmW p La Sa Da Lb Tb Db):=by
    unfold pmW
    rw[if_neg nf]
    refine Ev.up ?_
    simp only[spec_l09Paired.j0,if_true]
    exact Ev.now _
  unfold spec_l09Paired.f
  rw[wid (n:=La+Lb) (by omega) (by omega),wid (n:=La+Lb - 1) (by omega) (by omega),wid (n:=Da+Db) (by omega) (by omega)]
  by_cases c1:Sa>1000000
  · simp only[if_pos c1]
    exact stop (fun hf=>by have:=(pm_small h h' hf).2.1;omega) _
  simp only[if_neg c1]
  by_cases c2:Tb>1000000
  · simp only[if_pos c2]
    exact stop (fun hf=>by have:=(pm_small h h' hf).1;omega) _
  simp only[if_neg c2]
  have main (h7:p=7→Da+Db≠12):Ev (fun k=>spec_l09Paired.j0 k p (La+Lb - 1) false La Sa Da Lb Tb Db) (pmW p La Sa Da Lb Tb Db):=by
    refine Ev.up ?_
    simp only[spec_l09Paired.j0,Bool.false_eq_true,if_false,mx_max3]
    rw[wid (n:= -(La+Lb - 1)) (by omega) (by omega)]
    refine Ev.bind (spec_l01Power_ev p _ (by omega)) (Ev.bind (spec_l01Power_ev p _ (by omega)) (Ev.bind (spec_l01Power_ev p _ (by omega)) (Ev.bind (spec_l01Power_ev p _ (by omega)) ?_)))
    rw[powW_prime hp _ (by omega),powW_prime hp _ (by omega),powW_prime hp _ (by omega),powW_prime hp _ (by omega)]
    have px:=ipow_pos (show 1≤p by omega) Da.toNat
    have py:=ipow_pos (show 1≤p by omega) Db.toNat
    have pu:=ipow_pos (show 1≤p by omega) (max (La+Lb - 1) 0).toNat
    have pz:=ipow_pos (show 1≤p by omega) (max (-(La+Lb - 1)) 0).toNat
    have bx:=pow_6 hp Da.toNat (by omega)
    have by_:=pow_6 hp Db.toNat (by omega)
    have bu:=pow_13 hp (max (La+Lb - 1) 0).toNat (by omega)
    have bz:=pow_14 hp (max (-(La+Lb - 1)) 0).toNat (by omega)
    have bxyz:p^Da.toNat*p^Db.toNat*p^(max (-(La+Lb - 1)) 0).toNat≤3909821048582988049:=by
      rw[←Int.pow_add,←Int.pow_add]
      refine pow_b hp _ ?_
      have i1:La+Da≤0→Da=0:=fun x=>(hz x).2
      have i2:Lb+Db≤0→Db=0:=fun x=>(hz' x).2
      have i3:p≠7∨Da+Db≠12:=by by_cases e:p=7;exact .inr (h7 e);exact .inl e
      clear hS hS' stop
      rcases i3 with i3|i3
      · right;refine⟨?_,i3⟩;omega
      · left;omega
    have buxy:p^(max (La+Lb - 1) 0).toNat*p^Da.toNat*p^Db.toNat≤3909821048582988049:=by
      rw[←Int.pow_add,←Int.pow_add]
      refine pow_b hp _ ?_
      have i3:p≠7∨Da+Db≠12:=by by_cases e:p=7;exact .inr (h7 e);exact .inl e
      clear hS hS' stop
      rcases i3 with i3|i3
      · right;refine⟨?_,i3⟩;omega
      · left;omega
    have bux:0≤p^(max (La+Lb - 1) 0).toNat*p^Da.toNat∧p^(max (La+Lb - 1) 0).toNat*p^Da.toNat≤13841287201*117649:=mulB ⟨by omega,bu⟩ ⟨by omega,bx⟩
    have bxy:0≤p^Da.toNat*p^Db.toNat∧p^Da.toNat*p^Db.toNat≤117649*117649:=mulB ⟨by omega,bx⟩ ⟨by omega,by_⟩
    have btx:0≤Tb*p^Da.toNat∧Tb*p^Da.toNat≤1000000*117649:=mulB ⟨t0.1,by omega⟩ ⟨by omega,bx⟩
    have bsy:0≤Sa*p^Db.toNat∧Sa*p^Db.toNat≤1000000*117649:=mulB ⟨s0.1,by omega⟩ ⟨by omega,by_⟩
    have bst:0≤Sa*Tb∧Sa*Tb≤1000000*1000000:=mulB ⟨s0.1,by omega⟩ ⟨t0.1,by omega⟩
    have zx:=Int.mul_nonneg bxy.1 (show 0≤p^(max (-(La+Lb - 1)) 0).toNat by omega)
    have zu:=Int.mul_nonneg bux.1 (show 0≤p^Db.toNat by omega)
    have top {L T D:Int} (hb:ballB p L T D=true):T=0∨(0<L+D∧T≤p^(L+D).toNat):=by
      obtain⟨_,_,_,y1,y2⟩:=ball_parts hb
      by_cases y:L+D≤0
      · exact .inl (y1 y).1
      · exact .inr ⟨by omega,by have:=(y2 (by omega)).1;omega⟩
    have btxz:0≤Tb*p^Da.toNat*p^(max (-(La+Lb - 1)) 0).toNat∧Tb*p^Da.toNat*p^(max (-(La+Lb - 1)) 0).toNat≤3909821048582988049:=by
      refine⟨Int.mul_nonneg btx.1 (by omega),?_⟩
      rcases top h' with e|⟨e1,e2⟩
      · rw[e];simp
      · by_cases he:La+Lb - 1≥0
        · rw[show (max (-(La+Lb - 1)) 0).toNat=0 by omega,Int.pow_zero,Int.mul_one];omega
        · have q1:=mulB ⟨t0.1,e2⟩ ⟨show 0≤p^Da.toNat by omega,Int.le_refl _⟩
          have q2:=mulB q1 ⟨show 0≤p^(max (-(La+Lb - 1)) 0).toNat by omega,Int.le_refl _⟩
          rw[←Int.pow_add,←Int.pow_add] at q2
          have q3:=pow_b hp ((Lb+Db).toNat+Da.toNat+(max (-(La+Lb - 1)) 0).toNat) (.inl (by omega))
          omega
    have bsyz:0≤Sa*p^Db.toNat*p^(max (-(La+Lb - 1)) 0).toNat∧Sa*p^Db.toNat*p^(max (-(La+Lb - 1)) 0).toNat≤3909821048582988049:=by
      refine⟨Int.mul_nonneg bsy.1 (by omega),?_⟩
      rcases top h with e|⟨e1,e2⟩
      · rw[e];simp
      · by_cases he:La+Lb - 1≥0
        · rw[show (max (-(La+Lb - 1)) 0).toNat=0 by omega,Int.pow_zero,Int.mul_one];omega
        · have q1:=mulB ⟨s0.1,e2⟩ ⟨show 0≤p^Db.toNat by omega,Int.le_refl _⟩
          have q2:=mulB q1 ⟨show 0≤p^(max (-(La+Lb - 1)) 0).toNat by omega,Int.le_refl _⟩
          rw[←Int.pow_add,←Int.pow_add] at q2
          have q3:=pow_b hp ((La+Da).toNat+Db.toNat+(max (-(La+Lb - 1)) 0).toNat) (.inl (by omega))
          omega
    have bstz:0≤Sa*Tb*p^(max (-(La+Lb - 1)) 0).toNat∧Sa*Tb*p^(max (-(La+Lb - 1)) 0).toNat≤96889010407000000:=by
      refine⟨Int.mul_nonneg bst.1 (by omega),?_⟩
      rcases top h with e|⟨e1,e2⟩
      · rw[e];simp
      · rcases top h' with e'|⟨e1',e2'⟩
        · rw[e'];simp
        · by_cases he:La+Lb - 1≥0
          · rw[show (max (-(La+Lb - 1)) 0).toNat=0 by omega,Int.pow_zero,Int.mul_one];omega
          · have q1:=mulB ⟨s0.1,e2⟩ ⟨t0.1,e2'⟩
            have q2:=mulB q1 ⟨show 0≤p^(max (-(La+Lb - 1)) 0).toNat by omega,Int.le_refl _⟩
            rw[←Int.pow_add,←Int.pow_add] at q2
            have q3:=pow_14 hp ((La+Da).toNat+(Lb+Db).toNat+(max (-(La+Lb - 1)) 0).toNat) (by omega)
            omega
    have eD: -Sa*p^Db.toNat= -(Sa*p^Db.toNat):=Int.neg_mul _ _
    have eD2: -(Sa*p^Db.toNat)*p^(max (-(La+Lb - 1)) 0).toNat= -(Sa*p^Db.toNat*p^(max (-(La+Lb - 1)) 0).toNat):=Int.neg_mul _ _
    rw[wid (n:=Tb*p^Da.toNat) (by omega) (by omega),wid (n:=Tb*p^Da.toNat*p^(max (-(La+Lb - 1)) 0).toNat) (by omega) (by omega),
      wid (n:=p^(max (La+Lb - 1) 0).toNat*p^Da.toNat) (by omega) (by omega),wid (n:=p^(max (La+Lb - 1) 0).toNat*p^Da.toNat*p^Db.toNat) (by omega) (by omega),
      wid (n:=Sa*Tb) (by omega) (by omega),wid (n:=Sa*Tb*p^(max (-(La+Lb - 1)) 0).toNat) (by omega) (by omega),
      wid (n:=p^(max (La+Lb - 1) 0).toNat*p^Da.toNat*p^Db.toNat - Sa*Tb*p^(max (-(La+Lb - 1)) 0).toNat) (by omega) (by omega),
      wid (n:=p^Da.toNat*p^Db.toNat) (by omega) (by omega),wid (n:=p^Da.toNat*p^Db.toNat*p^(max (-(La+Lb - 1)) 0).toNat) (by omega) (by omega),
      wid (n:= -Sa) (by omega) (by omega),wid (n:= -Sa*p^Db.toNat) (by omega) (by omega),wid (n:= -Sa*p^Db.toNat*p^(max (-(La+Lb - 1)) 0).toNat) (by rw[eD,eD2];omega) (by rw[eD,eD2];omega)]
    have hne:=rowNe (pm_det hp2 Sa Tb Da Db (La+Lb - 1))
    have:=paired_l0 (A:=pmA p Tb Da (La+Lb - 1)) (B:=pmB p Sa Tb Da Db (La+Lb - 1)) (C:=pmC p Da Db (La+Lb - 1)) (D:=pmD p Sa Db (La+Lb - 1))
      (by unfold bd62 pmA;omega) (by unfold bd62 pmB;omega) (by unfold bd62 pmC;omega) (by unfold bd62 pmD;rw[eD,eD2];omega) hne
    exact this
  by_cases c3:p=7
  · simp only[if_pos c3]
    by_cases c4:Da+Db=12
    · rw[c4]
      refine stop (fun hf=>?_) _
      have h1:=(pm_small h h' hf).2.2.1
      rw[show max Da.toNat Db.toNat=6 by omega,c3] at h1
      exact absurd h1 (by decide)
    · rw[show (Da+Db==12)=false from beq_eq_false_iff_ne.2 c4]
      exact main (fun _=>c4)
  · simp only[if_neg c3]
    exact main (fun e=>absurd e c3)
include h h' in
theorem impl_pm_ev:Ev (fun k=>impl_PairedMover.j0 k p false La Sa Da Lb Tb Db) (if (pmW p La Sa Da Lb Tb Db).2.2.2.2=true then((pmW p La Sa Da Lb Tb Db).1,(pmW p La Sa Da Lb Tb Db).2.1,(pmW p La Sa Da Lb Tb Db).2.2.1,(pmW p La Sa Da Lb Tb Db).2.2.2.1,0) else(0,0,0,0,3))∨1000<Sa∨1000<Tb:=by
  obtain⟨hp,hL,hD,hz,hS⟩:=ball_parts h
  obtain⟨_,hL',hD',hz',hS'⟩:=ball_parts h'
  have hp2:=prime_lo hp
  have s0:=ball_num h
  have t0:=ball_num h'
  by_cases c1:1000<Sa
  · exact .inr (.inl c1)
  by_cases c2:1000<Tb
  · exact .inr (.inr c2)
  left
  have res (nf:fitM (pmA p Tb Da (La+Lb - 1)) (pmB p Sa Tb Da Db (La+Lb - 1)) (pmC p Da Db (La+Lb - 1)) (pmD p Sa Db (La+Lb - 1))≠true): (if (pmW p La Sa Da Lb Tb Db).2.2.2.2=true then((pmW p La Sa Da Lb Tb Db).1,(pmW p La Sa Da Lb Tb Db).2.1,(pmW p La Sa Da Lb Tb Db).2.2.1,(pmW p La Sa Da Lb Tb Db).2.2.2.1,(0:Int)) else(0,0,0,0,3))=(0,0,0,0,3):=by
    unfold pmW;rw[if_neg nf];rfl
  have hE:pmE La Da Lb Db≤1000:=by unfold pmE;split<;>omega
  obtain⟨num,n,n1,n2,n3,n4,n5⟩:=pm_norm hp (pmB p Sa Tb Da Db (La+Lb - 1)) (pmC p Da Db (La+Lb - 1)) La Sa Da Lb Tb Db (pmE La Da Lb Db) (pmN p La Sa Da Lb Tb Db) (by omega) (pm_rel h h')
  have bst:0≤Sa*Tb∧Sa*Tb≤1000*1000:=mulB ⟨s0.1,by omega⟩ ⟨t0.1,by omega⟩
  generalize hr: (if (pmW p La Sa Da Lb Tb Db).2.2.2.2=true then((pmW p La Sa Da Lb Tb Db).1,(pmW p La Sa Da Lb Tb Db).2.1,(pmW p La Sa Da Lb Tb Db).2.2.1,(pmW p La Sa Da Lb Tb Db).2.2.2.1,(0:Int)) else(0,0,0,0,3))=r at res
  have j5stop (nf:fitM (pmA p Tb Da (La+Lb - 1)) (pmB p Sa Tb Da Db (La+Lb - 1)) (pmC p Da Db (La+Lb - 1)) (pmD p Sa Db (La+Lb - 1))≠true) (J:Int):Ev (fun k=>impl_PairedMover.j5 k p num n J true La Sa Da Lb Tb Db) r:=by
    rw[res nf]
    refine Ev.up ?_
    simp only[impl_PairedMover.j5,if_true]
    exact Ev.now _
  have hJ:mx (mx Da Db) n=((max (max Da.toNat Db.toNat) n:Nat):Int):=by rw[mx_max3,mx_max3];omega
  have j4:Ev (fun k=>impl_PairedMover.j4 k p num n La Sa Da Lb Tb Db) r:=by
    refine Ev.up ?_
    simp only[impl_PairedMover.j4,hJ]
    generalize hj:max (max Da.toNat Db.toNat) n=j
    have facts:=fun hf=>pm_facts h h' (by omega) n2 n3 hf
    rw[hj] at facts
    by_cases c3: (j:Int)>10
    · simp only[if_pos c3]
      refine j5stop (fun hf=>?_) _
      have h1:=(facts hf).2.2.1
      have h2:=ipow_mono (p:=p) (by omega) (show 11≤j by omega)
      have h3: (1000:Int)<p^11:=by rcases prime_cases hp with rfl|rfl|rfl|rfl<;>decide
      omega
    simp only[if_neg c3]
    refine Ev.bind (impl_power_ev p _ (by omega)) ?_
    rw[powW_prime hp _ (by omega),Int.toNat_natCast]
    by_cases c4:p^j>1000
    · simp only[if_pos c4]
      exact j5stop (fun hf=>by have:=(facts hf).2.2.1;omega) _
    simp only[if_neg c4]
    refine Ev.bind (impl_within_ev 1000 [num] (by omega) (by omega) (by simp)) ?_
    simp only[List.all_cons,List.all_nil,Bool.and_true]
    by_cases c5: -1000≤num∧num≤1000
    · rw[decide_eq_true c5]
      simp only[if_true]
      rw[wid (n:=(j:Int) - (n:Int)) (by omega) (by omega)]
      refine Ev.bind (impl_power_ev p _ (by omega)) ?_
      rw[powW_prime hp _ (by omega),show ((j:Int) - (n:Int)).toNat=j - n by omega]
      have m1:=ipow_mono (p:=p) (by omega) (show j - n≤j by omega)
      have m2:=ipow_mono (p:=p) (by omega) (show j - Da.toNat≤j by omega)
      have m3:=ipow_mono (p:=p) (by omega) (show j - Db.toNat≤j by omega)
      have o1:=ipow_pos (show 1≤p by omega) (j - n)
      have o2:=ipow_pos (show 1≤p by omega) (j - Da.toNat)
      have o3:=ipow_pos (show 1≤p by omega) (j - Db.toNat)
      rw[decide_eq_false (show ¬p^(j - n)>1000 by omega)]
      obtain⟨⟨r1,r2,r3,r4⟩,det2⟩:=pm_same (S:=Sa) (T:=Tb) (j:=j) hp hD.1 hD'.1 n2 (by omega) (by omega) (by omega)
      refine Ev.up ?_
      simp only[impl_PairedMover.j5,Bool.false_eq_true,if_false]
      rw[wid (n:=(j:Int) - Db) (by omega) (by omega),wid (n:=(j:Int) - n) (by omega) (by omega),wid (n:=(j:Int) - Da) (by omega) (by omega)]
      refine Ev.bind (impl_power_ev p _ (by omega)) (Ev.bind (impl_power_ev p _ (by omega)) (Ev.bind (impl_power_ev p _ (by omega)) (Ev.bind (impl_power_ev p _ (by omega)) ?_)))
      rw[powW_prime hp _ (by omega),powW_prime hp _ (by omega),powW_prime hp _ (by omega),powW_prime hp _ (by omega),show ((j:Int) - (n:Int)).toNat=j - n by omega,show ((j:Int) - Db).toNat=j - Db.toNat by omega,show ((j:Int) - Da).toNat=j - Da.toNat by omega,Int.toNat_natCast]
      have b1:0≤Tb*p^(j - Db.toNat)∧Tb*p^(j - Db.toNat)≤1000*1000:=mulB ⟨t0.1,by omega⟩ ⟨by omega,by omega⟩
      have b2:0≤Sa*p^(j - Da.toNat)∧Sa*p^(j - Da.toNat)≤1000*1000:=mulB ⟨s0.1,by omega⟩ ⟨by omega,by omega⟩
      have b3:=mul_bd (x:=num) (y:=p^(j - n)) (m:=1000) (n:=1000) c5.1 c5.2 (by omega) (by omega) (by omega) (by omega)
      have b4: -Sa*p^(j - Da.toNat)= -(Sa*p^(j - Da.toNat)):=Int.neg_mul _ _
      rw[wid (n:=Tb*p^(j - Db.toNat)) (by omega) (by omega),wid (n:=num*p^(j - n)) (by omega) (by omega),wid (n:= -Sa) (by omega) (by omega),wid (n:= -Sa*p^(j - Da.toNat)) (by omega) (by omega)]
      refine Ev.bind (impl_reduced_ev (by unfold bd62;omega) (by unfold bd62;omega) (by unfold bd62;have:=ipow_pos (show 1≤p by omega) j;omega) (by unfold bd62;omega) (rowNe det2)) ?_
      rw[matB_red det2]
      have ef:fitM (Tb*p^(j - Db.toNat)) (num*p^(j - n)) (p^j) (-Sa*p^(j - Da.toNat))=fitM (pmA p Tb Da (La+Lb - 1)) (pmB p Sa Tb Da Db (La+Lb - 1)) (pmC p Da Db (La+Lb - 1)) (pmD p Sa Db (La+Lb - 1)):=by
        unfold fitM;rw[r1,r2,r3,r4]
      rw[ef,←r1,←r2,←r3,←r4,←hr]
      unfold impl_fittedMatrix.f pmW
      cases fitM (pmA p Tb Da (La+Lb - 1)) (pmB p Sa Tb Da Db (La+Lb - 1)) (pmC p Da Db (La+Lb - 1)) (pmD p Sa Db (La+Lb - 1)) with
      |true=>simp only[if_true,Option.bind_some];exact Ev.now _
      |false=>simp only[Bool.false_eq_true,if_false,Option.bind_some];exact Ev.now _
    · rw[decide_eq_false c5]
      simp only[Bool.false_eq_true,if_false]
      exact j5stop (fun hf=>c5 (facts hf).2.2.2) _
  have l0 (hb: (pmN p La Sa Da Lb Tb Db).natAbs≤4611686018427387904):Ev (fun k=>impl_PairedMover.j1 k p (pmN p La Sa Da Lb Tb Db) (pmE La Da Lb Db) La Sa Da Lb Tb Db) r:=by
    refine Ev.up ?_
    simp only[impl_PairedMover.j1]
    exact n5 hb r j4
  refine Ev.up ?_
  simp only[impl_PairedMover.j0,Bool.false_eq_true,if_false]
  rw[wid (n:=La+Lb) (by omega) (by omega),wid (n:=La+Lb - 1) (by omega) (by omega),wid (n:=Da+Db) (by omega) (by omega),wid (n:=La+Lb - 1+(Da+Db)) (by omega) (by omega)]
  by_cases c3:La+Lb - 1+(Da+Db)≥0
  · simp only[if_pos c3]
    by_cases c4:La+Lb - 1+(Da+Db)>19
    · simp only[if_pos c4]
      rw[res (fun hf=>by have:=(pm_small h h' hf).2.2.2;omega)]
      exact Ev.now _
    · simp only[if_neg c4]
      refine Ev.bind (impl_power_ev p _ (by omega)) ?_
      rw[powW_prime hp _ (by omega)]
      have k1:=pow_b hp (La+Lb - 1+(Da+Db)).toNat (.inl (by omega))
      have k2:=ipow_pos (show 1≤p by omega) (La+Lb - 1+(Da+Db)).toNat
      rw[wid (n:=Sa*Tb) (by omega) (by omega),wid (n:=p^(La+Lb - 1+(Da+Db)).toNat - Sa*Tb) (by omega) (by omega)]
      have e1:pmN p La Sa Da Lb Tb Db=p^(La+Lb - 1+(Da+Db)).toNat - Sa*Tb:=by unfold pmN;rw[if_pos c3]
      have e2: (pmE La Da Lb Db:Int)=Da+Db:=by unfold pmE;rw[if_pos c3];omega
      rw[←e1,←e2]
      exact l0 (by rw[e1];omega)
  · simp only[if_neg c3]
    rw[wid (n:= -(La+Lb - 1+(Da+Db))) (by omega) (by omega),wid (n:= -(La+Lb - 1)) (by omega) (by omega)]
    refine Ev.bind (impl_power_ev p _ (by omega)) ?_
    rw[powW_prime hp _ (by omega)]
    have k1:=pow_14 hp (-(La+Lb - 1+(Da+Db))).toNat (by omega)
    have k2:=ipow_pos (show 1≤p by omega) (-(La+Lb - 1+(Da+Db))).toNat
    have k3:0≤Sa*Tb*p^(-(La+Lb - 1+(Da+Db))).toNat∧Sa*Tb*p^(-(La+Lb - 1+(Da+Db))).toNat≤1000*1000*96889010407:=mulB bst ⟨by omega,k1⟩
    rw[wid (n:=Sa*Tb) (by omega) (by omega),wid (n:=Sa*Tb*p^(-(La+Lb - 1+(Da+Db))).toNat) (by omega) (by omega),wid (n:=1 - Sa*Tb*p^(-(La+Lb - 1+(Da+Db))).toNat) (by omega) (by omega)]
    have e1:pmN p La Sa Da Lb Tb Db=1 - Sa*Tb*p^(-(La+Lb - 1+(Da+Db))).toNat:=by unfold pmN;rw[if_neg c3]
    have e2: (pmE La Da Lb Db:Int)= -(La+Lb - 1):=by unfold pmE;rw[if_neg c3];omega
    rw[←e1,←e2]
    exact l0 (by rw[e1];omega)
end
theorem impl_apartB_ev {p L T D L' T' D':Int} (hx:ballB p L T D=true) (hy:ballB p L' T' D'=true):Ev (fun k=>impl_apart.f k p L T D L' T' D') (!holdsB p L T D L' T' D'&&!holdsB p L' T' D' L T D):=by
  unfold impl_apart.f
  refine Ev.bind (impl_holds_ev hx hy) ?_
  cases holdsB p L T D L' T' D' with
  |true=>simp only[if_true,Bool.not_true,Bool.false_and];exact Ev.now _
  |false=>
   simp only[Bool.false_eq_true,if_false,Bool.not_false,Bool.true_and]
   exact Ev.bind (impl_holds_ev hy hx) (Ev.now _)
theorem pairedMover_both (p La Sa Da Lb Tb Db:Int):∃r:Int×Int×Int×Int×Int,Ev (fun k=>spec_PairedMover.f k p La Sa Da Lb Tb Db) r∧Ev (fun k=>impl_PairedMover.f k p La Sa Da Lb Tb Db) r∧
    (r.2.2.2.2=0→ballB p La Sa Da=true∧ballB p Lb Tb Db=true∧(!holdsB p La Sa Da Lb Tb Db&&!holdsB p Lb Tb Db La Sa Da)=true∧(pmW p La Sa Da Lb Tb Db).2.2.2.2=true∧r=((pmW p La Sa Da Lb Tb Db).1,(pmW p La Sa Da Lb Tb Db).2.1,(pmW p La Sa Da Lb Tb Db).2.2.1,(pmW p La Sa Da Lb Tb Db).2.2.2.1,0)):=by
  have hcode:=spec_l01Code_ev p [(⟨La,Sa,Da⟩:S28),⟨Lb,Tb,Db⟩] (by simp)
  have hballs:=impl_areBalls_ev p [(⟨La,Sa,Da⟩:S28),⟨Lb,Tb,Db⟩] (by simp)
  cases hc:codeB p [(⟨La,Sa,Da⟩:S28),⟨Lb,Tb,Db⟩] with
  |false=>
   rw[hc] at hcode
   refine⟨(0,0,0,0,1),?_,?_,fun hz=>absurd hz (show ¬(1:Int)=0 by decide)⟩
   · unfold spec_PairedMover.f
     refine Ev.bind hcode ?_
     simp only[Bool.false_eq_true,if_false,if_neg (show ¬(1:Int)=0 by decide)]
     exact Ev.now _
   · unfold impl_PairedMover.f
     unfold codeB at hc
     rw[hc] at hballs
     refine Ev.bind hballs ?_
     simp only[Bool.false_eq_true,if_false]
     exact Ev.now _
  |true=>
   rw[hc] at hcode
   have hb:ballB p La Sa Da=true∧ballB p Lb Tb Db=true:=by
      unfold codeB at hc
      simp only[List.all_cons,List.all_nil,Bool.and_true,Bool.and_eq_true] at hc
      exact hc.2
   obtain⟨h,h'⟩:=hb
   unfold codeB at hc
   rw[hc] at hballs
   have specj (x:Bool) (hx: (!holdsB p La Sa Da Lb Tb Db&&!holdsB p Lb Tb Db La Sa Da)=!x):Ev (fun k=>spec_PairedMover.j0 k p x La Sa Da Lb Tb Db) (if x then(0,0,0,0,5) else if (pmW p La Sa Da Lb Tb Db).2.2.2.2=true then((pmW p La Sa Da Lb Tb Db).1,(pmW p La Sa Da Lb Tb Db).2.1,(pmW p La Sa Da Lb Tb Db).2.2.1,(pmW p La Sa Da Lb Tb Db).2.2.2.1,0) else(0,0,0,0,3)):=by
      refine Ev.up ?_
      simp only[spec_PairedMover.j0]
      cases x with
      |true=>simp only[if_true];exact Ev.now _
      |false=>
       simp only[Bool.false_eq_true,if_false]
       refine Ev.bind (spec_l09Paired_ev h h') ?_
       by_cases hw: (pmW p La Sa Da Lb Tb Db).2.2.2.2=true
       · simp only[if_pos hw];exact Ev.now _
       · simp only[if_neg hw];exact Ev.now _
   refine⟨if (!holdsB p La Sa Da Lb Tb Db&&!holdsB p Lb Tb Db La Sa Da)=true then(if (pmW p La Sa Da Lb Tb Db).2.2.2.2=true then((pmW p La Sa Da Lb Tb Db).1,(pmW p La Sa Da Lb Tb Db).2.1,(pmW p La Sa Da Lb Tb Db).2.2.1,(pmW p La Sa Da Lb Tb Db).2.2.2.1,0) else(0,0,0,0,3)) else(0,0,0,0,5),?_,?_,?_⟩
   · unfold spec_PairedMover.f
     refine Ev.bind hcode ?_
     simp only[if_true]
     refine Ev.bind (spec_l01Holds_ev h h') ?_
     cases h1:holdsB p La Sa Da Lb Tb Db with
     |true=>
      have:=specj true (by rw[h1];rfl)
      simp only[if_true,Bool.not_true,Bool.false_and,Bool.false_eq_true,if_false] at this⊢
      exact this
     |false=>
      simp only[Bool.false_eq_true,if_false,Bool.not_false,Bool.true_and]
      refine Ev.bind (spec_l01Holds_ev h' h) ?_
      cases h2:holdsB p Lb Tb Db La Sa Da with
      |true=>
       have:=specj true (by rw[h1,h2];rfl)
       simp only[if_true,Bool.not_true,Bool.false_eq_true,if_false] at this⊢
       exact this
      |false=>
       have:=specj false (by rw[h1,h2];rfl)
       simp only[Bool.not_false,Bool.false_eq_true,if_false,if_true] at this⊢
       exact this
   · unfold impl_PairedMover.f
     refine Ev.bind hballs ?_
     simp only[if_true]
     refine Ev.bind (impl_apartB_ev h h') ?_
     cases (!holdsB p La Sa Da Lb Tb Db&&!holdsB p Lb Tb Db La Sa Da) with
     |false=>simp only[Bool.false_eq_true,if_false];exact Ev.now _
     |true=>
      simp only[if_true]
      have lim (hbig:1000<Sa∨1000<Tb):Ev (fun k=>impl_PairedMover.j0 k p true La Sa Da Lb Tb Db) (if (pmW p La Sa Da Lb Tb Db).2.2.2.2=true then((pmW p La Sa Da Lb Tb Db).1,(pmW p La Sa Da Lb Tb Db).2.1,(pmW p La Sa Da Lb Tb Db).2.2.1,(pmW p La Sa Da Lb Tb Db).2.2.2.1,0) else(0,0,0,0,3)):=by
          have nf:fitM (pmA p Tb Da (La+Lb - 1)) (pmB p Sa Tb Da Db (La+Lb - 1)) (pmC p Da Db (La+Lb - 1)) (pmD p Sa Db (La+Lb - 1))≠true:=fun hf=>by
            have:=pm_small h h' hf
            omega
          have e:pmW p La Sa Da Lb Tb Db=(0,0,0,0,false):=by unfold pmW;rw[if_neg nf]
          rw[e]
          simp only[Bool.false_eq_true,if_false]
          refine Ev.up ?_
          simp only[impl_PairedMover.j0,if_true]
          exact Ev.now _
      by_cases c1:Sa>1000
      · simp only[if_pos c1];exact lim (.inl c1)
      · simp only[if_neg c1]
        by_cases c2:Tb>1000
        · rw[decide_eq_true c2];exact lim (.inr c2)
        · rw[decide_eq_false c2]
          rcases impl_pm_ev h h' with q|q
          · exact q
          · omega
   · intro hz
     by_cases hA: (!holdsB p La Sa Da Lb Tb Db&&!holdsB p Lb Tb Db La Sa Da)=true
     · rw[if_pos hA] at hz⊢
       by_cases hW: (pmW p La Sa Da Lb Tb Db).2.2.2.2=true
       · rw[if_pos hW];exact⟨h,h',hA,hW,rfl⟩
       · rw[if_neg hW] at hz;exact absurd hz (show ¬(3:Int)=0 by decide)
     · rw[if_neg hA] at hz;exact absurd hz (show ¬(5:Int)=0 by decide)
def endB (n d:Int):Bool:=if d=0 then n==1 else decide (1≤d∧d≤1000000)&&(decide (-1000000≤n∧n≤1000000)&&((Int.gcd n d:Int)==1))
def nearW (p T D n d:Int):Int:=n*p^D.toNat - T*d
def heldB (p L T D n d:Int):Bool:=if d=0 then false else if nearW p T D n d=0 then true else decide (L≤(val p (nearW p T D n d):Int) - val p d - D)
theorem near_mark {p L T D:Int} (n d:Int) (h:ballB p L T D=true):n*p^6 - markOf p T D*d=p^(6 - D).toNat*nearW p T D n d:=by
  obtain⟨_,_,hD,_⟩:=ball_parts h
  unfold nearW markOf
  have e:p^6=p^D.toNat*p^(6 - D).toNat:=by rw[←Int.pow_add];congr 1;omega
  rw[e,Int.mul_sub]
  simp only[Int.mul_assoc,Int.mul_comm,Int.mul_left_comm]
theorem end_bd {n d:Int} (h:endB n d=true): (-1000000≤n∧n≤1000000)∧0≤d∧d≤1000000:=by
  unfold endB at h
  by_cases h0:d=0
  · rw[if_pos h0] at h;have:n=1:=by simpa using h
    omega
  · rw[if_neg h0] at h
    simp only[Bool.and_eq_true,decide_eq_true_eq] at h
    omega
theorem mul_bdn {x y M N:Int} (hx: -M≤x∧x≤M) (hy:1≤y) (hy2:y≤N): -(M*N)≤x*y∧x*y≤M*N:=by
  have h1:=Int.mul_nonneg (show 0≤M - x by omega) (show 0≤y by omega)
  have h2:=Int.mul_nonneg (show 0≤M+x by omega) (show 0≤y by omega)
  have h3:=Int.mul_nonneg (show 0≤M by omega) (show 0≤N - y by omega)
  simp only[Int.sub_mul,Int.mul_sub,Int.add_mul] at h1 h2 h3
  constructor<;>omega
def apartW (p L T D:Int) (o:Bool) (L' T' D':Int) (o':Bool):Bool:=
  if o&&o' then false else if o then holdsB p L T D L' T' D' else if o' then holdsB p L' T' D' L T D else !(holdsB p L T D L' T' D')&&!(holdsB p L' T' D' L T D)
theorem impl_apartSides_ev {p L T D:Int} {o:Bool} {L' T' D':Int} {o':Bool} (h:ballB p L T D=true) (h':ballB p L' T' D'=true):Ev (fun k=>impl_apartSides.f k p L T D o L' T' D' o') (apartW p L T D o L' T' D' o'):=by
  have a:=impl_holds_ev h h'
  have b:=impl_holds_ev h' h
  unfold impl_apartSides.f apartW
  cases o<;>cases o'
  · simp only[Bool.false_eq_true,if_false,Bool.false_and]
    refine Ev.step (f:=fun k=>(impl_apart.f k p L T D L' T' D').bind fun t=>some t) (fun k=>by simp[impl_apartSides.j0]) ?_
    refine Ev.bind (a:=!(holdsB p L T D L' T' D')&&!(holdsB p L' T' D' L T D)) ?_ (Ev.now _)
    unfold impl_apart.f
    refine Ev.bind a ?_
    cases holdsB p L T D L' T' D' with
    |true=>simp;exact Ev.now _
    |false=>simp only[Bool.false_eq_true,if_false,Bool.not_false,Bool.true_and];exact Ev.bind b (Ev.now _)
  · simp only[Bool.false_eq_true,if_false,Bool.false_and,if_true]
    refine Ev.step (f:=fun k=>(impl_holds.f k p L' T' D' L T D).bind fun t=>some t) (fun k=>by simp[impl_apartSides.j0]) ?_
    exact Ev.bind b (Ev.now _)
  · simp only[Bool.false_eq_true,if_false,Bool.and_false,if_true]
    refine Ev.step (f:=fun k=>(impl_holds.f k p L T D L' T' D').bind fun t=>some t) (fun k=>by simp[impl_apartSides.j0]) ?_
    exact Ev.bind a (Ev.now _)
  · simp only[Bool.and_self,if_true]
    exact Ev.step (f:=fun _=>some false) (fun k=>by simp[impl_apartSides.j0]) (Ev.now _)
theorem spec_l09Apart_ev {p L T D:Int} {o:Bool} {L' T' D':Int} {o':Bool} (h:ballB p L T D=true) (h':ballB p L' T' D'=true):Ev (fun k=>spec_l09Apart.f k p L T D o L' T' D' o') (apartW p L T D o L' T' D' o'):=by
  have a:=spec_l01Holds_ev h h'
  have b:=spec_l01Holds_ev h' h
  unfold spec_l09Apart.f apartW
  cases o<;>cases o'
  · simp only[Bool.false_eq_true,if_false,Bool.false_and]
    refine Ev.step (f:=fun k=>(spec_l01Holds.f k p L T D L' T' D').bind fun t=>if t=true then some false else(spec_l01Holds.f k p L' T' D' L T D).bind fun t=>some (!t)) (fun k=>by simp[spec_l09Apart.j0]) ?_
    refine Ev.bind a ?_
    cases holdsB p L T D L' T' D' with
    |true=>simp;exact Ev.now _
    |false=>simp only[Bool.false_eq_true,if_false,Bool.not_false,Bool.true_and];exact Ev.bind b (Ev.now _)
  · simp only[Bool.false_eq_true,if_false,Bool.false_and,if_true]
    refine Ev.step (f:=fun k=>(spec_l01Holds.f k p L' T' D' L T D).bind fun t=>some t) (fun k=>by simp[spec_l09Apart.j0]) ?_
    exact Ev.bind b (Ev.now _)
  · simp only[Bool.false_eq_true,if_false,Bool.and_false,if_true]
    refine Ev.step (f:=fun k=>(spec_l01Holds.f k p L T D L' T' D').bind fun t=>some t) (fun k=>by simp[spec_l09Apart.j0]) ?_
    exact Ev.bind a (Ev.now _)
  · simp only[Bool.and_self,if_true]
    exact Ev.step (f:=fun _=>some false) (fun k=>by simp[spec_l09Apart.j0]) (Ev.now _)
def isInv (d m w:Int):Prop:=0≤w∧w<m∧∃k,w*d+k*m=1
structure Eu (d m a b x y:Int):Prop where
  e1:∃k,a=x*d+k*m
  e2:∃k,b=y*d+k*m
  e3:0≤a
  e4:0≤b
  e5:Int.gcd a b=1
  e6: (0≤x∧y≤0∧x*b - y*a=m)∨(x≤0∧0≤y∧y*a - x*b=m)
theorem eu_init {d m:Int} (hm:1≤m) (h:Int.gcd d m=1):Eu d m (d%m) m 1 0:=by
  refine⟨⟨-(d / m),?_⟩,⟨1,by omega⟩,Int.emod_nonneg d (by omega),by omega,?_,.inl ⟨by omega,by omega,by omega⟩⟩
  · have:=Int.emod_add_mul_ediv d m
    rw[Int.neg_mul,Int.mul_comm (d / m)];omega
  · have e:d%m=d+m*(-(d / m)):=by have:=Int.emod_add_mul_ediv d m;rw[Int.mul_neg];omega
    rw[e,Int.gcd_add_mul_left_left];exact h
theorem eu_bd {d m a b x y:Int} (I:Eu d m a b x y) (hm:1≤m): (b≠0→ -m≤x∧x≤m)∧(a≠0→ -m≤y∧y≤m):=by
  obtain⟨e1,e2,e3,e4,e5,e6⟩:=I
  have s:∀z c:Int,0≤z→1≤c→z≤z*c:=fun z c hz hc=>by
    have:=Int.mul_le_mul_of_nonneg_left hc hz;omega
  rcases e6 with ⟨h1,h2,h3⟩|⟨h1,h2,h3⟩
  · have p1:=Int.mul_nonneg h1 e4
    have p2:=Int.mul_nonneg (show 0≤ -y by omega) e3
    rw[Int.neg_mul] at p2
    refine⟨fun hb=>?_,fun ha=>?_⟩
    · have:=s x b h1 (by omega);omega
    · have:=s (-y) a (by omega) (by omega);rw[Int.neg_mul] at this;omega
  · have p1:=Int.mul_nonneg h2 e3
    have p2:=Int.mul_nonneg (show 0≤ -x by omega) e4
    rw[Int.neg_mul] at p2
    refine⟨fun hb=>?_,fun ha=>?_⟩
    · have:=s (-x) b (by omega) (by omega);rw[Int.neg_mul] at this;omega
    · have:=s y a h2 (by omega);omega
theorem eu_step {d m a b x y:Int} (I:Eu d m a b x y) (hb:b≠0):Eu d m b (a - a / b*b) y (x - a / b*y):=by
  obtain⟨⟨k1,e1⟩,⟨k2,e2⟩,e3,e4,e5,e6⟩:=I
  have hr:a - a / b*b=a%b:=by have:=Int.emod_add_mul_ediv a b;rw[Int.mul_comm] at this;omega
  have hq:=Int.ediv_nonneg e3 e4
  refine⟨⟨k2,e2⟩,⟨k1 - a / b*k2,?_⟩,e4,?_,?_,?_⟩
  · generalize a / b=q at*;subst e1;subst e2;grind
  · rw[hr];exact Int.emod_nonneg a hb
  · rw[hr,←tmod_cast e3,gcd_step a b hb];exact e5
  · generalize a / b=q at*
    rcases e6 with ⟨h1,h2,h3⟩|⟨h1,h2,h3⟩
    · have p:=Int.mul_nonneg hq (show 0≤ -y by omega)
      rw[Int.mul_neg] at p
      exact .inr ⟨h2,by omega,by grind⟩
    · have p:=Int.mul_nonneg hq h2
      exact .inl ⟨h2,by omega,by grind⟩
theorem eu_end {d m a x y:Int} (I:Eu d m a 0 x y) (hm:1≤m):isInv d m (x%m):=by
  obtain⟨⟨k1,e1⟩,e2,e3,e4,e5,e6⟩:=I
  have ha:a=1:=by rw[Int.gcd_zero_right] at e5;omega
  refine⟨Int.emod_nonneg x (by omega),Int.emod_lt_of_pos x (by omega),k1+x / m*d,?_⟩
  have:=Int.emod_add_mul_ediv x m
  generalize x / m=q at*
  generalize x%m=r at*
  subst this
  grind
theorem eu_loop (g:Nat→Int→Int→Int→Int→Option Int) {d m:Int} (hm:1≤m) (hm2:m≤100000000000)
    (hstep:∀k a b x y,b≠0→g (k+1) a b x y=g k b (wrap64 (a - wrap64 (wrap64 (Int.tdiv a b)*b))) y (wrap64 (x - wrap64 (wrap64 (Int.tdiv a b)*y))))
    (hend:∀k a x y,g (k+1) a 0 x y=some (x%m)) (n:Nat):∀a b x y,Eu d m a b x y→a≤m→b≤m→b<n→∃w,Ev (fun k=>g k a b x y) w∧isInv d m w:=by
  induction n with
  |zero=>intro a b x y I h1 h2 h3;have:=I.e4;omega
  |succ n ih=>
   intro a b x y I h1 h2 h3
   by_cases hb:b=0
   · subst hb
     exact⟨x%m,Ev.step (f:=fun _=>some (x%m)) (fun k=>hend k a x y) (Ev.now _),eu_end I hm⟩
   · have I':=eu_step I hb
     have hr:a - a / b*b=a%b:=by have:=Int.emod_add_mul_ediv a b;rw[Int.mul_comm] at this;omega
     have hlt:=Int.emod_lt_of_pos a (show 0<b by have:=I.e4;omega)
     have hge:=Int.emod_nonneg a hb
     have e3:=I.e3
     have e4:=I.e4
     obtain⟨w,hw,hi⟩:=ih _ _ _ _ I' h2 (by omega) (by omega)
     refine⟨w,?_,hi⟩
     have bx:=(eu_bd I hm).1 hb
     have by':=(eu_bd I' hm).2 hb
     have hq0:=Int.ediv_nonneg e3 e4
     have hq1:=Int.ediv_le_self b e3
     refine Ev.step (fun k=>hstep k a b x y hb) ?_
     have c1:wrap64 (Int.tdiv a b)=a / b:=by rw[tdiv_cast e3];exact wid (by omega) (by omega)
     have c2:wrap64 (a / b*b)=a / b*b:=wid (by omega) (by omega)
     have c3:wrap64 (a / b*y)=a / b*y:=wid (by omega) (by omega)
     rw[c1,c2,c3,wid (n:=a - a / b*b) (by omega) (by omega),wid (n:=x - a / b*y) (by omega) (by omega)]
     exact hw
theorem impl_valuation_l (p:Int) (hp:2≤p) (v:Nat):∀(n u acc:Int),n=p^v*u→¬p∣u→n≠0→ -4611686018427387904≤n→n≤4611686018427387904→0≤acc→acc+v≤4611686018427387904→Ev (fun k=>impl_valuation.l0 k p n acc) (acc+v):=by
  induction v with
  |zero=>
   intro n u acc h hu h0 h1 h2 h3 h4
   refine Ev.step (f:=fun _=>some acc) (fun k=>?_) (by simp;exact Ev.now _)
   simp only[impl_valuation.l0]
   rw[if_neg (by omega),if_neg]
   intro e
   rw[h] at e
   exact hu (by simpa using Int.dvd_of_tmod_eq_zero e)
  |succ v ih=>
   intro n u acc h hu h0 h1 h2 h3 h4
   have hn:n=p*(p^v*u):=by rw[h,Int.pow_succ',Int.mul_assoc]
   have hm:Int.tmod n p=0:=by rw[hn];exact Int.mul_tmod_right p _
   have hd:Int.tdiv n p=p^v*u:=by rw[hn];exact Int.mul_tdiv_cancel_left _ (by omega)
   have hb:=tdiv_bdv p (show -4611686018427387904≤n∧n≤4611686018427387904 from ⟨h1,h2⟩)
   have hne:p^v*u≠0:=by intro e;rw[e] at hn;simp at hn;exact h0 hn
   refine Ev.step (f:=fun k=>impl_valuation.l0 k p (p^v*u) (acc+1)) (fun k=>?_) ?_
   · simp only[impl_valuation.l0]
     rw[if_neg (by omega),if_pos hm,hd]
     rw[hd] at hb
     rw[wid (n:=p^v*u) (by omega) (by omega),wid (n:=acc+1) (by omega) (by omega)]
   · rw[hd] at hb
     have:=ih (p^v*u) u (acc+1) rfl hu hne hb.1 hb.2 (by omega) (by omega)
     rw[show acc+((v+1:Nat):Int)=acc+1+(v:Int) from by omega]
     exact this
def valW (p n:Int):Int:=if n=0 then 1000 else val p n
theorem impl_valuation_ev {p n:Int} (hp:2≤p) (h1: -4611686018427387904≤n:=by omega) (h2:n≤4611686018427387904:=by omega):Ev (fun k=>impl_valuation.f k p n) (valW p n):=by
  unfold impl_valuation.f valW
  by_cases h0:n=0
  · simp only[if_pos h0];exact Ev.now _
  · simp only[if_neg h0]
    obtain⟨u,h,hu⟩:=val_spec hp h0
    have hv:=val_le_of_lt hp h0 63 (by omega)
    have:=impl_valuation_l p hp (val p n) n u 0 h hu h0 h1 h2 (by omega) (by omega)
    rw[Int.zero_add] at this
    exact this
theorem impl_mod_eq {a m:Int} (hm:1≤m) (hm2:m≤2305843009213693952):impl_mod.f a m=some (a%m):=by
  unfold impl_mod.f
  rw[if_neg (by omega),modW hm hm2]
theorem impl_ofMark_ev {p L x:Int} (hp:primeB p=true) (hL: -6≤L∧L≤6):Ev (fun k=>impl_ofMark.f k p L x) ((ofM p L x).1,(ofM p L x).2.1,(ofM p L x).2.2,true):=by
  have hp2:=prime_lo hp
  unfold impl_ofMark.f
  refine Ev.bindv (impl_isLevel_eq L) ?_
  rw[decide_eq_true hL]
  simp only[if_true]
  rw[wid (n:=L+6) (by omega) (by omega)]
  refine Ev.bind (impl_power_ev p (L+6) (by omega)) ?_
  rw[powW_prime hp _ (by omega)]
  have m1:=ipow_pos (p:=p) (by omega) (L+6).toNat
  have m2:=pow_13 hp (L+6).toNat (by omega)
  refine Ev.bindv (impl_mod_eq m1 (by omega)) ?_
  have x0:=Int.emod_nonneg x (show p^(L+6).toNat≠0 by omega)
  have x1:=Int.emod_lt_of_pos x (show 0<p^(L+6).toNat by omega)
  refine Ev.bind (impl_valuation_ev hp2 (by omega) (by omega)) ?_
  have hv:valW p (x%p^(L+6).toNat)≤1000∧0≤valW p (x%p^(L+6).toNat):=by
    unfold valW
    split
    · omega
    · rename_i h0
      have:=val_le_of_lt hp2 h0 62 (by omega)
      omega
  have hdn:mx (wrap64 (6 - valW p (x%p^(L+6).toNat))) 0=(ofM p L x).2.2:=by
    rw[wid (n:=6 - valW p (x%p^(L+6).toNat)) (by omega) (by omega)]
    unfold ofM valW mx
    simp only
    by_cases h0:x%p^(L+6).toNat=0
    · rw[if_pos h0,if_pos h0];rfl
    · rw[if_neg h0,if_neg h0]
      by_cases h6: ((val p (x%p^(L+6).toNat):Nat):Int)<6
      · rw[if_neg (by omega),if_pos h6]
      · rw[if_neg h6];split<;>omega
  rw[hdn]
  obtain⟨_,hD,_⟩:=ofM_back (p:=p) (L:=L) (X:=x) hp2
  rw[wid (n:=6 - (ofM p L x).2.2) (by omega) (by omega)]
  refine Ev.bind (impl_power_ev p _ (by omega)) ?_
  rw[powW_prime hp _ (by omega)]
  have q1:=ipow_pos (p:=p) (by omega) (6 - (ofM p L x).2.2).toNat
  simp only[if_neg (show ¬p^(6 - (ofM p L x).2.2).toNat=0 by omega)]
  rw[tdiv_cast x0]
  have hT:x%p^(L+6).toNat / p^(6 - (ofM p L x).2.2).toNat=(ofM p L x).2.1:=rfl
  have d0:=Int.ediv_nonneg x0 (show 0≤p^(6 - (ofM p L x).2.2).toNat by omega)
  have d1:=Int.ediv_le_self (p^(6 - (ofM p L x).2.2).toNat) x0
  rw[wid (n:=x%p^(L+6).toNat / p^(6 - (ofM p L x).2.2).toNat) (by omega) (by omega),hT]
  exact Ev.now _
theorem impl_inverse_ev {d m:Int} (hm:1≤m) (hm2:m≤100000000000) (hg:Int.gcd d m=1):∃w,Ev (fun k=>impl_inverse.f k d m) w∧isInv d m w:=by
  have m1:=Int.emod_lt_of_pos d (show 0<m by omega)
  obtain⟨w,h,i⟩:=eu_loop (fun k a b x y=>impl_inverse.l0 k m a b x y) (d:=d) hm hm2
    (fun k a b x y hb=>by simp only[impl_inverse.l0];rw[if_neg hb])
    (fun k a x y=>by simp only[impl_inverse.l0,if_true];rw[impl_mod_eq hm (by omega)];rfl)
    (m.toNat+1) _ _ _ _ (eu_init hm hg) (by omega) (by omega) (by omega)
  refine⟨w,?_,i⟩
  unfold impl_inverse.f
  exact Ev.bindv (impl_mod_eq hm (by omega)) h
theorem spec_l01InvMod_ev {d m:Int} (hm:1≤m) (hm2:m≤100000000000) (hg:Int.gcd d m=1):∃w,Ev (fun k=>spec_l01InvMod.f k d m) w∧isInv d m w:=by
  have m1:=Int.emod_lt_of_pos d (show 0<m by omega)
  obtain⟨w,h,i⟩:=eu_loop (fun k a b x y=>spec_l01InvMod.l0 k m a b x y) (d:=d) hm hm2
    (fun k a b x y hb=>by simp only[spec_l01InvMod.l0];rw[if_neg hb])
    (fun k a x y=>by simp only[spec_l01InvMod.l0,if_true];rw[if_neg (by omega),modW hm (by omega)])
    (m.toNat+1) _ _ _ _ (eu_init hm hg) (by omega) (by omega) (by omega)
  refine⟨w,?_,i⟩
  refine Ev.congr (f:=fun k=>spec_l01InvMod.l0 k m (d%m) m 1 0) (fun k=>?_) h
  unfold spec_l01InvMod.f
  rw[if_neg (by omega),modW hm (by omega)]
theorem pd_fin:∀q:Fin 8,(q.val=2∨q.val=3∨q.val=5∨q.val=7)→∀g:Fin 8,g.val∣q.val→g.val=1∨g.val=q.val:=by decide
theorem gcd_unit {p u:Int} (hp:primeB p=true) (hu:¬p∣u) (K:Nat):Int.gcd u (p^K)=1:=by
  obtain⟨q,rfl⟩:∃q:Nat,p=(q:Int):=⟨p.toNat,by have:=prime_lo hp;omega⟩
  have hq:q=2∨q=3∨q=5∨q=7:=by have:=prime_cases hp;omega
  have h1:Nat.Coprime u.natAbs q:=by
    have hd:=Nat.gcd_dvd_right u.natAbs q
    have hle:=Nat.le_of_dvd (by omega) hd
    have:=pd_fin ⟨q,by omega⟩ hq ⟨Nat.gcd u.natAbs q,by omega⟩ hd
    rcases this with h|h
    · exact h
    · exfalso
      apply hu
      have h2:Nat.gcd u.natAbs q∣u.natAbs:=Nat.gcd_dvd_left _ _
      have h':Nat.gcd u.natAbs q=q:=h
      rw[h'] at h2
      exact Int.natAbs_dvd_natAbs.1 (by rw[Int.natAbs_natCast];exact h2)
  have h2:=Nat.Coprime.pow_right K h1
  show Nat.gcd u.natAbs ((q:Int)^K).natAbs=1
  rw[Int.natAbs_pow]
  exact h2
structure Kn (y1 y0 u v:Int):Prop where
  k1:2147483648≤y1
  k2:y1<4294967296
  k3:0≤y0
  k4:y0<4294967296
  k5:0≤u
  k6:u<y1*4294967296+y0
  k7:0≤v
  k8:v<4294967296
def knQ (y1 y0 u v:Int):Int:=(u*4294967296+v) / (y1*4294967296+y0)
theorem knQ_spec {y1 y0 u v:Int} (K:Kn y1 y0 u v):knQ y1 y0 u v*y1*4294967296+knQ y1 y0 u v*y0≤u*4294967296+v∧u*4294967296+v<knQ y1 y0 u v*y1*4294967296+knQ y1 y0 u v*y0+(y1*4294967296+y0)∧0≤knQ y1 y0 u v∧knQ y1 y0 u v<4294967296:=by
  obtain⟨k1,k2,k3,k4,k5,k6,k7,k8⟩:=K
  have h:=Int.emod_add_mul_ediv (u*4294967296+v) (y1*4294967296+y0)
  have h0:=Int.emod_nonneg (u*4294967296+v) (show y1*4294967296+y0≠0 by omega)
  have h1:=Int.emod_lt_of_pos (u*4294967296+v) (show 0<y1*4294967296+y0 by omega)
  have h2:=Int.ediv_nonneg (show 0≤u*4294967296+v by omega) (show 0≤y1*4294967296+y0 by omega)
  have h3: (u*4294967296+v) / (y1*4294967296+y0)<4294967296:=Int.ediv_lt_of_lt_mul (by omega) (by omega)
  unfold knQ
  generalize (u*4294967296+v) / (y1*4294967296+y0)=Q at*
  have e: (y1*4294967296+y0)*Q=Q*y1*4294967296+Q*y0:=by rw[Int.mul_comm,Int.mul_add,←Int.mul_assoc]
  rw[e] at h
  refine⟨by omega,by omega,h2,h3⟩
structure KnI (y1 y0 u v q r:Int):Prop where
  i1:q*y1+r=u
  i2:0≤r
  i3:r<4294967296
  i4:knQ y1 y0 u v≤q
  i5:q≤4294967297
theorem kn_mul {y1 y0 a b:Int} (h:a≤b) (h1:0≤y1) (h0:0≤y0):a*y1≤b*y1∧a*y0≤b*y0:=⟨Int.mul_le_mul_of_nonneg_right h h1,Int.mul_le_mul_of_nonneg_right h h0⟩
theorem kn_init {y1 y0 u v:Int} (K:Kn y1 y0 u v):KnI y1 y0 u v (u / y1) (u - u / y1*y1):=by
  obtain⟨q1,q2,q3,q4⟩:=knQ_spec K
  obtain⟨k1,k2,k3,k4,k5,k6,k7,k8⟩:=K
  have h:=Int.emod_add_mul_ediv u y1
  have h0:=Int.emod_nonneg u (show y1≠0 by omega)
  have h1:=Int.emod_lt_of_pos u (show 0<y1 by omega)
  have hz:=Int.mul_nonneg q3 k3
  have e:y1*(u / y1)=u / y1*y1:=Int.mul_comm _ _
  rw[e] at h
  refine⟨by omega,by omega,by omega,Int.le_ediv_of_mul_le (by omega) (by omega),?_⟩
  have:u / y1<4294967298:=Int.ediv_lt_of_lt_mul (by omega) (by omega)
  omega
theorem kn_stop {y1 y0 u v q r:Int} (K:Kn y1 y0 u v) (I:KnI y1 y0 u v q r) (hc:q*y0≤4294967296*r+v):q=knQ y1 y0 u v:=by
  obtain⟨q1,q2,q3,q4⟩:=knQ_spec K
  obtain⟨k1,k2,k3,k4,k5,k6,k7,k8⟩:=K
  obtain⟨i1,i2,i3,i4,i5⟩:=I
  rcases Int.lt_or_le (knQ y1 y0 u v) q with h|h
  · exfalso
    obtain⟨m1,m2⟩:=kn_mul (show knQ y1 y0 u v+1≤q by omega) (show 0≤y1 by omega) k3
    rw[Int.add_mul,Int.one_mul] at m1 m2
    omega
  · omega
theorem kn_down {y1 y0 u v q r:Int} (K:Kn y1 y0 u v) (I:KnI y1 y0 u v q r) (hc:q≥4294967296∨q*y0>4294967296*r+v):knQ y1 y0 u v≤q - 1∧(q - 1)*y1+(r+y1)=u:=by
  obtain⟨q1,q2,q3,q4⟩:=knQ_spec K
  obtain⟨k1,k2,k3,k4,k5,k6,k7,k8⟩:=K
  obtain⟨i1,i2,i3,i4,i5⟩:=I
  rw[Int.sub_mul,Int.one_mul]
  refine⟨?_,by omega⟩
  rcases hc with hc|hc
  · omega
  · rcases Int.lt_or_le (knQ y1 y0 u v) q with h|h
    · omega
    · exfalso
      obtain⟨m1,m2⟩:=kn_mul h (show 0≤y1 by omega) k3
      omega
theorem kn_break {y1 y0 u v q r:Int} (K:Kn y1 y0 u v) (I:KnI y1 y0 u v q r) (hc:q≥4294967296∨q*y0>4294967296*r+v) (hr:r+y1≥4294967296):q - 1=knQ y1 y0 u v:=by
  obtain⟨d1,d2⟩:=kn_down K I hc
  obtain⟨q1,q2,q3,q4⟩:=knQ_spec K
  obtain⟨k1,k2,k3,k4,k5,k6,k7,k8⟩:=K
  obtain⟨i1,i2,i3,i4,i5⟩:=I
  obtain⟨-,m2⟩:=kn_mul (show q - 1≤4294967296 by omega) (show 0≤y1 by omega) k3
  rcases Int.lt_or_le (knQ y1 y0 u v) (q - 1) with h|h
  · exfalso
    obtain⟨n1,n2⟩:=kn_mul (show knQ y1 y0 u v+1≤q - 1 by omega) (show 0≤y1 by omega) k3
    rw[Int.add_mul,Int.one_mul] at n1 n2
    omega
  · omega
theorem kn_next {y1 y0 u v q r:Int} (K:Kn y1 y0 u v) (I:KnI y1 y0 u v q r) (hc:q≥4294967296∨q*y0>4294967296*r+v) (hr:¬r+y1≥4294967296):KnI y1 y0 u v (q - 1) (r+y1):=by
  obtain⟨d1,d2⟩:=kn_down K I hc
  obtain⟨k1,k2,k3,k4,k5,k6,k7,k8⟩:=K
  obtain⟨i1,i2,i3,i4,i5⟩:=I
  exact⟨d2,by omega,by omega,d1,by omega⟩
theorem kn_size {y1 y0 u v q r:Int} (K:Kn y1 y0 u v) (I:KnI y1 y0 u v q r):0≤q∧0≤4294967296*r+v∧4294967296*r+v<18446744073709551616∧0≤q*y0∧(q<4294967296→q*y0<18446744073709551616):=by
  obtain⟨q1,q2,q3,q4⟩:=knQ_spec K
  obtain⟨k1,k2,k3,k4,k5,k6,k7,k8⟩:=K
  obtain⟨i1,i2,i3,i4,i5⟩:=I
  refine⟨by omega,by omega,by omega,Int.mul_nonneg (by omega) k3,fun h=>?_⟩
  have:=Int.mul_le_mul_of_nonneg_right (show q≤4294967296 by omega) k3
  omega
theorem kn_rem {y1 y0 u v:Int}:u*4294967296+v - knQ y1 y0 u v*(y1*4294967296+y0)=(u*4294967296+v)%(y1*4294967296+y0):=by
  have h:=Int.emod_add_mul_ediv (u*4294967296+v) (y1*4294967296+y0)
  unfold knQ
  rw[Int.mul_comm (y1*4294967296+y0)] at h
  omega
theorem wu {n:Int} (h0:0≤n) (h1:n<18446744073709551616):IntKind.u64.wrap n=n:=by rw[IntKind.wrap_u64];omega
theorem len8_fin:∀n:Fin 256,n.val≠0→∃l:Fin 9,bt (⟨#[0,1,2,2,3,3,3,3,4,4,4,4,4,4,4,4,5,5,5,5,5,5,5,5,5,5,5,5,5,5,5,5,6,6,6,6,6,6,6,6,6,6,6,6,6,6,6,6,6,6,6,6,6,6,6,6,6,6,6,6,6,6,6,6,7,7,7,7,7,7,7,7,7,7,7,7,7,7,7,7,7,7,7,7,7,7,7,7,7,7,7,7,7,7,7,7,7,7,7,7,7,7,7,7,7,7,7,7,7,7,7,7,7,7,7,7,7,7,7,7,7,7,7,7,7,7,7,7,8,8,8,8,8,8,8,8,8,8,8,8,8,8,8,8,8,8,8,8,8,8,8,8,8,8,8,8,8,8,8,8,8,8,8,8,8,8,8,8,8,8,8,8,8,8,8,8,8,8,8,8,8,8,8,8,8,8,8,8,8,8,8,8,8,8,8,8,8,8,8,8,8,8,8,8,8,8,8,8,8,8,8,8,8,8,8,8,8,8,8,8,8,8,8,8,8,8,8,8,8,8,8,8,8,8,8,8,8,8,8,8,8,8,8,8,8,8,8,8,8,8,8,8,8,8,8,8]⟩:ByteArray) ((n.val:Nat):Int)=(l.val:Int)∧1≤l.val∧2^(l.val - 1)≤n.val∧n.val<2^l.val:=by decide+kernel
theorem len8_t (n:Int) (h0:1≤n) (h1:n<256):∃l:Nat,bt (⟨#[0,1,2,2,3,3,3,3,4,4,4,4,4,4,4,4,5,5,5,5,5,5,5,5,5,5,5,5,5,5,5,5,6,6,6,6,6,6,6,6,6,6,6,6,6,6,6,6,6,6,6,6,6,6,6,6,6,6,6,6,6,6,6,6,7,7,7,7,7,7,7,7,7,7,7,7,7,7,7,7,7,7,7,7,7,7,7,7,7,7,7,7,7,7,7,7,7,7,7,7,7,7,7,7,7,7,7,7,7,7,7,7,7,7,7,7,7,7,7,7,7,7,7,7,7,7,7,7,8,8,8,8,8,8,8,8,8,8,8,8,8,8,8,8,8,8,8,8,8,8,8,8,8,8,8,8,8,8,8,8,8,8,8,8,8,8,8,8,8,8,8,8,8,8,8,8,8,8,8,8,8,8,8,8,8,8,8,8,8,8,8,8,8,8,8,8,8,8,8,8,8,8,8,8,8,8,8,8,8,8,8,8,8,8,8,8,8,8,8,8,8,8,8,8,8,8,8,8,8,8,8,8,8,8,8,8,8,8,8,8,8,8,8,8,8,8,8,8,8,8,8,8,8,8,8,8]⟩:ByteArray) n=(l:Int)∧1≤l∧l≤8∧(2:Int)^(l - 1)≤n∧n<(2:Int)^l:=by
  obtain⟨m,rfl⟩:∃m:Nat,n=(m:Int):=⟨n.toNat,by omega⟩
  obtain⟨l,hl,a,b,c⟩:=len8_fin ⟨m,by omega⟩ (by show m≠0;omega)
  refine⟨l.val,hl,a,by omega,?_,?_⟩
  · have: ((2^(l.val - 1):Nat):Int)≤(m:Int):=by exact_mod_cast b
    rwa [Int.natCast_pow] at this
  · have: (m:Int)<((2^l.val:Nat):Int):=by exact_mod_cast c
    rwa [Int.natCast_pow] at this
def isLen (y:Int) (L:Nat):Prop:=1≤L∧(2:Int)^(L - 1)≤y∧y<(2:Int)^L
theorem len_up {y C:Int} (c:Nat) (hC:C=2^c) {l:Nat} (h:isLen (y / C) l):isLen y (c+l):=by
  obtain⟨h1,h2,h3⟩:=h
  have hc: (0:Int)<2^c:=Int.pow_pos (by omega)
  subst hC
  refine⟨by omega,?_,?_⟩
  · rw[show c+l - 1=(l - 1)+c from by omega,Int.pow_add]
    exact Int.mul_le_of_le_ediv hc h2
  · rw[Nat.add_comm,Int.pow_add]
    exact Int.lt_mul_of_ediv_lt hc h3
theorem Len64_j {x c:Int} (h0:1≤x) (h1:x<4294967296) (hc:0≤c∧c≤32):∃l:Nat,Ev (fun k=>bits_Len64.j0 k x c) (c+l)∧isLen x l∧l≤32:=by
  by_cases a:x≥65536
  · by_cases b:x / 65536≥256
    · obtain⟨l,hl,p1,p2,p3,p4⟩:=len8_t (x / 65536 / 256%256) (by omega) (by omega)
      rw[Int.emod_eq_of_lt (show 0≤x / 65536 / 256 by omega) (by omega)] at p3 p4
      refine⟨16+(8+l),?_,len_up 16 rfl (len_up 8 rfl ⟨p1,p3,p4⟩),by omega⟩
      refine Ev.step (f:=fun _=>some (c+((16+(8+l):Nat):Int))) (fun k=>?_) (Ev.now _)
      rw[bits_Len64.j0.eq_2]
      rw[if_pos a,if_pos b,if_pos (by omega),if_pos (by omega),hl,wid (n:=(l:Int)) (by omega) (by omega),wid (n:=c+16) (by omega) (by omega),wid (n:=c+16+8) (by omega) (by omega),wid (n:=c+16+8+(l:Int)) (by omega) (by omega)]
      exact congrArg some (by clear hl;omega)
    · obtain⟨l,hl,p1,p2,p3,p4⟩:=len8_t (x / 65536%256) (by omega) (by omega)
      rw[Int.emod_eq_of_lt (show 0≤x / 65536 by omega) (by omega)] at p3 p4
      refine⟨16+l,?_,len_up 16 rfl ⟨p1,p3,p4⟩,by omega⟩
      refine Ev.step (f:=fun _=>some (c+((16+l:Nat):Int))) (fun k=>?_) (Ev.now _)
      rw[bits_Len64.j0.eq_2]
      rw[if_pos a,if_neg b,if_pos (by omega),if_pos (by omega),hl,wid (n:=(l:Int)) (by omega) (by omega),wid (n:=c+16) (by omega) (by omega),wid (n:=c+16+(l:Int)) (by omega) (by omega)]
      exact congrArg some (by clear hl;omega)
  · by_cases b:x≥256
    · obtain⟨l,hl,p1,p2,p3,p4⟩:=len8_t (x / 256%256) (by omega) (by omega)
      rw[Int.emod_eq_of_lt (show 0≤x / 256 by omega) (by omega)] at p3 p4
      refine⟨8+l,?_,len_up 8 rfl ⟨p1,p3,p4⟩,by omega⟩
      refine Ev.step (f:=fun _=>some (c+((8+l:Nat):Int))) (fun k=>?_) (Ev.now _)
      rw[bits_Len64.j0.eq_2]
      rw[if_neg a,if_pos b,if_pos (by omega),if_pos (by omega),hl,wid (n:=(l:Int)) (by omega) (by omega),wid (n:=c+8) (by omega) (by omega),wid (n:=c+8+(l:Int)) (by omega) (by omega)]
      exact congrArg some (by clear hl;omega)
    · obtain⟨l,hl,p1,p2,p3,p4⟩:=len8_t (x%256) (by omega) (by omega)
      rw[Int.emod_eq_of_lt (show 0≤x by omega) (by omega)] at p3 p4
      refine⟨l,?_,⟨p1,p3,p4⟩,by omega⟩
      refine Ev.step (f:=fun _=>some (c+(l:Int))) (fun k=>?_) (Ev.now _)
      rw[bits_Len64.j0.eq_2]
      rw[if_neg a,if_neg b,if_pos (by omega),if_pos (by omega),hl,wid (n:=(l:Int)) (by omega) (by omega),wid (n:=c+(l:Int)) (by omega) (by omega)]
theorem Len64_ev {y:Int} (h0:1≤y) (h1:y<18446744073709551616):∃L:Nat,Ev (fun k=>bits_Len64.f k y) (L:Int)∧isLen y L∧L≤64:=by
  unfold bits_Len64.f
  by_cases a:y≥4294967296
  · obtain⟨l,e,i,b⟩:=Len64_j (x:=y / 4294967296) (c:=32) (by omega) (by omega) (by omega)
    refine⟨32+l,?_,len_up 32 rfl i,by omega⟩
    simp only[if_pos a]
    exact e
  · obtain⟨l,e,i,b⟩:=Len64_j (x:=y) (c:=0) (by omega) (by omega) (by omega)
    refine⟨l,?_,i,by omega⟩
    simp only[if_neg a]
    rw[Int.zero_add] at e
    exact e
theorem LeadingZeros64_ev {y:Int} (h0:1≤y) (h1:y<18446744073709551616):∃s:Nat,Ev (fun k=>bits_LeadingZeros64.f k y) (s:Int)∧s≤63∧9223372036854775808≤y*2^s∧y*2^s<18446744073709551616:=by
  obtain⟨L,e,⟨i1,i2,i3⟩,b⟩:=Len64_ev h0 h1
  have hs: (0:Int)<2^(64 - L):=Int.pow_pos (by omega)
  refine⟨64 - L,?_,by omega,?_,?_⟩
  · unfold bits_LeadingZeros64.f
    refine Ev.bind e ?_
    rw[wid (n:=64 - (L:Int)) (by omega) (by omega),show 64 - (L:Int)=((64 - L:Nat):Int) from by omega]
    exact Ev.now _
  · have:=Int.mul_le_mul_of_nonneg_right i2 (Int.le_of_lt hs)
    rw[←Int.pow_add,show L - 1+(64 - L)=63 from by omega] at this
    exact this
  · have:=Int.mul_lt_mul_of_pos_right i3 hs
    rw[←Int.pow_add,show L+(64 - L)=64 from by omega] at this
    exact this
theorem maskU {n:Int} (h0:0≤n) (h1:n<18446744073709551616):Go.bits .and .u64 n 4294967295=n%4294967296:=by
  obtain⟨m,rfl⟩:∃m:Nat,n=(m:Int):=⟨n.toNat,by omega⟩
  have h:=Go.bits_and_u64_nat m 4294967295 (by omega) (by omega)
  have e:m &&& 4294967295=m%4294967296:=Nat.and_two_pow_sub_one_eq_mod m 32
  rw[e] at h
  rw[show ((4294967295:Nat):Int)=4294967295 from rfl] at h
  rw[h];omega
theorem orU {a b:Int} (s:Nat) (ha:0≤a) (hb:0≤b) (hb1:b<2^s) (h1:a*2^s+b<18446744073709551616):Go.bits .or .u64 (a*2^s) b=a*2^s+b:=by
  obtain⟨m,rfl⟩:∃m:Nat,a=(m:Int):=⟨a.toNat,by omega⟩
  obtain⟨n,rfl⟩:∃n:Nat,b=(n:Int):=⟨b.toNat,by omega⟩
  have e0: (m:Int)*2^s=((2^s*m:Nat):Int):=by rw[Int.natCast_mul,Int.natCast_pow,Int.mul_comm];rfl
  rw[e0] at h1⊢
  have hn:n<2^s:=by have: (n:Int)<((2^s:Nat):Int):=by rw[Int.natCast_pow];exact hb1
                    omega
  rw[Go.bits_or_u64_nat _ _ (by omega) (by omega),←Nat.two_pow_add_eq_or_of_lt hn]
  omega
theorem shlU {x:Int} (s:Nat) (hs:s≤63):shl .u64 x (s:Int)=x*2^s%18446744073709551616:=by
  unfold shl
  rw[IntKind.wrap_u64,Int.toNat_natCast,Nat.min_eq_left (show s≤IntKind.u64.bits from by show s≤64;omega)]
theorem shrU {x:Int} (s:Nat) (hs:s≤64):shr .u64 x (s:Int)=x / 2^s:=by
  unfold shr
  rw[Int.toNat_natCast,Nat.min_eq_left (show s≤IntKind.u64.bits from hs)]
theorem Div64_l0 {y1 y0 u v y s w:Int} {r:Int×Int} (K:Kn y1 y0 u v) (hj:Ev (fun k=>bits_Div64.j2 k y s y1 y0 u v w (knQ y1 y0 u v)) r) (n:Nat):∀q h,(4294967296 - h).toNat<n→KnI y1 y0 u v q h→Ev (fun k=>bits_Div64.l0 k y s y1 y0 u v w q h) r:=by
  induction n with
  |zero=>intro q h hn;omega
  |succ n ih=>
   intro q h hn I
   obtain⟨s1,s2,s3,s4,s5⟩:=kn_size K I
   have j:∀b:Bool,(b=true↔(q≥4294967296∨q*y0>4294967296*h+v))→Ev (fun k=>bits_Div64.j1 k y s y1 y0 u v w q h b) r:=by
      intro b hb
      cases b with
      |true=>
       have hc:=hb.1 rfl
       obtain⟨d1,d2⟩:=kn_down K I hc
       have i2:=I.i2;have i3:=I.i3;have i5:=I.i5;have k1:=K.k1;have k2:=K.k2
       obtain⟨-, -,z1, -⟩:=knQ_spec K
       by_cases hr:h+y1≥4294967296
       · refine Ev.step (f:=fun k=>bits_Div64.j2 k y s y1 y0 u v w (knQ y1 y0 u v)) (fun k=>?_) hj
         rw[bits_Div64.j1,if_pos rfl,wu (n:=h+y1) (by omega) (by omega),if_pos hr,wu (n:=q - 1) (by omega) (by omega),kn_break K I hc hr]
       · refine Ev.step (f:=fun k=>bits_Div64.l0 k y s y1 y0 u v w (q - 1) (h+y1)) (fun k=>?_) (ih _ _ (by omega) (kn_next K I hc hr))
         rw[bits_Div64.j1,if_pos rfl,wu (n:=h+y1) (by omega) (by omega),if_neg hr,wu (n:=q - 1) (by omega) (by omega)]
      |false=>
       have hc:¬(q≥4294967296∨q*y0>4294967296*h+v):=fun h=>by have:=hb.2 h;simp at this
       refine Ev.step (f:=fun k=>bits_Div64.j2 k y s y1 y0 u v w (knQ y1 y0 u v)) (fun k=>?_) hj
       rw[bits_Div64.j1,if_neg (by simp),kn_stop K I (by omega)]
   by_cases hq:q≥4294967296
   · refine Ev.step (f:=fun k=>bits_Div64.j1 k y s y1 y0 u v w q h true) (fun k=>?_) (j true ⟨fun _=> .inl hq,fun _=>rfl⟩)
     rw[bits_Div64.l0,if_pos hq]
   · have s6:=s5 (by omega)
     have i2:=I.i2;have i3:=I.i3;have k7:=K.k7
     refine Ev.step (f:=fun k=>bits_Div64.j1 k y s y1 y0 u v w q h (decide (q*y0>4294967296*h+v))) (fun k=>?_) (j _ ⟨fun h=> .inr (of_decide_eq_true h),fun h=>decide_eq_true (h.resolve_left hq)⟩)
     rw[bits_Div64.l0,if_neg hq,wu (n:=q*y0) (by omega) (by omega),wu (n:=4294967296*h) (by omega) (by omega),wu (n:=4294967296*h+v) (by omega) (by omega)]
theorem Div64_l1 {y1 y0 u v y s q1:Int} (K:Kn y1 y0 u v) (hy:y=y1*4294967296+y0) (hs:0≤s) (n:Nat):∀q h,(4294967296 - h).toNat<n→KnI y1 y0 u v q h→Ev (fun k=>bits_Div64.l1 k y s y1 y0 v q1 h u q) (IntKind.u64.wrap (IntKind.u64.wrap (q1*4294967296)+knQ y1 y0 u v),shr .u64 ((u*4294967296+v)%y) s):=by
  induction n with
  |zero=>intro q h hn;omega
  |succ n ih=>
   intro q h hn I
   obtain⟨s1,s2,s3,s4,s5⟩:=kn_size K I
   have k1:=K.k1;have k2:=K.k2;have k3:=K.k3;have k4:=K.k4;have k5:=K.k5;have k7:=K.k7;have k8:=K.k8
   have fin:IntKind.u64.wrap (IntKind.u64.wrap (IntKind.u64.wrap (u*4294967296)+v) - IntKind.u64.wrap (knQ y1 y0 u v*y))=(u*4294967296+v)%y:=by
      have e:=kn_rem (y1:=y1) (y0:=y0) (u:=u) (v:=v)
      rw[←hy] at e
      have h0:=Int.emod_nonneg (u*4294967296+v) (show y≠0 by omega)
      have h1:=Int.emod_lt_of_pos (u*4294967296+v) (show 0<y by omega)
      simp only[IntKind.wrap_u64]
      omega
   have j:∀b:Bool,(b=true↔(q≥4294967296∨q*y0>4294967296*h+v))→Ev (fun k=>bits_Div64.j4 k y s y1 y0 v q1 h u q b) (IntKind.u64.wrap (IntKind.u64.wrap (q1*4294967296)+knQ y1 y0 u v),shr .u64 ((u*4294967296+v)%y) s):=by
      intro b hb
      cases b with
      |true=>
       have hc:=hb.1 rfl
       obtain⟨d1,d2⟩:=kn_down K I hc
       have i2:=I.i2;have i3:=I.i3;have i5:=I.i5
       obtain⟨-, -,z1, -⟩:=knQ_spec K
       by_cases hr:h+y1≥4294967296
       · refine Ev.step (f:=fun _=>some (IntKind.u64.wrap (IntKind.u64.wrap (q1*4294967296)+knQ y1 y0 u v),shr .u64 ((u*4294967296+v)%y) s)) (fun k=>?_) (Ev.now _)
         rw[bits_Div64.j4,if_pos rfl,wu (n:=h+y1) (by omega) (by omega),if_pos hr,if_pos hs,wu (n:=q - 1) (by omega) (by omega),kn_break K I hc hr,fin]
       · refine Ev.step (f:=fun k=>bits_Div64.l1 k y s y1 y0 v q1 (h+y1) u (q - 1)) (fun k=>?_) (ih _ _ (by omega) (kn_next K I hc hr))
         rw[bits_Div64.j4,if_pos rfl,wu (n:=h+y1) (by omega) (by omega),if_neg hr,wu (n:=q - 1) (by omega) (by omega)]
      |false=>
       have hc:¬(q≥4294967296∨q*y0>4294967296*h+v):=fun h=>by have:=hb.2 h;simp at this
       refine Ev.step (f:=fun _=>some (IntKind.u64.wrap (IntKind.u64.wrap (q1*4294967296)+knQ y1 y0 u v),shr .u64 ((u*4294967296+v)%y) s)) (fun k=>?_) (Ev.now _)
       rw[bits_Div64.j4,if_neg (by simp),if_pos hs,kn_stop K I (by omega),fin]
   by_cases hq:q≥4294967296
   · refine Ev.step (f:=fun k=>bits_Div64.j4 k y s y1 y0 v q1 h u q true) (fun k=>?_) (j true ⟨fun _=> .inl hq,fun _=>rfl⟩)
     rw[bits_Div64.l1,if_pos hq]
   · have s6:=s5 (by omega)
     have i2:=I.i2;have i3:=I.i3
     refine Ev.step (f:=fun k=>bits_Div64.j4 k y s y1 y0 v q1 h u q (decide (q*y0>4294967296*h+v))) (fun k=>?_) (j _ ⟨fun h=> .inr (of_decide_eq_true h),fun h=>decide_eq_true (h.resolve_left hq)⟩)
     rw[bits_Div64.l1,if_neg hq,wu (n:=q*y0) (by omega) (by omega),wu (n:=4294967296*h) (by omega) (by omega),wu (n:=4294967296*h+v) (by omega) (by omega)]
theorem Div64_ev {hi lo y:Int} (h0:0≤hi) (h1:hi<y) (h2:y<18446744073709551616) (l0:0≤lo) (l1:lo<18446744073709551616):∃q,Ev (fun k=>bits_Div64.f k hi lo y) (q,(hi*18446744073709551616+lo)%y):=by
  unfold bits_Div64.f
  simp only[if_neg (show ¬y=0 by omega),if_neg (show ¬y≤hi by omega)]
  by_cases hz:hi=0
  · subst hz
    simp only[if_true]
    rw[tmod_cast l0,Int.zero_mul,Int.zero_add]
    exact⟨_,Ev.now _⟩
  · simp only[if_neg hz]
    obtain⟨s,es,s63,n0,n1⟩:=LeadingZeros64_ev (y:=y) (by omega) h2
    have hS: (0:Int)<2^s:=Int.pow_pos (by omega)
    have hT: (0:Int)<2^(64 - s):=Int.pow_pos (by omega)
    have hST: (2:Int)^s*2^(64 - s)=18446744073709551616:=by rw[←Int.pow_add,show s+(64 - s)=64 from by omega];rfl
    have a1: (hi+1)*2^s≤y*2^s:=Int.mul_le_mul_of_nonneg_right (by omega) (Int.le_of_lt hS)
    have a0:0≤hi*2^s:=Int.mul_nonneg h0 (Int.le_of_lt hS)
    have b0:0≤lo / 2^(64 - s):=Int.ediv_nonneg l0 (Int.le_of_lt hT)
    have b1:lo / 2^(64 - s)<2^s:=Int.ediv_lt_of_lt_mul hT (by rw[hST];exact l1)
    rw[Int.add_mul,Int.one_mul] at a1
    have es1:shl .u64 y (s:Int)=y*2^s:=by rw[shlU s s63];exact Int.emod_eq_of_lt (by omega) n1
    have es2:shl .u64 hi (s:Int)=hi*2^s:=by rw[shlU s s63];exact Int.emod_eq_of_lt (by omega) (by omega)
    have es3:shr .u64 lo (64 - (s:Int))=lo / 2^(64 - s):=by rw[show 64 - (s:Int)=((64 - s:Nat):Int) from by omega,shrU (64 - s) (by omega)]
    have lo':hi*2^s+lo / 2^(64 - s)<y*2^s:=by omega
    have split: (hi*2^s+lo / 2^(64 - s))*18446744073709551616+shl .u64 lo (s:Int)=(hi*18446744073709551616+lo)*2^s:=by
      rw[shlU s s63]
      have e1:lo=2^(64 - s)*(lo / 2^(64 - s))+lo%2^(64 - s):=(Int.mul_ediv_add_emod lo _).symm
      have m0:=Int.emod_nonneg lo (show (2:Int)^(64 - s)≠0 by omega)
      have m1:=Int.emod_lt_of_pos lo hT
      have e2:lo*2^s=18446744073709551616*(lo / 2^(64 - s))+lo%2^(64 - s)*2^s:=by
        conv=>lhs;rw[e1]
        rw[←hST];grind
      have p0:0≤lo%2^(64 - s)*2^s:=Int.mul_nonneg m0 (Int.le_of_lt hS)
      have p1:lo%2^(64 - s)*2^s<18446744073709551616:=by
        have:=Int.mul_lt_mul_of_pos_right m1 hS
        rwa [Int.mul_comm (2^(64 - s)),hST] at this
      have e3: (hi*18446744073709551616+lo)*2^s=hi*2^s*18446744073709551616+lo*2^s:=by grind
      rw[e3,e2]
      omega
    have v0:0≤shl .u64 lo (s:Int)∧shl .u64 lo (s:Int)<18446744073709551616:=by rw[shlU s s63];omega
    generalize hY:y*2^s=Y at*
    generalize hU:hi*2^s+lo / 2^(64 - s)=U at*
    generalize hV:shl .u64 lo (s:Int)=V at*
    have or':Go.bits .or .u64 (hi*2^s) (lo / 2^(64 - s))=U:=by rw[orU s h0 b0 b1 (by omega),hU]
    have K1:Kn (Y / 4294967296) (Y%4294967296) U (V / 4294967296):=⟨by omega,by omega,by omega,by omega,by omega,by omega,by omega,by omega⟩
    have yy:Y / 4294967296*4294967296+Y%4294967296=Y:=by omega
    have I1:=kn_init K1
    generalize hu': (U*4294967296+V / 4294967296)%Y=U' at*
    have u0:0≤U'∧U'<Y:=by rw[←hu'];exact⟨Int.emod_nonneg _ (by omega),Int.emod_lt_of_pos _ (by omega)⟩
    have K2:Kn (Y / 4294967296) (Y%4294967296) U' (V%4294967296):=⟨by omega,by omega,by omega,by omega,by omega,by omega,by omega,by omega⟩
    have I2:=kn_init K2
    have ls:∀{a b:Int},0≤a→0≤b→0≤Int.ediv a b∧Int.ediv a b≤a:=fun ha hb=>⟨Int.ediv_nonneg ha hb,Int.ediv_le_self _ ha⟩
    have final:shr .u64 ((U'*4294967296+V%4294967296)%Y) (s:Int)=(hi*18446744073709551616+lo)%y:=by
      rw[shrU s (by omega),←hu']
      have e: (((U*4294967296+V / 4294967296)%Y)*4294967296+V%4294967296)%Y=((hi*18446744073709551616+lo)%y)*2^s:=by
        rw[Int.add_emod,emod_mul_emod',←Int.add_emod,←hY,show (U*4294967296+V / 4294967296)*4294967296+V%4294967296=(hi*18446744073709551616+lo)*2^s from by omega,Int.mul_comm _ (2^s),Int.mul_comm y,Int.mul_emod_mul_of_pos _ _ hS,Int.mul_comm]
      rw[e]
      exact Int.mul_ediv_cancel _ (by omega)
    have D1:=ls (show 0≤U by omega) (show 0≤Y / 4294967296 by omega)
    have D2:=ls u0.1 (show 0≤Y / 4294967296 by omega)
    refine⟨IntKind.u64.wrap (IntKind.u64.wrap (knQ (Y / 4294967296) (Y%4294967296) U (V / 4294967296)*4294967296)+knQ (Y / 4294967296) (Y%4294967296) U' (V%4294967296)),Ev.bind es ?_⟩
    rw[wu (n:=(s:Int)) (by omega) (by omega)]
    simp only[if_pos (show (0:Int)≤(s:Int) by omega)]
    rw[wu (n:=64 - (s:Int)) (by omega) (by omega)]
    simp only[if_pos (show (0:Int)≤64 - (s:Int) by omega),es1,es2,es3,hV,or']
    rw[maskU (by omega) (by omega),maskU v0.1 v0.2]
    simp only[if_neg (show ¬Y / 4294967296=0 by omega)]
    rw[tdiv_cast (show 0≤U by omega)]
    have r1:=I1.i2;have r2:=I1.i3;have r3:=I2.i2;have r4:=I2.i3;have r5:=I1.i1;have r6:=I2.i1
    have D1a:0≤U / (Y / 4294967296):=D1.1
    have D1b:U / (Y / 4294967296)≤U:=D1.2
    have D2a:0≤U' / (Y / 4294967296):=D2.1
    have D2b:U' / (Y / 4294967296)≤U':=D2.2
    have M1:=Int.mul_nonneg D1a (show 0≤Y / 4294967296 by omega)
    have M2:=Int.mul_nonneg D2a (show 0≤Y / 4294967296 by omega)
    rw[wu (n:=U / (Y / 4294967296)) (by omega) (by omega),wu (n:=U / (Y / 4294967296)*(Y / 4294967296)) (by omega) (by omega),wu (n:=U - U / (Y / 4294967296)*(Y / 4294967296)) (by omega) (by omega)]
    rw[←final]
    refine Div64_l0 K1 ?_ _ _ _ (Nat.lt_succ_self _) I1
    refine Ev.step (f:=fun k=>bits_Div64.l1 k Y s (Y / 4294967296) (Y%4294967296) (V%4294967296) (knQ (Y / 4294967296) (Y%4294967296) U (V / 4294967296)) (U' - U' / (Y / 4294967296)*(Y / 4294967296)) U' (U' / (Y / 4294967296))) (fun k=>?_) (Div64_l1 K2 yy.symm (by omega) _ _ _ (Nat.lt_succ_self _) I2)
    have e:=kn_rem (y1:=Y / 4294967296) (y0:=Y%4294967296) (u:=U) (v:=V / 4294967296)
    rw[yy,hu'] at e
    have fin:IntKind.u64.wrap (IntKind.u64.wrap (IntKind.u64.wrap (U*4294967296)+V / 4294967296) - IntKind.u64.wrap (knQ (Y / 4294967296) (Y%4294967296) U (V / 4294967296)*Y))=U':=by
      simp only[IntKind.wrap_u64]
      omega
    rw[bits_Div64.j2,if_neg (show ¬Y / 4294967296=0 by omega),fin,tdiv_cast u0.1,wu (n:=U' / (Y / 4294967296)) (by omega) (by omega),wu (n:=U' / (Y / 4294967296)*(Y / 4294967296)) (by omega) (by omega),wu (n:=U' - U' / (Y / 4294967296)*(Y / 4294967296)) (by omega) (by omega)]
theorem Mul64_eq {a b:Int} (a0:0≤a) (a1:a<18446744073709551616) (b0:0≤b) (b1:b<18446744073709551616):bits_Mul64.f a b=some (a*b / 18446744073709551616,a*b%18446744073709551616):=by
  unfold bits_Mul64.f
  rw[maskU a0 a1,maskU b0 b1]
  have hz:∀{x y:Int},0≤x→x≤4294967295→0≤y→y≤4294967295→0≤x*y∧x*y≤18446744065119617025:=fun hx hx2 hy hy2=>⟨Int.mul_nonneg hx hy,Int.mul_le_mul hx2 hy2 hy (by omega)⟩
  obtain⟨x1,hx1⟩:∃x,x=a / 4294967296:=⟨_,rfl⟩
  obtain⟨x0,hx0⟩:∃x,x=a%4294967296:=⟨_,rfl⟩
  obtain⟨y1,hy1⟩:∃x,x=b / 4294967296:=⟨_,rfl⟩
  obtain⟨y0,hy0⟩:∃x,x=b%4294967296:=⟨_,rfl⟩
  have ha:a=x1*4294967296+x0:=by omega
  have hb:b=y1*4294967296+y0:=by omega
  have e:a*b=x1*y1*18446744073709551616+x1*y0*4294967296+x0*y1*4294967296+x0*y0:=by rw[ha,hb];grind
  rw[←hx1,←hx0,←hy1,←hy0]
  have p11:=hz (x:=x1) (y:=y1) (by omega) (by omega) (by omega) (by omega)
  have p10:=hz (x:=x1) (y:=y0) (by omega) (by omega) (by omega) (by omega)
  have p01:=hz (x:=x0) (y:=y1) (by omega) (by omega) (by omega) (by omega)
  have p00:=hz (x:=x0) (y:=y0) (by omega) (by omega) (by omega) (by omega)
  rw[e]
  clear e ha hb hx1 hx0 hy1 hy0
  generalize x1*y1=A at*
  generalize x1*y0=B at*
  generalize x0*y1=C at*
  generalize x0*y0=D at*
  rw[wu (n:=A) (by omega) (by omega),wu (n:=B) (by omega) (by omega),wu (n:=C) (by omega) (by omega),wu (n:=D) (by omega) (by omega)]
  rw[wu (n:=B+D / 4294967296) (by omega) (by omega),maskU (n:=B+D / 4294967296) (by omega) (by omega)]
  simp only[IntKind.wrap_u64]
  congr 1
  refine Prod.ext ?_ ?_<;>simp only<;>omega
theorem impl_times_ev {a b m:Int} (hm:1≤m) (hm2:m≤2305843009213693952):Ev (fun k=>impl_times.f k a b m) (a*b%m):=by
  unfold impl_times.f
  refine Ev.bindv (impl_mod_eq hm hm2) (Ev.bindv (impl_mod_eq hm hm2) ?_)
  have a0:=Int.emod_nonneg a (show m≠0 by omega)
  have a1:=Int.emod_lt_of_pos a (show 0<m by omega)
  have b0:=Int.emod_nonneg b (show m≠0 by omega)
  have b1:=Int.emod_lt_of_pos b (show 0<m by omega)
  rw[wu (n:=a%m) (by omega) (by omega),wu (n:=b%m) (by omega) (by omega),wu (n:=m) (by omega) (by omega)]
  refine Ev.bindv (Mul64_eq (by omega) (by omega) (by omega) (by omega)) ?_
  simp only[if_neg (show ¬m=0 by omega)]
  have p0:0≤a%m*(b%m):=Int.mul_nonneg a0 b0
  have h0:0≤a%m*(b%m) / 18446744073709551616:=by omega
  rw[tmod_cast h0]
  obtain⟨q,hq⟩:=Div64_ev (hi:=a%m*(b%m) / 18446744073709551616%m) (lo:=a%m*(b%m)%18446744073709551616) (y:=m) (Int.emod_nonneg _ (by omega)) (Int.emod_lt_of_pos _ (by omega)) (by omega) (by omega) (by omega)
  refine Ev.bind hq ?_
  have e: (a%m*(b%m) / 18446744073709551616%m*18446744073709551616+a%m*(b%m)%18446744073709551616)%m=a*b%m:=by
    rw[Int.add_emod,emod_mul_emod',←Int.add_emod,show a%m*(b%m) / 18446744073709551616*18446744073709551616+a%m*(b%m)%18446744073709551616=a%m*(b%m) from by omega,←Int.mul_emod]
  rw[e]
  have c0:=Int.emod_nonneg (a*b) (show m≠0 by omega)
  have c1:=Int.emod_lt_of_pos (a*b) (show 0<m by omega)
  rw[wid (n:=a*b%m) (by omega) (by omega)]
  exact Ev.now _
theorem mx_eq' (a b:Int):mx a b=if a<b then b else a:=rfl
def uOf (p n:Int):Int:=n / p^val p n
theorem uOf_spec {p n:Int} (hp:2≤p) (h:n≠0):n=p^val p n*uOf p n∧¬p∣uOf p n:=by
  obtain⟨u,hu,hn⟩:=val_spec hp h
  have e:uOf p n=u:=by
    unfold uOf
    conv=>lhs;lhs;rw[hu]
    exact Int.mul_ediv_cancel_left u (Int.pow_ne_zero (by omega))
  rw[e];exact⟨hu,hn⟩
theorem uOf_bd {p n M:Int} (hp:2≤p) (h:n≠0) (hM: -M≤n∧n≤M): (-M≤uOf p n∧uOf p n≤M)∧1≤p^val p n∧p^val p n≤M:=by
  obtain⟨hu,hn⟩:=uOf_spec hp h
  have hu0:uOf p n≠0:=by intro e;rw[e] at hn;exact hn (Int.dvd_zero p)
  have h1:=ipow_pos (p:=p) (by omega) (val p n)
  have e:n.natAbs=(p^val p n).natAbs*(uOf p n).natAbs:=by rw[←Int.natAbs_mul,←hu]
  have h3: (p^val p n).natAbs*1≤(p^val p n).natAbs*(uOf p n).natAbs:=Nat.mul_le_mul_left _ (by omega)
  have h4:1*(uOf p n).natAbs≤(p^val p n).natAbs*(uOf p n).natAbs:=Nat.mul_le_mul_right _ (by omega)
  omega
theorem uOf_scale {p n:Int} (j:Nat) (hp:2≤p) (h:n≠0):uOf p (p^j*n)=uOf p n:=by
  unfold uOf
  rw[val_pow_mul j hp h,Int.pow_add,Int.mul_ediv_mul_of_pos _ _ (Int.pow_pos (by omega))]
def atF (p L n d w:Int):Int×Int×Int×Bool:=
  if ¬(-6≤L∧L≤6) then(0,0,0,false)
  else if n=0∨L≤(val p n:Int) - val p d then(L,0,0,true)
  else if (val p n:Int) - val p d< -6 then(0,0,0,false)
  else((ofM p L (uOf p n*w*p^((val p n:Int) - val p d+6).toNat)).1,(ofM p L (uOf p n*w*p^((val p n:Int) - val p d+6).toNat)).2.1,(ofM p L (uOf p n*w*p^((val p n:Int) - val p d+6).toNat)).2.2,true)
theorem atF_scale {p L n d w:Int} (j:Nat) (hp:2≤p) (hd:d≠0):atF p L (p^j*n) (p^j*d) w=atF p L n d w:=by
  unfold atF
  by_cases h0:n=0
  · subst h0
    simp
  · have:p^j*n≠0:=Int.mul_ne_zero (Int.pow_ne_zero (by omega)) h0
    rw[val_pow_mul j hp h0,val_pow_mul j hp hd,uOf_scale j hp h0]
    have e: ((j+val p n:Nat):Int) - ((j+val p d:Nat):Int)=(val p n:Int) - val p d:=by omega
    rw[e]
    simp only[this,h0]
theorem atF_ball {p L n d w:Int} (hp:primeB p=true) (h: (atF p L n d w).2.2.2=true):ballB p (atF p L n d w).1 (atF p L n d w).2.1 (atF p L n d w).2.2.1=true:=by
  revert h
  unfold atF
  by_cases hL: -6≤L∧L≤6
  · rw[if_neg (by simpa using hL)]
    by_cases h1:n=0∨L≤(val p n:Int) - val p d
    · rw[if_pos h1];intro _
      have:=ofM_ball (X:=0) hp hL
      have e:ofM p L 0=(L,0,0):=ofM_of (prime_lo hp) (by simp) (by omega) (.inl rfl)
      rw[e] at this;exact this
    · rw[if_neg h1]
      by_cases h2: (val p n:Int) - val p d< -6
      · rw[if_pos h2];intro h;simp at h
      · rw[if_neg h2];intro _;exact ofM_ball hp hL
  · rw[if_pos hL];intro h;simp at h
theorem impl_unit_ev {p n:Int} (hp:primeB p=true) (h:n≠0) (h1: -1152921504606846976≤n) (h2:n≤1152921504606846976):Ev (fun k=>impl_unit.f k p n) (uOf p n):=by
  have hp2:=prime_lo hp
  obtain⟨b1,b2,b3⟩:=uOf_bd hp2 h ⟨h1,h2⟩
  obtain⟨hu,hn⟩:=uOf_spec hp2 h
  unfold impl_unit.f
  refine Ev.bind (impl_valuation_ev hp2 (by omega) (by omega)) ?_
  have hv:valW p n=(val p n:Int):=by unfold valW;rw[if_neg h]
  rw[hv]
  have hv61:=val_le_of_lt hp2 h 61 (by omega)
  refine Ev.bind (impl_power_ev p _ (by omega)) ?_
  rw[Int.toNat_natCast,powW_fit p (by omega) _ 1 (by omega) (by omega),Int.one_mul]
  simp only[if_neg (show ¬p^val p n=0 by omega)]
  have e:Int.tdiv n (p^val p n)=uOf p n:=by
    conv=>lhs;lhs;rw[hu]
    exact Int.mul_tdiv_cancel_left _ (by omega)
  rw[e,wid (n:=uOf p n) (by omega) (by omega)]
  exact Ev.now _
theorem impl_ballAt_ev {p n d L:Int} (hp:primeB p=true) (hd:d≠0) (n1: -1152921504606846976≤n) (n2:n≤1152921504606846976) (d1: -1152921504606846976≤d) (d2:d≤1152921504606846976):
    ∃w,((-6≤L∧L≤6)→isInv (uOf p d) (p^(L+6).toNat) w)∧Ev (fun k=>impl_ballAt.f k p n d L) (atF p L n d w):=by
  have hp2:=prime_lo hp
  unfold impl_ballAt.f
  by_cases hL: -6≤L∧L≤6
  · have m1:=ipow_pos (p:=p) (by omega) (L+6).toNat
    have m2:=pow_13 hp (L+6).toNat (by omega)
    obtain⟨w,hw,iw⟩:=impl_inverse_ev m1 (by omega) (gcd_unit hp (uOf_spec hp2 hd).2 (L+6).toNat)
    refine⟨w,fun _=>iw,?_⟩
    refine Ev.bindv (impl_isLevel_eq L) ?_
    rw[decide_eq_true hL]
    simp only[if_true]
    refine Ev.bind (impl_valuation_ev hp2 (by omega) (by omega)) (Ev.bind (impl_valuation_ev hp2 (by omega) (by omega)) ?_)
    have hvd:valW p d=(val p d:Int):=by unfold valW;rw[if_neg hd]
    rw[hvd]
    unfold atF
    rw[if_neg (by simpa using hL)]
    by_cases h0:n=0
    · simp only[if_pos h0]
      rw[if_pos (.inl h0)]
      exact Ev.step (f:=fun _=>some (L,0,0,true)) (fun k=>by simp only[impl_ballAt.j0,if_true]) (Ev.now _)
    · simp only[if_neg h0]
      have hvn:valW p n=(val p n:Int):=by unfold valW;rw[if_neg h0]
      have v1:=val_le_of_lt hp2 h0 61 (by omega)
      have v2:=val_le_of_lt hp2 hd 61 (by omega)
      rw[hvn,wid (n:=(val p n:Int) - val p d) (by omega) (by omega)]
      by_cases hle:L≤(val p n:Int) - val p d
      · rw[if_pos (.inr hle),decide_eq_true (show (val p n:Int) - val p d≥L from hle)]
        exact Ev.step (f:=fun _=>some (L,0,0,true)) (fun k=>by simp only[impl_ballAt.j0,if_true]) (Ev.now _)
      · rw[if_neg (by omega),decide_eq_false (show ¬(val p n:Int) - val p d≥L from hle)]
        by_cases h6: (val p n:Int) - val p d< -6
        · rw[if_pos h6]
          exact Ev.step (f:=fun _=>some (0,0,0,false)) (fun k=>by simp only[impl_ballAt.j0,Bool.false_eq_true,if_false];rw[if_pos h6]) (Ev.now _)
        · rw[if_neg h6]
          generalize hv: (val p n:Int) - val p d=v at*
          refine Ev.up ?_
          simp only[impl_ballAt.j0,Bool.false_eq_true,if_false,if_neg h6]
          rw[wid (n:=L+6) (by omega) (by omega),wid (n:=v+6) (by omega) (by omega)]
          refine Ev.bind (impl_power_ev p (L+6) (by omega)) ?_
          rw[powW_prime hp _ (by omega)]
          refine Ev.bind (impl_unit_ev hp h0 n1 n2) (Ev.bind (impl_unit_ev hp hd d1 d2) (Ev.bind hw ?_))
          refine Ev.bind (impl_times_ev m1 (by omega)) (Ev.bind (impl_power_ev p (v+6) (by omega)) ?_)
          rw[powW_prime hp _ (by omega)]
          refine Ev.bind (impl_times_ev m1 (by omega)) (Ev.bind (impl_ofMark_ev hp hL) ?_)
          rw[emod_mul_emod',ofM_mod]
          exact Ev.now _
  · refine⟨0,fun h=>absurd h hL,?_⟩
    refine Ev.bindv (impl_isLevel_eq L) ?_
    rw[decide_eq_false hL]
    simp only[Bool.false_eq_true,if_false]
    unfold atF
    rw[if_pos hL]
    exact Ev.now _
theorem spec_l01Of_ev {p n d L w:Int} (hp:primeB p=true) (hd:d≠0) (n1: -1152921504606846976≤n) (n2:n≤1152921504606846976) (d1: -1152921504606846976≤d) (d2:d≤1152921504606846976)
    (hw: (-6≤L∧L≤6)→isInv (uOf p d) (p^(L+6).toNat) w):Ev (fun k=>spec_l01Of.f k p n d L) (atF p L n d w):=by
  have hp2:=prime_lo hp
  have hpow:∀j:Nat,p^j≠0:=fun j=>Int.pow_ne_zero (by omega)
  unfold spec_l01Of.f
  refine Ev.bindv (In_eq _ _ _) ?_
  unfold atF
  by_cases hL: -6≤L∧L≤6
  · rw[decide_eq_true hL,if_neg (by simpa using hL)]
    simp only[if_true]
    by_cases h0:n=0
    · simp only[if_pos h0]
      rw[if_pos (.inl h0)];exact Ev.now _
    simp only[if_neg h0]
    refine Ev.bind (spec_l01Val_ev hp2 h0 (by omega) (by omega)) (Ev.bind (spec_l01Val_ev hp2 hd (by omega) (by omega)) ?_)
    have v1:=val_le_of_lt hp2 h0 61 (by omega)
    have v2:=val_le_of_lt hp2 hd 61 (by omega)
    obtain⟨bu,pu1,pu2⟩:=uOf_bd hp2 h0 (M:=1152921504606846976) ⟨n1,n2⟩
    obtain⟨bd,pd1,pd2⟩:=uOf_bd hp2 hd (M:=1152921504606846976) ⟨d1,d2⟩
    obtain⟨eu,nu⟩:=uOf_spec hp2 h0
    obtain⟨ed,nd⟩:=uOf_spec hp2 hd
    have q1:Int.tdiv n (p^val p n)=uOf p n:=by
      conv=>lhs;lhs;rw[eu]
      exact Int.mul_tdiv_cancel_left _ (hpow _)
    have q2:Int.tdiv d (p^val p d)=uOf p d:=by
      conv=>lhs;lhs;rw[ed]
      exact Int.mul_tdiv_cancel_left _ (hpow _)
    have r1:powW p (val p n) 1=p^val p n:=by rw[powW_fit p (by omega) _ 1 (by omega) (by omega),Int.one_mul]
    have r2:powW p (val p d) 1=p^val p d:=by rw[powW_fit p (by omega) _ 1 (by omega) (by omega),Int.one_mul]
    generalize hva:val p n=a at*
    generalize hvb:val p d=b at*
    rw[wid (n:=(a:Int) - (b:Int)) (by omega) (by omega),wid (n:=(b:Int) - (a:Int)) (by omega) (by omega)]
    by_cases hle:L≤(a:Int) - (b:Int)
    · simp only[if_pos hle]
      rw[if_pos (.inr hle)];exact Ev.now _
    simp only[if_neg hle]
    rw[if_neg (by omega)]
    obtain⟨dn,hdn⟩:∃dn:Nat,(dn:Int)=mx ((b:Int) - (a:Int)) 0:=⟨b - a,by rw[mx_eq'];split<;>omega⟩
    have hdn2: (dn:Int)=if (b:Int) - a<0 then 0 else(b:Int) - a:=by rw[hdn,mx_eq']
    obtain⟨e,he⟩:∃e:Nat,(e:Int)=mx ((a:Int) - (b:Int)) 0:=⟨a - b,by rw[mx_eq'];split<;>omega⟩
    have he2: (e:Int)=if (a:Int) - b<0 then 0 else(a:Int) - b:=by rw[he,mx_eq']
    rw[←hdn,←he]
    by_cases h6: (a:Int) - b< -6
    · rw[if_pos h6]
      simp only[if_pos (show (dn:Int)>6 by split at hdn2<;>omega)]
      exact Ev.now _
    rw[if_neg h6]
    have hdn6:dn≤6:=by split at hdn2<;>omega
    simp only[if_neg (show ¬(dn:Int)>6 by omega)]
    have hmp:1≤L+dn:=by split at hdn2<;>omega
    rw[wid (n:=L+(dn:Int)) (by omega) (by omega)]
    refine Ev.bind (spec_l01Power_ev p (L+dn) (by omega)) ?_
    rw[powW_prime hp _ (by omega)]
    refine Ev.bind (spec_l01Power_ev p a (by omega)) ?_
    rw[Int.toNat_natCast,r1]
    simp only[if_neg (hpow a)]
    refine Ev.bind (spec_l01Power_ev p b (by omega)) ?_
    rw[Int.toNat_natCast,r2]
    simp only[if_neg (hpow b)]
    rw[q1,q2,wid (n:=uOf p n) (by omega) (by omega),wid (n:=uOf p d) (by omega) (by omega)]
    have m1:=ipow_pos (p:=p) (by omega) (L+(dn:Int)).toNat
    have m2:=pow_13 hp (L+(dn:Int)).toNat (by omega)
    obtain⟨w',ew',iw'⟩:=spec_l01InvMod_ev m1 (by omega) (gcd_unit hp nd (L+(dn:Int)).toNat)
    refine Ev.bind ew' ?_
    refine Ev.bindv (spec_l01MulMod_eq m1 (by omega)) ?_
    have he6: (e:Int)≤6:=by split at he2<;>omega
    refine Ev.bind (spec_l01Power_ev p e (by omega)) ?_
    rw[Int.toNat_natCast,powW_prime hp e (by omega)]
    refine Ev.bindv (spec_l01MulMod_eq m1 (by omega)) ?_
    rw[emod_mul_emod']
    have hexp: ((a:Int) - b+6).toNat=(6 - (dn:Int)).toNat+e:=by split at hdn2<;>split at he2<;>omega
    have hexp2: (L+6).toNat=(6 - (dn:Int)).toNat+(L+(dn:Int)).toNat:=by omega
    have hq:=ipow_pos (p:=p) (by omega) (6 - (dn:Int)).toNat
    have hww: (uOf p n*w*p^e)%p^(L+(dn:Int)).toNat=(uOf p n*w'*p^e)%p^(L+(dn:Int)).toNat:=by
      obtain⟨_,_,k,hk⟩:=hw hL
      obtain⟨_,_,k',hk'⟩:=iw'
      rw[hexp2,Int.pow_add] at hk
      apply Int.emod_eq_emod_iff_emod_sub_eq_zero.2
      apply Int.emod_eq_zero_of_dvd
      generalize p^(L+(dn:Int)).toNat=M at*
      generalize p^(6 - (dn:Int)).toNat=N at*
      generalize p^e=E at*
      generalize uOf p n=U at*
      generalize uOf p d=D at*
      exact⟨U*E*(w*k' - w'*(k*N)),by grind⟩
    have key:ofM p L (uOf p n*w*p^((a:Int) - b+6).toNat)=(L,uOf p n*w'*p^e%p^(L+(dn:Int)).toNat,(dn:Int)):=by
      refine ofM_of hp2 ?_ (by omega) ?_
      · rw[hexp,hexp2,Int.pow_add,Int.pow_add,Int.mul_comm (p^(6 - (dn:Int)).toNat) (p^e),←Int.mul_assoc,Int.mul_comm _ (p^(6 - (dn:Int)).toNat),Int.mul_emod_mul_of_pos _ _ (by omega),hww,Int.mul_comm]
      · by_cases hz:dn=0
        · left;omega
        · right
          have e0:e=0:=by split at hdn2<;>split at he2<;>omega
          rw[e0,Int.pow_zero,Int.mul_one]
          intro hdv
          have hpm:p∣p^(L+(dn:Int)).toNat:=by
            obtain⟨j,hj⟩:∃j,(L+(dn:Int)).toNat=j+1:=⟨(L+(dn:Int)).toNat - 1,by omega⟩
            rw[hj,Int.pow_succ'];exact Int.dvd_mul_right _ _
          have h3:=Int.dvd_add hdv (Int.dvd_trans hpm (Int.dvd_mul_right (p^(L+(dn:Int)).toNat) (uOf p n*w' / p^(L+(dn:Int)).toNat)))
          rw[Int.emod_add_mul_ediv] at h3
          obtain⟨_,_,k',hk'⟩:=iw'
          have h4:p∣uOf p n*w'*uOf p d:=Int.dvd_trans h3 (Int.dvd_mul_right _ _)
          have h5:uOf p n=uOf p n*w'*uOf p d+uOf p n*k'*p^(L+(dn:Int)).toNat:=by
            generalize p^(L+(dn:Int)).toNat=M at*
            generalize uOf p n=U at*
            generalize uOf p d=D at*
            grind
          apply nu
          rw[h5]
          exact Int.dvd_add h4 (Int.dvd_trans hpm (Int.dvd_mul_left _ _))
    rw[key]
    exact Ev.now _
  · rw[decide_eq_false hL,if_pos hL]
    simp only[Bool.false_eq_true,if_false]
    exact Ev.now _
theorem spec_l04Det_eq {a b c d m:Int} (hm:0≤m) (hm2:m≤2000000000) (ha: -m≤a∧a≤m) (hb: -m≤b∧b≤m) (hc: -m≤c∧c≤m) (hd: -m≤d∧d≤m):spec_l04Det.f a b c d=some (a*d - b*c):=by
  have hmm:m*m≤4000000000000000000:=by have:=Int.mul_le_mul hm2 hm2 hm (by omega);omega
  obtain⟨h1,h2⟩:=det_bd hm ha hb hc hd
  unfold spec_l04Det.f
  rw[wid (n:=a*d) (by omega) (by omega),wid (n:=b*c) (by omega) (by omega),wid (by omega) (by omega)]
theorem spec_l04Is_ev (a b c d:Int):Ev (fun k=>spec_l04Is.f k a b c d) (matB a b c d):=by
  have w0:wrap64 1=1:=wid (by omega) (by omega)
  have w1:wrap64 2=2:=wid (by omega) (by omega)
  have hI:∀x:Int,spec_l01In.f x (-1000) 1000=some (entB x):=fun x=>In_eq x _ _
  unfold spec_l04Is.f matB
  refine Ev.step (f:=fun k=>spec_l04Is.l1 k 0 0 a b c d) (fun k=>by simp only[spec_l04Is.l0];rw[if_pos (by decide)]) ?_
  have no:Ev (fun _:Nat=>(some false:Option Bool)) false:=Ev.now _
  cases ha:entB a with
  |false=>exact Ev.step (f:=fun _=>some false) (fun k=>by simp[spec_l04Is.l1,hI,ha]) no
  |true=>
  refine Ev.step (f:=fun k=>spec_l04Is.l1 k 0 1 a b c d) (fun k=>by simp[spec_l04Is.l1,hI,ha,w0]) ?_
  cases hb:entB b with
  |false=>exact Ev.step (f:=fun _=>some false) (fun k=>by simp[spec_l04Is.l1,hI,hb]) no
  |true=>
  refine Ev.step (f:=fun k=>spec_l04Is.l1 k 0 2 a b c d) (fun k=>by simp[spec_l04Is.l1,hI,hb,w1]) ?_
  refine Ev.step (f:=fun k=>spec_l04Is.l0 k 1 a b c d) (fun k=>by simp[spec_l04Is.l1,w0]) ?_
  refine Ev.step (f:=fun k=>spec_l04Is.l1 k 1 0 a b c d) (fun k=>by simp only[spec_l04Is.l0];rw[if_pos (by decide)]) ?_
  cases hc:entB c with
  |false=>exact Ev.step (f:=fun _=>some false) (fun k=>by simp[spec_l04Is.l1,hI,hc]) no
  |true=>
  refine Ev.step (f:=fun k=>spec_l04Is.l1 k 1 1 a b c d) (fun k=>by simp[spec_l04Is.l1,hI,hc,w0]) ?_
  cases hd:entB d with
  |false=>exact Ev.step (f:=fun _=>some false) (fun k=>by simp[spec_l04Is.l1,hI,hd]) no
  |true=>
  refine Ev.step (f:=fun k=>spec_l04Is.l1 k 1 2 a b c d) (fun k=>by simp[spec_l04Is.l1,hI,hd,w1]) ?_
  refine Ev.step (f:=fun k=>spec_l04Is.l0 k 2 a b c d) (fun k=>by simp[spec_l04Is.l1,w1]) ?_
  refine Ev.step (f:=fun _=>(spec_l04Det.f a b c d).bind fun t=>some (t !=0)) (fun k=>by simp only[spec_l04Is.l0];rw[if_neg (by decide)]) ?_
  refine Ev.bindv (spec_l04Det_eq (m:=1000) (by omega) (by omega) ⟨ent_lo ha,ent_hi ha⟩ ⟨ent_lo hb,ent_hi hb⟩ ⟨ent_lo hc,ent_hi hc⟩ ⟨ent_lo hd,ent_hi hd⟩) ?_
  simp only[Bool.true_and]
  exact Ev.now _
structure M4 where
  a:Int
  b:Int
  c:Int
  d:Int
def M4.det (g:M4):Int:=g.a*g.d - g.b*g.c
def M4.mul (g h:M4):M4:=⟨g.a*h.a+g.b*h.c,g.a*h.b+g.b*h.d,g.c*h.a+g.d*h.c,g.c*h.b+g.d*h.d⟩
def M4.by_ (g:M4):Int:=byM g.a g.b g.c g.d
def M4.fit (g:M4):Bool:=entB g.a&&(entB g.b&&(entB g.c&&entB g.d))
def M4.ok (g:M4):Bool:=matB g.a g.b g.c g.d
def M4.one:M4:=⟨1,0,0,1⟩
theorem M4.ext' {g h:M4} (h1:g.a=h.a) (h2:g.b=h.b) (h3:g.c=h.c) (h4:g.d=h.d):g=h:=by cases g;cases h;simp_all
theorem M4.ok_det {g:M4} (h:g.ok=true):g.det≠0:=by
  unfold M4.ok matB at h;rw[Bool.and_eq_true] at h
  have:=h.2
  unfold M4.det
  intro e;rw[e] at this;simp at this
theorem M4.ok_fit {g:M4} (h:g.ok=true):g.fit=true:=by
  unfold M4.ok matB at h;rw[Bool.and_eq_true] at h;exact h.1
theorem M4.fit_bd {g:M4} (h:g.fit=true): (-1000≤g.a∧g.a≤1000)∧(-1000≤g.b∧g.b≤1000)∧(-1000≤g.c∧g.c≤1000)∧(-1000≤g.d∧g.d≤1000):=by
  unfold M4.fit at h;simp only[Bool.and_eq_true] at h
  exact⟨⟨ent_lo h.1,ent_hi h.1⟩,⟨ent_lo h.2.1,ent_hi h.2.1⟩,⟨ent_lo h.2.2.1,ent_hi h.2.2.1⟩,⟨ent_lo h.2.2.2,ent_hi h.2.2.2⟩⟩
theorem M4.one_mul (g:M4):M4.one.mul g=g:=by apply M4.ext'<;>simp[M4.mul,M4.one]
theorem mulS {x y M N:Int} (hx: -M≤x∧x≤M) (hy: -N≤y∧y≤N) (hM:0≤M) (hN:0≤N): -(M*N)≤x*y∧x*y≤M*N:=mul_bd hx.1 hx.2 hy.1 hy.2 hM hN
theorem moveSide_both {p L T D:Int} {o:Bool} {a b c d:Int} (h:ballB p L T D=true) (hg:matB a b c d=true):∃r:Int×Int×Int×Bool×Bool,
    Ev (fun k=>impl_moveSide.f k p a b c d L T D o) r∧Ev (fun k=>spec_l09Move.f k p a b c d L T D o) r∧(r.2.2.2.2=true→ballB p r.1 r.2.1 r.2.2.1=true):=by
  obtain⟨hp,hL,hD,_,_⟩:=ball_parts h
  have hp2:=prime_lo hp
  have hT:=ball_num h
  have hX:=mark_lt h
  have hX2:=pow_13 hp (L+6).toNat (by omega)
  have hok: (M4.mk a b c d).ok=true:=hg
  obtain⟨g1,g2,g3,g4⟩:=M4.fit_bd (M4.ok_fit hok)
  simp only at g1 g2 g3 g4
  have hdet:a*d - b*c≠0:=M4.ok_det hok
  obtain⟨db1,db2⟩:=det_bd (m:=1000) (by omega) g1 g2 g3 g4
  have p6:=pow_6 hp 6 (by omega)
  have p60:=ipow_pos (p:=p) (by omega) 6
  have pD:=pow_6 hp D.toNat (by omega)
  have pD0:=ipow_pos (p:=p) (by omega) D.toNat
  have aT:=mulS (M:=1000) (N:=13841287201) g1 (y:=T) (by omega) (by omega) (by omega)
  have bD:=mulS (M:=1000) (N:=117649) g2 (y:=p^D.toNat) (by omega) (by omega) (by omega)
  have cT:=mulS (M:=1000) (N:=13841287201) g3 (y:=T) (by omega) (by omega) (by omega)
  have dD:=mulS (M:=1000) (N:=117649) g4 (y:=p^D.toNat) (by omega) (by omega) (by omega)
  have aX:=mulS (M:=1000) (N:=13841287201) g1 (y:=markOf p T D) (by omega) (by omega) (by omega)
  have b6:=mulS (M:=1000) (N:=117649) g2 (y:=p^6) (by omega) (by omega) (by omega)
  have cX:=mulS (M:=1000) (N:=13841287201) g3 (y:=markOf p T D) (by omega) (by omega) (by omega)
  have d6:=mulS (M:=1000) (N:=117649) g4 (y:=p^6) (by omega) (by omega) (by omega)
  have e6:p^6=p^(6 - D).toNat*p^D.toNat:=by rw[←Int.pow_add];congr 1;omega
  have hnum:a*markOf p T D+b*p^6=p^(6 - D).toNat*(a*T+b*p^D.toNat):=by unfold markOf;rw[e6];grind
  have hden:c*markOf p T D+d*p^6=p^(6 - D).toNat*(c*T+d*p^D.toNat):=by unfold markOf;rw[e6];grind
  obtain⟨top,htop⟩:∃x,x=a*T+b*p^D.toNat:=⟨_,rfl⟩
  obtain⟨bot,hbot⟩:∃x,x=c*T+d*p^D.toNat:=⟨_,rfl⟩
  obtain⟨num,hnum'⟩:∃x,x=a*markOf p T D+b*p^6:=⟨_,rfl⟩
  obtain⟨den,hden'⟩:∃x,x=c*markOf p T D+d*p^6:=⟨_,rfl⟩
  rw[←htop,←hnum'] at hnum
  rw[←hbot,←hden'] at hden
  have vdet:=val_le_of_lt hp2 hdet 22 (by omega)
  generalize hvd:val p (a*d - b*c)=V at*
  have core_in:c≠0→∃r:Int×Int×Int×Bool×Bool,Ev (fun k=>impl_moveSide.j0 k p num den V (val p c) true a b c d L T D o) r∧Ev (fun k=>spec_l09Move.j0 k p V top bot c true a b c d L T D o) r∧(r.2.2.2.2=true→ballB p r.1 r.2.1 r.2.2.1=true):=by
    intro hc
    have vc:=val_le_of_lt hp2 hc 10 (by omega)
    obtain⟨w,hw,ew⟩:=impl_ballAt_ev (p:=p) (n:=a) (d:=c) (L:=(V:Int) - 2*(val p c:Int) - L+1) hp hc (by omega) (by omega) (by omega) (by omega)
    have ew':=spec_l01Of_ev (p:=p) (n:=a) (d:=c) (L:=(V:Int) - 2*(val p c:Int) - L+1) (w:=w) hp hc (by omega) (by omega) (by omega) (by omega) hw
    have hball:=atF_ball (p:=p) (L:=(V:Int) - 2*(val p c:Int) - L+1) (n:=a) (d:=c) (w:=w) hp
    generalize hr:atF p ((V:Int) - 2*(val p c:Int) - L+1) a c w=r at*
    refine⟨(r.1,r.2.1,r.2.2.1,!o,r.2.2.2),Ev.up ?_,Ev.up ?_,hball⟩
    · simp only[impl_moveSide.j0,if_true]
      rw[wid (n:=2*(val p c:Int)) (by omega) (by omega),wid (n:=(V:Int) - 2*(val p c:Int)) (by omega) (by omega),wid (n:=(V:Int) - 2*(val p c:Int) - L) (by omega) (by omega),wid (n:=(V:Int) - 2*(val p c:Int) - L+1) (by omega) (by omega)]
      exact Ev.bind ew (Ev.now _)
    · simp only[spec_l09Move.j0,if_true]
      refine Ev.bind (spec_l01Val_ev hp2 hc (by omega) (by omega)) ?_
      rw[wid (n:=2*(val p c:Int)) (by omega) (by omega),wid (n:=(V:Int) - 2*(val p c:Int)) (by omega) (by omega),wid (n:=(V:Int) - 2*(val p c:Int) - L) (by omega) (by omega),wid (n:=(V:Int) - 2*(val p c:Int) - L+1) (by omega) (by omega)]
      exact Ev.bind ew' (Ev.now _)
  have core_out:∀tc:Int,bot≠0→∃r:Int×Int×Int×Bool×Bool,Ev (fun k=>impl_moveSide.j0 k p num den V tc false a b c d L T D o) r∧Ev (fun k=>spec_l09Move.j0 k p V top bot c false a b c d L T D o) r∧(r.2.2.2.2=true→ballB p r.1 r.2.1 r.2.2.1=true):=by
    intro tc hb
    have hd0:den≠0:=by rw[hden];exact Int.mul_ne_zero (Int.pow_ne_zero (by omega)) hb
    have vb:=val_le_of_lt hp2 hb 45 (by omega)
    have vden: (val p den:Int)=(6 - D)+(val p bot:Int):=by rw[hden,val_pow_mul _ hp2 hb];omega
    obtain⟨w,hw,ew⟩:=impl_ballAt_ev (p:=p) (n:=num) (d:=den) (L:=(V:Int)+L - 2*((val p bot:Int) - D)) hp hd0 (by omega) (by omega) (by omega) (by omega)
    rw[hden,uOf_scale _ hp2 hb] at hw
    have ew':=spec_l01Of_ev (p:=p) (n:=top) (d:=bot) (L:=(V:Int)+L - 2*((val p bot:Int) - D)) (w:=w) hp hb (by omega) (by omega) (by omega) (by omega) hw
    have hball:=atF_ball (p:=p) (L:=(V:Int)+L - 2*((val p bot:Int) - D)) (n:=top) (d:=bot) (w:=w) hp
    have hs:atF p ((V:Int)+L - 2*((val p bot:Int) - D)) num den w=atF p ((V:Int)+L - 2*((val p bot:Int) - D)) top bot w:=by rw[hnum,hden];exact atF_scale _ hp2 hb
    rw[hs] at ew
    generalize hr:atF p ((V:Int)+L - 2*((val p bot:Int) - D)) top bot w=r at*
    refine⟨(r.1,r.2.1,r.2.2.1,o,r.2.2.2),Ev.up ?_,Ev.up ?_,hball⟩
    · simp only[impl_moveSide.j0,Bool.false_eq_true,if_false]
      refine Ev.bind (impl_valuation_ev hp2 (by omega) (by omega)) ?_
      have hv:valW p den=(6 - D)+(val p bot:Int):=by unfold valW;rw[if_neg hd0,vden]
      rw[hv,wid (n:=L+(V:Int)) (by omega) (by omega),wid (n:=6 - D+(val p bot:Int) - 6) (by omega) (by omega),wid (n:=2*(6 - D+(val p bot:Int) - 6)) (by omega) (by omega),wid (n:=L+(V:Int) - 2*(6 - D+(val p bot:Int) - 6)) (by omega) (by omega),show L+(V:Int) - 2*(6 - D+(val p bot:Int) - 6)=(V:Int)+L - 2*((val p bot:Int) - D) from by omega]
      exact Ev.bind ew (Ev.now _)
    · simp only[spec_l09Move.j0,Bool.false_eq_true,if_false]
      refine Ev.bind (spec_l01Val_ev hp2 hb (by omega) (by omega)) ?_
      rw[wid (n:=(V:Int)+L) (by omega) (by omega),wid (n:=(val p bot:Int) - D) (by omega) (by omega),wid (n:=2*((val p bot:Int) - D)) (by omega) (by omega),wid (n:=(V:Int)+L - 2*((val p bot:Int) - D)) (by omega) (by omega)]
      exact Ev.bind ew' (Ev.now _)
  have hvdet:valW p (a*d - b*c)=(V:Int):=by unfold valW;rw[if_neg hdet,hvd]
  have impl_of:∀r,Ev (fun k=>if c=0 then impl_moveSide.j0 k p num den V (valW p c) false a b c d L T D o else(impl_valuation.f k p den).bind fun t=>impl_moveSide.j0 k p num den V (valW p c) (decide (wrap64 (t - 6)≥wrap64 (L+valW p c))) a b c d L T D o) r→Ev (fun k=>impl_moveSide.f k p a b c d L T D o) r:=by
    intro r hr
    unfold impl_moveSide.f
    refine Ev.bind (impl_mark_ev h) (Ev.bind (impl_power_ev p 6 (by omega)) ?_)
    rw[show (6:Int).toNat=6 from rfl,powW_prime hp 6 (by omega)]
    refine Ev.bindv (impl_determinant_eq (m:=1000) (by omega) (by omega) g1 g2 g3 g4) ?_
    refine Ev.bind (impl_valuation_ev hp2 (by omega) (by omega)) (Ev.bind (impl_valuation_ev hp2 (by omega) (by omega)) ?_)
    rw[hvdet,wid (n:=a*markOf p T D) (by omega) (by omega),wid (n:=b*p^6) (by omega) (by omega),wid (n:=c*markOf p T D) (by omega) (by omega),wid (n:=d*p^6) (by omega) (by omega),wid (n:=a*markOf p T D+b*p^6) (by omega) (by omega),wid (n:=c*markOf p T D+d*p^6) (by omega) (by omega),←hnum',←hden']
    exact hr
  have spec_of:∀r,Ev (fun k=>if c=0 then spec_l09Move.j0 k p V top bot c false a b c d L T D o else if bot=0 then spec_l09Move.j0 k p V top bot c true a b c d L T D o else(spec_l01Val.f k p bot).bind fun t=>(spec_l01Val.f k p c).bind fun t'=>spec_l09Move.j0 k p V top bot c (decide (wrap64 (t - D)≥wrap64 (t'+L))) a b c d L T D o) r→Ev (fun k=>spec_l09Move.f k p a b c d L T D o) r:=by
    intro r hr
    unfold spec_l09Move.f
    refine Ev.bind (spec_l01Power_ev p D (by omega)) ?_
    rw[powW_prime hp _ (by omega),wid (n:=a*d) (by omega) (by omega),wid (n:=b*c) (by omega) (by omega),wid (n:=a*d - b*c) (by omega) (by omega)]
    refine Ev.bind (spec_l01Val_ev hp2 hdet (by omega) (by omega)) ?_
    rw[hvd,wid (n:=a*T) (by omega) (by omega),wid (n:=b*p^D.toNat) (by omega) (by omega),wid (n:=c*T) (by omega) (by omega),wid (n:=d*p^D.toNat) (by omega) (by omega),wid (n:=a*T+b*p^D.toNat) (by omega) (by omega),wid (n:=c*T+d*p^D.toNat) (by omega) (by omega),←htop,←hbot]
    exact hr
  by_cases hc:c=0
  · have hb:bot≠0:=by
      rw[hbot,hc,Int.zero_mul,Int.zero_add]
      refine Int.mul_ne_zero (fun e=>hdet ?_) (by omega)
      rw[hc,e];omega
    obtain⟨r,h1,h2,h3⟩:=core_out (valW p c) hb
    refine⟨r,impl_of r ?_,spec_of r ?_,h3⟩
    · simp only[if_pos hc];exact h1
    · simp only[if_pos hc];exact h2
  have hvc:valW p c=(val p c:Int):=by unfold valW;rw[if_neg hc]
  have vc:=val_le_of_lt hp2 hc 10 (by omega)
  by_cases hb:bot=0
  · obtain⟨r,h1,h2,h3⟩:=core_in hc
    have hd0:den=0:=by rw[hden,hb,Int.mul_zero]
    refine⟨r,impl_of r ?_,spec_of r ?_,h3⟩
    · simp only[if_neg hc]
      refine Ev.bind (impl_valuation_ev hp2 (by omega) (by omega)) ?_
      have hv:valW p den=1000:=by unfold valW;rw[if_pos hd0]
      rw[hv,hvc,wid (n:=1000 - 6) (by omega) (by omega),wid (n:=L+(val p c:Int)) (by omega) (by omega),decide_eq_true (show (1000 - 6:Int)≥L+(val p c:Int) by omega)]
      exact h1
    · simp only[if_neg hc,if_pos hb];exact h2
  have hd0:den≠0:=by rw[hden];exact Int.mul_ne_zero (Int.pow_ne_zero (by omega)) hb
  have vb:=val_le_of_lt hp2 hb 45 (by omega)
  have vden: (val p den:Int)=(6 - D)+(val p bot:Int):=by rw[hden,val_pow_mul _ hp2 hb];omega
  have hv:valW p den=(6 - D)+(val p bot:Int):=by unfold valW;rw[if_neg hd0,vden]
  have goal:∀r,Ev (fun k=>impl_moveSide.j0 k p num den V (val p c) (decide ((val p bot:Int) - D≥(val p c:Int)+L)) a b c d L T D o) r→Ev (fun k=>spec_l09Move.j0 k p V top bot c (decide ((val p bot:Int) - D≥(val p c:Int)+L)) a b c d L T D o) r→Ev (fun k=>impl_moveSide.f k p a b c d L T D o) r∧Ev (fun k=>spec_l09Move.f k p a b c d L T D o) r:=by
    intro r h1 h2
    refine⟨impl_of r ?_,spec_of r ?_⟩
    · simp only[if_neg hc]
      refine Ev.bind (impl_valuation_ev hp2 (by omega) (by omega)) ?_
      rw[hv,hvc,wid (n:=6 - D+(val p bot:Int) - 6) (by omega) (by omega),wid (n:=L+(val p c:Int)) (by omega) (by omega),show decide (6 - D+(val p bot:Int) - 6≥L+(val p c:Int))=decide ((val p bot:Int) - D≥(val p c:Int)+L) from decide_eq_decide.2 (by omega)]
      exact h1
    · simp only[if_neg hc,if_neg hb]
      refine Ev.bind (spec_l01Val_ev hp2 hb (by omega) (by omega)) (Ev.bind (spec_l01Val_ev hp2 hc (by omega) (by omega)) ?_)
      rw[wid (n:=(val p bot:Int) - D) (by omega) (by omega),wid (n:=(val p c:Int)+L) (by omega) (by omega)]
      exact h2
  by_cases hi: (val p bot:Int) - D≥(val p c:Int)+L
  · obtain⟨r,h1,h2,h3⟩:=core_in hc
    rw[decide_eq_true hi] at goal
    exact⟨r,(goal r h1 h2).1,(goal r h1 h2).2,h3⟩
  · obtain⟨r,h1,h2,h3⟩:=core_out (val p c) hb
    rw[decide_eq_false hi] at goal
    exact⟨r,(goal r h1 h2).1,(goal r h1 h2).2,h3⟩
theorem cop2 {p:Int} (hp:primeB p=true) {g:Int} (h:¬p∣g):Int.gcd g p=1:=by
  have h1: (Int.gcd g p:Int)∣g:=Int.gcd_dvd_left g p
  have h2: (Int.gcd g p:Int)∣p:=Int.gcd_dvd_right g p
  generalize Int.gcd g p=n at h1 h2
  rcases prime_cases hp with e|e|e|e<;>subst e
  · have h3:n∣2:=Int.natCast_dvd_natCast.1 h2
    have:∀n,n<3→n∣2→n=1∨n=2:=by decide
    rcases this n (by have:=Nat.le_of_dvd (by omega) h3;omega) h3 with h4|h4
    · exact h4
    · subst h4;exact absurd h1 h
  · have h3:n∣3:=Int.natCast_dvd_natCast.1 h2
    have:∀n,n<4→n∣3→n=1∨n=3:=by decide
    rcases this n (by have:=Nat.le_of_dvd (by omega) h3;omega) h3 with h4|h4
    · exact h4
    · subst h4;exact absurd h1 h
  · have h3:n∣5:=Int.natCast_dvd_natCast.1 h2
    have:∀n,n<6→n∣5→n=1∨n=5:=by decide
    rcases this n (by have:=Nat.le_of_dvd (by omega) h3;omega) h3 with h4|h4
    · exact h4
    · subst h4;exact absurd h1 h
  · have h3:n∣7:=Int.natCast_dvd_natCast.1 h2
    have:∀n,n<8→n∣7→n=1∨n=7:=by decide
    rcases this n (by have:=Nat.le_of_dvd (by omega) h3;omega) h3 with h4|h4
    · exact h4
    · subst h4;exact absurd h1 h
theorem Ev.det {α:Type} {g:Nat→Option α} {r s:α} (h:Ev g r) (h':Ev g s):r=s:=by
  obtain⟨K,hK⟩:=h
  obtain⟨K',hK'⟩:=h'
  have h1:=hK (K+K') (by omega)
  have h2:=hK' (K+K') (by omega)
  rw[h1] at h2
  injection h2
theorem val_mul {p a b:Int} (hp:primeB p=true) (ha:a≠0) (hb:b≠0):val p (a*b)=val p a+val p b∧uOf p (a*b)=uOf p a*uOf p b:=by
  have hp2:=prime_lo hp
  obtain⟨ea,na⟩:=uOf_spec hp2 ha
  obtain⟨eb,nb⟩:=uOf_spec hp2 hb
  have hn:¬p∣uOf p a*uOf p b:=fun hd=>nb (Int.natAbs_dvd_natAbs.1 (Nat.Coprime.dvd_of_dvd_mul_left (show Nat.Coprime (uOf p a).natAbs p.natAbs from cop2 hp na).symm (by rw[←Int.natAbs_mul];exact Int.natAbs_dvd_natAbs.2 hd)))
  have e:a*b=p^(val p a+val p b)*(uOf p a*uOf p b):=by
    rw[Int.pow_add]
    conv=>lhs;rw[ea,eb]
    grind
  have hv:=val_eq hp2 e hn
  refine⟨hv,?_⟩
  obtain⟨e2,_⟩:=uOf_spec hp2 (Int.mul_ne_zero ha hb)
  rw[hv] at e2
  have hq:p^(val p a+val p b)≠0:=Int.pow_ne_zero (by omega)
  exact Int.eq_of_mul_eq_mul_left hq (e2.symm.trans e)
theorem atF_gen {p L n d m w w':Int} (hp:primeB p=true) (hm:m≠0) (hd:d≠0) (hw: (-6≤L∧L≤6)→isInv (uOf p d) (p^(L+6).toNat) w) (hw': (-6≤L∧L≤6)→isInv (uOf p (m*d)) (p^(L+6).toNat) w'):atF p L (m*n) (m*d) w'=atF p L n d w:=by
  have hp2:=prime_lo hp
  unfold atF
  by_cases hL: -6≤L∧L≤6
  · simp only[if_neg (show ¬ ¬(-6≤L∧L≤6) from fun h=>h hL)]
    by_cases h0:n=0
    · subst h0
      simp only[Int.mul_zero,true_or,if_true]
    · obtain⟨vn,un⟩:=val_mul hp hm h0
      obtain⟨vd,ud⟩:=val_mul hp hm hd
      rw[vn,vd,un,show ((val p m+val p n:Nat):Int) - ((val p m+val p d:Nat):Int)=(val p n:Int) - val p d by omega]
      have hmn:m*n≠0:=Int.mul_ne_zero hm h0
      simp only[hmn,h0,false_or]
      have key:ofM p L (uOf p m*uOf p n*w'*p^((val p n:Int) - val p d+6).toNat)=ofM p L (uOf p n*w*p^((val p n:Int) - val p d+6).toNat):=by
        rw[ofM_inj hp2]
        obtain⟨_,_,k,hk⟩:=hw hL
        obtain⟨_,_,k',hk'⟩:=hw' hL
        rw[ud] at hk'
        generalize p^((val p n:Int) - val p d+6).toNat=P
        generalize p^(L+6).toNat=Q at hk hk'
        generalize uOf p m=um at hk'
        generalize uOf p n=un
        generalize uOf p d=ud at hk hk'
        have e:um*un*w'*P=un*w*P+Q*(un*P*(um*w'*k - w*k')):=by
          have e1:um*w'=um*w'*(w*ud+k*Q):=by rw[hk,Int.mul_one]
          have e2:um*w'*(w*ud+k*Q)=w*(w'*(um*ud))+um*w'*k*Q:=by grind
          have e3:w'*(um*ud)=1 - k'*Q:=by omega
          have e4:um*w'=w*(1 - k'*Q)+um*w'*k*Q:=by rw[←e3,←e2,←e1]
          have e5:um*un*w'*P=un*P*(um*w'):=by grind
          rw[e5,e4]
          grind
        rw[e,Int.add_mul_emod_self_left]
      rw[key]
  · simp only[if_pos hL]
section
variable {p L T D:Int} {o:Bool} {a b c d:Int}
theorem spec_move_form (h:ballB p L T D=true) (hg:matB a b c d=true):
    (c≠0∧(c*T+d*p^D.toNat=0∨(val p (c*T+d*p^D.toNat):Int) - D≥(val p c:Int)+L)→
      ∀w lv,lv=(val p (a*d - b*c):Int) - 2*(val p c:Int) - L+1→((-6≤lv∧lv≤6)→isInv (uOf p c) (p^(lv+6).toNat) w)→
       Ev (fun k=>spec_l09Move.f k p a b c d L T D o) ((atF p lv a c w).1,(atF p lv a c w).2.1,(atF p lv a c w).2.2.1,!o,(atF p lv a c w).2.2.2))∧
    (¬(c≠0∧(c*T+d*p^D.toNat=0∨(val p (c*T+d*p^D.toNat):Int) - D≥(val p c:Int)+L))→c*T+d*p^D.toNat≠0∧
      ∀w lv,lv=(val p (a*d - b*c):Int)+L - 2*((val p (c*T+d*p^D.toNat):Int) - D)→((-6≤lv∧lv≤6)→isInv (uOf p (c*T+d*p^D.toNat)) (p^(lv+6).toNat) w)→
       Ev (fun k=>spec_l09Move.f k p a b c d L T D o) ((atF p lv (a*T+b*p^D.toNat) (c*T+d*p^D.toNat) w).1,(atF p lv (a*T+b*p^D.toNat) (c*T+d*p^D.toNat) w).2.1,(atF p lv (a*T+b*p^D.toNat) (c*T+d*p^D.toNat) w).2.2.1,o,(atF p lv (a*T+b*p^D.toNat) (c*T+d*p^D.toNat) w).2.2.2)):=by
  obtain⟨hp,hL,hD,_,_⟩:=ball_parts h
  have hp2:=prime_lo hp
  have hT:=ball_num h
  have hok: (M4.mk a b c d).ok=true:=hg
  obtain⟨g1,g2,g3,g4⟩:=M4.fit_bd (M4.ok_fit hok)
  simp only at g1 g2 g3 g4
  have hdet:a*d - b*c≠0:=M4.ok_det hok
  obtain⟨db1,db2⟩:=det_bd (m:=1000) (by omega) g1 g2 g3 g4
  have pD:=pow_6 hp D.toNat (by omega)
  have pD0:=ipow_pos (p:=p) (by omega) D.toNat
  have aT:=mulS (M:=1000) (N:=13841287201) g1 (y:=T) (by omega) (by omega) (by omega)
  have bD:=mulS (M:=1000) (N:=117649) g2 (y:=p^D.toNat) (by omega) (by omega) (by omega)
  have cT:=mulS (M:=1000) (N:=13841287201) g3 (y:=T) (by omega) (by omega) (by omega)
  have dD:=mulS (M:=1000) (N:=117649) g4 (y:=p^D.toNat) (by omega) (by omega) (by omega)
  have bz:c=0→c*T+d*p^D.toNat≠0:=fun hc=>by
    rw[hc,Int.zero_mul,Int.zero_add]
    refine Int.mul_ne_zero (fun e=>hdet ?_) (by omega)
    rw[hc,e];omega
  obtain⟨top,htop⟩:∃x,x=a*T+b*p^D.toNat:=⟨_,rfl⟩
  obtain⟨bot,hbot⟩:∃x,x=c*T+d*p^D.toNat:=⟨_,rfl⟩
  rw[←hbot] at bz
  rw[←htop,←hbot]
  have vdet:=val_le_of_lt hp2 hdet 22 (by omega)
  generalize hvd:val p (a*d - b*c)=V at*
  have spec_of:∀r,Ev (fun k=>if c=0 then spec_l09Move.j0 k p V top bot c false a b c d L T D o else if bot=0 then spec_l09Move.j0 k p V top bot c true a b c d L T D o else(spec_l01Val.f k p bot).bind fun t=>(spec_l01Val.f k p c).bind fun t'=>spec_l09Move.j0 k p V top bot c (decide (wrap64 (t - D)≥wrap64 (t'+L))) a b c d L T D o) r→Ev (fun k=>spec_l09Move.f k p a b c d L T D o) r:=by
    intro r hr
    unfold spec_l09Move.f
    refine Ev.bind (spec_l01Power_ev p D (by omega)) ?_
    rw[powW_prime hp _ (by omega),wid (n:=a*d) (by omega) (by omega),wid (n:=b*c) (by omega) (by omega),wid (n:=a*d - b*c) (by omega) (by omega)]
    refine Ev.bind (spec_l01Val_ev hp2 hdet (by omega) (by omega)) ?_
    rw[hvd,wid (n:=a*T) (by omega) (by omega),wid (n:=b*p^D.toNat) (by omega) (by omega),wid (n:=c*T) (by omega) (by omega),wid (n:=d*p^D.toNat) (by omega) (by omega),wid (n:=a*T+b*p^D.toNat) (by omega) (by omega),wid (n:=c*T+d*p^D.toNat) (by omega) (by omega),←htop,←hbot]
    exact hr
  have goes:∀(q:Bool) r,c≠0→bot≠0→q=decide ((val p bot:Int) - D≥(val p c:Int)+L)→Ev (fun k=>spec_l09Move.j0 k p V top bot c q a b c d L T D o) r→Ev (fun k=>spec_l09Move.f k p a b c d L T D o) r:=by
    intro q r hc hb hq hr
    have vc:=val_le_of_lt hp2 hc 10 (by omega)
    have vb:=val_le_of_lt hp2 hb 45 (by omega)
    refine spec_of r ?_
    simp only[if_neg hc,if_neg hb]
    refine Ev.bind (spec_l01Val_ev hp2 hb (by omega) (by omega)) (Ev.bind (spec_l01Val_ev hp2 hc (by omega) (by omega)) ?_)
    rw[wid (n:=(val p bot:Int) - D) (by omega) (by omega),wid (n:=(val p c:Int)+L) (by omega) (by omega),←hq]
    exact hr
  constructor
  · rintro⟨hc,hin⟩ w lv hlv hw
    have vc:=val_le_of_lt hp2 hc 10 (by omega)
    have ew:=spec_l01Of_ev (p:=p) (n:=a) (d:=c) (L:=lv) (w:=w) hp hc (by omega) (by omega) (by omega) (by omega) hw
    have hj:Ev (fun k=>spec_l09Move.j0 k p V top bot c true a b c d L T D o) ((atF p lv a c w).1,(atF p lv a c w).2.1,(atF p lv a c w).2.2.1,!o,(atF p lv a c w).2.2.2):=by
      refine Ev.up ?_
      simp only[spec_l09Move.j0,if_true]
      refine Ev.bind (spec_l01Val_ev hp2 hc (by omega) (by omega)) ?_
      rw[wid (n:=2*(val p c:Int)) (by omega) (by omega),wid (n:=(V:Int) - 2*(val p c:Int)) (by omega) (by omega),wid (n:=(V:Int) - 2*(val p c:Int) - L) (by omega) (by omega),wid (n:=(V:Int) - 2*(val p c:Int) - L+1) (by omega) (by omega),←hlv]
      exact Ev.bind ew (Ev.now _)
    by_cases hb:bot=0
    · refine spec_of _ ?_
      simp only[if_neg hc,if_pos hb];exact hj
    · refine goes true _ hc hb (decide_eq_true ?_).symm hj
      rcases hin with hin|hin
      · exact absurd hin hb
      · exact hin
  · intro hni
    have hb:bot≠0:=fun e=>by
      by_cases hc:c=0
      · exact bz hc e
      · exact hni ⟨hc,.inl e⟩
    refine⟨hb,fun w lv hlv hw=>?_⟩
    have vb:=val_le_of_lt hp2 hb 45 (by omega)
    have ew:=spec_l01Of_ev (p:=p) (n:=top) (d:=bot) (L:=lv) (w:=w) hp hb (by omega) (by omega) (by omega) (by omega) hw
    have hj:Ev (fun k=>spec_l09Move.j0 k p V top bot c false a b c d L T D o) ((atF p lv top bot w).1,(atF p lv top bot w).2.1,(atF p lv top bot w).2.2.1,o,(atF p lv top bot w).2.2.2):=by
      refine Ev.up ?_
      simp only[spec_l09Move.j0,Bool.false_eq_true,if_false]
      refine Ev.bind (spec_l01Val_ev hp2 hb (by omega) (by omega)) ?_
      rw[wid (n:=(V:Int)+L) (by omega) (by omega),wid (n:=(val p bot:Int) - D) (by omega) (by omega),wid (n:=2*((val p bot:Int) - D)) (by omega) (by omega),wid (n:=(V:Int)+L - 2*((val p bot:Int) - D)) (by omega) (by omega),←hlv]
      exact Ev.bind ew (Ev.now _)
    by_cases hc:c=0
    · refine spec_of _ ?_
      simp only[if_pos hc];exact hj
    · exact goes false _ hc hb (decide_eq_false (fun e=>hni ⟨hc,.inr e⟩)).symm hj
end
theorem held_dvd {p L T D n d:Int} (h:ballB p L T D=true):heldB p L T D n d=true↔d≠0∧p^((L+6).toNat+val p d)∣n*p^6 - markOf p T D*d:=by
  obtain⟨hp,hL,hD,_⟩:=ball_parts h
  have hp2:=prime_lo hp
  rw[near_mark n d h]
  unfold heldB
  by_cases h0:d=0
  · rw[if_pos h0];simp[h0]
  rw[if_neg h0]
  by_cases hw:nearW p T D n d=0
  · rw[if_pos hw,hw,Int.mul_zero]
    exact⟨fun _=>⟨h0,Int.dvd_zero _⟩,fun _=>rfl⟩
  · rw[if_neg hw,decide_eq_true_eq,val_dvd hp2 (Int.mul_ne_zero (Int.pow_ne_zero (by omega)) hw),val_pow_mul _ hp2 hw]
    constructor
    · intro h1;exact⟨h0,by omega⟩
    · intro h1;have:=h1.2;omega
def vge (p N t:Int):Prop:=p^t.toNat∣N
theorem vge_val {p N t:Int} (hp:2≤p) (h:N≠0):vge p N t↔t≤(val p N:Int):=by
  unfold vge
  rw[val_dvd hp h]
  omega
theorem vge_zero (p t:Int):vge p 0 t:=Int.dvd_zero _
theorem vge_add {p a b t:Int} (ha:vge p a t) (hb:vge p b t):vge p (a+b) t:=Int.dvd_add ha hb
theorem vge_neg {p a t:Int}:vge p (-a) t↔vge p a t:=Int.dvd_neg
theorem vge_mul {p a b t s:Int} (hp:primeB p=true) (ha:a≠0) (hs:s=t+(val p a:Int)):vge p (a*b) s↔vge p b t:=by
  have hp2:=prime_lo hp
  by_cases hb:b=0
  · rw[hb,Int.mul_zero];exact⟨fun _=>vge_zero p t,fun _=>vge_zero p s⟩
  · rw[vge_val hp2 (Int.mul_ne_zero ha hb),vge_val hp2 hb,(val_mul hp ha hb).1]
    omega
theorem val_neg {p n:Int} (hp:2≤p) (h:n≠0):val p (-n)=val p n:=by
  have h1:=(val_dvd hp (show -n≠0 by omega) (val p n)).1 (Int.dvd_neg.2 ((val_dvd hp h _).2 (Nat.le_refl _)))
  have h2:=(val_dvd hp h (val p (-n))).1 (Int.dvd_neg.1 ((val_dvd hp (show -n≠0 by omega) _).2 (Nat.le_refl _)))
  omega
theorem ultra {p x y:Int} (hp:2≤p) (hx:x≠0) (hy:y≠0) (hs:x - y≠0):
    (val p x<val p y→val p (x - y)=val p x)∧(val p y<val p x→val p (x - y)=val p y)∧(val p x=val p y→val p x≤val p (x - y)):=by
  have key:∀j,(p^j∣x→p^j∣y→j≤val p (x - y)):=fun j h1 h2=>(val_dvd hp hs j).1 (Int.dvd_sub h1 h2)
  have k2:∀j,(p^j∣x - y→p^j∣y→j≤val p x):=fun j h1 h2=>(val_dvd hp hx j).1 (by have:=Int.dvd_add h1 h2;rwa [show x - y+y=x by omega] at this)
  have k3:∀j,(p^j∣x - y→p^j∣x→j≤val p y):=fun j h1 h2=>(val_dvd hp hy j).1 (by have:=Int.dvd_sub h2 h1;rwa [show x - (x - y)=y by omega] at this)
  have dx:∀j,j≤val p x→p^j∣x:=fun j h=>(val_dvd hp hx j).2 h
  have dy:∀j,j≤val p y→p^j∣y:=fun j h=>(val_dvd hp hy j).2 h
  have ds:∀j,j≤val p (x - y)→p^j∣x - y:=fun j h=>(val_dvd hp hs j).2 h
  refine⟨fun h=>?_,fun h=>?_,fun h=>?_⟩
  · have h1:=key (val p x) (dx _ (Nat.le_refl _)) (dy _ (by omega))
    by_cases h2:val p x+1≤val p (x - y)
    · have:=k2 (val p x+1) (ds _ h2) (dy _ (by omega));omega
    · omega
  · have h1:=key (val p y) (dx _ (by omega)) (dy _ (Nat.le_refl _))
    by_cases h2:val p y+1≤val p (x - y)
    · have:=k3 (val p y+1) (ds _ h2) (dx _ (by omega));omega
    · omega
  · exact key (val p x) (dx _ (Nat.le_refl _)) (dy _ (by omega))
def inB (p n d L y z:Int):Prop:=vge p (n*z - y*d) (L+(val p d:Int)+(val p z:Int))
theorem inB_scale {p n d L m y z:Int} (hp:primeB p=true) (hm:m≠0) (hz:z≠0):inB p n d L (m*y) (m*z)↔inB p n d L y z:=by
  unfold inB
  rw[show n*(m*z) - m*y*d=m*(n*z - y*d) by grind,(val_mul hp hm hz).1]
  exact vge_mul hp hm (by omega)
theorem val_pow {p:Int} (hp:2≤p) (j:Nat):val p (p^j)=j:=by
  have h:=val_pow_mul (p:=p) (e:=1) j hp (by omega)
  rw[Int.mul_one] at h
  rw[h,val_eq (p:=p) (n:=1) (u:=1) (v:=0) hp (by simp) (by intro h;have:=Int.le_of_dvd (by omega) h;omega)]
  rfl
theorem held_inB {p L T D y z:Int} (h:ballB p L T D=true):heldB p L T D y z=true↔z≠0∧inB p T (p^D.toNat) L y z:=by
  obtain⟨hp,hL,hD,_⟩:=ball_parts h
  have hp2:=prime_lo hp
  unfold heldB inB
  rw[val_pow hp2]
  have e:T*z - y*p^D.toNat= -(nearW p T D y z):=by unfold nearW;omega
  rw[e,vge_neg]
  by_cases h0:z=0
  · rw[if_pos h0];simp[h0]
  rw[if_neg h0]
  by_cases hw:nearW p T D y z=0
  · rw[if_pos hw,hw];exact⟨fun _=>⟨h0,vge_zero _ _⟩,fun _=>rfl⟩
  · rw[if_neg hw,vge_val hp2 hw,decide_eq_true_eq]
    constructor
    · intro h1;exact⟨h0,by omega⟩
    · intro h1;have:=h1.2;omega
theorem atF_held {p L n d w y z:Int} (hp:primeB p=true) (hd:d≠0) (hw: (-6≤L∧L≤6)→isInv (uOf p d) (p^(L+6).toNat) w) (hok: (atF p L n d w).2.2.2=true):
    heldB p (atF p L n d w).1 (atF p L n d w).2.1 (atF p L n d w).2.2.1 y z=true↔z≠0∧inB p n d L y z:=by
  have hp2:=prime_lo hp
  have hball:=atF_ball hp hok
  have core: (atF p L n d w).1=L∧vge p (markOf p (atF p L n d w).2.1 (atF p L n d w).2.2.1*d - n*p^6) (L+6+(val p d:Int)):=by
    revert hok
    unfold atF
    by_cases hL: -6≤L∧L≤6
    · rw[if_neg (by simpa using hL)]
      by_cases h1:n=0∨L≤(val p n:Int) - val p d
      · rw[if_pos h1];intro _
        refine⟨rfl,?_⟩
        rw[show markOf p 0 0*d - n*p^6= -(p^6*n) by unfold markOf;grind,vge_neg]
        by_cases h0:n=0
        · rw[h0,Int.mul_zero];exact vge_zero _ _
        · refine(vge_mul (t:=L+(val p d:Int)) hp (Int.pow_ne_zero (by omega)) (by rw[val_pow hp2];omega)).2 ((vge_val hp2 h0).2 ?_)
          rcases h1 with h1|h1
          · exact absurd h1 h0
          · omega
      · rw[if_neg h1]
        by_cases h2: (val p n:Int) - val p d< -6
        · rw[if_pos h2];intro h;simp at h
        · rw[if_neg h2];intro _
          obtain⟨e,ev⟩:∃e:Nat,(e:Int)=(val p n:Int) - val p d+6:=⟨((val p n:Int) - val p d+6).toNat,by omega⟩
          have h0:n≠0:=fun h=>h1 (.inl h)
          have hq:=ofM_back (p:=p) (L:=L) (X:=uOf p n*w*p^((val p n:Int) - val p d+6).toNat) hp2
          refine⟨rfl,?_⟩
          simp only
          unfold markOf
          rw[hq.1]
          rw[←ev,Int.toNat_natCast]
          obtain⟨_,_,k',hk'⟩:=hw hL
          obtain⟨en,_⟩:=uOf_spec hp2 h0
          obtain⟨ed,_⟩:=uOf_spec hp2 hd
          generalize uOf p n=un at*
          generalize uOf p d=ud at*
          obtain⟨Q,hQ⟩:∃Q,Q=p^(L+6).toNat:=⟨_,rfl⟩
          rw[←hQ] at hk'⊢
          have hm:un*w*p^e%Q=un*w*p^e - Q*(un*w*p^e / Q):=Int.emod_def _ _
          rw[hm]
          generalize un*w*p^e / Q=k
          have hpp:p^e*p^val p d=p^val p n*p^6:=by rw[←Int.pow_add,←Int.pow_add];congr 1;omega
          unfold vge
          rw[show (L+6+(val p d:Int)).toNat=(L+6).toNat+val p d from by omega,Int.pow_add,←hQ]
          refine⟨-(un*p^e*k') - k*ud,?_⟩
          have e1:n*p^6=un*(p^e*p^val p d):=by
            rw[hpp]
            conv=>lhs;rw[en]
            grind
          have e2: (un*w*p^e - Q*k)*d=p^val p d*(un*p^e*(w*ud)) - Q*p^val p d*(k*ud):=by
            conv=>lhs;rw[ed]
            grind
          rw[e1,e2,show w*ud=1 - k'*Q by omega]
          grind
    · rw[if_pos hL];intro h;simp at h
  rw[held_dvd hball,core.1]
  obtain⟨_,hc⟩:=core
  obtain⟨_,hLr,_⟩:=ball_parts hball
  have hL6: -6≤L:=by
    revert hok;unfold atF
    by_cases hL: -6≤L∧L≤6
    · intro _;exact hL.1
    · rw[if_pos hL];intro h;simp at h
  generalize markOf p (atF p L n d w).2.1 (atF p L n d w).2.2.1=M at*
  refine and_congr_right fun hz=>?_
  rw[show (L+6).toNat+val p z=(L+6+(val p z:Int)).toNat by omega]
  show vge p (y*p^6 - M*z) (L+6+(val p z:Int))↔_
  rw[←vge_mul (a:=d) (s:=L+6+(val p z:Int)+(val p d:Int)) hp hd rfl]
  have hz2:vge p (z*(M*d - n*p^6)) (L+6+(val p z:Int)+(val p d:Int)):=(vge_mul hp hz (by omega)).2 hc
  have e3:d*(y*p^6 - M*z)= -(p^6*(n*z - y*d))+ -(z*(M*d - n*p^6)):=by grind
  have e4: -(p^6*(n*z - y*d))=d*(y*p^6 - M*z)+z*(M*d - n*p^6):=by grind
  have e5:vge p (d*(y*p^6 - M*z)) (L+6+(val p z:Int)+(val p d:Int))↔vge p (p^6*(n*z - y*d)) (L+6+(val p z:Int)+(val p d:Int)):=by
    rw[←vge_neg (a:=p^6*_)]
    constructor
    · intro h;rw[e4];exact vge_add h hz2
    · intro h;rw[e3];exact vge_add h (vge_neg.2 hz2)
  rw[e5]
  unfold inB
  exact vge_mul hp (Int.pow_ne_zero (by omega)) (by rw[val_pow hp2];omega)
theorem impl_IsEnd_ev (n d:Int):Ev (fun k=>impl_IsEnd.f k n d) (endB n d):=by
  unfold impl_IsEnd.f endB
  by_cases h0:d=0
  · simp only[if_pos h0];exact Ev.now _
  · simp only[if_neg h0]
    refine Ev.bind (impl_within_ev 1000000 [n,d] (by omega) (by omega) (by simp)) ?_
    by_cases h2: -1000000≤n∧n≤1000000
    · by_cases h1:1≤d∧d≤1000000
      · rw[show ([n,d]:List Int).all (fun x=>decide (-1000000≤x∧x≤1000000))=true from by simp;omega,decide_eq_true h1,decide_eq_true h2]
        simp only[if_true,Bool.true_and,if_pos (show d>0 by omega)]
        exact Ev.bind (impl_gcd_ev n d (by omega) (by omega) (by omega) (by omega)) (Ev.now _)
      · rw[decide_eq_false h1,Bool.false_and]
        by_cases h3:d>0
        · rw[show ([n,d]:List Int).all (fun x=>decide (-1000000≤x∧x≤1000000))=false from by simp;omega]
          simp;exact Ev.now _
        · cases ([n,d]:List Int).all (fun x=>decide (-1000000≤x∧x≤1000000)) with
          |true=>simp only[if_true,if_neg h3];exact Ev.now _
          |false=>simp;exact Ev.now _
    · rw[show ([n,d]:List Int).all (fun x=>decide (-1000000≤x∧x≤1000000))=false from by simp;omega,decide_eq_false h2]
      simp;exact Ev.now _
def endN (n d:Int):Int×Int:=if d=0 then(1,0) else(Int.tdiv n ((Int.gcd n d:Int)*(if d<0 then -1 else 1)),Int.tdiv d ((Int.gcd n d:Int)*(if d<0 then -1 else 1)))
def endX (n d:Int):Int×Int×Bool:=((endN n d).1,(endN n d).2,if d=0 then true else endB (endN n d).1 (endN n d).2)
theorem gcd_sc {n d:Int} (m:Int): (Int.gcd (m*n) (m*d):Int)=(m.natAbs:Int)*(Int.gcd n d:Int):=by
  rw[Int.gcd_mul_left,Int.natCast_mul]
theorem endN_ok {n d:Int} (h0:d≠0):0<(endN n d).2∧Int.gcd (endN n d).1 (endN n d).2=1:=by
  unfold endN
  rw[if_neg h0]
  have hg: (Int.gcd n d:Int)≠0:=by
    intro e
    have:=(Int.gcd_eq_zero_iff.1 (by omega:Int.gcd n d=0)).2
    exact h0 this
  have gp:0<(Int.gcd n d:Int):=by omega
  obtain⟨a,ha⟩:=Int.gcd_dvd_left n d
  obtain⟨b,hb⟩:=Int.gcd_dvd_right n d
  have hc:Int.gcd a b=1:=by
    have e: (Int.gcd n d:Int)=(Int.gcd n d:Int)*(Int.gcd a b:Int):=by
      have:=gcd_sc (n:=a) (d:=b) (Int.gcd n d:Int)
      rw[←ha,←hb] at this
      simpa only[Int.natAbs_natCast] using this
    have e2: (Int.gcd n d:Int)*1=(Int.gcd n d:Int)*(Int.gcd a b:Int):=by rw[Int.mul_one];exact e
    have:=Int.eq_of_mul_eq_mul_left hg e2
    omega
  by_cases hd:d<0
  · rw[if_pos hd]
    have e1:Int.tdiv n ((Int.gcd n d:Int)* -1)= -a:=by
      conv=>lhs;lhs;rw[ha]
      rw[show (Int.gcd n d:Int)*a=(Int.gcd n d:Int)* -1* -a by grind]
      exact Int.mul_tdiv_cancel_left _ (by omega)
    have e2:Int.tdiv d ((Int.gcd n d:Int)* -1)= -b:=by
      conv=>lhs;lhs;rw[hb]
      rw[show (Int.gcd n d:Int)*b=(Int.gcd n d:Int)* -1* -b by grind]
      exact Int.mul_tdiv_cancel_left _ (by omega)
    rw[e1,e2]
    refine⟨?_,by rw[Int.gcd_neg,Int.neg_gcd];exact hc⟩
    rcases Int.lt_trichotomy b 0 with hb2|hb2|hb2
    · omega
    · rw[hb2,Int.mul_zero] at hb;omega
    · have:=Int.mul_pos gp hb2;omega
  · rw[if_neg hd,Int.mul_one]
    have e1:Int.tdiv n (Int.gcd n d:Int)=a:=by
      conv=>lhs;lhs;rw[ha]
      exact Int.mul_tdiv_cancel_left _ hg
    have e2:Int.tdiv d (Int.gcd n d:Int)=b:=by
      conv=>lhs;lhs;rw[hb]
      exact Int.mul_tdiv_cancel_left _ hg
    rw[e1,e2]
    refine⟨?_,hc⟩
    rcases Int.lt_trichotomy b 0 with hb2|hb2|hb2
    · have:=Int.mul_neg_of_pos_of_neg gp hb2;omega
    · rw[hb2,Int.mul_zero] at hb;omega
    · exact hb2
theorem endN_bd {n d M:Int} (hn: -M≤n∧n≤M) (hd: -M≤d∧d≤M) (hM:1≤M): (-M≤(endN n d).1∧(endN n d).1≤M)∧ -M≤(endN n d).2∧(endN n d).2≤M:=by
  unfold endN
  by_cases h0:d=0
  · rw[if_pos h0];simp only;omega
  · rw[if_neg h0]
    have:=tdiv_bd ((Int.gcd n d:Int)*(if d<0 then -1 else 1)) hn
    have:=tdiv_bd ((Int.gcd n d:Int)*(if d<0 then -1 else 1)) hd
    simp only;omega
theorem endX_ev {n d:Int} (hn: -1152921504606846976≤n∧n≤1152921504606846976) (hd: -1152921504606846976≤d∧d≤1152921504606846976):Ev (fun k=>impl_endAt.f k n d) (endX n d)∧Ev (fun k=>spec_l01EndOf.f k n d) (endX n d):=by
  by_cases h0:d=0
  · subst h0
    have e:endX n 0=(1,0,true):=by simp[endX,endN]
    rw[e]
    exact⟨by unfold impl_endAt.f;simp only[if_true];exact Ev.now _,by unfold spec_l01EndOf.f;simp only[if_true];exact Ev.now _⟩
  have g1:=impl_gcd_ev n d (by omega) (by omega) (by omega) (by omega)
  have g2:=spec_l01Gcd_ev n d (by omega) (by omega) (by omega) (by omega)
  have gb: (Int.gcd n d:Int)≤1152921504606846976:=by
    have h1:Int.gcd n d≤d.natAbs:=Nat.gcd_le_right _ (by omega)
    omega
  have g0: (Int.gcd n d:Int)≠0:=by
    intro e
    exact h0 (Int.gcd_eq_zero_iff.1 (by omega:Int.gcd n d=0)).2
  obtain⟨hpos,hcop⟩:=endN_ok (n:=n) h0
  have hbd:=endN_bd hn hd (by omega)
  have hs:∃s:Int,s=(if d<0 then wrap64 (-(Int.gcd n d:Int)) else(Int.gcd n d:Int))∧s≠0∧wrap64 (Int.tdiv n s)=(endN n d).1∧wrap64 (Int.tdiv d s)=(endN n d).2:=by
    refine⟨_,rfl,?_⟩
    have e: (if d<0 then wrap64 (-(Int.gcd n d:Int)) else(Int.gcd n d:Int))=(Int.gcd n d:Int)*(if d<0 then -1 else 1):=by
      split
      · rw[wid (by omega) (by omega)];omega
      · omega
    rw[e]
    have e1:Int.tdiv n ((Int.gcd n d:Int)*(if d<0 then -1 else 1))=(endN n d).1:=by unfold endN;rw[if_neg h0]
    have e2:Int.tdiv d ((Int.gcd n d:Int)*(if d<0 then -1 else 1))=(endN n d).2:=by unfold endN;rw[if_neg h0]
    refine⟨by split<;>omega,?_,?_⟩
    · rw[e1];exact wid (by omega) (by omega)
    · rw[e2];exact wid (by omega) (by omega)
  obtain⟨s,s1,s2,s3,s4⟩:=hs
  have ex:endX n d=((endN n d).1,(endN n d).2,endB (endN n d).1 (endN n d).2):=by unfold endX;rw[if_neg h0]
  have ie:=impl_IsEnd_ev (endN n d).1 (endN n d).2
  have eb:endB (endN n d).1 (endN n d).2=decide ((endN n d).2≤1000000∧mx (endN n d).1 (wrap64 (-(endN n d).1))≤1000000):=by
    unfold endB
    rw[if_neg (by omega),wid (n:= -(endN n d).1) (by omega) (by omega),hcop]
    have:mx (endN n d).1 (-(endN n d).1)≤1000000↔ -1000000≤(endN n d).1∧(endN n d).1≤1000000:=by
      unfold mx;split<;>omega
    rw[Bool.eq_iff_iff]
    simp only[Bool.and_eq_true,decide_eq_true_eq,this]
    constructor
    · rintro⟨h1,h2,_⟩;exact⟨h1.2,h2⟩
    · rintro⟨h1,h2⟩;exact⟨⟨by omega,h1⟩,h2,rfl⟩
  constructor
  · unfold impl_endAt.f
    simp only[if_neg h0]
    refine Ev.bind g1 ?_
    rw[ex]
    by_cases hneg:d<0
    · rw[if_pos hneg] at s1
      simp only[if_pos hneg,←s1,if_neg s2,s3,s4]
      exact Ev.bind ie (Ev.now _)
    · rw[if_neg hneg] at s1
      simp only[if_neg hneg,←s1,if_neg s2,s3,s4]
      exact Ev.bind ie (Ev.now _)
  · unfold spec_l01EndOf.f
    simp only[if_neg h0]
    refine Ev.bind g2 ?_
    rw[ex,eb]
    by_cases hneg:d<0
    · rw[if_pos hneg] at s1
      simp only[if_pos hneg,←s1,if_neg s2,s3,s4]
      by_cases hd1: (endN n d).2≤1000000
      · simp only[if_pos hd1]
        have:decide ((endN n d).2≤1000000∧mx (endN n d).1 (wrap64 (-(endN n d).1))≤1000000)=decide (mx (endN n d).1 (wrap64 (-(endN n d).1))≤1000000):=by simp[hd1]
        rw[this];exact Ev.now _
      · simp only[if_neg hd1]
        have:decide ((endN n d).2≤1000000∧mx (endN n d).1 (wrap64 (-(endN n d).1))≤1000000)=false:=by simp[hd1]
        rw[this];exact Ev.now _
    · rw[if_neg hneg] at s1
      simp only[if_neg hneg,←s1,if_neg s2,s3,s4]
      by_cases hd1: (endN n d).2≤1000000
      · simp only[if_pos hd1]
        have:decide ((endN n d).2≤1000000∧mx (endN n d).1 (wrap64 (-(endN n d).1))≤1000000)=decide (mx (endN n d).1 (wrap64 (-(endN n d).1))≤1000000):=by simp[hd1]
        rw[this];exact Ev.now _
      · simp only[if_neg hd1]
        have:decide ((endN n d).2≤1000000∧mx (endN n d).1 (wrap64 (-(endN n d).1))≤1000000)=false:=by simp[hd1]
        rw[this];exact Ev.now _
theorem mov_bd {a b n d:Int} (ha: -1000≤a∧a≤1000) (hb: -1000≤b∧b≤1000) (hn: -1000000≤n∧n≤1000000) (hd: -1000000≤d∧d≤1000000): -2000000000≤a*n+b*d∧a*n+b*d≤2000000000∧wrap64 (wrap64 (a*n)+wrap64 (b*d))=a*n+b*d:=by
  have h1: (a*n).natAbs≤1000*1000000:=by rw[Int.natAbs_mul];exact Nat.mul_le_mul (by omega) (by omega)
  have h2: (b*d).natAbs≤1000*1000000:=by rw[Int.natAbs_mul];exact Nat.mul_le_mul (by omega) (by omega)
  refine⟨by omega,by omega,?_⟩
  rw[wid (n:=a*n) (by omega) (by omega),wid (n:=b*d) (by omega) (by omega),wid (by omega) (by omega)]
theorem endX_ok {n d:Int} (h: (endX n d).2.2=true):endB (endX n d).1 (endX n d).2.1=true:=by
  by_cases h0:d=0
  · subst h0
    have e:endX n 0=(1,0,true):=by simp[endX,endN]
    rw[e];rfl
  · unfold endX at h⊢
    simp only[if_neg h0] at h⊢
    exact h
section
variable {p T P L a b c d y z:Int}
theorem move_out (hp:primeB p=true) (hP:P≠0) (hdet:a*d - b*c≠0) (hb:c*T+d*P≠0) (hno:c≠0→(val p (c*T+d*P):Int) - val p P<(val p c:Int)+L) (hyz:z=0→y≠0):
    (z≠0∧inB p T P L y z)↔(c*y+d*z≠0∧inB p (a*T+b*P) (c*T+d*P) ((val p (a*d - b*c):Int)+L - 2*((val p (c*T+d*P):Int) - val p P)) (a*y+b*z) (c*y+d*z)):=by
  have hp2:=prime_lo hp
  have id1: (a*T+b*P)*(c*y+d*z) - (a*y+b*z)*(c*T+d*P)=(a*d - b*c)*(T*z - y*P):=by grind
  have id2:P*(c*y+d*z)=z*(c*T+d*P) - c*(T*z - y*P):=by grind
  unfold inB
  rw[id1]
  by_cases hz:z=0
  · subst hz
    refine⟨fun h=>absurd rfl h.1,fun h=>?_⟩
    exfalso
    obtain⟨h1,h2⟩:=h
    have hy:=hyz rfl
    rw[show c*y+d*0=c*y by omega] at h1 h2
    have hc:c≠0:=fun e=>h1 (by rw[e,Int.zero_mul])
    rw[show T*0 - y*P= -(y*P) by omega,(val_mul hp hc hy).1] at h2
    have hyP:=Int.mul_ne_zero hy hP
    rw[vge_mul (t:=L+2*(val p P:Int) - (val p (c*T+d*P):Int)+((val p c:Int)+val p y)) hp hdet (by omega),vge_val hp2 (by omega),val_neg hp2 hyP,(val_mul hp hy hP).1] at h2
    have:=hno hc
    omega
  generalize hB:c*T+d*P=B at*
  generalize hZ:c*y+d*z=Z at*
  generalize hN:T*z - y*P=N at*
  rw[vge_mul (t:=L+2*(val p P:Int) - (val p B:Int)+(val p Z:Int)) hp hdet (by omega)]
  have zB:=Int.mul_ne_zero hz hb
  have vzB:=(val_mul hp hz hb).1
  by_cases hZ0:Z=0
  · refine⟨fun h=>?_,fun h=>absurd hZ0 h.1⟩
    exfalso
    obtain⟨_,h2⟩:=h
    rw[hZ0,Int.mul_zero] at id2
    have e:z*B=c*N:=by omega
    have hcN:c*N≠0:=by rw[←e];exact zB
    have hc:c≠0:=fun e=>hcN (by rw[e,Int.zero_mul])
    have hN0:N≠0:=fun e=>hcN (by rw[e,Int.mul_zero])
    have v1:=(val_mul hp hc hN0).1
    rw[←e,vzB] at v1
    rw[vge_val hp2 hN0] at h2
    have:=hno hc
    omega
  have vPZ:=(val_mul hp hP hZ0).1
  by_cases hN0:N=0
  · rw[hN0]
    exact⟨fun _=>⟨hZ0,vge_zero _ _⟩,fun _=>⟨hz,vge_zero _ _⟩⟩
  rw[vge_val hp2 hN0,vge_val hp2 hN0]
  by_cases hc:c=0
  · rw[hc,Int.zero_mul,Int.sub_zero] at id2
    rw[id2,vzB] at vPZ
    constructor
    · intro h;exact⟨hZ0,by omega⟩
    · intro h;exact⟨hz,by omega⟩
  · have hcN:=Int.mul_ne_zero hc hN0
    have v1:=(val_mul hp hc hN0).1
    have hs:z*B - c*N≠0:=by rw[←id2];exact Int.mul_ne_zero hP hZ0
    obtain⟨u1,u2,u3⟩:=ultra hp2 zB hcN hs
    rw[←id2,vPZ,vzB,v1] at u1 u2 u3
    have hh:=hno hc
    have key:L+(val p P:Int)+(val p z:Int)≤(val p N:Int)↔L+2*(val p P:Int) - (val p B:Int)+(val p Z:Int)≤(val p N:Int):=by
      clear id1 id2 hno hyz zB hs hcN
      rcases Nat.lt_trichotomy (val p z+val p B) (val p c+val p N) with h|h|h
      · have:=u1 h;omega
      · have:=u3 h;omega
      · have:=u2 h;omega
    exact⟨fun h=>⟨hZ0,key.1 h.2⟩,fun h=>⟨hz,key.2 h.2⟩⟩
theorem move_in (hp:primeB p=true) (hP:P≠0) (hdet:a*d - b*c≠0) (hc:c≠0) (hin:c*T+d*P=0∨(val p (c*T+d*P):Int) - val p P≥(val p c:Int)+L) (hyz:z=0→y≠0):
    (z≠0∧inB p T P L y z)↔¬(c*y+d*z≠0∧inB p a c ((val p (a*d - b*c):Int) - 2*(val p c:Int) - L+1) (a*y+b*z) (c*y+d*z)):=by
  have hp2:=prime_lo hp
  have id1:a*(c*y+d*z) - (a*y+b*z)*c=(a*d - b*c)*z:=by grind
  have id2:P*(c*y+d*z)=z*(c*T+d*P) - c*(T*z - y*P):=by grind
  unfold inB
  rw[id1,vge_mul (t:=(val p (c*y+d*z):Int) - (val p c:Int) - L+1) hp hdet (by omega)]
  by_cases hz:z=0
  · subst hz
    refine⟨fun h=>absurd rfl h.1,fun h=>?_⟩
    exfalso
    refine h ⟨?_,vge_zero _ _⟩
    rw[Int.mul_zero,Int.add_zero]
    exact Int.mul_ne_zero hc (hyz rfl)
  generalize hB:c*T+d*P=B at*
  generalize hZ:c*y+d*z=Z at*
  generalize hN:T*z - y*P=N at*
  rw[vge_val hp2 hz]
  by_cases hZ0:Z=0
  · refine⟨fun _ h=>h.1 hZ0,fun _=>⟨hz,?_⟩⟩
    rw[hZ0,Int.mul_zero] at id2
    have e:z*B=c*N:=by omega
    by_cases hN0:N=0
    · rw[hN0];exact vge_zero _ _
    · have hcN:=Int.mul_ne_zero hc hN0
      have hB0:B≠0:=fun e'=>hcN (by rw[←e,e',Int.mul_zero])
      have v1:=(val_mul hp hc hN0).1
      rw[←e,(val_mul hp hz hB0).1] at v1
      rw[vge_val hp2 hN0]
      rcases hin with h|h
      · exact absurd h hB0
      · omega
  have vPZ:=(val_mul hp hP hZ0).1
  have key:vge p N (L+(val p P:Int)+(val p z:Int))↔(val p z:Int)+(val p c:Int)+L≤(val p Z:Int):=by
    by_cases hN0:N=0
    · rw[hN0,Int.mul_zero,Int.sub_zero] at id2
      have hB0:B≠0:=fun e'=>Int.mul_ne_zero hP hZ0 (by rw[id2,e',Int.mul_zero])
      rw[id2,(val_mul hp hz hB0).1] at vPZ
      rw[hN0]
      refine⟨fun _=>?_,fun _=>vge_zero _ _⟩
      rcases hin with h|h
      · exact absurd h hB0
      · omega
    rw[vge_val hp2 hN0]
    have hcN:=Int.mul_ne_zero hc hN0
    have v1:=(val_mul hp hc hN0).1
    by_cases hB0:B=0
    · rw[hB0,Int.mul_zero,Int.zero_sub] at id2
      rw[id2,val_neg hp2 hcN,v1] at vPZ
      omega
    · have zB:=Int.mul_ne_zero hz hB0
      have vzB:=(val_mul hp hz hB0).1
      have hs:z*B - c*N≠0:=by rw[←id2];exact Int.mul_ne_zero hP hZ0
      obtain⟨u1,u2,u3⟩:=ultra hp2 zB hcN hs
      rw[←id2,vPZ,vzB,v1] at u1 u2 u3
      have hh: (val p B:Int) - val p P≥(val p c:Int)+L:=by
        rcases hin with h|h
        · exact absurd h hB0
        · exact h
      clear id1 id2 hin hyz zB hs hcN
      rcases Nat.lt_trichotomy (val p z+val p B) (val p c+val p N) with h|h|h
      · have:=u1 h;omega
      · have:=u3 h;omega
      · have:=u2 h;omega
  rw[key]
  constructor
  · intro h h2;have:=h.2;have:=h2.2;omega
  · intro h
    refine⟨hz,?_⟩
    by_cases h3: (val p z:Int)+(val p c:Int)+L≤(val p Z:Int)
    · exact h3
    · exact absurd ⟨hZ0,by omega⟩ h
end
theorem inv_ex {p d:Int} (L:Int) (hp:primeB p=true) (hd:d≠0):∃w,(-6≤L∧L≤6)→isInv (uOf p d) (p^(L+6).toNat) w:=by
  have hp2:=prime_lo hp
  by_cases hL: -6≤L∧L≤6
  · have m1:=ipow_pos (p:=p) (by omega) (L+6).toNat
    have m2:=pow_13 hp (L+6).toNat (by omega)
    obtain⟨w,_,iw⟩:=impl_inverse_ev m1 (by omega) (gcd_unit hp (uOf_spec hp2 hd).2 (L+6).toNat)
    exact⟨w,fun _=>iw⟩
  · exact⟨0,fun h=>absurd h hL⟩
theorem endN_mul {n d:Int} (hd:d≠0):∃m,m≠0∧n=m*(endN n d).1∧d=m*(endN n d).2:=by
  have hg: (Int.gcd n d:Int)≠0:=by
    intro h
    have:=(Int.gcd_eq_zero_iff.1 (by omega:Int.gcd n d=0)).2
    exact hd this
  refine⟨(Int.gcd n d:Int)*(if d<0 then -1 else 1),?_,?_,?_⟩
  · split<;>omega
  · unfold endN
    rw[if_neg hd]
    refine(Int.mul_tdiv_cancel' ?_).symm
    split
    · rw[show (Int.gcd n d:Int)* -1= -(Int.gcd n d:Int) by omega];exact Int.neg_dvd.2 (Int.gcd_dvd_left ..)
    · rw[Int.mul_one];exact Int.gcd_dvd_left ..
  · unfold endN
    rw[if_neg hd]
    refine(Int.mul_tdiv_cancel' ?_).symm
    split
    · rw[show (Int.gcd n d:Int)* -1= -(Int.gcd n d:Int) by omega];exact Int.neg_dvd.2 (Int.gcd_dvd_right ..)
    · rw[Int.mul_one];exact Int.gcd_dvd_right ..
theorem held_end {p n d L w y z:Int} (hp:primeB p=true) (hd:d≠0) (hw: (-6≤L∧L≤6)→isInv (uOf p d) (p^(L+6).toNat) w) (hok: (atF p L n d w).2.2.2=true):
    heldB p (atF p L n d w).1 (atF p L n d w).2.1 (atF p L n d w).2.2.1 (endX y z).1 (endX y z).2.1=true↔z≠0∧inB p n d L y z:=by
  rw[atF_held hp hd hw hok]
  unfold endX
  by_cases hz:z=0
  · simp[hz,endN]
  · obtain⟨m,hm,e1,e2⟩:=endN_mul (n:=y) hz
    have h2: (endN y z).2≠0:=fun e=>hz (by rw[e2,e,Int.mul_zero])
    simp only
    have hs:=inB_scale (n:=n) (d:=d) (L:=L) (y:=(endN y z).1) hp hm h2
    rw[←e1,←e2] at hs
    rw[hs]
    exact⟨fun h=>⟨hz,h.2⟩,fun h=>⟨h2,h.2⟩⟩
theorem side_moved {p L T D a b c d y z:Int} {o:Bool} {r:Int×Int×Int×Bool×Bool} (h:ballB p L T D=true) (hg:matB a b c d=true) (hr:Ev (fun k=>spec_l09Move.f k p a b c d L T D o) r) (hok:r.2.2.2.2=true) (hyz:z=0→y≠0):
    (heldB p L T D y z !=o)=(heldB p r.1 r.2.1 r.2.2.1 (endX (a*y+b*z) (c*y+d*z)).1 (endX (a*y+b*z) (c*y+d*z)).2.1!=r.2.2.2.1):=by
  obtain⟨hp,hL,hD,_⟩:=ball_parts h
  have hp2:=prime_lo hp
  have hok': (M4.mk a b c d).ok=true:=hg
  have hdet:a*d - b*c≠0:=M4.ok_det hok'
  have hP:p^D.toNat≠0:=Int.pow_ne_zero (by omega)
  have hvP: (val p (p^D.toNat):Int)=D:=by rw[val_pow hp2];omega
  obtain⟨f1,f2⟩:=spec_move_form (o:=o) h hg
  have hI:=held_inB (y:=y) (z:=z) h
  by_cases hcase:c≠0∧(c*T+d*p^D.toNat=0∨(val p (c*T+d*p^D.toNat):Int) - D≥(val p c:Int)+L)
  · obtain⟨w,hw⟩:=inv_ex ((val p (a*d - b*c):Int) - 2*(val p c:Int) - L+1) hp hcase.1
    have hr2:=Ev.det hr (f1 hcase w _ rfl hw)
    subst hr2
    simp only at hok⊢
    have hM:=held_end (n:=a) (y:=a*y+b*z) (z:=c*y+d*z) hp hcase.1 hw hok
    have hG:=move_in (T:=T) (P:=p^D.toNat) (L:=L) hp hP hdet hcase.1 (by rw[hvP];exact hcase.2) hyz
    rw[←hI,←hM] at hG
    revert hG
    generalize heldB p L T D y z=u
    generalize heldB p _ _ _ _ _=v
    cases u<;>cases v<;>cases o<;>simp
  · obtain⟨hb,f3⟩:=f2 hcase
    obtain⟨w,hw⟩:=inv_ex ((val p (a*d - b*c):Int)+L - 2*((val p (c*T+d*p^D.toNat):Int) - D)) hp hb
    have hr2:=Ev.det hr (f3 w _ rfl hw)
    subst hr2
    simp only at hok⊢
    have hM:=held_end (n:=a*T+b*p^D.toNat) (y:=a*y+b*z) (z:=c*y+d*z) hp hb hw hok
    have hG:=move_out (T:=T) (P:=p^D.toNat) (L:=L) hp hP hdet hb (by
      intro hc;rw[hvP]
      by_cases h1: (val p (c*T+d*p^D.toNat):Int) - D≥(val p c:Int)+L
      · exact absurd ⟨hc,.inr h1⟩ hcase
      · omega) hyz
    rw[hvP,←hI,←hM] at hG
    revert hG
    generalize heldB p L T D y z=u
    generalize heldB p _ _ _ _ _=v
    cases u<;>cases v<;>cases o<;>simp
theorem impl_areSides_ev (p:Int) (l:List S30) (hl:l.length≤4611686018427387904):Ev (fun k=>impl_areSides.f k p l) (primeB p&&l.all (fun b=>ballB p b.f0.f0 b.f0.f1 b.f0.f2)):=by
  unfold impl_areSides.f
  have hr:∀(i:Nat) (k:Nat),i<l.length→impl_areSides.l0 (k+1) p l l.length i=(impl_IsBall.f k p (l.getD i z30).f0.f0 (l.getD i z30).f0.f1 (l.getD i z30).f0.f2).bind fun t=>if t=true then impl_areSides.l0 k p l l.length ((i:Int)+1) else some false:=by
    intro i k hi
    simp only[impl_areSides.l0]
    rw[if_pos (by omega),if_pos (by omega),if_pos (by omega),wid (by omega) (by omega)];rfl
  have:=all_ev' (fun k i=>impl_areSides.l0 k p l l.length i) l.length (fun i=>ballB p (l.getD i z30).f0.f0 (l.getD i z30).f0.f1 (l.getD i z30).f0.f2) (primeB p) false (by
    intro i r hi hb hr'
    refine Ev.step (hr i · hi) (Ev.bind (impl_IsBall_ev _ _ _ _) ?_)
    rw[hb];simpa using hr') (by
    intro i hi hb
    refine Ev.step (hr i · hi) (Ev.bind (impl_IsBall_ev _ _ _ _) ?_)
    rw[hb];simp;exact Ev.now _) (by
    refine Ev.step (f:=fun _=>(impl_isPrime.f p).bind fun t=>some t) (fun k=>by simp only[impl_areSides.l0];rw[if_neg (by omega)]) ?_
    exact Ev.bindv (impl_isPrime_eq p) (Ev.now _))
  rw[all_range_getD l z30 (fun b=>ballB p b.f0.f0 b.f0.f1 b.f0.f2)] at this
  rw[show (primeB p&&l.all (fun b=>ballB p b.f0.f0 b.f0.f1 b.f0.f2))=(if l.all (fun b=>ballB p b.f0.f0 b.f0.f1 b.f0.f2)=true then primeB p else false) from by cases l.all (fun b=>ballB p b.f0.f0 b.f0.f1 b.f0.f2)<;>simp]
  exact this
def m4 (x:S26):M4:=⟨x.f0.f0,x.f0.f1,x.f1.f0,x.f1.f1⟩
theorem impl_areMatrices_ev (l:List S26) (hl:l.length≤4611686018427387904):Ev (fun k=>impl_areMatrices.f k l) (l.all (fun x=>(m4 x).ok)):=by
  unfold impl_areMatrices.f
  have hr:∀(i:Nat) (k:Nat),i<l.length→impl_areMatrices.l0 (k+1) l l.length i=(impl_IsMatrix.f k (l.getD i z26).f0.f0 (l.getD i z26).f0.f1 (l.getD i z26).f1.f0 (l.getD i z26).f1.f1).bind fun t=>if t=true then impl_areMatrices.l0 k l l.length ((i:Int)+1) else some false:=by
    intro i k hi
    simp only[impl_areMatrices.l0]
    rw[if_pos (by omega),if_pos (by omega),if_pos (by omega),wid (by omega) (by omega)];rfl
  have:=all_ev' (fun k i=>impl_areMatrices.l0 k l l.length i) l.length (fun i=>(m4 (l.getD i z26)).ok) true false (by
    intro i r hi hb hr'
    refine Ev.step (hr i · hi) (Ev.bind (impl_IsMatrix_ev _ _ _ _) ?_)
    have hb':matB (l.getD i z26).f0.f0 (l.getD i z26).f0.f1 (l.getD i z26).f1.f0 (l.getD i z26).f1.f1=true:=hb
    rw[hb'];simpa using hr') (by
    intro i hi hb
    refine Ev.step (hr i · hi) (Ev.bind (impl_IsMatrix_ev _ _ _ _) ?_)
    have hb':matB (l.getD i z26).f0.f0 (l.getD i z26).f0.f1 (l.getD i z26).f1.f0 (l.getD i z26).f1.f1=false:=hb
    rw[hb'];simp;exact Ev.now _) (Ev.step (f:=fun _=>some true) (fun k=>by simp only[impl_areMatrices.l0];rw[if_neg (by omega)]) (Ev.now _))
  rw[all_range_getD l z26 (fun x=>(m4 x).ok),ite_tf] at this
  exact this
def sideCodeB (p:Int) (l:List S30):Bool:=primeB p&&l.all (fun b=>ballB p b.f0.f0 b.f0.f1 b.f0.f2)
theorem spec_l09Code_ev (p:Int) (l:List S30) (hl:l.length≤4611686018427387904):Ev (fun k=>spec_l09Code.f k p l) (if sideCodeB p l then 0 else 1):=by
  unfold spec_l09Code.f sideCodeB
  refine Ev.bindv (spec_l01Prime_eq p) ?_
  cases hp:primeB p with
  |false=>simp;exact Ev.now _
  |true=>
   simp only[if_true,Bool.true_and]
   rw[←all_range_getD l z30]
   refine all_ev' (fun k i=>spec_l09Code.l0 k p l i) l.length (fun i=>ballB p (l.getD i z30).f0.f0 (l.getD i z30).f0.f1 (l.getD i z30).f0.f2) 0 1 ?_ ?_ ?_
   · intro i r hi hb hr
     refine Ev.step (f:=fun k=>(spec_l01Is.f k p (l.getD i z30).f0.f0 (l.getD i z30).f0.f1 (l.getD i z30).f0.f2).bind fun t=>if t=true then spec_l09Code.l0 k p l ((i:Int)+1) else some 1) (fun k=>?_) ?_
     · simp only[spec_l09Code.l0]
       rw[if_pos (by omega),if_pos (by omega),wid (by omega) (by omega)];rfl
     · refine Ev.bind (spec_l01Is_ev _ _ _ _) ?_
       rw[hb];simpa using hr
   · intro i hi hb
     refine Ev.step (f:=fun k=>(spec_l01Is.f k p (l.getD i z30).f0.f0 (l.getD i z30).f0.f1 (l.getD i z30).f0.f2).bind fun t=>if t=true then spec_l09Code.l0 k p l ((i:Int)+1) else some 1) (fun k=>?_) ?_
     · simp only[spec_l09Code.l0]
       rw[if_pos (by omega),if_pos (by omega),wid (by omega) (by omega)];rfl
     · refine Ev.bind (spec_l01Is_ev _ _ _ _) ?_
       rw[hb];simp;exact Ev.now _
   · exact Ev.step (f:=fun _=>some 0) (fun k=>by simp only[spec_l09Code.l0];rw[if_neg (by omega)]) (Ev.now _)
theorem atF_pow {p L T D w:Int} (h:ballB p L T D=true) (hw: (-6≤L∧L≤6)→isInv (uOf p (p^D.toNat)) (p^(L+6).toNat) w):atF p L T (p^D.toNat) w=(L,T,D,true):=by
  obtain⟨hp,hL,hD,_⟩:=ball_parts h
  have hp2:=prime_lo hp
  have hT:=ball_num h
  have pD:=pow_6 hp D.toNat (by omega)
  have pD0:=ipow_pos (p:=p) (by omega) D.toNat
  have e1:=spec_l01Of_ev (p:=p) (n:=T) (d:=p^D.toNat) (L:=L) (w:=w) hp (Int.pow_ne_zero (by omega)) (by omega) (by omega) (by omega) (by omega) hw
  have e2:=spec_l01Of_pow (p:=p) (num:=T) (L:=L) D.toNat hp (by omega) (by omega) (by omega) hL
  have e:=Ev.det e1 e2
  rw[e,show T*p^(6 - D.toNat)=markOf p T D by unfold markOf;congr 2;omega,ofM_mark h]
section
variable {p La Sa Da Lb Tb Db:Int} (h:ballB p La Sa Da=true) (h':ballB p Lb Tb Db=true)
include h h' in
theorem pair_moves (hw: (pmW p La Sa Da Lb Tb Db).2.2.2.2=true):
    matB (pmW p La Sa Da Lb Tb Db).1 (pmW p La Sa Da Lb Tb Db).2.1 (pmW p La Sa Da Lb Tb Db).2.2.1 (pmW p La Sa Da Lb Tb Db).2.2.2.1=true∧
    Ev (fun k=>spec_l09Move.f k p (pmW p La Sa Da Lb Tb Db).1 (pmW p La Sa Da Lb Tb Db).2.1 (pmW p La Sa Da Lb Tb Db).2.2.1 (pmW p La Sa Da Lb Tb Db).2.2.2.1 La Sa Da true) (Lb,Tb,Db,false,true):=by
  obtain⟨hp,hL,hD,_⟩:=ball_parts h
  obtain⟨_,hL',hD',_⟩:=ball_parts h'
  have hp2:=prime_lo hp
  by_cases hf:fitM (pmA p Tb Da (La+Lb - 1)) (pmB p Sa Tb Da Db (La+Lb - 1)) (pmC p Da Db (La+Lb - 1)) (pmD p Sa Db (La+Lb - 1))=true
  case neg=>unfold pmW at hw;rw[if_neg hf] at hw;cases hw
  unfold pmW
  rw[if_pos hf]
  simp only
  have hdet:=pm_det hp2 Sa Tb Da Db (La+Lb - 1)
  have hg:=(matB_red hdet).trans hf
  refine⟨hg,?_⟩
  have hm:=byM_ne (pmC p Da Db (La+Lb - 1)) (pmD p Sa Db (La+Lb - 1)) (rowNe hdet)
  obtain⟨d1,d2,d3,d4⟩:=byM_dvd (pmA p Tb Da (La+Lb - 1)) (pmB p Sa Tb Da Db (La+Lb - 1)) (pmC p Da Db (La+Lb - 1)) (pmD p Sa Db (La+Lb - 1))
  have r1:=Int.mul_tdiv_cancel' d1
  have r2:=Int.mul_tdiv_cancel' d2
  have r3:=Int.mul_tdiv_cancel' d3
  have r4:=Int.mul_tdiv_cancel' d4
  revert hg
  unfold rM
  generalize byM (pmA p Tb Da (La+Lb - 1)) (pmB p Sa Tb Da Db (La+Lb - 1)) (pmC p Da Db (La+Lb - 1)) (pmD p Sa Db (La+Lb - 1))=m at*
  generalize Int.tdiv (pmA p Tb Da (La+Lb - 1)) m=A at*
  generalize Int.tdiv (pmB p Sa Tb Da Db (La+Lb - 1)) m=B at*
  generalize Int.tdiv (pmC p Da Db (La+Lb - 1)) m=C at*
  generalize Int.tdiv (pmD p Sa Db (La+Lb - 1)) m=E at*
  intro hg
  obtain⟨u,hu⟩:∃u:Nat,u=(max (La+Lb - 1) 0).toNat:=⟨_,rfl⟩
  obtain⟨z,hz⟩:∃z:Nat,z=(max (-(La+Lb - 1)) 0).toNat:=⟨_,rfl⟩
  have huz: (u:Int) - (z:Int)=La+Lb - 1:=by omega
  have hA:m*A=(p^Da.toNat*p^z)*Tb:=by rw[r1];unfold pmA;rw[←hz];grind
  have hC:m*C=(p^Da.toNat*p^z)*p^Db.toNat:=by rw[r3];unfold pmC;rw[←hz];grind
  have hE:m*E= -(Sa*(p^Db.toNat*p^z)):=by rw[r4];unfold pmD;rw[←hz];grind
  have hB:m*B=p^u*p^Da.toNat*p^Db.toNat - Sa*Tb*p^z:=by rw[r2];unfold pmB;rw[←hz,←hu]
  have hpow:∀j:Nat,p^j≠0:=fun j=>Int.pow_ne_zero (by omega)
  have hC0:C≠0:=by
    intro e
    rw[e,Int.mul_zero] at hC
    exact Int.mul_ne_zero (Int.mul_ne_zero (hpow _) (hpow _)) (hpow _) hC.symm
  have hbot:C*Sa+E*p^Da.toNat=0:=by
    have e0:m*(C*Sa+E*p^Da.toNat)=0:=by
      rw[Int.mul_add,←Int.mul_assoc,←Int.mul_assoc,hC,hE]
      grind
    exact(Int.mul_eq_zero.1 e0).resolve_left hm
  have hdm:m*m*(A*E - B*C)= -(p^(u+Da.toNat+Db.toNat+Da.toNat+Db.toNat+z)):=by
    have e:m*m*(A*E - B*C)=(m*A)*(m*E) - (m*B)*(m*C):=by grind
    rw[e,hA,hE,hB,hC]
    simp only[Int.pow_add]
    grind
  have hd0:A*E - B*C≠0:=by
    intro e;rw[e,Int.mul_zero] at hdm
    have:=hpow (u+Da.toNat+Db.toNat+Da.toNat+Db.toNat+z)
    omega
  have v1:2*val p m+val p (A*E - B*C)=u+Da.toNat+Db.toNat+Da.toNat+Db.toNat+z:=by
    have:=(val_mul hp (Int.mul_ne_zero hm hm) hd0).1
    rw[hdm,val_neg hp2 (hpow _),val_pow hp2,(val_mul hp hm hm).1] at this
    omega
  have v2:val p m+val p C=Da.toNat+z+Db.toNat:=by
    have:=(val_mul hp hm hC0).1
    rw[hC,←Int.pow_add,←Int.pow_add,val_pow hp2] at this
    omega
  obtain⟨w,hw'⟩:=inv_ex Lb hp hC0
  obtain⟨w1,hw1⟩:=inv_ex Lb hp (Int.mul_ne_zero hm hC0)
  have hP:p^Db.toNat≠0:=hpow _
  have hq:p^Da.toNat*p^z≠0:=Int.mul_ne_zero (hpow _) (hpow _)
  obtain⟨w2,hw2⟩:=inv_ex Lb hp hP
  have g1:=atF_gen (p:=p) (L:=Lb) (n:=A) (d:=C) (m:=m) hp hm hC0 hw' hw1
  have g2:=atF_gen (p:=p) (L:=Lb) (n:=Tb) (d:=p^Db.toNat) (m:=p^Da.toNat*p^z) (w':=w1) hp hq hP hw2 (by rw[←hC];exact hw1)
  rw[hA,hC,g2,atF_pow h' hw2] at g1
  have hmv:=(spec_move_form (o:=true) h hg).1 ⟨hC0,.inl hbot⟩ w Lb (by omega) hw'
  rw[←g1] at hmv
  exact hmv
end
theorem pair_free {p La Sa Da Lb Tb Db:Int} (h:ballB p La Sa Da=true) (h':ballB p Lb Tb Db=true) (ha: (!holdsB p La Sa Da Lb Tb Db&&!holdsB p Lb Tb Db La Sa Da)=true) {a b c d:Int} (hg:matB a b c d=true)
    (hm:Ev (fun k=>spec_l09Move.f k p a b c d La Sa Da true) (Lb,Tb,Db,false,true)):
    Ev (fun k=>impl_IsFree.f k p [(⟨⟨a,b⟩,⟨c,d⟩⟩:S26)] [(⟨⟨La,Sa,Da⟩,false⟩:S30),⟨⟨Lb,Tb,Db⟩,false⟩]) (true,0):=by
  have hp:=(ball_parts h).1
  obtain⟨r,i1,s1,_⟩:=moveSide_both (o:=true) h hg
  have hr:=Ev.det s1 hm
  subst hr
  have hap:Ev (fun k=>impl_apartSides.f k p Lb Tb Db false La Sa Da false) true:=by
    have e:=impl_apartSides_ev (o:=false) (o':=false) h' h
    have:apartW p Lb Tb Db false La Sa Da false=true:=by
      unfold apartW
      simp only[Bool.false_and,Bool.false_eq_true,if_false]
      rw[Bool.and_comm];exact ha
    rw[this] at e;exact e
  have w0:wrap64 (2*0)=0:=wid (by omega) (by omega)
  have w1:wrap64 (0+1)=1:=wid (by omega) (by omega)
  have w2:wrap64 (1+1)=2:=wid (by omega) (by omega)
  have l2:Ev (fun k=>impl_isFree.l2 k p [(⟨⟨La,Sa,Da⟩,false⟩:S30),⟨⟨Lb,Tb,Db⟩,false⟩] [(⟨⟨a,b⟩,⟨c,d⟩⟩:S26)] 1 0) (true,0):=by
    have e1:Ev (fun k=>impl_isFree.l2 k p [(⟨⟨La,Sa,Da⟩,false⟩:S30),⟨⟨Lb,Tb,Db⟩,false⟩] [(⟨⟨a,b⟩,⟨c,d⟩⟩:S26)] 1 1) (true,0):=by
      refine Ev.up ?_
      simp only[impl_isFree.l2,if_neg (show ¬(1:Int)<1 by decide)]
      exact Ev.now _
    refine Ev.up ?_
    simp only[impl_isFree.l2,List.length_cons,List.length_nil,if_pos (show (0:Int)<1 by decide),if_pos (show (0:Int)≤0 by decide),w0,w1,impl_opposite.f,Option.bind_some]
    simp only[if_pos (show (0:Int)<((0+1:Nat):Int) by decide),if_pos (show (0:Int)<((0+1+1:Nat):Int) by decide)]
    refine Ev.bind i1 ?_
    simp only[if_true,if_pos (show (0:Int)≤1 by decide),if_pos (show (1:Int)<((0+1+1:Nat):Int) by decide)]
    rw[show rd_T30 [(⟨⟨La,Sa,Da⟩,false⟩:S30),⟨⟨Lb,Tb,Db⟩,false⟩] 1=⟨⟨Lb,Tb,Db⟩,false⟩ from rfl]
    simp only[beq_self_eq_true,Bool.not_true,Bool.or_self,Bool.false_eq_true,if_false]
    exact e1
  have l0:Ev (fun k=>impl_isFree.l0 k p [(⟨⟨a,b⟩,⟨c,d⟩⟩:S26)] [(⟨⟨La,Sa,Da⟩,false⟩:S30),⟨⟨Lb,Tb,Db⟩,false⟩] [(⟨⟨La,Sa,Da⟩,false⟩:S30),⟨⟨Lb,Tb,Db⟩,false⟩] 2 0) (true,0):=by
    have z2:Ev (fun k=>impl_isFree.l0 k p [(⟨⟨a,b⟩,⟨c,d⟩⟩:S26)] [(⟨⟨La,Sa,Da⟩,false⟩:S30),⟨⟨Lb,Tb,Db⟩,false⟩] [(⟨⟨La,Sa,Da⟩,false⟩:S30),⟨⟨Lb,Tb,Db⟩,false⟩] 2 2) (true,0):=by
      refine Ev.up ?_
      simp only[impl_isFree.l0,if_neg (show ¬(2:Int)<2 by decide)]
      exact l2
    have z1:Ev (fun k=>impl_isFree.l0 k p [(⟨⟨a,b⟩,⟨c,d⟩⟩:S26)] [(⟨⟨La,Sa,Da⟩,false⟩:S30),⟨⟨Lb,Tb,Db⟩,false⟩] [(⟨⟨La,Sa,Da⟩,false⟩:S30),⟨⟨Lb,Tb,Db⟩,false⟩] 2 1) (true,0):=by
      refine Ev.up ?_
      simp only[impl_isFree.l0,if_pos (show (1:Int)<2 by decide),if_pos (show (0:Int)≤1 by decide),List.length_cons,List.length_nil]
      simp only[if_pos (show (1:Int)<((0+1+1:Nat):Int) by decide),if_pos (show (1:Int)≤((0+1+1:Nat):Int) by decide),Option.bind_some]
      rw[show ([(⟨⟨La,Sa,Da⟩,false⟩:S30),⟨⟨Lb,Tb,Db⟩,false⟩]:List S30).take (1:Int).toNat= [⟨⟨La,Sa,Da⟩,false⟩] from rfl,show rd_T30 [(⟨⟨La,Sa,Da⟩,false⟩:S30),⟨⟨Lb,Tb,Db⟩,false⟩] 1=⟨⟨Lb,Tb,Db⟩,false⟩ from rfl]
      refine Ev.up ?_
      simp only[impl_isFree.l1,List.length_cons,List.length_nil,if_pos (show (0:Int)<((0+1:Nat):Int) by decide),if_pos (show (0:Int)≤0 by decide)]
      rw[show rd_T30 [(⟨⟨La,Sa,Da⟩,false⟩:S30)] 0=⟨⟨La,Sa,Da⟩,false⟩ from rfl]
      refine Ev.bind hap ?_
      simp only[if_true,w1]
      refine Ev.up ?_
      simp only[impl_isFree.l1,if_neg (show ¬(1:Int)<((0+1:Nat):Int) by decide),w2]
      exact z2
    refine Ev.up ?_
    simp only[impl_isFree.l0,if_pos (show (0:Int)<2 by decide),if_pos (show (0:Int)≤0 by decide),List.length_cons,List.length_nil]
    simp only[if_pos (show (0:Int)<((0+1+1:Nat):Int) by decide),if_pos (show (0:Int)≤((0+1+1:Nat):Int) by decide),Option.bind_some]
    rw[show ([(⟨⟨La,Sa,Da⟩,false⟩:S30),⟨⟨Lb,Tb,Db⟩,false⟩]:List S30).take (0:Int).toNat= [] from rfl]
    refine Ev.up ?_
    simp only[impl_isFree.l1,List.length_nil,if_neg (show ¬(0:Int)<((0:Nat):Int) by decide),w1]
    exact z1
  unfold impl_IsFree.f impl_freeCode.f
  have hS:=impl_areSides_ev p [(⟨⟨La,Sa,Da⟩,false⟩:S30),⟨⟨Lb,Tb,Db⟩,false⟩] (by simp)
  have hM:=impl_areMatrices_ev [(⟨⟨a,b⟩,⟨c,d⟩⟩:S26)] (by simp)
  rw[show (primeB p&&[(⟨⟨La,Sa,Da⟩,false⟩:S30),⟨⟨Lb,Tb,Db⟩,false⟩].all (fun b=>ballB p b.f0.f0 b.f0.f1 b.f0.f2))=true by simp[hp,h,h']] at hS
  rw[show [(⟨⟨a,b⟩,⟨c,d⟩⟩:S26)].all (fun x=>(m4 x).ok)=true by simp[m4,M4.ok,hg]] at hM
  refine Ev.bind (a:=(true,0)) (Ev.bind hS ?_) (Ev.now _)
  simp only[if_true]
  refine Ev.bind hM ?_
  refine Ev.up ?_
  have w3:wrap64 (2*1)=2:=wid (by omega) (by omega)
  simp only[impl_freeCode.j0,Bool.not_true,Bool.false_eq_true,if_false,List.length_cons,List.length_nil]
  simp only[show ((0+1:Nat):Int)=1 from rfl,show ((0+1+1:Nat):Int)=2 from rfl,if_neg (show ¬(1:Int)<1 by decide),if_neg (show ¬(1:Int)>4 by decide),w3,if_true]
  exact Ev.bind l0 (Ev.now _)
structure okS (c:List Int) (q:Int):Prop where
  b:∀x∈c,0≤x∧x≤255
  l:c.length≤5000
  p:0≤q∧q≤c.length
theorem mask34 {n:Int} (h0:0≤n) (h1:n<18446744073709551616):Go.bits .and .u64 n 17179869183=n%17179869184:=by
  obtain⟨m,rfl⟩:∃m:Nat,n=(m:Int):=⟨n.toNat,by omega⟩
  have h:=Go.bits_and_u64_nat m 17179869183 (by omega) (by omega)
  have e:m &&& 17179869183=m%17179869184:=Nat.and_two_pow_sub_one_eq_mod m 34
  rw[e] at h
  rw[show ((17179869183:Nat):Int)=17179869183 from rfl] at h
  rw[h];omega
theorem next_ok {c:List Int} {q:Int} (S:okS c q) (h a:Int):∃v q' h',spec_l01Next.f c q h a=some (v,q',h')∧okS c q'∧0≤v∧(1≤a→v<a):=by
  have Sl:=S.l
  have Sp:=S.p
  unfold spec_l01Next.f
  by_cases h1:a<1
  · rw[if_pos h1];exact⟨0,q,h,rfl,S,by omega,by omega⟩
  rw[if_neg h1]
  obtain⟨w,hw⟩:∃w,w=IntKind.u64.wrap (IntKind.u64.wrap (h*6364136223846793005)+1442695040888963407):=⟨_,rfl⟩
  have hw0:0≤w∧w<18446744073709551616:=by rw[hw,IntKind.wrap_u64];omega
  rw[←hw,mask34 (by omega) (by omega),wid (n:=w / 8388608%17179869184) (by omega) (by omega)]
  by_cases h2:q<(c.length:Int)
  · have hb:0≤rd c q∧rd c q≤255:=by
      obtain⟨m,rfl⟩:∃m:Nat,q=(m:Int):=⟨q.toNat,by omega⟩
      rw[rd_nat c m (by omega)];exact S.b _ (List.getElem_mem _)
    rw[if_pos h2,if_pos Sp.1,if_neg (show ¬a=0 by omega),wid (n:=rd c q) (by omega) (by omega),wid (n:=w / 8388608%17179869184+rd c q) (by omega) (by omega),wid (n:=q+1) (by omega) (by omega),tmod_cast (by omega)]
    exact⟨_,_,_,rfl,⟨S.b,S.l,by omega⟩,Int.emod_nonneg _ (by omega),fun _=>Int.emod_lt_of_pos _ (by omega)⟩
  · rw[if_neg h2,if_neg (show ¬a=0 by omega),tmod_cast (by omega)]
    exact⟨_,_,_,rfl,S,Int.emod_nonneg _ (by omega),fun _=>Int.emod_lt_of_pos _ (by omega)⟩
theorem pick_ok {c:List Int} {q:Int} (S:okS c q) (h:Int) (l:List Int) (hl:1≤l.length):∃v q' h',spec_l01Pick.f c q h l=some (v,q',h')∧okS c q':=by
  obtain⟨v,q',h',e,S',v0,v1⟩:=next_ok S h (l.length:Int)
  unfold spec_l01Pick.f
  rw[e]
  simp only[Option.bind_some,if_pos v0,if_pos (v1 (by omega))]
  exact⟨_,_,_,rfl,S'⟩
theorem from_ok {c:List Int} (hb:∀x∈c,0≤x∧x≤255) (hl:c.length≤5000):∃h,Ev (fun k=>spec_l01From.f k c) (c,0,h):=by
  have key:∀d i:Nat,i+d=c.length→∀h,∃h',Ev (fun k=>spec_l01From.l0 k c i c 0 h) (c,0,h'):=by
    intro d
    induction d with
    |zero=>
     intro i hi h
     refine⟨h,Ev.up ?_⟩
     simp only[spec_l01From.l0,if_neg (show ¬(i:Int)<(c.length:Int) by omega)];exact Ev.now _
    |succ d ih=>
     intro i hi h
     by_cases h4: (i:Int)<4096
     · obtain⟨h',e⟩:=ih (i+1) (by omega) (IntKind.u64.wrap (IntKind.u64.wrap (IntKind.u64.wrap (h*1099511628211)+IntKind.u64.wrap (rd c i))+71))
       refine⟨h',Ev.up ?_⟩
       simp only[spec_l01From.l0,if_pos (show (i:Int)<(c.length:Int) by omega),if_pos h4,if_pos (show (0:Int)≤(i:Int) by omega)]
       rw[wid (n:=(i:Int)+1) (by omega) (by omega)]
       exact e
     · refine⟨h,Ev.up ?_⟩
       simp only[spec_l01From.l0,if_pos (show (i:Int)<(c.length:Int) by omega),if_neg h4];exact Ev.now _
  unfold spec_l01From.f
  exact key c.length 0 (by omega) _
theorem rd_mem {l:List Int} {i:Int} (h0:0≤i) (h1:i<(l.length:Int)):rd l i∈l:=by
  obtain⟨m,rfl⟩:∃m:Nat,i=(m:Int):=⟨i.toNat,by omega⟩
  rw[rd_nat l m (by omega)];exact List.getElem_mem _
theorem pick_in {c:List Int} {q:Int} (S:okS c q) (h:Int) (l:List Int) (hl:1≤l.length):∃v q' h',spec_l01Pick.f c q h l=some (v,q',h')∧okS c q'∧v∈l:=by
  obtain⟨v,q',h',e,S',v0,v1⟩:=next_ok S h (l.length:Int)
  unfold spec_l01Pick.f
  rw[e]
  simp only[Option.bind_some,if_pos v0,if_pos (v1 (by omega))]
  exact⟨_,_,_,rfl,S',rd_mem v0 (v1 (by omega))⟩
theorem drawB_ok {c:List Int} {q p:Int} (S:okS c q) (h:Int) (hp:primeB p=true):∃a b d q' h',Ev (fun k=>spec_l01Draw.f k c q h p) (a,b,d,q',h')∧okS c q':=by
  obtain⟨v1,q1,h1,e1,S1,a1,b1⟩:=next_ok S h 13
  obtain⟨L,q2,h2,e2,S2,m2⟩:=pick_in S1 h1 [0,1,2,3,wrap64 (v1 - 6)] (by simp)
  have hL: -6≤L∧L≤6:=by
    have:=b1 (by omega)
    rw[wid (n:=v1 - 6) (by omega) (by omega)] at m2
    simp only[List.mem_cons,List.not_mem_nil,or_false] at m2
    omega
  obtain⟨v3,q3,h3,e3,S3,_⟩:=next_ok S2 h2 6
  unfold spec_l01Draw.f
  by_cases c3:v3=0
  · refine⟨L,0,0,q3,h3,Ev.bindv e1 (Ev.bindv e2 (Ev.bindv e3 ?_)),S3⟩
    simp only[if_pos c3];exact Ev.now _
  obtain⟨v4,q4,h4,e4,S4,a4,b4⟩:=next_ok S3 h3 20
  obtain⟨v5,q5,h5,e5,S5,a5,b5⟩:=next_ok S4 h4 2000000
  obtain⟨n,q6,h6,e6,S6,m6⟩:=pick_in S5 h5 [wrap64 (v4 - 10),wrap64 (v5 - 1000000)] (by simp)
  have hn: -1000000≤n∧n≤1000000:=by
    have:=b4 (by omega)
    have:=b5 (by omega)
    rw[wid (n:=v4 - 10) (by omega) (by omega),wid (n:=v5 - 1000000) (by omega) (by omega)] at m6
    simp only[List.mem_cons,List.not_mem_nil,or_false] at m6
    omega
  obtain⟨v7,q7,h7,e7,S7,a7,b7⟩:=next_ok S6 h6 7
  obtain⟨x,q8,h8,e8,S8,m8⟩:=pick_in S7 h7 [0,0,1,2,v7] (by simp)
  have hx:0≤x∧x≤6:=by
    have:=b7 (by omega)
    simp only[List.mem_cons,List.not_mem_nil,or_false] at m8
    omega
  have ep:=spec_l01Power_ev p x (by omega)
  rw[powW_prime hp _ (by omega)] at ep
  have eo:=spec_l01Of_pow (num:=n) (L:=L) x.toNat hp (by omega) (by omega) (by omega) hL
  generalize hB:ofM p L (n*p^(6 - x.toNat))=B at eo
  refine⟨B.1,B.2.1,B.2.2,q8,h8,Ev.bindv e1 (Ev.bindv e2 (Ev.bindv e3 ?_)),S8⟩
  simp only[if_neg c3]
  refine Ev.bindv e4 (Ev.bindv e5 (Ev.bindv e6 (Ev.bindv e7 (Ev.bindv e8 (Ev.bind ep (Ev.bind eo ?_))))))
  simp only[if_true]
  exact Ev.now _
theorem badB_ok {c:List Int} {q:Int} (S:okS c q) (h x y z:Int):∃a b d q' h',spec_l01Bad.f c q h x y z=some (a,b,d,q',h')∧okS c q':=by
  obtain⟨v,q1,h1,e1,S1,_⟩:=next_ok S h 40
  obtain⟨x2,q2,h2,e2,S2⟩:=pick_ok S1 h1 [(-7),7,wrap64 (x - 1),1099511627776] (by simp)
  obtain⟨x3,q3,h3,e3,S3⟩:=pick_ok S1 h1 [(-1),wrap64 (y*7),1099511627776] (by simp)
  obtain⟨x4,q4,h4,e4,S4⟩:=pick_ok S1 h1 [(-1),wrap64 (z+1),7] (by simp)
  unfold spec_l01Bad.f
  simp only[e1,Option.bind_some]
  by_cases c0:v=0
  · simp only[if_pos c0,e2,Option.bind_some];exact⟨_,_,_,_,_,rfl,S2⟩
  by_cases c1:v=1
  · simp only[if_neg c0,if_pos c1,e3,Option.bind_some];exact⟨_,_,_,_,_,rfl,S3⟩
  by_cases c2:v=2
  · simp only[if_neg c0,if_neg c1,if_pos c2,e4,Option.bind_some];exact⟨_,_,_,_,_,rfl,S4⟩
  · simp only[if_neg c0,if_neg c1,if_neg c2];exact⟨_,_,_,_,_,rfl,S1⟩
theorem spoil_ok {c:List Int} {q:Int} (S:okS c q) (h:Int):∃p a b d q' h',Ev (fun k=>spec_l01Spoil.f k c q h) (p,a,b,d,q',h')∧okS c q':=by
  obtain⟨p,q1,h1,e1,S1,m1⟩:=pick_in S h [2,2,3,3,5,7] (by simp)
  have hp:primeB p=true:=by
    simp only[List.mem_cons,List.not_mem_nil,or_false] at m1
    rcases m1 with rfl|rfl|rfl|rfl|rfl|rfl<;>rfl
  obtain⟨a,b,d,q2,h2,e2,S2⟩:=drawB_ok S1 h1 hp
  obtain⟨a',b',d',q3,h3,e3,S3⟩:=badB_ok S2 h2 a b d
  obtain⟨v,q4,h4,e4,S4,_⟩:=next_ok S3 h3 40
  have ed:spec_l01DrawPrime.f c q h=some (p,q1,h1):=by unfold spec_l01DrawPrime.f;rw[e1];rfl
  unfold spec_l01Spoil.f
  by_cases c0:v=0
  · obtain⟨p',q5,h5,e5,S5⟩:=pick_ok S4 h4 [0,1,4,11,(-3)] (by simp)
    refine⟨p',a',b',d',q5,h5,Ev.bindv ed (Ev.bind e2 (Ev.bindv e3 (Ev.bindv e4 ?_))),S5⟩
    simp only[if_pos c0]
    exact Ev.bindv e5 (Ev.now _)
  · refine⟨p,a',b',d',q4,h4,Ev.bindv ed (Ev.bind e2 (Ev.bindv e3 (Ev.bindv e4 ?_))),S4⟩
    simp only[if_neg c0]
    exact Ev.now _
def s1 (x:Int):Int:=if x=0 then 0 else if x<0 then -1 else 1
def Dr (c:List Int) (g:Nat→Option (Int×Int×Int×Int×Int×Int)):Prop:=∃a b e d q h,Ev g (a,b,e,d,q,h)∧okS c q
theorem Dr.of {c:List Int} {f g:Nat→Option (Int×Int×Int×Int×Int×Int)} (h:Dr c f) (up:∀r,Ev f r→Ev g r):Dr c g:=by
  obtain⟨a,b,e,d,q,h',h1,h2⟩:=h
  exact⟨a,b,e,d,q,h',up _ h1,h2⟩
theorem dj3 {C:List Int} {q:Int} (S:okS C q) (h a b c d:Int):Dr C (fun k=>spec_l04Draw.j3 k C q h a b c d):=by
  obtain⟨v,q',h',e,S',_⟩:=next_ok S h 40
  by_cases c0:v=0
  · refine⟨1001,b,c,d,q',h',Ev.up ?_,S'⟩
    simp only[spec_l04Draw.j3]
    refine Ev.bindv e ?_
    simp only[if_pos c0]
    exact Ev.now _
  by_cases c1:v=1
  · refine⟨a,b,a,b,q',h',Ev.up ?_,S'⟩
    simp only[spec_l04Draw.j3]
    refine Ev.bindv e ?_
    simp only[if_neg c0,if_pos c1]
    exact Ev.now _
  · refine⟨a,b,c,d,q',h',Ev.up ?_,S'⟩
    simp only[spec_l04Draw.j3]
    refine Ev.bindv e ?_
    simp only[if_neg c0,if_neg c1]
    exact Ev.now _
theorem dj2 {C:List Int} {q:Int} (S:okS C q) (h a b c d:Int):Dr C (fun k=>spec_l04Draw.j2 k C q h a b c d):=by
  obtain⟨v,q1,h1,e1,S1,_⟩:=next_ok S h 9
  by_cases c0:v=0
  · obtain⟨v2,q2,h2,e2,S2⟩:=pick_ok S1 h1 [2,3,4,5,9] (by simp)
    obtain⟨v3,q3,h3,e3,S3,_⟩:=next_ok S2 h2 5
    refine(dj3 S3 h3 v2 (wrap64 (v3 - 2)) 0 1).of fun r hr=>Ev.up ?_
    simp only[spec_l04Draw.j2]
    refine Ev.bindv e1 ?_
    simp only[if_pos c0]
    exact Ev.bindv e2 (Ev.bindv e3 hr)
  by_cases c1:v=1
  · obtain⟨v2,q2,h2,e2,S2⟩:=pick_ok S1 h1 [2,3,4,7,1] (by simp)
    refine(dj3 S2 h2 1 0 0 v2).of fun r hr=>Ev.up ?_
    simp only[spec_l04Draw.j2]
    refine Ev.bindv e1 ?_
    simp only[if_neg c0,if_pos c1]
    exact Ev.bindv e2 hr
  by_cases c2:v=2
  · obtain⟨v2,q2,h2,e2,S2⟩:=pick_ok S1 h1 [1, -1,2,3] (by simp)
    refine(dj3 S2 h2 0 v2 1 0).of fun r hr=>Ev.up ?_
    simp only[spec_l04Draw.j2]
    refine Ev.bindv e1 ?_
    simp only[if_neg c0,if_neg c1,if_pos c2]
    exact Ev.bindv e2 hr
  by_cases c3:v=3
  · obtain⟨v2,q2,h2,e2,S2,_⟩:=next_ok S1 h1 2001
    obtain⟨v3,q3,h3,e3,S3,_⟩:=next_ok S2 h2 9
    obtain⟨v4,q4,h4,e4,S4,_⟩:=next_ok S3 h3 9
    obtain⟨v5,q5,h5,e5,S5,_⟩:=next_ok S4 h4 2001
    refine(dj3 S5 h5 (wrap64 (v2 - 1000)) v3 v4 (wrap64 (v5 - 1000))).of fun r hr=>Ev.up ?_
    simp only[spec_l04Draw.j2]
    refine Ev.bindv e1 ?_
    simp only[if_neg c0,if_neg c1,if_neg c2,if_pos c3]
    exact Ev.bindv e2 (Ev.bindv e3 (Ev.bindv e4 (Ev.bindv e5 hr)))
  by_cases c4:v=4
  · obtain⟨v2,q2,h2,e2,S2,_⟩:=next_ok S1 h1 7
    refine(dj3 S2 h2 1 (wrap64 (v2 - 3)) 0 1).of fun r hr=>Ev.up ?_
    simp only[spec_l04Draw.j2]
    refine Ev.bindv e1 ?_
    simp only[if_neg c0,if_neg c1,if_neg c2,if_neg c3,if_pos c4]
    exact Ev.bindv e2 hr
  · refine(dj3 S1 h1 a b c d).of fun r hr=>Ev.up ?_
    simp only[spec_l04Draw.j2]
    refine Ev.bindv e1 ?_
    simp only[if_neg c0,if_neg c1,if_neg c2,if_neg c3,if_neg c4]
    exact hr
theorem wr0:wrap64 (0+1)=1:=by unfold wrap64;omega
theorem wr1:wrap64 (1+1)=2:=by unfold wrap64;omega
theorem wr2:wrap64 (2+1)=3:=by unfold wrap64;omega
theorem wr3:wrap64 (3+1)=4:=by unfold wrap64;omega
theorem dl0 {C:List Int} (n:Nat):∀(i:Int),0≤i→i+n=5→∀(q h a b c d:Int),okS C q→Dr C (fun k=>spec_l04Draw.l0 k i C q h a b c d):=by
  induction n with
  |zero=>
   intro i h0 hi q h a b c d S
   refine(dj2 S h a b c d).of fun r hr=>Ev.up ?_
   simp only[spec_l04Draw.l0,if_neg (show ¬i<5 by omega)]
   exact hr
  |succ n ih=>
   intro i h0 hi q h a b c d S
   obtain⟨v1,q1,h1,e1,S1,_⟩:=next_ok S h 11
   obtain⟨v2,q2,h2,e2,S2,_⟩:=next_ok S1 h1 11
   obtain⟨v3,q3,h3,e3,S3,_⟩:=next_ok S2 h2 11
   obtain⟨v4,q4,h4,e4,S4,_⟩:=next_ok S3 h3 11
   have go:∀g:Nat→Option (Int×Int×Int×Int×Int×Int),Dr C g→(∀r,Ev g r→Ev (fun k=>if wrap64 (wrap64 (wrap64 (v1 - 5)*wrap64 (v4 - 5)) - wrap64 (wrap64 (v2 - 5)*wrap64 (v3 - 5)))=0 then spec_l04Draw.l0 k (wrap64 (i+1)) C q4 h4 (wrap64 (v1 - 5)) (wrap64 (v2 - 5)) (wrap64 (v3 - 5)) (wrap64 (v4 - 5)) else spec_l04Draw.j2 k C q4 h4 (wrap64 (v1 - 5)) (wrap64 (v2 - 5)) (wrap64 (v3 - 5)) (wrap64 (v4 - 5))) r)→Dr C (fun k=>spec_l04Draw.l0 k i C q h a b c d):=by
      intro g hg hup
      refine hg.of fun r hr=>Ev.up ?_
      simp only[spec_l04Draw.l0,if_pos (show i<5 by omega)]
      refine Ev.up ?_
      simp only[spec_l04Draw.l1,if_pos (show (0:Int)<4 by decide),wr0]
      refine Ev.bindv e1 ?_
      simp only[if_true]
      refine Ev.up ?_
      simp only[spec_l04Draw.l1,if_pos (show (1:Int)<4 by decide),if_neg (show ¬(1:Int)=0 by decide),if_true,wr1]
      refine Ev.bindv e2 ?_
      refine Ev.up ?_
      simp only[spec_l04Draw.l1,if_pos (show (2:Int)<4 by decide),if_neg (show ¬(2:Int)=0 by decide),if_neg (show ¬(2:Int)=1 by decide),if_true,wr2]
      refine Ev.bindv e3 ?_
      refine Ev.up ?_
      simp only[spec_l04Draw.l1,if_pos (show (3:Int)<4 by decide),if_neg (show ¬(3:Int)=0 by decide),if_neg (show ¬(3:Int)=1 by decide),if_neg (show ¬(3:Int)=2 by decide),if_true,wr3]
      refine Ev.bindv e4 ?_
      refine Ev.up ?_
      simp only[spec_l04Draw.l1,if_neg (show ¬(4:Int)<4 by decide),spec_l04Det.f,Option.bind_some]
      exact hup r hr
   by_cases c0:wrap64 (wrap64 (wrap64 (v1 - 5)*wrap64 (v4 - 5)) - wrap64 (wrap64 (v2 - 5)*wrap64 (v3 - 5)))=0
   · refine go _ (ih (i+1) (by omega) (by omega) q4 h4 (wrap64 (v1 - 5)) (wrap64 (v2 - 5)) (wrap64 (v3 - 5)) (wrap64 (v4 - 5)) S4) fun r hr=>?_
     simp only[if_pos c0,wid (n:=i+1) (by omega) (by omega)]
     exact hr
   · refine go _ (dj2 S4 h4 (wrap64 (v1 - 5)) (wrap64 (v2 - 5)) (wrap64 (v3 - 5)) (wrap64 (v4 - 5))) fun r hr=>?_
     simp only[if_neg c0]
     exact hr
theorem matDraw_ok {C:List Int} {q:Int} (S:okS C q) (h:Int):∃(g:M4) (q' h':Int),Ev (fun k=>spec_l04Draw.f k C q h) (g.a,g.b,g.c,g.d,q',h')∧okS C q':=by
  obtain⟨a,b,c,d,q',h',h1,h2⟩:=dl0 (C:=C) 5 0 (by omega) (by omega) q h 0 0 0 0 S
  exact⟨⟨a,b,c,d⟩,q',h',h1,h2⟩
theorem Ex.bind {α β:Type} {o:Nat→Option α} {f:Nat→α→Option β} {a:α} (h:Ev o a) (k:∃r,Ev (fun n=>f n a) r):∃r,Ev (fun n=>(o n).bind (f n)) r:=by
  obtain⟨r,e⟩:=k
  exact⟨r,Ev.bind h e⟩
theorem Ex.bindv {α β:Type} {o:Option α} {f:Nat→α→Option β} {a:α} (h:o=some a) (k:∃r,Ev (fun n=>f n a) r):∃r,Ev (fun n=>o.bind (f n)) r:=by
  obtain⟨r,e⟩:=k
  exact⟨r,Ev.bindv h e⟩
theorem ipow_le7 {p:Int} (h1:1≤p) (h7:p≤7) (n:Nat):p^n≤7^n:=by
  induction n with
  |zero=>simp
  |succ n ih=>
   rw[Int.pow_succ,Int.pow_succ]
   have:=ipow_pos h1 n
   exact Int.mul_le_mul ih h7 (by omega) (by have:=ipow_pos (p:=7) (by omega) n;omega)
theorem pow7_12 {p:Int} (h1:1≤p) (h7:p≤7) {n:Nat} (hn:n≤12):p^n≤13841287201:=by
  have a:=ipow_le7 h1 h7 n
  have b:=ipow_mono (p:=7) (by omega) hn
  have c: (7:Int)^12=13841287201:=by decide
  omega
theorem powW7 {p:Int} (h1:1≤p) (h7:p≤7) {n:Nat} (hn:n≤12):powW p n 1=p^n:=by
  have:=pow7_12 h1 h7 hn
  rw[powW_fit p h1 n 1 (by omega) (by omega),Int.one_mul]
theorem of_any {p num L:Int} (D:Nat) (hp2:2≤p) (hp7:p≤7) (hD:D≤6) (h1: -1152921504606846976≤num) (h2:num≤1152921504606846976):
    ∃r:Int×Int×Int×Bool,Ev (fun k=>spec_l01Of.f k p num (p^D) L) r:=by
  have hpow:∀j:Nat,p^j≠0:=fun j=>Int.pow_ne_zero (by omega)
  have hpD:=pow7_12 (by omega) hp7 (show D≤12 by omega)
  have hpD1:=ipow_pos (p:=p) (by omega) D
  unfold spec_l01Of.f
  by_cases hL: -6≤L∧L≤6
  case neg=>
    refine⟨(0,0,0,false),Ev.bindv (In_eq _ _ _) ?_⟩
    rw[decide_eq_false hL]
    simp only[Bool.false_eq_true,if_false]
    exact Ev.now _
  have eIn:spec_l01In.f L (-6) 6=some true:=by rw[In_eq,decide_eq_true hL]
  rw[eIn]
  simp only[Option.bind_some,if_true]
  by_cases h0:num=0
  · simp only[if_pos h0];exact⟨_,Ev.now _⟩
  simp only[if_neg h0]
  have hvD:val p (p^D)=D:=val_eq hp2 (u:=1) (by simp) (fun h=>by have:=Int.le_of_dvd (by omega) h;omega)
  have hv60:=val_le_of_lt hp2 h0 61 (by omega)
  obtain⟨u,hu,hn⟩:=val_spec hp2 h0
  have e1:=spec_l01Val_ev hp2 h0 (by omega) (by omega)
  have e2:=spec_l01Val_ev hp2 (hpow D) (by omega) (by omega)
  rw[hvD] at e2
  generalize hv:val p num=v at*
  by_cases hle:L≤(v:Int) - (D:Int)
  · refine Ex.bind e1 (Ex.bind e2 ?_)
    rw[wid (n:=(v:Int) - (D:Int)) (by omega) (by omega),wid (n:=(D:Int) - (v:Int)) (by omega) (by omega)]
    simp only[if_pos hle];exact⟨_,Ev.now _⟩
  obtain⟨dn,hdn⟩:∃dn:Nat,(dn:Int)=mx ((D:Int) - (v:Int)) 0:=⟨D - v,by rw[mx_eq];split<;>omega⟩
  have hdn2: (dn:Int)=if (D:Int) - v<0 then 0 else(D:Int) - v:=by rw[hdn,mx_eq]
  have hup: (mx ((v:Int) - (D:Int)) 0)=if (v:Int) - D<0 then 0 else(v:Int) - D:=mx_eq _ _
  have hdn6:dn≤D:=by split at hdn2<;>omega
  have hmp:1≤L+dn:=by split at hdn2<;>omega
  have hmp2: (L+dn).toNat≤12:=by omega
  have hu0:u≠0:=by intro e;rw[e] at hn;exact hn (Int.dvd_zero p)
  have hpv1:=ipow_pos (p:=p) (by omega) v
  have hpv:p^v≤1152921504606846976:=by
    have:num.natAbs=(p^v).natAbs*u.natAbs:=by rw[←Int.natAbs_mul,←hu]
    have h3: (p^v).natAbs*1≤(p^v).natAbs*u.natAbs:=Nat.mul_le_mul_left _ (by omega)
    omega
  have pv:powW p v 1=p^v:=by rw[powW_fit p (by omega) v 1 (by omega) (by omega),Int.one_mul]
  have hm1:p^(L+(dn:Int)).toNat≤13841287201:=pow7_12 (by omega) hp7 hmp2
  have hm0:2≤p^(L+(dn:Int)).toNat:=by
    have:=ipow_mono (p:=p) (by omega) (show 1≤(L+(dn:Int)).toNat by omega)
    rw[Int.pow_one] at this;omega
  refine Ex.bind e1 (Ex.bind e2 ?_)
  rw[wid (n:=(v:Int) - (D:Int)) (by omega) (by omega),wid (n:=(D:Int) - (v:Int)) (by omega) (by omega)]
  simp only[if_neg hle]
  rw[←hdn]
  simp only[if_neg (show ¬(dn:Int)>6 by omega)]
  rw[wid (n:=L+(dn:Int)) (by omega) (by omega)]
  refine Ex.bind (spec_l01Power_ev p (L+dn) (by omega)) ?_
  rw[powW7 (by omega) hp7 hmp2]
  refine Ex.bind (spec_l01Power_ev p v (by omega)) ?_
  rw[Int.toNat_natCast,pv]
  simp only[if_neg (hpow v)]
  refine Ex.bind (spec_l01Power_ev p D (by omega)) ?_
  rw[Int.toNat_natCast,powW7 (by omega) hp7 (show D≤12 by omega)]
  simp only[if_neg (hpow D)]
  rw[Int.tdiv_self (hpow D),show wrap64 1=1 from wid (by omega) (by omega)]
  refine Ex.bind (spec_l01InvMod_one hm0 (by omega)) ?_
  refine Ex.bindv (spec_l01MulMod_eq (by omega) (by omega)) ?_
  refine Ex.bind (spec_l01Power_ev p _ (by rw[hup];split<;>omega)) ?_
  refine Ex.bindv (spec_l01MulMod_eq (by omega) (by omega)) ?_
  exact⟨_,Ev.now _⟩
theorem drawB_any {c:List Int} {q p:Int} (S:okS c q) (h:Int) (hp2:2≤p) (hp7:p≤7):∃a b d q' h',Ev (fun k=>spec_l01Draw.f k c q h p) (a,b,d,q',h')∧okS c q':=by
  obtain⟨v1,q1,h1,e1,S1,a1,b1⟩:=next_ok S h 13
  obtain⟨L,q2,h2,e2,S2,m2⟩:=pick_in S1 h1 [0,1,2,3,wrap64 (v1 - 6)] (by simp)
  obtain⟨v3,q3,h3,e3,S3,_⟩:=next_ok S2 h2 6
  unfold spec_l01Draw.f
  by_cases c3:v3=0
  · refine⟨L,0,0,q3,h3,Ev.bindv e1 (Ev.bindv e2 (Ev.bindv e3 ?_)),S3⟩
    simp only[if_pos c3];exact Ev.now _
  obtain⟨v4,q4,h4,e4,S4,a4,b4⟩:=next_ok S3 h3 20
  obtain⟨v5,q5,h5,e5,S5,a5,b5⟩:=next_ok S4 h4 2000000
  obtain⟨n,q6,h6,e6,S6,m6⟩:=pick_in S5 h5 [wrap64 (v4 - 10),wrap64 (v5 - 1000000)] (by simp)
  have hn: -1000000≤n∧n≤1000000:=by
    have:=b4 (by omega)
    have:=b5 (by omega)
    rw[wid (n:=v4 - 10) (by omega) (by omega),wid (n:=v5 - 1000000) (by omega) (by omega)] at m6
    simp only[List.mem_cons,List.not_mem_nil,or_false] at m6
    omega
  obtain⟨v7,q7,h7,e7,S7,a7,b7⟩:=next_ok S6 h6 7
  obtain⟨x,q8,h8,e8,S8,m8⟩:=pick_in S7 h7 [0,0,1,2,v7] (by simp)
  have hx:0≤x∧x≤6:=by
    have:=b7 (by omega)
    simp only[List.mem_cons,List.not_mem_nil,or_false] at m8
    omega
  have ep:=spec_l01Power_ev p x (by omega)
  rw[powW7 (by omega) hp7 (by omega)] at ep
  obtain⟨B,eo⟩:=of_any (p:=p) (num:=n) (L:=L) x.toNat hp2 hp7 (by omega) (by omega) (by omega)
  cases hB:B.2.2.2 with
  |true=>
   refine⟨B.1,B.2.1,B.2.2.1,q8,h8,Ev.bindv e1 (Ev.bindv e2 (Ev.bindv e3 ?_)),S8⟩
   simp only[if_neg c3]
   refine Ev.bindv e4 (Ev.bindv e5 (Ev.bindv e6 (Ev.bindv e7 (Ev.bindv e8 (Ev.bind ep (Ev.bind eo ?_))))))
   simp only[hB,if_true]
   exact Ev.now _
  |false=>
   refine⟨L,0,0,q8,h8,Ev.bindv e1 (Ev.bindv e2 (Ev.bindv e3 ?_)),S8⟩
   simp only[if_neg c3]
   refine Ev.bindv e4 (Ev.bindv e5 (Ev.bindv e6 (Ev.bindv e7 (Ev.bindv e8 (Ev.bind ep (Ev.bind eo ?_))))))
   simp only[hB,Bool.false_eq_true,if_false]
   exact Ev.now _
theorem clamp_bd (a:Int):2≤mn (mx a 2) 7∧mn (mx a 2) 7≤7:=by unfold mn mx;split<;>split<;>omega
theorem side_ok {c:List Int} {q:Int} (S:okS c q) (h p:Int):∃a b d o q' h',Ev (fun k=>spec_l09Side.f k c q h p) (a,b,d,o,q',h')∧okS c q':=by
  obtain⟨a,b,d,q1,h1,e1,S1⟩:=drawB_any S h (clamp_bd p).1 (clamp_bd p).2
  obtain⟨a',b',d',q2,h2,e2,S2⟩:=badB_ok S1 h1 a b d
  obtain⟨v,q3,h3,e3,S3,_⟩:=next_ok S2 h2 4
  exact⟨a',b',d',v==0,q3,h3,Ev.bind e1 (Ev.bindv e2 (Ev.bindv e3 (Ev.now _))),S3⟩
theorem pick_two {v:Int} (m:v∈([2,3,5,7]:List Int)):primeB v=true∧2≤v∧v≤7:=by
  simp only[List.mem_cons,List.not_mem_nil,or_false] at m
  rcases m with rfl|rfl|rfl|rfl<;>exact⟨rfl,by omega,by omega⟩
theorem two1_l0 {p' p A B E:Int} (n:Nat):∀(m x y z:Int),m≤n→n≤10→ballB p x y z=true→∃r,Ev (fun k=>spec_l01Two.l0 k p' p m A B E x y z) r:=by
  induction n with
  |zero=>
   intro m x y z hm _ _
   refine⟨_,Ev.up (r:=(p',A,B,E,x,y,z)) ?_⟩
   simp only[spec_l01Two.l0,if_neg (show ¬m>0 by omega)]
   exact Ev.now _
  |succ n ih=>
   intro m x y z hm hn hb
   by_cases h0:m>0
   · obtain⟨hp,hL,hD,_⟩:=ball_parts hb
     have hT:=ball_num hb
     have epar:∃r:Int×Int×Int×Bool,Ev (fun k=>spec_l01Parent.f k p x y z) r∧(r.2.2.2=true→ballB p r.1 r.2.1 r.2.2.1=true):=by
        unfold spec_l01Parent.f
        rw[wid (n:=x - 1) (by omega) (by omega)]
        have ep:=spec_l01Power_ev p z (by omega)
        rw[powW_prime hp _ (by omega)] at ep
        by_cases hx: -6≤x - 1
        · have eo:=spec_l01Of_pow (p:=p) (num:=y) (L:=x - 1) z.toNat hp (by omega) (by omega) (by omega) (by omega)
          exact⟨_,Ev.bind ep (Ev.bind eo (Ev.now _)),fun _=>show ballB p (x - 1) _ _=true from ofM_ball hp (by omega)⟩
        · refine⟨(0,0,0,false),Ev.bind ep (Ev.bind (a:=(0,0,0,false)) ?_ (Ev.now _)),fun h=>by cases h⟩
          unfold spec_l01Of.f
          refine Ev.bindv (In_eq _ _ _) ?_
          rw[decide_eq_false (show ¬(-6≤x - 1∧x - 1≤6) by omega)]
          simp only[Bool.false_eq_true,if_false]
          exact Ev.now _
     obtain⟨r,e,hr⟩:=epar
     cases hf:r.2.2.2 with
     |true=>
      obtain⟨r2,e2⟩:=ih (m - 1) r.1 r.2.1 r.2.2.1 (by omega) (by omega) (hr hf)
      refine⟨r2,Ev.up ?_⟩
      simp only[spec_l01Two.l0,if_pos h0]
      refine Ev.bind e ?_
      rw[wid (n:=m - 1) (by omega) (by omega)]
      simp only[hf,if_true]
      exact e2
     |false=>
      obtain⟨r2,e2⟩:=ih (m - 1) x y z (by omega) (by omega) hb
      refine⟨r2,Ev.up ?_⟩
      simp only[spec_l01Two.l0,if_pos h0]
      refine Ev.bind e ?_
      rw[wid (n:=m - 1) (by omega) (by omega)]
      simp only[hf,Bool.false_eq_true,if_false]
      exact e2
   · refine⟨_,Ev.up (r:=(p',A,B,E,x,y,z)) ?_⟩
     simp only[spec_l01Two.l0,if_neg h0]
     exact Ev.now _
theorem two1_ok {c:List Int} (hb:∀x∈c,0≤x∧x≤255) (hl:c.length≤5000):∃r,Ev (fun k=>spec_l01Two.f k c) r:=by
  obtain⟨h,e0⟩:=from_ok hb hl
  have S:okS c 0:=⟨hb,hl,by omega⟩
  obtain⟨p,a,b,d,q1,h1,e1,S1⟩:=spoil_ok S h
  unfold spec_l01Two.f
  refine Ex.bind e0 (Ex.bind e1 (Ex.bindv (spec_l01Prime_eq p) ?_))
  have go:∀t,primeB t=true→∃r,Ev (fun k=>spec_l01Two.j0 k p t c q1 h1 a b d) r:=by
    intro t ht
    obtain⟨x,y,z,q2,h2,e2,S2⟩:=drawB_ok S1 h1 ht
    obtain⟨x',y',z',q3,h3,e3,S3⟩:=badB_ok S2 h2 x y z
    obtain⟨v,q4,h4,e4,S4,_⟩:=next_ok S3 h3 3
    have stop:∃r,Ev (fun k=>spec_l01Two.j1 k p t false c q4 h4 a b d x' y' z') r:=by
      refine⟨_,Ev.up (r:=(p,a,b,d,x',y',z')) ?_⟩
      simp only[spec_l01Two.j1,Bool.false_eq_true,if_false]
      exact Ev.now _
    have inner:∃r,Ev (fun k=>(if v=0 then((spec_l01Is.f k t a b d).bind fun t519=>(spec_l01Two.j1 k p t t519 c q4 h4 a b d x' y' z')) else(spec_l01Two.j1 k p t false c q4 h4 a b d x' y' z'))) r:=by
      by_cases v0:v=0
      · simp only[if_pos v0]
        refine Ex.bind (spec_l01Is_ev t a b d) ?_
        cases hB:ballB t a b d with
        |false=>exact stop
        |true=>
         obtain⟨u,q5,h5,e5,S5,a5,b5⟩:=next_ok S4 h4 4
         have:=b5 (by omega)
         obtain⟨r,e⟩:=two1_l0 (p':=p) (p:=t) (A:=a) (B:=b) (E:=d) 4 u a b d (by omega) (by omega) hB
         refine⟨r,Ev.up ?_⟩
         simp only[spec_l01Two.j1,if_true]
         exact Ev.bindv e5 e
      · simp only[if_neg v0];exact stop
    obtain⟨r,e⟩:=inner
    refine⟨r,Ev.up ?_⟩
    simp only[spec_l01Two.j0]
    exact Ev.bind e2 (Ev.bindv e3 (Ev.bindv e4 e))
  cases hp:primeB p with
  |true=>simp only[if_true];exact go p hp
  |false=>simp only[Bool.false_eq_true,if_false];exact go 2 rfl
section
variable {c:List Int} (hb:∀x∈c,0≤x∧x≤255) (hl:c.length≤5000)
include hb hl
theorem drawMove_ok:∃r,Ev (fun k=>spec_DrawMoveSide.f k c) r:=by
  obtain⟨h,e0⟩:=from_ok hb hl
  have S:okS c 0:=⟨hb,hl,by omega⟩
  obtain⟨p,q1,h1,e1,S1⟩:=pick_ok S h [2,3,5,7,2,3,4] (by simp)
  obtain⟨g,q2,h2,e2,S2⟩:=matDraw_ok S1 h1
  obtain⟨x,y,z,o,q3,h3,e3,S3⟩:=side_ok S2 h2 p
  unfold spec_DrawMoveSide.f
  exact Ex.bind e0 (Ex.bindv e1 (Ex.bind e2 (Ex.bind e3 ⟨_,Ev.now _⟩)))
theorem of_pick {p n d L:Int} (hp2:2≤p) (hp7:p≤7) (m:d∈([1,1,p]:List Int)) (h1: -1152921504606846976≤n) (h2:n≤1152921504606846976):∃r:Int×Int×Int×Bool,Ev (fun k=>spec_l01Of.f k p n d L) r:=by
  simp only[List.mem_cons,List.not_mem_nil,or_false] at m
  rcases m with rfl|rfl|rfl
  · have:=of_any (p:=p) (num:=n) (L:=L) 0 hp2 hp7 (by omega) h1 h2
    rwa [Int.pow_zero] at this
  · have:=of_any (p:=p) (num:=n) (L:=L) 0 hp2 hp7 (by omega) h1 h2
    rwa [Int.pow_zero] at this
  · have:=of_any (p:=d) (num:=n) (L:=L) 1 hp2 hp7 (by omega) h1 h2
    rwa [Int.pow_one] at this
theorem drawPair_ok:∃r,Ev (fun k=>spec_DrawPairedMover.f k c) r:=by
  obtain⟨h,e0⟩:=from_ok hb hl
  have S:okS c 0:=⟨hb,hl,by omega⟩
  obtain⟨v,q1,h1,e1,S1,_⟩:=next_ok S h 2
  unfold spec_DrawPairedMover.f
  refine Ex.bind e0 (Ex.bindv e1 ?_)
  by_cases v0:v=0
  · simp only[if_pos v0]
    obtain⟨r,e⟩:=two1_ok hb hl
    exact Ex.bind e ⟨_,Ev.now _⟩
  simp only[if_neg v0]
  obtain⟨p,q2,h2,e2,S2,m2⟩:=pick_in S1 h1 [2,3,5,7] (by simp)
  obtain⟨hp,hp2,hp7⟩:=pick_two m2
  obtain⟨u,q3,h3,e3,S3,u0,u1⟩:=next_ok S2 h2 20
  have:=u1 (by omega)
  obtain⟨d,q4,h4,e4,S4,m4⟩:=pick_in S3 h3 [1,1,p] (by simp)
  obtain⟨L,q5,h5,e5,S5,_⟩:=next_ok S4 h4 3
  obtain⟨r,er⟩:=of_pick hb hl (p:=p) (n:=u - 10) (d:=d) (L:=L) hp2 hp7 m4 (by omega) (by omega)
  obtain⟨u',q6,h6,e6,S6,u0',u1'⟩:=next_ok S5 h5 20
  have:=u1' (by omega)
  obtain⟨d',q7,h7,e7,S7,m7⟩:=pick_in S6 h6 [1,1,p] (by simp)
  obtain⟨L',q8,h8,e8,S8,_⟩:=next_ok S7 h7 3
  obtain⟨r',er'⟩:=of_pick hb hl (p:=p) (n:=u' - 10) (d:=d') (L:=L') hp2 hp7 m7 (by omega) (by omega)
  refine Ex.bindv e2 (Ex.bindv e3 (Ex.bindv e4 (Ex.bindv e5 ?_)))
  rw[wid (n:=u - 10) (by omega) (by omega)]
  refine Ex.bind er (Ex.bindv e6 (Ex.bindv e7 (Ex.bindv e8 ?_)))
  rw[wid (n:=u' - 10) (by omega) (by omega)]
  exact Ex.bind er' ⟨_,Ev.now _⟩
end
theorem drawEnd_ok {c:List Int} {q:Int} (S:okS c q) (h:Int):∃n d q' h',Ev (fun k=>spec_l01DrawEnd.f k c q h) (n,d,q',h')∧okS c q':=by
  obtain⟨v,q1,h1,e1,S1,_⟩:=next_ok S h 30
  have core:∀f:Bool,∃n d q' h',Ev (fun k=>spec_l01DrawEnd.j0 k v f c q1 h1) (n,d,q',h')∧okS c q':=by
    intro f
    cases f with
    |true=>exact⟨1,0,q1,h1,Ev.up (by simp only[spec_l01DrawEnd.j0,if_true];exact Ev.now _),S1⟩
    |false=>
     by_cases v2:v=2
     · obtain⟨n,q2,h2,e2,S2⟩:=pick_ok S1 h1 [2,0,1000001] (by simp)
       obtain⟨d,q3,h3,e3,S3⟩:=pick_ok S2 h2 [0,4,(-1)] (by simp)
       refine⟨n,d,q3,h3,Ev.up ?_,S3⟩
       simp only[spec_l01DrawEnd.j0,Bool.false_eq_true,if_false,if_pos v2]
       exact Ev.bindv e2 (Ev.bindv e3 (Ev.now _))
     · obtain⟨a,q2,h2,e2,S2,a0,a1⟩:=next_ok S1 h1 20
       obtain⟨b,q3,h3,e3,S3,b0,b1⟩:=next_ok S2 h2 200
       obtain⟨d,q4,h4,e4,S4,d0,d1⟩:=next_ok S3 h3 2000001
       obtain⟨n,q5,h5,e5,S5,m5⟩:=pick_in S4 h4 [wrap64 (a - 10),wrap64 (b - 100),wrap64 (d - 1000000)] (by simp)
       obtain⟨x,q6,h6,e6,S6,x0,x1⟩:=next_ok S5 h5 20
       obtain⟨y,q7,h7,e7,S7,y0,y1⟩:=next_ok S6 h6 8
       obtain⟨z,q8,h8,e8,S8,z0,z1⟩:=next_ok S7 h7 6
       obtain⟨t,q9,h9,e9,S9,t0,t1⟩:=next_ok S8 h8 1000000
       have:=a1 (by omega);have:=b1 (by omega);have:=d1 (by omega);have:=x1 (by omega);have:=y1 (by omega);have:=z1 (by omega);have:=t1 (by omega)
       obtain⟨m,q10,h10,e10,S10,mm⟩:=pick_in S9 h9 [1,1,wrap64 (1+x),powW 2 y.toNat 1,powW 3 z.toNat 1,wrap64 (1+t)] (by simp)
       rw[wid (n:=a - 10) (by omega) (by omega),wid (n:=b - 100) (by omega) (by omega),wid (n:=d - 1000000) (by omega) (by omega)] at m5
       rw[wid (n:=1+x) (by omega) (by omega),wid (n:=1+t) (by omega) (by omega),powW7 (p:=2) (by omega) (by omega) (n:=y.toNat) (by omega),powW7 (p:=3) (by omega) (by omega) (n:=z.toNat) (by omega)] at mm
       have p2:=pow7_12 (p:=2) (by omega) (by omega) (n:=y.toNat) (by omega)
       have p2':=ipow_pos (p:=2) (by omega) y.toNat
       have p3:=pow7_12 (p:=3) (by omega) (by omega) (n:=z.toNat) (by omega)
       have p3':=ipow_pos (p:=3) (by omega) z.toNat
       have hn: -1000000≤n∧n≤2000000:=by
          simp only[List.mem_cons,List.not_mem_nil,or_false] at m5
          omega
       have hm:1≤m∧m≤13841287201:=by
          simp only[List.mem_cons,List.not_mem_nil,or_false] at mm
          omega
       have ee:=(endX_ev (n:=n) (d:=m) (by omega) (by omega)).2
       refine⟨(endX n m).1,(endX n m).2.1,q10,h10,Ev.up ?_,S10⟩
       simp only[spec_l01DrawEnd.j0,Bool.false_eq_true,if_false,if_neg v2]
       refine Ev.bindv e2 (Ev.bindv e3 (Ev.bindv e4 (Ev.bindv e5 (Ev.bindv e6 (Ev.bindv e7 (Ev.bind (spec_l01Power_ev 2 y (by omega)) (Ev.bindv e8 (Ev.bind (spec_l01Power_ev 3 z (by omega)) (Ev.bindv e9 (Ev.bindv e10 (Ev.bind ee (Ev.now _))))))))))))
  unfold spec_l01DrawEnd.f
  by_cases v0:v=0
  · obtain⟨n,d,q',h',e,S'⟩:=core (v==0)
    refine⟨n,d,q',h',Ev.bindv e1 ?_,S'⟩
    simp only[if_pos v0];exact e
  · obtain⟨n,d,q',h',e,S'⟩:=core (v==1)
    refine⟨n,d,q',h',Ev.bindv e1 ?_,S'⟩
    simp only[if_neg v0];exact e
theorem end5_ok {c:List Int} {q:Int} (S:okS c q) (h p L T D:Int):∃r,Ev (fun k=>spec_l05End.f k c q h p L T D) r:=by
  have stop:∀(q h:Int),okS c q→∃r,Ev (fun k=>spec_l05End.j0 k p true c q h L T D) r:=by
    intro q h S
    obtain⟨n,d,q',h',e,_⟩:=drawEnd_ok S h
    refine⟨(n,d,q',h'),Ev.up ?_⟩
    simp only[spec_l05End.j0,if_true]
    exact Ev.bind e (Ev.now _)
  have j1:∀(q h x y:Int),okS c q→(-1152921504606846976≤x∧x≤1152921504606846976)→(-1152921504606846976≤y∧y≤1152921504606846976)→∃r,Ev (fun k=>spec_l05End.j1 k x y c q h) r:=by
    intro q h x y S hx hy
    have ee:=(endX_ev (n:=x) (d:=y) hx hy).2
    cases hf: (endX x y).2.2 with
    |true=>
     refine⟨((endX x y).1,(endX x y).2.1,q,h),Ev.up ?_⟩
     simp only[spec_l05End.j1]
     refine Ev.bind ee ?_
     simp only[hf,if_true];exact Ev.now _
    |false=>
     obtain⟨n,d,q',h',e,_⟩:=drawEnd_ok S h
     refine⟨(n,d,q',h'),Ev.up ?_⟩
     simp only[spec_l05End.j1]
     refine Ev.bind ee ?_
     simp only[hf,Bool.false_eq_true,if_false]
     exact Ev.bind e (Ev.now _)
  unfold spec_l05End.f
  refine Ex.bind (spec_l01Is_ev p L T D) ?_
  cases hB:ballB p L T D with
  |false=>exact stop q h S
  |true=>
   simp only[if_true]
   obtain⟨v,q1,h1,e1,S1,_⟩:=next_ok S h 3
   refine Ex.bindv e1 ?_
   cases hv: (v==0) with
   |true=>simp only[hv];exact stop q1 h1 S1
   |false=>
    simp only[hv]
    obtain⟨hp,hL,hD,_⟩:=ball_parts hB
    have hT:=ball_num hB
    have hp2:=prime_lo hp
    have hp7:=prime_hi hp
    have pD:=pow_6 hp D.toNat (by omega)
    have pD0:=ipow_pos (p:=p) (by omega) D.toNat
    obtain⟨u,q2,h2,e2,S2,u0,u1⟩:=next_ok S1 h1 4
    have:=u1 (by omega)
    have epD:=spec_l01Power_ev p D (by omega)
    rw[powW_prime hp _ (by omega)] at epD
    by_cases hc:L+u - 1≥0
    · obtain⟨w,q3,h3,e3,S3,w0,w1⟩:=next_ok S2 h2 p
      have:=w1 (by omega)
      have pE:=pow7_12 (p:=p) (by omega) hp7 (n:=(L+u - 1).toNat) (by omega)
      have pE0:=ipow_pos (p:=p) (by omega) (L+u - 1).toNat
      have eE:=spec_l01Power_ev p (L+u - 1) (by omega)
      rw[powW_prime hp _ (by omega)] at eE
      have b1:0≤w*p^(L+u - 1).toNat:=Int.mul_nonneg w0 (by omega)
      have b2:w*p^(L+u - 1).toNat≤7*13841287201:=Int.mul_le_mul (by omega) pE (by omega) (by omega)
      have b3:0≤w*p^(L+u - 1).toNat*p^D.toNat:=Int.mul_nonneg b1 (by omega)
      have b4:w*p^(L+u - 1).toNat*p^D.toNat≤7*13841287201*117649:=Int.mul_le_mul b2 pD (by omega) (by omega)
      obtain⟨r,e⟩:=j1 q3 h3 (T+w*p^(L+u - 1).toNat*p^D.toNat) (p^D.toNat) S3 (by omega) (by omega)
      refine⟨r,Ev.up ?_⟩
      simp only[spec_l05End.j0,Bool.false_eq_true,if_false]
      refine Ev.bind epD (Ev.bindv e2 ?_)
      rw[wid (n:=L+u) (by omega) (by omega),wid (n:=L+u - 1) (by omega) (by omega)]
      simp only[if_pos hc]
      refine Ev.bindv e3 (Ev.bind eE ?_)
      rw[wid (n:=w*p^(L+u - 1).toNat) (by omega) (by omega),wid (n:=w*p^(L+u - 1).toNat*p^D.toNat) (by omega) (by omega),wid (n:=T+w*p^(L+u - 1).toNat*p^D.toNat) (by omega) (by omega)]
      exact e
    · obtain⟨r,e⟩:=j1 q2 h2 T (p^D.toNat) S2 (by omega) (by omega)
      refine⟨r,Ev.up ?_⟩
      simp only[spec_l05End.j0,Bool.false_eq_true,if_false]
      refine Ev.bind epD (Ev.bindv e2 ?_)
      rw[wid (n:=L+u) (by omega) (by omega),wid (n:=L+u - 1) (by omega) (by omega)]
      simp only[if_neg hc]
      exact e
theorem drawHas_ok {c:List Int} (hb:∀x∈c,0≤x∧x≤255) (hl:c.length≤5000):∃r,Ev (fun k=>spec_DrawSideHas.f k c) r:=by
  obtain⟨h,e0⟩:=from_ok hb hl
  have S:okS c 0:=⟨hb,hl,by omega⟩
  obtain⟨p,q1,h1,e1,S1⟩:=pick_ok S h [2,3,5,7,2,3,4] (by simp)
  obtain⟨x,y,z,o,q3,h3,e3,S3⟩:=side_ok S1 h1 p
  obtain⟨r,e4⟩:=end5_ok S3 h3 p x y z
  unfold spec_DrawSideHas.f
  exact Ex.bind e0 (Ex.bindv e1 (Ex.bind e3 (Ex.bind e4 ⟨_,Ev.now _⟩)))
theorem drawApart_ok {c:List Int} (hb:∀x∈c,0≤x∧x≤255) (hl:c.length≤4999):∃r,Ev (fun k=>spec_DrawAreApartSides.f k c) r:=by
  have hb':∀x∈([4]++c:List Int),0≤x∧x≤255:=by
    intro x hx
    rcases List.mem_append.1 hx with h|h
    · have:x=4:=by simpa using h
      omega
    · exact hb x h
  have hl': ([4]++c:List Int).length≤5000:=by simp;omega
  obtain⟨h,e0⟩:=from_ok hb' hl'
  have S:okS ([4]++c:List Int) 0:=⟨hb',hl',by omega⟩
  obtain⟨r,e1⟩:=two1_ok hb (show c.length≤5000 by omega)
  obtain⟨v,q1,h1,e2,S1,_⟩:=next_ok S h 2
  obtain⟨u,q2,h2,e3,S2,_⟩:=next_ok S1 h1 4
  unfold spec_DrawAreApartSides.f
  simp only[Option.bind_some]
  simp only[if_pos (show ([4]:List Int).length+c.length<140737488355328 by simp;omega)]
  exact Ex.bind e0 (Ex.bind e1 (Ex.bindv e2 (Ex.bindv e3 ⟨_,Ev.now _⟩)))
theorem spec_l01End_ev (n d:Int):Ev (fun k=>spec_l01End.f k n d) (endB n d):=by
  unfold spec_l01End.f endB
  by_cases h0:d=0
  · simp only[if_pos h0];exact Ev.now _
  · simp only[if_neg h0]
    refine Ev.bindv (In_eq _ _ _) ?_
    by_cases h1:1≤d∧d≤1000000
    · rw[decide_eq_true h1];simp only[if_true,Bool.true_and]
      refine Ev.bindv (In_eq _ _ _) ?_
      by_cases h2: -1000000≤n∧n≤1000000
      · rw[decide_eq_true h2];simp only[if_true,Bool.true_and]
        exact Ev.bind (spec_l01Gcd_ev n d (by omega) (by omega) (by omega) (by omega)) (Ev.now _)
      · rw[decide_eq_false h2];simp;exact Ev.now _
    · rw[decide_eq_false h1];simp;exact Ev.now _
theorem impl_held_ev {p L T D n d:Int} (h:ballB p L T D=true) (he:endB n d=true):Ev (fun k=>impl_held.f k p L T D n d) (heldB p L T D n d):=by
  obtain⟨hp,hL,hD,_⟩:=ball_parts h
  have hp2:=prime_lo hp
  obtain⟨hn,hd0,hd1⟩:=end_bd he
  obtain⟨m0,m1⟩:=mark_lt h
  have m2:=pow_13 hp (L+6).toNat (by omega)
  have p6:=pow_6 hp 6 (by omega)
  have p61:=ipow_pos (p:=p) (by omega) 6
  unfold impl_held.f heldB
  by_cases h0:d=0
  · simp only[if_pos h0];exact Ev.now _
  simp only[if_neg h0]
  have a1:=mul_bdn hn p61 p6
  have b1:0≤markOf p T D*d:=Int.mul_nonneg m0 hd0
  have b2:markOf p T D*d≤13841287201*1000000:=Int.mul_le_mul (by omega) hd1 hd0 (by omega)
  have key:=near_mark n d h
  have hpow:p^(6 - D).toNat≠0:=Int.pow_ne_zero (by omega)
  have near:Ev (fun k=>impl_nearness.f k p L T D n d) (if nearW p T D n d=0 then 1000 else(val p (nearW p T D n d):Int) - val p d - D):=by
    unfold impl_nearness.f
    refine Ev.bind (impl_power_ev p 6 (by omega)) ?_
    rw[show (6:Int).toNat=6 from rfl,powW_prime hp 6 (by omega)]
    refine Ev.bind (impl_mark_ev h) ?_
    rw[wid (n:=n*p^6) (by omega) (by omega),wid (n:=markOf p T D*d) (by omega) (by omega),wid (n:=n*p^6 - markOf p T D*d) (by omega) (by omega),key]
    by_cases hw:nearW p T D n d=0
    · simp only[hw,Int.mul_zero,if_true];exact Ev.now _
    · have hz:p^(6 - D).toNat*nearW p T D n d≠0:=Int.mul_ne_zero hpow hw
      simp only[if_neg hz,if_neg hw]
      rw[←key]
      refine Ev.bind (impl_valuation_ev hp2 (by omega) (by omega)) (Ev.bind (impl_valuation_ev hp2 (by omega) (by omega)) ?_)
      rw[key]
      unfold valW
      rw[if_neg hz,if_neg h0,val_pow_mul _ hp2 hw]
      have v1:=val_le_of_lt hp2 h0 62 (by omega)
      have v2:=val_le_of_lt hp2 hz 62 (by rw[←key];omega)
      rw[val_pow_mul _ hp2 hw] at v2
      rw[wid (n:=(((6 - D).toNat+val p (nearW p T D n d):Nat):Int) - (val p d:Int)) (by omega) (by omega),wid (by omega) (by omega)]
      rw[show (((6 - D).toNat+val p (nearW p T D n d):Nat):Int) - (val p d:Int) - 6=(val p (nearW p T D n d):Int) - val p d - D from by omega]
      exact Ev.now _
  refine Ev.bind near ?_
  by_cases hw:nearW p T D n d=0
  · simp only[if_pos hw]
    rw[show decide ((1000:Int)≥L)=true from decide_eq_true (by omega)];exact Ev.now _
  · simp only[if_neg hw];exact Ev.now _
theorem spec_l09Has_ev {p L T D n d:Int} (o:Bool) (h:ballB p L T D=true) (he:endB n d=true):Ev (fun k=>spec_l09Has.f k p L T D o n d) (heldB p L T D n d !=o):=by
  obtain⟨hp,hL,hD,_⟩:=ball_parts h
  have hp2:=prime_lo hp
  obtain⟨hn,hd0,hd1⟩:=end_bd he
  have hT:=ball_num h
  have pD:=pow_13 hp D.toNat (by omega)
  have pD1:=ipow_pos (p:=p) (by omega) D.toNat
  unfold spec_l09Has.f heldB
  by_cases h0:d=0
  · simp only[if_pos h0]
    rw[show (false !=o)=o from by cases o<;>rfl];exact Ev.now _
  simp only[if_neg h0]
  have a1:=mul_bdn hn pD1 pD
  have b1:0≤T*d:=Int.mul_nonneg hT.1 hd0
  have b2:T*d≤13841287201*1000000:=Int.mul_le_mul hT.2 hd1 hd0 (by omega)
  refine Ev.bind (a:=if nearW p T D n d=0 then L else mn L ((val p (nearW p T D n d):Int) - val p d - D)) ?_ ?_
  · unfold spec_l02Meet.f
    refine Ev.bind (spec_l01Power_ev p D (by omega)) ?_
    rw[powW_prime hp _ (by omega),wid (n:=n*p^D.toNat) (by omega) (by omega),wid (n:=T*d) (by omega) (by omega),wid (n:=n*p^D.toNat - T*d) (by omega) (by omega)]
    rw[show n*p^D.toNat - T*d=nearW p T D n d from rfl]
    have hb: -1000000000000000000≤nearW p T D n d∧nearW p T D n d≤1000000000000000000:=by unfold nearW;omega
    by_cases hw:nearW p T D n d=0
    · simp only[if_pos hw];exact Ev.now _
    · simp only[if_neg hw]
      refine Ev.bind (spec_l01Val_ev hp2 hw (by omega) (by omega)) (Ev.bind (spec_l01Val_ev hp2 h0 (by omega) (by omega)) ?_)
      have v1:=val_le_of_lt hp2 h0 62 (by omega)
      have v2:=val_le_of_lt hp2 hw 62 (by omega)
      rw[wid (n:=(val p (nearW p T D n d):Int) - (val p d:Int)) (by omega) (by omega),wid (by omega) (by omega)]
      exact Ev.now _
  · by_cases hw:nearW p T D n d=0
    · simp only[if_pos hw]
      rw[show (L==L)=true from by simp];exact Ev.now _
    · simp only[if_neg hw]
      rw[show (mn L ((val p (nearW p T D n d):Int) - val p d - D)==L)=decide (L≤(val p (nearW p T D n d):Int) - val p d - D) from by
        rw[Bool.eq_iff_iff,beq_iff_eq,decide_eq_true_eq];unfold mn;split<;>omega]
      exact Ev.now _
section
variable {p L T D:Int} {o:Bool} {a b c d:Int}
theorem move_opp (h:ballB p L T D=true) (hg:matB a b c d=true) {r:Int×Int×Int×Bool×Bool} (hr:Ev (fun k=>spec_l09Move.f k p a b c d L T D o) r):
    Ev (fun k=>spec_l09Move.f k p a b c d L T D (!o)) (r.1,r.2.1,r.2.2.1,!r.2.2.2.1,r.2.2.2.2):=by
  obtain⟨hp,_⟩:=ball_parts h
  obtain⟨f1,f2⟩:=spec_move_form (o:=o) h hg
  obtain⟨g1,g2⟩:=spec_move_form (o:=!o) h hg
  by_cases hcase:c≠0∧(c*T+d*p^D.toNat=0∨(val p (c*T+d*p^D.toNat):Int) - D≥(val p c:Int)+L)
  · obtain⟨w,hw⟩:=inv_ex ((val p (a*d - b*c):Int) - 2*(val p c:Int) - L+1) hp hcase.1
    have hr2:=Ev.det hr (f1 hcase w _ rfl hw)
    subst hr2
    exact g1 hcase w _ rfl hw
  · obtain⟨hb,f3⟩:=f2 hcase
    obtain⟨_,g3⟩:=g2 hcase
    obtain⟨w,hw⟩:=inv_ex ((val p (a*d - b*c):Int)+L - 2*((val p (c*T+d*p^D.toNat):Int) - D)) hp hb
    have hr2:=Ev.det hr (f3 w _ rfl hw)
    subst hr2
    exact g3 w _ rfl hw
def movW (r:Int×Int×Int×Bool×Bool):Int×Int×Int×Bool×Int:=if r.2.2.2.2=true then(r.1,r.2.1,r.2.2.1,r.2.2.2.1,0) else(0,0,0,false,3)
theorem move_valid (h:ballB p L T D=true) (hg:matB a b c d=true) {r:Int×Int×Int×Bool×Bool} (hr:Ev (fun k=>spec_l09Move.f k p a b c d L T D o) r):
    Ev (fun k=>spec_MoveSide.f k p a b c d L T D o) (movW r)∧Ev (fun k=>impl_MoveSide.f k p a b c d L T D o) (movW r)∧(r.2.2.2.2=true→ballB p r.1 r.2.1 r.2.2.1=true):=by
  obtain⟨r',h1,h2,h3⟩:=moveSide_both (o:=o) h hg
  obtain rfl:=Ev.det h2 hr
  have hp:=(ball_parts h).1
  have hs:sideCodeB p [(⟨⟨L,T,D⟩,o⟩:S30)]=true:=by simp[sideCodeB,hp,h]
  refine⟨?_,?_,h3⟩
  · unfold spec_MoveSide.f
    refine Ev.bind (spec_l09Code_ev p [⟨⟨L,T,D⟩,o⟩] (by simp)) ?_
    rw[hs]
    simp only[if_true]
    refine Ev.bind (spec_l04Is_ev a b c d) ?_
    rw[hg]
    refine Ev.up ?_
    simp only[spec_MoveSide.j0,Bool.not_true,Bool.false_eq_true,if_false]
    refine Ev.bind h2 ?_
    unfold movW
    cases hr:r'.2.2.2.2<;>simp[hr]<;>exact Ev.now _
  · unfold impl_MoveSide.f
    refine Ev.bind (impl_areSides_ev p [⟨⟨L,T,D⟩,o⟩] (by simp)) ?_
    show Ev (fun k=>if sideCodeB p [⟨⟨L,T,D⟩,o⟩]=true then _ else _) _
    rw[hs]
    simp only[if_true]
    refine Ev.bind (impl_IsMatrix_ev a b c d) ?_
    rw[hg]
    refine Ev.up ?_
    simp only[impl_MoveSide.j0,Bool.not_true,Bool.false_eq_true,if_false]
    refine Ev.bind h1 ?_
    unfold movW
    cases hr:r'.2.2.2.2<;>simp[hr]<;>exact Ev.now _
end
theorem move_code (p a b c d L T D:Int) (o:Bool):∃r:Int×Int×Int×Bool×Int,Ev (fun k=>spec_MoveSide.f k p a b c d L T D o) r∧Ev (fun k=>impl_MoveSide.f k p a b c d L T D o) r∧
    (r.2.2.2.2=0→ballB p L T D=true∧matB a b c d=true∧Ev (fun k=>spec_l09Move.f k p a b c d L T D o) (r.1,r.2.1,r.2.2.1,r.2.2.2.1,true)∧ballB p r.1 r.2.1 r.2.2.1=true):=by
  cases h:sideCodeB p [⟨⟨L,T,D⟩,o⟩] with
  |false=>
   refine⟨(0,0,0,false,1),?_,?_,fun hz=>absurd hz (show ¬(1:Int)=0 by decide)⟩
   · unfold spec_MoveSide.f
     refine Ev.bind (spec_l09Code_ev p [⟨⟨L,T,D⟩,o⟩] (by simp)) ?_
     rw[h]
     simp only[Bool.false_eq_true,if_false]
     refine Ev.up ?_
     simp[spec_MoveSide.j0];exact Ev.now _
   · unfold impl_MoveSide.f
     refine Ev.bind (impl_areSides_ev p [⟨⟨L,T,D⟩,o⟩] (by simp)) ?_
     show Ev (fun k=>if sideCodeB p [⟨⟨L,T,D⟩,o⟩]=true then _ else _) _
     rw[h]
     simp only[Bool.false_eq_true,if_false]
     refine Ev.up ?_
     simp[impl_MoveSide.j0];exact Ev.now _
  |true=>
   have hs:=h
   simp only[sideCodeB,List.all_cons,List.all_nil,Bool.and_eq_true,Bool.and_true] at hs
   cases hm:matB a b c d with
   |false=>
    refine⟨(0,0,0,false,1),?_,?_,fun hz=>absurd hz (show ¬(1:Int)=0 by decide)⟩
    · unfold spec_MoveSide.f
      refine Ev.bind (spec_l09Code_ev p [⟨⟨L,T,D⟩,o⟩] (by simp)) ?_
      rw[h]
      simp only[if_true]
      refine Ev.bind (spec_l04Is_ev a b c d) ?_
      rw[hm]
      refine Ev.up ?_
      simp[spec_MoveSide.j0];exact Ev.now _
    · unfold impl_MoveSide.f
      refine Ev.bind (impl_areSides_ev p [⟨⟨L,T,D⟩,o⟩] (by simp)) ?_
      show Ev (fun k=>if sideCodeB p [⟨⟨L,T,D⟩,o⟩]=true then _ else _) _
      rw[h]
      simp only[if_true]
      refine Ev.bind (impl_IsMatrix_ev a b c d) ?_
      rw[hm]
      refine Ev.up ?_
      simp[impl_MoveSide.j0];exact Ev.now _
   |true=>
    obtain⟨r,_,h2,_⟩:=moveSide_both (o:=o) hs.2 hm
    obtain⟨m1,m2,m3⟩:=move_valid hs.2 hm h2
    refine⟨movW r,m1,m2,?_⟩
    obtain⟨x,y,z,u,ok⟩:=r
    unfold movW
    cases ok with
    |false=>intro hz;exact absurd hz (show ¬(3:Int)=0 by decide)
    |true=>intro _;exact⟨hs.2,rfl,h2,m3 rfl⟩
theorem moveEnd_ev {a b c d y z:Int} (hg:matB a b c d=true) (he:endB y z=true):Ev (fun k=>impl_MoveEnd.f k a b c d y z)
    (if (endX (a*y+b*z) (c*y+d*z)).2.2=true then((endX (a*y+b*z) (c*y+d*z)).1,(endX (a*y+b*z) (c*y+d*z)).2.1,0) else(0,0,3)):=by
  unfold impl_MoveEnd.f
  refine Ev.bind (impl_IsMatrix_ev a b c d) ?_
  rw[hg]
  simp only[if_true]
  refine Ev.bind (impl_IsEnd_ev y z) ?_
  rw[he]
  refine Ev.up ?_
  simp only[impl_MoveEnd.j0,Bool.not_true,Bool.false_eq_true,if_false]
  have hok: (M4.mk a b c d).ok=true:=hg
  obtain⟨e1,e2,e3⟩:=end_bd he
  obtain⟨f1,f2,f3,f4⟩:=M4.fit_bd (M4.ok_fit hok)
  simp only at f1 f2 f3 f4
  obtain⟨a1,a2,a3⟩:=mov_bd f1 f2 e1 ⟨by omega,e3⟩
  obtain⟨b1,b2,b3⟩:=mov_bd f3 f4 e1 ⟨by omega,e3⟩
  have hm:Ev (fun k=>impl_moveEnd.f k a b c d y z) (endX (a*y+b*z) (c*y+d*z)):=by
    unfold impl_moveEnd.f
    rw[a3,b3]
    exact Ev.bind (endX_ev (n:=a*y+b*z) (d:=c*y+d*z) (by omega) (by omega)).1 (Ev.now _)
  refine Ev.bind hm ?_
  unfold impl_fittedEnd.f
  cases (endX (a*y+b*z) (c*y+d*z)).2.2<;>simp<;>exact Ev.now _
theorem has_code (p L T D:Int) (o:Bool) (n d:Int):Ev (fun k=>spec_SideHas.f k p L T D o n d) (if (sideCodeB p [⟨⟨L,T,D⟩,o⟩]&&endB n d)=true then(heldB p L T D n d !=o,0) else(false,1))∧
    Ev (fun k=>impl_SideHas.f k p L T D o n d) (if (sideCodeB p [⟨⟨L,T,D⟩,o⟩]&&endB n d)=true then(heldB p L T D n d !=o,0) else(false,1)):=by
  constructor
  · unfold spec_SideHas.f
    refine Ev.bind (spec_l09Code_ev p [⟨⟨L,T,D⟩,o⟩] (by simp)) ?_
    cases h:sideCodeB p [⟨⟨L,T,D⟩,o⟩] with
    |false=>simp;exact Ev.now _
    |true=>
     simp only[sideCodeB,List.all_cons,List.all_nil,Bool.and_eq_true,Bool.and_true] at h
     simp only[if_true,Bool.true_and]
     refine Ev.bind (spec_l01End_ev n d) ?_
     cases he:endB n d with
     |false=>simp;exact Ev.now _
     |true=>simp only[if_true];exact Ev.bind (spec_l09Has_ev o h.2 he) (Ev.now _)
  · unfold impl_SideHas.f
    refine Ev.bind (impl_areSides_ev p [⟨⟨L,T,D⟩,o⟩] (by simp)) ?_
    show Ev (fun k=>if sideCodeB p [⟨⟨L,T,D⟩,o⟩]=true then _ else _) _
    cases h:sideCodeB p [⟨⟨L,T,D⟩,o⟩] with
    |false=>simp;exact Ev.now _
    |true=>
     simp only[sideCodeB,List.all_cons,List.all_nil,Bool.and_eq_true,Bool.and_true] at h
     simp only[if_true,Bool.true_and]
     refine Ev.bind (impl_IsEnd_ev n d) ?_
     cases he:endB n d with
     |false=>simp;exact Ev.now _
     |true=>
      simp only[if_true]
      unfold impl_sideHas.f
      exact Ev.bind (Ev.bind (impl_held_ev h.2 he) (Ev.now _)) (Ev.now _)
theorem has_valid {p L T D n d:Int} (o:Bool) (h:ballB p L T D=true) (he:endB n d=true):Ev (fun k=>impl_SideHas.f k p L T D o n d) (heldB p L T D n d !=o,0):=by
  have e:=(has_code p L T D o n d).2
  rw[show (sideCodeB p [(⟨⟨L,T,D⟩,o⟩:S30)]&&endB n d)=true by simp[sideCodeB,(ball_parts h).1,h,he]] at e
  exact e
theorem apart_code (p L T D:Int) (o:Bool) (L' T' D':Int) (o':Bool):Ev (fun k=>spec_AreApartSides.f k p L T D o L' T' D' o') (if sideCodeB p [⟨⟨L,T,D⟩,o⟩,⟨⟨L',T',D'⟩,o'⟩] then(apartW p L T D o L' T' D' o',0) else(false,1))∧
    Ev (fun k=>impl_AreApartSides.f k p L T D o L' T' D' o') (if sideCodeB p [⟨⟨L,T,D⟩,o⟩,⟨⟨L',T',D'⟩,o'⟩] then(apartW p L T D o L' T' D' o',0) else(false,1)):=by
  constructor
  · unfold spec_AreApartSides.f
    refine Ev.bind (spec_l09Code_ev p [⟨⟨L,T,D⟩,o⟩,⟨⟨L',T',D'⟩,o'⟩] (by simp)) ?_
    cases h:sideCodeB p [⟨⟨L,T,D⟩,o⟩,⟨⟨L',T',D'⟩,o'⟩] with
    |false=>simp;exact Ev.now _
    |true=>
     simp only[sideCodeB,List.all_cons,List.all_nil,Bool.and_eq_true,Bool.and_true] at h
     simp only[if_true]
     exact Ev.bind (spec_l09Apart_ev h.2.1 h.2.2) (Ev.now _)
  · unfold impl_AreApartSides.f
    refine Ev.bind (impl_areSides_ev p [⟨⟨L,T,D⟩,o⟩,⟨⟨L',T',D'⟩,o'⟩] (by simp)) ?_
    show Ev (fun k=>if sideCodeB p [⟨⟨L,T,D⟩,o⟩,⟨⟨L',T',D'⟩,o'⟩]=true then _ else _) _
    cases h:sideCodeB p [⟨⟨L,T,D⟩,o⟩,⟨⟨L',T',D'⟩,o'⟩] with
    |false=>simp;exact Ev.now _
    |true=>
     simp only[sideCodeB,List.all_cons,List.all_nil,Bool.and_eq_true,Bool.and_true] at h
     simp only[if_true]
     exact Ev.bind (impl_apartSides_ev h.2.1 h.2.2) (Ev.now _)
theorem apart_back (p L T D:Int) (o:Bool) (L' T' D':Int) (o':Bool): (if sideCodeB p [(⟨⟨L',T',D'⟩,o'⟩:S30),⟨⟨L,T,D⟩,o⟩] then(apartW p L' T' D' o' L T D o,(0:Int)) else(false,1))=(if sideCodeB p [(⟨⟨L,T,D⟩,o⟩:S30),⟨⟨L',T',D'⟩,o'⟩] then(apartW p L T D o L' T' D' o',0) else(false,1)):=by
  have e1:sideCodeB p [(⟨⟨L',T',D'⟩,o'⟩:S30),⟨⟨L,T,D⟩,o⟩]=sideCodeB p [(⟨⟨L,T,D⟩,o⟩:S30),⟨⟨L',T',D'⟩,o'⟩]:=by
    simp only[sideCodeB,List.all_cons,List.all_nil,Bool.and_true]
    cases primeB p<;>cases ballB p L T D<;>cases ballB p L' T' D'<;>rfl
  have e2:apartW p L' T' D' o' L T D o=apartW p L T D o L' T' D' o':=by
    unfold apartW
    cases o<;>cases o'<;>cases holdsB p L T D L' T' D'<;>cases holdsB p L' T' D' L T D<;>rfl
  rw[e1,e2]
theorem FnSides:laws_FnSides.Pure:=by
  intro c _ _ hwf
  refine Ev.rounds ?_
  unfold laws_FnSides.f laws_big.f
  simp only[Option.bind_some]
  by_cases hbig: (c.length:Int)>4096
  · rw[decide_eq_true hbig];simp only[if_true];exact Ev.now _
  rw[decide_eq_false hbig]
  simp only[Bool.false_eq_true,if_false]
  have hb:∀x∈c,0≤x∧x≤255:=by
    intro x hx
    have:=hwf x hx
    simp only[Lit.wf,Bool.and_eq_true,decide_eq_true_eq] at this
    exact⟨this.1,this.2⟩
  have hl:c.length≤4999:=by omega
  have hl5:c.length≤5000:=by omega
  have j5:Ev (fun k=>laws_FnSides.j5 k c) true:=by
    obtain⟨⟨p,x,y,z,o,n,d⟩,e1⟩:=drawHas_ok hb hl5
    obtain⟨⟨p',x',y',z',o',x2,y2,z2,o2⟩,e2⟩:=drawApart_ok hb hl
    refine Ev.up ?_
    simp only[laws_FnSides.j5]
    refine Ev.bind e1 (Ev.bind (has_code p x y z o n d).2 (Ev.bind (has_code p x y z o n d).1 (Ev.bind e2 (Ev.bind (apart_code p' x' y' z' o' x2 y2 z2 o2).2 (Ev.bind (apart_code p' x' y' z' o' x2 y2 z2 o2).1 (Ev.bind (apart_code p' x2 y2 z2 o2 x' y' z' o').2 ?_))))))
    rw[apart_back p' x' y' z' o' x2 y2 z2 o2]
    simp only[if_true,beq_self_eq_true]
    exact Ev.now _
  have j3:Ev (fun k=>laws_FnSides.j3 k c) true:=by
    obtain⟨⟨p,x,y,z,x2,y2,z2⟩,e1⟩:=drawPair_ok hb hl5
    obtain⟨r,r1,r2,r3⟩:=pairedMover_both p x y z x2 y2 z2
    refine Ev.up ?_
    simp only[laws_FnSides.j3]
    refine Ev.bind e1 (Ev.bind r2 (Ev.bind r1 ?_))
    simp only[if_true,beq_self_eq_true,Bool.not_true,Bool.or_self]
    refine Ev.up ?_
    simp only[laws_FnSides.j4,Bool.false_eq_true,if_false]
    by_cases h0:r.2.2.2.2=0
    · simp only[if_pos h0]
      obtain⟨b1,b2,ap,hw,e⟩:=r3 h0
      obtain⟨hg,hm⟩:=pair_moves b1 b2 hw
      have hf:=pair_free b1 b2 ap hg hm
      rw[e]
      refine Ev.bind hf ?_
      simp only[if_true]
      exact j5
    · simp only[if_neg h0];exact j5
  obtain⟨⟨p,a,b,g,d,L,T,D,o⟩,e1⟩:=drawMove_ok hb hl5
  obtain⟨r,r1,r2,r3⟩:=move_code p a b g d L T D o
  refine Ev.bind e1 (Ev.bind r2 (Ev.bind r1 ?_))
  simp only[if_true,beq_self_eq_true,Bool.not_true,Bool.or_self]
  refine Ev.up ?_
  simp only[laws_FnSides.j0,Bool.false_eq_true,if_false]
  by_cases h0:r.2.2.2.2=0
  case neg=>simp only[if_neg h0];exact j3
  simp only[if_pos h0]
  obtain⟨hB,hG,hM,hR⟩:=r3 h0
  obtain⟨_,ho,_⟩:=move_valid hB hG (move_opp hB hG hM)
  refine Ev.bind ho ?_
  simp only[movW,if_true,beq_self_eq_true,Bool.not_true,Bool.or_self,Bool.false_eq_true,if_false]
  rw[show ((!r.2.2.2.1)==r.2.2.2.1)=false by cases r.2.2.2.1<;>rfl]
  refine Ev.up ?_
  simp only[laws_FnSides.j1,Bool.false_eq_true,if_false]
  have hE:∀x∈([⟨0,1⟩,⟨1,0⟩,⟨1,1⟩,⟨3,2⟩,⟨(-5),3⟩]:List S36),endB x.f0 x.f1=true∧(x.f1=0→x.f0≠0):=by
    intro x hx
    simp only[List.mem_cons,List.not_mem_nil,or_false] at hx
    rcases hx with rfl|rfl|rfl|rfl|rfl<;>exact⟨by decide,by decide⟩
  generalize hEl: ([⟨0,1⟩,⟨1,0⟩,⟨1,1⟩,⟨3,2⟩,⟨(-5),3⟩]:List S36)=E at hE⊢
  have hEn:E.length≤5:=by rw[←hEl];simp
  have loop:∀(n i:Nat),i+n=E.length→Ev (fun k=>laws_FnSides.l0 k c p E (i:Int) a b g d L T D o r.1 r.2.1 r.2.2.1 r.2.2.2.1) true:=by
    intro n
    induction n with
    |zero=>
     intro i hi
     refine Ev.up ?_
     simp only[laws_FnSides.l0,if_neg (show ¬(i:Int)<(E.length:Int) by omega)]
     exact j3
    |succ n ih=>
     intro i hi
     have hx:=hE (rd_T36 E (i:Int)) (by
        show E.getD i z36∈E
        rw[List.getD_eq_getElem?_getD,List.getElem?_eq_getElem (by omega)]
        exact List.getElem_mem _)
     have nxt:=ih (i+1) (by omega)
     refine Ev.up ?_
     simp only[laws_FnSides.l0,if_pos (show (i:Int)<(E.length:Int) by omega),if_pos (show (0:Int)≤(i:Int) by omega)]
     rw[wid (n:=(i:Int)+1) (by omega) (by omega)]
     generalize rd_T36 E (i:Int)=x at hx⊢
     refine Ev.bind (moveEnd_ev hG hx.1) ?_
     have hsame:=side_moved (y:=x.f0) (z:=x.f1) hB hG hM rfl hx.2
     have hend:=endX_ok (n:=a*x.f0+b*x.f1) (d:=g*x.f0+d*x.f1)
     generalize endX (a*x.f0+b*x.f1) (g*x.f0+d*x.f1)=e at hsame hend⊢
     simp only at hsame
     cases hf:e.2.2 with
     |false=>
      simp only[Bool.false_eq_true,if_false,if_neg (show ¬(3:Int)=0 by decide)]
      exact nxt
     |true=>
      simp only[if_true]
      refine Ev.bind (has_valid o hB hx.1) (Ev.bind (has_valid r.2.2.2.1 hR (hend hf)) ?_)
      simp only[if_true,hsame,bne_self_eq_false,Bool.false_eq_true,if_false]
      exact nxt
  exact loop E.length 0 (by omega)
end Go.Proofs.Ytghebmhlbhmgeaa.Pure
