/- FnFreeWords: sides of words lie one in the other, the matrix of the numbers that bring an end out leads back to it, and short words are counted as told; no condition beyond the row's. -/
import Derived.Test.YtanckmepopmjkabGreatPureFnFreeWordsA
import Derived.Test.YtanckmepopmjkabGreatWSized
namespace Go.Proofs.YtanckmepopmjkabGreat.Pure
open Go.RowKit Go.Proofs.YtanckmepopmjkabGreat.QW Go.Proofs.YtanckmepopmjkabGreatW.PrintWords Go.Proofs.YtanckmepopmjkabGreatW.PrintLast
set_option linter.unusedVariables false
set_option linter.unusedSimpArgs false
set_option linter.unusedSectionVars false
theorem code_one {p:Int} {g:List S47} {s:List S32} (h:freeCodeW p g s≠0):freeCodeW p g s=1∨freeCodeW p g s=2:=by
  revert h
  unfold freeCodeW
  split
  · split
    · intro h;exact absurd rfl h
    · intro _;exact .inr rfl
  · intro _;exact .inl rfl
theorem SideOfWord_both (p:Int) (g:List S47) (s:List S32) (w:List Int) (hg:g.length≤4611686018427387904) (hs:s.length≤4611686018427387904) (hw:w.length≤35184372088832):∃r:Int×Int×Int×Bool×Int,Ev (fun k=>impl_SideOfWord.f k p g s w) r∧Ev (fun k=>spec_SideOfWord.f k p g s w) r∧(r.2.2.2.2=0→InfoW p g s w r):=by
  have h1:=spec_l09List_ev (p:=p) (g:=g) (s:=s) hg hs
  obtain⟨⟨fr,code⟩,h2,h3⟩:=freeCode_both (p:=p) (g:=g) (s:=s) hg hs
  have e20: ((0:Int)==2)=false:=rfl
  have e23: ((3:Int)==2)=false:=rfl
  have e22: ((2:Int)==2)=true:=rfl
  by_cases c:freeCodeW p g s=0
  · rw[c] at h1 h2
    simp only[if_true] at h2
    obtain⟨h4,h5,h6⟩:=h3 c
    obtain⟨hball,hok,hlen,hsl⟩:=code_parts c
    have hwi:=impl_word_ev (g.length:Int) w (by omega) (by omega) hw
    have hws:=spec_word (g.length:Int) w hw
    have hc2: ((code:Int)==2)=false:=by rcases h5 with h5|h5<;>(simp only at h5;rw[h5];rfl)
    have hc1:¬code=1:=by rcases h5 with h5|h5<;>(simp only at h5;omega)
    have start:∀r,Ev (fun k=>impl_SideOfWord.j0 k p g s w fr code false) r→Ev (fun k=>impl_SideOfWord.f k p g s w) r:=fun r hr=>by
      unfold impl_SideOfWord.f
      refine Ev.bind h2 ?_
      simp only[if_neg hc1,hc2]
      exact hr
    have startS:∀r,Ev (fun k=>if wordB (g.length:Int) w=true then((spec_l09Ready.f k p g s).bind fun t227=>(if t227=0 then(if (w.length:Int)=0 then(spec_SideOfWord.j0 k p g s w true) else((spec_l09Short.f k w).bind fun t228=>(spec_SideOfWord.j0 k p g s w (!t228)))) else(some (0,0,0,false,t227)))) else(some (0,0,0,false,2))) r→Ev (fun k=>spec_SideOfWord.f k p g s w) r:=fun r hr=>by
      unfold spec_SideOfWord.f
      refine Ev.bind h1 ?_
      simp only[if_true]
      exact Ev.bind hws hr
    cases hwB:wordB (g.length:Int) w with
    |false=>
     rw[hwB] at hwi
     refine⟨(0,0,0,false,2),start _ (Ev.up ?_),startS _ ?_,fun h=>absurd h (by decide)⟩
     · simp only[impl_SideOfWord.j0,Bool.false_eq_true,if_false]
       refine Ev.bind hwi ?_
       simp only[Bool.false_eq_true,if_false]
       exact Ev.now _
     · simp only[hwB,Bool.false_eq_true,if_false]
       exact Ev.now _
    |true=>
     rw[hwB] at hwi
     obtain⟨_,p2,p3⟩:=word_parts hwB
     have hready:Ev (fun k=>spec_l09Ready.f k p g s) (if code=0 then(if fr=true then code else 5) else code):=by
        unfold spec_l09Ready.f
        refine Ev.bind h4 ?_
        by_cases c0:code=0
        · simp only[if_pos c0]
          by_cases cf:fr=true
          · simp only[if_pos cf];exact Ev.now _
          · simp only[if_neg cf];exact Ev.now _
        · simp only[if_neg c0];exact Ev.now _
     by_cases c0:code=0
     · by_cases cf:fr=true
       · subst c0 cf
         simp only[if_true] at hready
         obtain⟨b,hb⟩:=short_l w hw w.length 1 (by omega) (by omega)
         have hbs:Ev (fun k=>spec_l09Short.f k w) b:=by
            unfold spec_l09Short.f
            simp only[short_same]
            exact hb
         have five: (b=false∨w.length=0)→∃r:Int×Int×Int×Bool×Int,Ev (fun k=>impl_SideOfWord.f k p g s w) r∧Ev (fun k=>spec_SideOfWord.f k p g s w) r∧(r.2.2.2.2=0→InfoW p g s w r):=fun hor=>by
            refine⟨(0,0,0,false,5),start _ (Ev.up ?_),startS _ ?_,fun h=>absurd h (by decide)⟩
            · simp only[impl_SideOfWord.j0,Bool.false_eq_true,if_false]
              refine Ev.bind hwi ?_
              simp only[if_true]
              unfold impl_isShort.f
              refine Ev.bind hb ?_
              cases b with
              |false=>simp only[Bool.false_eq_true,if_false];exact Ev.now _
              |true=>
               rcases hor with hor|hor
               · cases hor
               · simp only[if_true,if_pos (show (w.length:Int)=0 by omega)];exact Ev.now _
            · simp only[hwB,if_true]
              refine Ev.bind hready ?_
              simp only[if_true]
              have no:Ev (fun k=>spec_SideOfWord.j0 k p g s w true) (0,0,0,false,5):=Ev.up (by simp only[spec_SideOfWord.j0,if_true];exact Ev.now _)
              by_cases z: (w.length:Int)=0
              · simp only[if_pos z];exact no
              · simp only[if_neg z]
                refine Ev.bind hbs ?_
                rcases hor with hor|hor
                · rw[hor];exact no
                · omega
         cases b with
         |false=>exact five (.inl rfl)
         |true=>
          by_cases z:w.length=0
          · exact five (.inr z)
          · have hl:=p3 (w.length - 1) (by omega)
            obtain⟨i,hi,hidx,s1,s2⟩:=side_both (s:=s) hl hlen.2 hsl
            have hbi:=nS_ok hball hi
            obtain⟨r,r1,r2,r3⟩:=word_loop (p:=p) hlen.2 hok p2 p3 (w.length - 1) _ _ _ (nS s i).f1 (by omega) hbi
            have e1:wrap64 ((w.length:Int) - 1)=((w.length - 1:Nat):Int):=by rw[wid (by omega) (by omega)];omega
            have e2:wrap64 (((w.length - 1:Nat):Int) - 1)=((w.length - 1:Nat):Int) - 1:=wid (by omega) (by omega)
            have e3:wrap64 ((w.length:Int) - 2)=((w.length - 1:Nat):Int) - 1:=by rw[wid (by omega) (by omega)];omega
            refine⟨r,start _ (Ev.up ?_),startS _ ?_,fun hq=>?_⟩
            · simp only[impl_SideOfWord.j0,Bool.false_eq_true,if_false]
              refine Ev.bind hwi ?_
              simp only[if_true]
              unfold impl_isShort.f
              refine Ev.bind hb ?_
              simp only[if_true,if_neg (show ¬(w.length:Int)=0 by omega),e1,e2,if_pos (show (0:Int)≤((w.length - 1:Nat):Int) by omega),if_pos (show ((w.length - 1:Nat):Int)<(w.length:Int) by omega)]
              exact Ev.bindv s1 r1
            · simp only[hwB,if_true]
              refine Ev.bind hready ?_
              simp only[if_true,if_neg (show ¬(w.length:Int)=0 by omega)]
              refine Ev.bind hbs (Ev.up ?_)
              simp only[spec_SideOfWord.j0,Bool.not_true,Bool.false_eq_true,if_false,e1,e3,if_pos (show (0:Int)≤((w.length - 1:Nat):Int) by omega),if_pos (show ((w.length - 1:Nat):Int)<(w.length:Int) by omega)]
              exact Ev.bindv s2 r2
            · obtain⟨b',hb1,hb2⟩:=short_val w p2 (fun i hi=>by
                  have:=p3 i hi
                  simp only[letterB,Bool.and_eq_true,Bool.not_eq_true',beq_eq_false_iff_ne,decide_eq_true_eq] at this
                  omega) w.length 1 (by omega) (by omega)
              have hbt:b'=true:=Ev.det hb1 hb
              refine⟨c,fr_free hball (List.all_eq_true.2 hok) hlen.2 hsl h4 rfl,h6 rfl,hwB,fun i h7 h8=>hb2.1 hbt i h7 h8,z,(r3 hq).1,?_⟩
              rw[←hidx]
              exact(r3 hq).2
       · refine⟨(0,0,0,false,5),start _ (Ev.up ?_),startS _ ?_,fun h=>absurd h (by decide)⟩
         · simp only[impl_SideOfWord.j0,Bool.false_eq_true,if_false]
           refine Ev.bind hwi ?_
           simp only[if_true,if_pos c0,if_neg cf]
           exact Ev.now _
         · simp only[hwB,if_true]
           refine Ev.bind hready ?_
           simp only[if_pos c0,if_neg cf,if_neg (show ¬(5:Int)=0 by decide)]
           exact Ev.now _
     · refine⟨(0,0,0,false,code),start _ (Ev.up ?_),startS _ ?_,fun h=>absurd h c0⟩
       · simp only[impl_SideOfWord.j0,Bool.false_eq_true,if_false]
         refine Ev.bind hwi ?_
         simp only[if_true,if_neg c0]
         exact Ev.now _
       · simp only[hwB,if_true]
         refine Ev.bind hready ?_
         simp only[if_neg c0]
         exact Ev.now _
  · simp only[if_neg c] at h2
    refine⟨(0,0,0,false,freeCodeW p g s),?_,?_,fun h=>absurd h c⟩
    · unfold impl_SideOfWord.f
      refine Ev.bind h2 ?_
      have yes:Ev (fun k=>impl_SideOfWord.j0 k p g s w false (freeCodeW p g s) true) (0,0,0,false,freeCodeW p g s):=Ev.up (by simp only[impl_SideOfWord.j0,if_true];exact Ev.now _)
      rcases code_one c with c1|c2
      · simp only[if_pos c1];exact yes
      · simp only[if_neg (show ¬freeCodeW p g s=1 by omega),show (freeCodeW p g s==2)=true by rw[c2];rfl];exact yes
    · unfold spec_SideOfWord.f
      refine Ev.bind h1 ?_
      simp only[if_neg c]
      exact Ev.now _
def numAt (i:Nat):Int:=if i%2=0 then -(((i / 2:Nat):Int)+1) else((i / 2:Nat):Int)+1
def findN (P:Nat→Bool):Nat→Int
  |0=>0
  |i+1=>if P i=true then numAt i else findN P i
theorem findN_none {P:Nat→Bool} {n:Nat} (h:∀i,i<n→P i=false):findN P n=0:=by
  induction n with
  |zero=>rfl
  |succ n ih=>
   unfold findN
   rw[if_neg (by rw[h n (by omega)];decide)]
   exact ih fun i hi=>h i (by omega)
theorem findN_one {P:Nat→Bool} {n i:Nat} (hu:∀a b,a<n→b<a→¬(P a=true∧P b=true)) (hi:i<n) (hp:P i=true):findN P n=numAt i:=by
  induction n with
  |zero=>omega
  |succ n ih=>
   unfold findN
   rcases Nat.lt_or_ge i n with h|h
   · rw[if_neg (fun e=>hu n i (by omega) h ⟨e,hp⟩)]
     exact ih (fun a b ha hb=>hu a b (by omega) hb) h
   · obtain rfl:i=n:=by omega
     rw[if_pos hp]
theorem findN_cases (P:Nat→Bool) (n:Nat):findN P n=0∧(∀i,i<n→P i=false)∨∃i,i<n∧P i=true∧findN P n=numAt i:=by
  induction n with
  |zero=>exact .inl ⟨rfl,fun i h=>by omega⟩
  |succ n ih=>
   unfold findN
   by_cases c:P n=true
   · rw[if_pos c];exact .inr ⟨n,by omega,c,rfl⟩
   · rw[if_neg c]
     rcases ih with ⟨h1,h2⟩|⟨i,h1,h2,h3⟩
     · refine .inl ⟨h1,fun i hi=>?_⟩
       rcases Nat.lt_or_ge i n with h|h
       · exact h2 i h
       · rw[show i=n by omega];exact Bool.eq_false_iff.2 c
     · exact .inr ⟨i,by omega,h2,h3⟩
theorem numAt_letter {i m:Nat} (h:i<2*m) (h4:m≤4):letterB (m:Int) (numAt i)=true∧numAt i≠0∧(-4≤numAt i∧numAt i≤4):=by
  have e: (numAt i≠0∧ -(m:Int)≤numAt i∧numAt i≤(m:Int))∧(-4≤numAt i∧numAt i≤4):=by unfold numAt;split<;>omega
  refine⟨?_,e.1.1,e.2⟩
  simp only[letterB,Bool.and_eq_true,Bool.not_eq_true',beq_eq_false_iff_ne,decide_eq_true_eq]
  exact e.1
theorem letterB_neg {m n:Int} (h:letterB m n=true):letterB m (-n)=true:=by
  simp only[letterB,Bool.and_eq_true,Bool.not_eq_true',beq_eq_false_iff_ne,decide_eq_true_eq] at h⊢
  omega
theorem M4.adj_adj0 (g:M4):g.adj.adj=g:=by apply M4.ext'<;>simp[M4.adj]
theorem M4.smul_one (g:M4):g.smul 1=g:=by apply M4.ext'<;>simp[M4.smul]
theorem back_let {l:List S47} {n:Int} (hok:∀x∈l,(m4 x).ok=true) (hn:letterB (l.length:Int) n=true): (letW2 l n).adj.red.ok=true∧∃m:Int,m≠0∧letS2 l (-n)=(letW2 l n).adj.red.smul m∧(letS2 l (-n)).ok=true:=by
  have hn':=hn
  simp only[letterB,Bool.and_eq_true,Bool.not_eq_true',beq_eq_false_iff_ne,decide_eq_true_eq] at hn
  unfold letW2 letS2
  by_cases c:n<0
  · simp only[if_pos c,if_neg (show ¬ -n<0 by omega)]
    have hx:=getD_ok2 hok (-n - 1).toNat (by omega)
    generalize m4 (l.getD (-n - 1).toNat z47)=g at hx
    have hd:=M4.ok_det hx
    have e:g.adj.red.adj.red=g.red:=by rw[M4.red_adj_red (by rw[M4.adj_det];exact hd),M4.adj_adj0]
    rw[e]
    exact⟨M4.red_ok hx,g.by_,M4.by_ne hd,(M4.smul_red g).symm,hx⟩
  · simp only[if_neg c,if_pos (show -n<0 by omega),Int.neg_neg]
    have hx:=getD_ok2 hok (n - 1).toNat (by omega)
    generalize m4 (l.getD (n - 1).toNat z47)=g at hx
    have hd:=M4.ok_det hx
    rw[M4.red_adj_red hd]
    have:=M4.red_ok (adj_ok2 hx)
    exact⟨this,1,by decide,(M4.smul_one _).symm,this⟩
theorem impl_held_ev {p L T D n d:Int} (h:ballB p L T D=true) (he:endB n d=true):Ev (fun k=>impl_held.f k p L T D n d) (heldB p L T D n d):=by
  obtain⟨hp,hL,hD,_⟩:=ball_parts h
  have hp2:=prime_lo hp
  obtain⟨hn,hd0,hd1⟩:=end_bd he
  obtain⟨m0,m1⟩:=mark_lt h
  have m2:=pow_13 hp (L+6).toNat (by omega)
  have p6:=pow_6 hp 6 (by omega)
  have p61:=ipow_pos (p:=p) (by omega) 6
  unfold impl_held.f heldB
  by_cases h0:d=0
  · simp only[if_pos h0];exact Ev.now _
  simp only[if_neg h0]
  have a1:=mul_bdn hn p61 p6
  have b1:0≤markOf p T D*d:=Int.mul_nonneg m0 hd0
  have b2:markOf p T D*d≤13841287201*1000000:=Int.mul_le_mul (by omega) hd1 hd0 (by omega)
  have key:=near_mark n d h
  have hpow:p^(6 - D).toNat≠0:=Int.pow_ne_zero (by omega)
  have near:Ev (fun k=>impl_nearness.f k p L T D n d) (if nearW p T D n d=0 then 1000 else(val p (nearW p T D n d):Int) - val p d - D):=by
    unfold impl_nearness.f
    refine Ev.bind (impl_power_ev p 6 (by omega)) ?_
    rw[show (6:Int).toNat=6 from rfl,powW_prime hp 6 (by omega)]
    refine Ev.bind (impl_mark_ev h) ?_
    rw[wid (n:=n*p^6) (by omega) (by omega),wid (n:=markOf p T D*d) (by omega) (by omega),wid (n:=n*p^6 - markOf p T D*d) (by omega) (by omega),key]
    by_cases hw:nearW p T D n d=0
    · simp only[hw,Int.mul_zero,if_true];exact Ev.now _
    · have hz:p^(6 - D).toNat*nearW p T D n d≠0:=Int.mul_ne_zero hpow hw
      simp only[if_neg hz,if_neg hw]
      rw[←key]
      refine Ev.bind (impl_valuation_ev hp2 (by omega) (by omega)) (Ev.bind (impl_valuation_ev hp2 (by omega) (by omega)) ?_)
      rw[key]
      unfold valW
      rw[if_neg hz,if_neg h0,val_pow_mul _ hp2 hw]
      have v1:=val_le_of_lt hp2 h0 62 (by omega)
      have v2:=val_le_of_lt hp2 hz 62 (by rw[←key];omega)
      rw[val_pow_mul _ hp2 hw] at v2
      rw[wid (n:=(((6 - D).toNat+val p (nearW p T D n d):Nat):Int) - (val p d:Int)) (by omega) (by omega),wid (by omega) (by omega)]
      rw[show (((6 - D).toNat+val p (nearW p T D n d):Nat):Int) - (val p d:Int) - 6=(val p (nearW p T D n d):Int) - val p d - D from by omega]
      exact Ev.now _
  refine Ev.bind near ?_
  by_cases hw:nearW p T D n d=0
  · simp only[if_pos hw]
    rw[show decide ((1000:Int)≥L)=true from decide_eq_true (by omega)];exact Ev.now _
  · simp only[if_neg hw];exact Ev.now _
theorem spec_l09Has_ev {p L T D n d:Int} (o:Bool) (h:ballB p L T D=true) (he:endB n d=true):Ev (fun k=>spec_l09Has.f k p L T D o n d) (heldB p L T D n d !=o):=by
  obtain⟨hp,hL,hD,_⟩:=ball_parts h
  have hp2:=prime_lo hp
  obtain⟨hn,hd0,hd1⟩:=end_bd he
  have hT:=ball_num h
  have pD:=pow_13 hp D.toNat (by omega)
  have pD1:=ipow_pos (p:=p) (by omega) D.toNat
  unfold spec_l09Has.f heldB
  by_cases h0:d=0
  · simp only[if_pos h0]
    rw[show (false !=o)=o from by cases o<;>rfl];exact Ev.now _
  simp only[if_neg h0]
  have a1:=mul_bdn hn pD1 pD
  have b1:0≤T*d:=Int.mul_nonneg hT.1 hd0
  have b2:T*d≤13841287201*1000000:=Int.mul_le_mul hT.2 hd1 hd0 (by omega)
  refine Ev.bind (a:=if nearW p T D n d=0 then L else mn L ((val p (nearW p T D n d):Int) - val p d - D)) ?_ ?_
  · unfold spec_l02Meet.f
    refine Ev.bind (spec_l01Power_ev p D (by omega)) ?_
    rw[powW_prime hp _ (by omega),wid (n:=n*p^D.toNat) (by omega) (by omega),wid (n:=T*d) (by omega) (by omega),wid (n:=n*p^D.toNat - T*d) (by omega) (by omega)]
    rw[show n*p^D.toNat - T*d=nearW p T D n d from rfl]
    have hb: -1000000000000000000≤nearW p T D n d∧nearW p T D n d≤1000000000000000000:=by unfold nearW;omega
    by_cases hw:nearW p T D n d=0
    · simp only[if_pos hw];exact Ev.now _
    · simp only[if_neg hw]
      refine Ev.bind (spec_l01Val_ev hp2 hw (by omega) (by omega)) (Ev.bind (spec_l01Val_ev hp2 h0 (by omega) (by omega)) ?_)
      have v1:=val_le_of_lt hp2 h0 62 (by omega)
      have v2:=val_le_of_lt hp2 hw 62 (by omega)
      rw[wid (n:=(val p (nearW p T D n d):Int) - (val p d:Int)) (by omega) (by omega),wid (by omega) (by omega)]
      exact Ev.now _
  · by_cases hw:nearW p T D n d=0
    · simp only[if_pos hw]
      rw[show (L==L)=true from by simp];exact Ev.now _
    · simp only[if_neg hw]
      rw[show (mn L ((val p (nearW p T D n d):Int) - val p d - D)==L)=decide (L≤(val p (nearW p T D n d):Int) - val p d - D) from by
        rw[Bool.eq_iff_iff,beq_iff_eq,decide_eq_true_eq];unfold mn;split<;>omega]
      exact Ev.now _
theorem spec_l01End_ev (n d:Int):Ev (fun k=>spec_l01End.f k n d) (endB n d):=by
  unfold spec_l01End.f endB
  by_cases h0:d=0
  · simp only[if_pos h0];exact Ev.now _
  · simp only[if_neg h0]
    refine Ev.bindv (In_eq _ _ _) ?_
    by_cases h1:1≤d∧d≤1000000
    · rw[decide_eq_true h1];simp only[if_true,Bool.true_and]
      refine Ev.bindv (In_eq _ _ _) ?_
      by_cases h2: -1000000≤n∧n≤1000000
      · rw[decide_eq_true h2];simp only[if_true,Bool.true_and]
        exact Ev.bind (spec_l01Gcd_ev n d (by omega) (by omega) (by omega) (by omega)) (Ev.now _)
      · rw[decide_eq_false h2];simp;exact Ev.now _
    · rw[decide_eq_false h1];simp;exact Ev.now _
def hasW (p:Int) (s:List S32) (n d:Int) (i:Nat):Bool:=heldB p (nS s i).f0.f0 (nS s i).f0.f1 (nS s i).f0.f2 n d !=(nS s i).f1
theorem numAt_w (i:Nat) (hi:i≤8): (if Int.tmod (i:Int) 2=0 then wrap64 (-(wrap64 (wrap64 (Int.tdiv (i:Int) 2)+1))) else wrap64 (wrap64 (Int.tdiv (i:Int) 2)+1))=numAt i:=by
  rw[tmod_cast (by omega),tdiv_cast (by omega),wid (n:=(i:Int) / 2) (by omega) (by omega),wid (n:=(i:Int) / 2+1) (by omega) (by omega),wid (n:= -((i:Int) / 2+1)) (by omega) (by omega)]
  unfold numAt
  by_cases h:i%2=0
  · rw[if_pos h,if_pos (by omega)];omega
  · rw[if_neg h,if_neg (by omega)];omega
def tailW (p:Int) (g:List S47) (s:List S32) (out:List Int) (n d t:Int) (k:Nat):Option (List Int×Int×Int×Int):=if t=0 then(some (out,n,d,0)) else(if (out.length:Int)=12 then(some (([]:List Int),0,0,4)) else((spec_l09Letter.f k g (wrap64 (-t))).bind fun bt=>((spec_l04End.f k bt.1 bt.2.1 bt.2.2.1 bt.2.2.2 n d).bind fun bt2=>(if bt2.2.2=true then(if out.length<17592186044416 then(spec_BringOut.l0 k p g s (out++[t]) bt2.1 bt2.2.1) else(none)) else(some (([]:List Int),0,0,3))))))
theorem numAt_idx (i:Nat):idxL (numAt i)=i:=by
  unfold idxL numAt
  split<;>split<;>omega
theorem endX_mul {y z:Int} (h:z=0→y≠0):∃m,m≠0∧y=m*(endX y z).1∧z=m*(endX y z).2.1:=by
  unfold endX
  by_cases hz:z=0
  · refine⟨y,h hz,?_,?_⟩<;>simp[endN,hz]
  · exact endN_mul hz
theorem endB_ne {n d:Int} (h:endB n d=true):d=0→n≠0:=by
  intro h0
  unfold endB at h
  rw[if_pos h0] at h
  have:n=1:=by simpa using h
  omega
theorem end_eq {n d n' d':Int} (h:endB n d=true) (h':endB n' d'=true) (he:n*d'=n'*d):n=n'∧d=d':=by
  have g0:=endB_ne h
  have g1:=endB_ne h'
  unfold endB at h h'
  by_cases hd:d=0
  · have hd':d'=0:=by
      subst hd
      rw[Int.mul_zero] at he
      exact(Int.mul_eq_zero.1 he).resolve_left (g0 rfl)
    rw[if_pos hd] at h
    rw[if_pos hd'] at h'
    have e1:n=1:=by simpa using h
    have e2:n'=1:=by simpa using h'
    omega
  · have hd':d'≠0:=by
      intro h0
      subst h0
      rw[Int.mul_zero] at he
      exact(g1 rfl) ((Int.mul_eq_zero.1 he.symm).resolve_right hd)
    rw[if_neg hd] at h
    rw[if_neg hd'] at h'
    simp only[Bool.and_eq_true,decide_eq_true_eq,beq_iff_eq] at h h'
    obtain⟨⟨p1,_⟩,_,q1⟩:=h
    obtain⟨⟨p2,_⟩,_,q2⟩:=h'
    have c1:Int.gcd n d=1:=by omega
    have c2:Int.gcd n' d'=1:=by omega
    have k1:d∣d':=by
      have:d∣d'*n:=⟨n',by rw[Int.mul_comm d' n,he,Int.mul_comm]⟩
      exact Int.natAbs_dvd_natAbs.1 (Nat.Coprime.dvd_of_dvd_mul_right (show Nat.Coprime n.natAbs d.natAbs from c1).symm (by rw[←Int.natAbs_mul];exact Int.natAbs_dvd_natAbs.2 this))
    have k2:d'∣d:=by
      have:d'∣d*n':=⟨n,by rw[Int.mul_comm d n',←he,Int.mul_comm]⟩
      exact Int.natAbs_dvd_natAbs.1 (Nat.Coprime.dvd_of_dvd_mul_right (show Nat.Coprime n'.natAbs d'.natAbs from c2).symm (by rw[←Int.natAbs_mul];exact Int.natAbs_dvd_natAbs.2 this))
    have e:d=d':=by
      have l1:=Int.le_of_dvd (by omega) k1
      have l2:=Int.le_of_dvd (by omega) k2
      omega
    subst e
    exact⟨Int.eq_of_mul_eq_mul_right hd he,rfl⟩
theorem let_back {g:List S47} {t:Int} (hok:∀x∈g,(m4 x).ok=true) (ht:letterB (g.length:Int) t=true) (y z:Int):∃a b:Int,a≠0∧b≠0∧
    a*aY (letS2 g t) (aY (letS2 g (-t)) y z) (aZ (letS2 g (-t)) y z)=b*y∧a*aZ (letS2 g t) (aY (letS2 g (-t)) y z) (aZ (letS2 g (-t)) y z)=b*z:=by
  have hn':=ht
  simp only[letterB,Bool.and_eq_true,Bool.not_eq_true',beq_eq_false_iff_ne,decide_eq_true_eq] at hn'
  obtain⟨h0,h1,h2⟩:=hn'
  by_cases c:t<0
  · have e1:letS2 g t=(m4 (nM g (-t - 1).toNat)).adj.red:=by unfold letS2;rw[if_pos c];rfl
    have e2:letS2 g (-t)=m4 (nM g (-t - 1).toNat):=by unfold letS2;rw[if_neg (by omega)];rfl
    have hd: (m4 (nM g (-t - 1).toNat)).ok=true:=getD_ok2 hok _ (by omega)
    rw[e1,e2]
    generalize m4 (nM g (-t - 1).toNat)=G at*
    have hdet:=M4.ok_det hd
    have hadj:G.adj.det≠0:=by rw[adj_det];exact hdet
    have hs:=M4.smul_red G.adj
    refine⟨G.adj.by_,G.det,M4.by_ne hadj,hdet,?_⟩
    have q:=a_smul G.adj.by_ G.adj.red (aY G y z) (aZ G y z)
    rw[hs] at q
    rw[←q.1,←q.2]
    exact adj_a G y z
  · have e1:letS2 g t=m4 (nM g (t - 1).toNat):=by unfold letS2;rw[if_neg c];rfl
    have e2:letS2 g (-t)=(m4 (nM g (t - 1).toNat)).adj.red:=by unfold letS2;rw[if_pos (by omega),Int.neg_neg];rfl
    have hd: (m4 (nM g (t - 1).toNat)).ok=true:=getD_ok2 hok _ (by omega)
    rw[e1,e2]
    generalize m4 (nM g (t - 1).toNat)=G at*
    have hdet:=M4.ok_det hd
    have hadj:G.adj.det≠0:=by rw[adj_det];exact hdet
    have hs:=M4.smul_red G.adj
    refine⟨G.adj.by_,G.det,M4.by_ne hadj,hdet,?_⟩
    have q:=a_smul G.adj.by_ G.adj.red y z
    rw[hs] at q
    have k:=a_scale G G.adj.by_ (aY G.adj.red y z) (aZ G.adj.red y z)
    rw[←q.1,←q.2] at k
    rw[←k.1,←k.2]
    exact a_adj G y z
structure InfoB (p:Int) (g:List S47) (s:List S32) (n0 d0:Int) (out:List Int) (n d:Int):Prop where
  len:out.length≤12
  letter:∀i,i<out.length→letterB (g.length:Int) (rd out (i:Int))=true
  short:shortP out
  last:out.length≠0→memS p (nS s (idxL (-(rd out ((out.length - 1:Nat):Int))))) n d=false
  fit:endB n d=true
  back:n0*aZ (wordP g out out.length) n d=d0*aY (wordP g out out.length) n d
theorem rd_app (out:List Int) (t:Int) (i:Nat) (hi:i<out.length):rd (out++[t]) (i:Int)=rd out (i:Int):=by
  simp only[rd,Int.toNat_natCast]
  rw[List.getD_eq_getElem?_getD,List.getD_eq_getElem?_getD,List.getElem?_append_left hi]
theorem rd_app1 (out:List Int) (t:Int):rd (out++[t]) (out.length:Int)=t:=by
  simp only[rd,Int.toNat_natCast]
  rw[List.getD_eq_getElem?_getD,List.getElem?_append_right (Nat.le_refl _),Nat.sub_self];rfl
theorem InfoB.more {p:Int} {g:List S47} {s:List S32} {n0 d0:Int} {out:List Int} {n d:Int} (h:InfoB p g s n0 d0 out n d) (hok:∀x∈g,(m4 x).ok=true) (hball:s.all (fun b=>ballB p b.f0.f0 b.f0.f1 b.f0.f2)=true) (hsl:s.length=2*g.length) (hf:FreeM p g s)
    {t:Int} (ht:letterB (g.length:Int) t=true) (hhas:memS p (nS s (idxL t)) n d=true) (hlen:out.length<12) {n' d' m:Int} (hm:m≠0) (h1:aY (letS2 g (-t)) n d=m*n') (h2:aZ (letS2 g (-t)) n d=m*d') (he:endB n' d'=true):InfoB p g s n0 d0 (out++[t]) n' d':=by
  have hnt:letterB (g.length:Int) (-t)=true:=letterB_neg ht
  have hlast:memS p (nS s (idxL (-t))) n' d'=false:=by
    have k:=letter_mem hok hball hsl hf hnt (endB_ne h.fit)
    rw[Int.neg_neg,hhas,h1,h2,mem_mul (nS_ok hball (idx_lt hok hball hsl hnt)) hm] at k
    exact k
  refine⟨by simp;omega,fun i hi=>?_,fun i h3 h4=>?_,fun _=>?_,he,?_⟩
  · rcases Nat.lt_or_ge i out.length with h5|h5
    · rw[rd_app out t i h5];exact h.letter i h5
    · have:i=out.length:=by simp at hi;omega
      subst this
      rw[rd_app1];exact ht
  · rcases Nat.lt_or_ge i out.length with h5|h5
    · rw[rd_app out t i h5,rd_app out t (i - 1) (by omega)];exact h.short i h3 h5
    · have:i=out.length:=by simp at h4;omega
      subst this
      rw[rd_app1,rd_app out t (out.length - 1) (by omega)]
      intro e
      have:=h.last (by omega)
      rw[←e,hhas] at this
      cases this
  · rw[show (out++[t]).length - 1=out.length by simp,rd_app1];exact hlast
  · rw[show (out++[t]).length=out.length+1 by simp]
    simp only[wordP]
    rw[rd_app1,wordP_congr (w:=out++[t]) (v:=out) out.length (fun i hi=>rd_app out t i hi),(a_mul _ _ n' d').1,(a_mul _ _ n' d').2]
    obtain⟨a,b,ha,hb,k1,k2⟩:=let_back hok ht n d
    rw[h1,h2] at k1 k2
    rw[(a_scale (letS2 g t) m n' d').1,←Int.mul_assoc] at k1
    rw[(a_scale (letS2 g t) m n' d').2,←Int.mul_assoc] at k2
    have hP:=h.back
    have s1:=a_scale (wordP g out out.length) (a*m) (aY (letS2 g t) n' d') (aZ (letS2 g t) n' d')
    have s2:=a_scale (wordP g out out.length) b n d
    rw[k1,k2] at s1
    have ham:a*m≠0:=Int.mul_ne_zero ha hm
    refine Int.eq_of_mul_eq_mul_left ham ?_
    have t1:a*m*aY (wordP g out out.length) (aY (letS2 g t) n' d') (aZ (letS2 g t) n' d')=b*aY (wordP g out out.length) n d:=by rw[←s1.1,s2.1]
    have t2:a*m*aZ (wordP g out out.length) (aY (letS2 g t) n' d') (aZ (letS2 g t) n' d')=b*aZ (wordP g out out.length) n d:=by rw[←s1.2,s2.2]
    generalize aY (wordP g out out.length) (aY (letS2 g t) n' d') (aZ (letS2 g t) n' d')=u at*
    generalize aZ (wordP g out out.length) (aY (letS2 g t) n' d') (aZ (letS2 g t) n' d')=v at*
    calc a*m*(n0*v)=n0*(a*m*v):=by grind
      _=n0*(b*aZ (wordP g out out.length) n d):=by rw[t2]
      _=b*(n0*aZ (wordP g out out.length) n d):=by grind
      _=b*(d0*aY (wordP g out out.length) n d):=by rw[hP]
      _=d0*(b*aY (wordP g out out.length) n d):=by grind
      _=d0*(a*m*u):=by rw[t1]
      _=a*m*(d0*u):=by grind
section
variable {p:Int} {g:List S47} {s:List S32} (hball:s.all (fun b=>ballB p b.f0.f0 b.f0.f1 b.f0.f2)=true) (hok:∀x∈g,(m4 x).ok=true) (h4:g.length≤4) (hsl:s.length=2*g.length) (hap:∀a b,0≤a→a<s.length→b<a→apW p s a b=true)
include hball hsl h4 hap
theorem has_one (n d:Int):∀a b,a<s.length→b<a→¬(hasW p s n d a=true∧hasW p s n d b=true):=by
  intro a b ha hb ⟨h1,h2⟩
  exact apart_has (nS_ok hball ha) (nS_ok hball (show b<s.length by omega)) (hap a b (by omega) ha hb) h1 h2
theorem sideOf_ev {n d:Int} (he:endB n d=true):Ev (fun k=>impl_sideOf.f k p s n d) (findN (hasW p s n d) s.length):=by
  have key:∀e i:Nat,i+e=s.length→(∀j,j<i→hasW p s n d j=false)→Ev (fun k=>impl_sideOf.l0 k p s s.length i n d) (findN (hasW p s n d) s.length):=by
    intro e
    induction e with
    |zero=>
     intro i hi hno
     rw[findN_none (fun j hj=>hno j (by omega))]
     refine Ev.up ?_
     simp only[impl_sideOf.l0,if_neg (show ¬(i:Int)<(s.length:Int) by omega)];exact Ev.now _
    |succ e ih=>
     intro i hi hno
     refine Ev.up ?_
     simp only[impl_sideOf.l0,if_pos (show (i:Int)<(s.length:Int) by omega),if_pos (show (0:Int)≤(i:Int) by omega),rdS]
     have hh:Ev (fun k=>impl_sideHas.f k p (nS s i).f0.f0 (nS s i).f0.f1 (nS s i).f0.f2 (nS s i).f1 n d) (hasW p s n d i):=by
        unfold impl_sideHas.f
        exact Ev.bind (impl_held_ev (nS_ok hball (show i<s.length by omega)) he) (Ev.now _)
     refine Ev.bind hh ?_
     cases c:hasW p s n d i with
     |true=>
      simp only[if_true]
      rw[findN_one (has_one hball h4 hsl hap n d) (by omega) c]
      have:=numAt_w i (by omega)
      by_cases h:Int.tmod (i:Int) 2=0
      · rw[if_pos h] at this;simp only[if_pos h,this];exact Ev.now _
      · rw[if_neg h] at this;simp only[if_neg h,this];exact Ev.now _
     |false=>
      simp only[Bool.false_eq_true,if_false]
      rw[wid (n:=(i:Int)+1) (by omega) (by omega)]
      exact ih (i+1) (by omega) (fun j hj=>by
          rcases Nat.lt_or_ge j i with h|h
          · exact hno j h
          · rw[show j=i by omega];exact c)
  unfold impl_sideOf.f
  exact key s.length 0 (by omega) (fun j hj=>by omega)
theorem scan_ev {n d:Int} (he:endB n d=true) (out:List Int) {r:List Int×Int×Int×Int} (hr:Ev (fun k=>tailW p g s out n d (findN (hasW p s n d) s.length) k) r):
    ∀e i:Nat,i+e=s.length→Ev (fun k=>spec_BringOut.l1 k p g s out (findN (hasW p s n d) i) i n d) r:=by
  intro e
  induction e with
  |zero=>
   intro i hi
   obtain rfl:i=s.length:=by omega
   refine Ev.up ?_
   simp only[spec_BringOut.l1,if_neg (show ¬(s.length:Int)<(s.length:Int) by omega)]
   exact hr
  |succ e ih=>
   intro i hi
   refine Ev.up ?_
   simp only[spec_BringOut.l1,if_pos (show (i:Int)<(s.length:Int) by omega),if_pos (show (0:Int)≤(i:Int) by omega),rdS]
   refine Ev.bind (spec_l09Has_ev (nS s i).f1 (nS_ok hball (show i<s.length by omega)) he) ?_
   have hn:=ih (i+1) (by omega)
   unfold findN at hn
   rw[show (heldB p (nS s i).f0.f0 (nS s i).f0.f1 (nS s i).f0.f2 n d !=(nS s i).f1)=hasW p s n d i from rfl,wid (n:=(i:Int)+1) (by omega) (by omega)]
   cases c:hasW p s n d i with
   |true=>
    rw[if_pos c] at hn
    simp only[if_true]
    have:=numAt_w i (by omega)
    by_cases h:Int.tmod (i:Int) 2=0
    · rw[if_pos h] at this;simp only[if_pos h,this];exact hn
    · rw[if_neg h] at this;simp only[if_neg h,this];exact hn
   |false=>
    rw[if_neg (by rw[c];decide)] at hn
    simp only[Bool.false_eq_true,if_false]
    exact hn
include hok in
theorem bring_l0 (hf:FreeM p g s) (n0 d0:Int) (m:Nat):∀(out:List Int) (n d:Int),out.length+m=12→InfoB p g s n0 d0 out n d→∃r:List Int×Int×Int×Int,Ev (fun k=>impl_BringOut.l0 k p g s out n d) r∧Ev (fun k=>spec_BringOut.l0 k p g s out n d) r∧r.1.length≤12∧(r.2.2.2=0→InfoB p g s n0 d0 r.1 r.2.1 r.2.2.1):=by
  induction m with
  |zero=>
   intro out n d hl hinf
   have he:=hinf.fit
   have s1:=sideOf_ev hball h4 hsl hap he
   by_cases c:findN (hasW p s n d) s.length=0
   · refine⟨(out,n,d,0),Ev.up ?_,Ev.up ?_,by simp only;omega,fun _=>hinf⟩
     · simp only[impl_BringOut.l0]
       refine Ev.bind s1 ?_
       simp only[if_pos c];exact Ev.now _
     · simp only[spec_BringOut.l0]
       exact scan_ev hball h4 hsl hap he out (by unfold tailW;simp only[if_pos c];exact Ev.now _) s.length 0 (by omega)
   · refine⟨([],0,0,4),Ev.up ?_,Ev.up ?_,by simp,fun h=>absurd h (by decide)⟩
     · simp only[impl_BringOut.l0]
       refine Ev.bind s1 ?_
       simp only[if_neg c,if_pos (show (out.length:Int)=12 by omega)];exact Ev.now _
     · simp only[spec_BringOut.l0]
       exact scan_ev hball h4 hsl hap he out (by unfold tailW;simp only[if_neg c,if_pos (show (out.length:Int)=12 by omega)];exact Ev.now _) s.length 0 (by omega)
  |succ m ih=>
   intro out n d hl hinf
   have he:=hinf.fit
   have s1:=sideOf_ev hball h4 hsl hap he
   rcases findN_cases (hasW p s n d) s.length with ⟨c,_⟩|⟨i,hi,hhas,hnum⟩
   · refine⟨(out,n,d,0),Ev.up ?_,Ev.up ?_,by simp only;omega,fun _=>hinf⟩
     · simp only[impl_BringOut.l0]
       refine Ev.bind s1 ?_
       simp only[if_pos c];exact Ev.now _
     · simp only[spec_BringOut.l0]
       exact scan_ev hball h4 hsl hap he out (by unfold tailW;simp only[if_pos c];exact Ev.now _) s.length 0 (by omega)
   · obtain⟨l1,l2,l3⟩:=numAt_letter (i:=i) (m:=g.length) (by omega) h4
     rw[←hnum] at l1 l2 l3
     have hidx:idxL (findN (hasW p s n d) s.length)=i:=by rw[hnum];exact numAt_idx i
     have hmem:memS p (nS s (idxL (findN (hasW p s n d) s.length))) n d=true:=by rw[hidx];exact hhas
     clear hidx
     have scan:∀r,Ev (fun k=>tailW p g s out n d (findN (hasW p s n d) s.length) k) r→Ev (fun k=>spec_BringOut.l1 k p g s out 0 0 n d) r:=fun r hr=>scan_ev hball h4 hsl hap he out hr s.length 0 (by omega)
     generalize findN (hasW p s n d) s.length=t at*
     obtain⟨k1,q,k2,k3,k4⟩:=back_let hok l1
     have hmore: (movE (letW2 g t).adj.red n d).2.2=true→InfoB p g s n0 d0 (out++[t]) (movE (letW2 g t).adj.red n d).1 (movE (letW2 g t).adj.red n d).2.1:=fun hz=>by
        obtain⟨mm,hm1,hm2,hm3⟩:=endX_mul (a_ne (M4.ok_det k1) (endB_ne he))
        have q1:=a_smul q (letW2 g t).adj.red n d
        rw[←k3] at q1
        refine hinf.more hok hball hsl hf l1 hmem (by omega) (Int.mul_ne_zero k2 hm1) ?_ ?_ (endX_ok hz)
        · rw[q1.1];conv=>lhs;rw[hm2]
          rw[Int.mul_assoc];rfl
        · rw[q1.2];conv=>lhs;rw[hm3]
          rw[Int.mul_assoc];rfl
     obtain⟨x1,x2⟩:=movE_ev k1 he
     obtain⟨y1,y2⟩:=movE_ev k4 he
     rw[k3,movE_smul k2] at y2
     rw[←k3] at y2
     have li:=impl_letter_ev g h4 hok l1
     have ls:=spec_letter_ev g h4 hok (letterB_neg l1)
     have inv:=impl_inverted_ev (let_ok g h4 hok l1).1
     have hlen:¬(out.length:Int)=12:=by omega
     have hlen2:out.length<17592186044416:=by omega
     have hwn:wrap64 (-t)= -t:=wid (by omega) (by omega)
     have zok:=fun hz=>endX_ok (n:=(letW2 g t).adj.red.a*n+(letW2 g t).adj.red.b*d) (d:=(letW2 g t).adj.red.c*n+(letW2 g t).adj.red.d*d) hz
     change (movE (letW2 g t).adj.red n d).2.2=true→endB (movE (letW2 g t).adj.red n d).1 (movE (letW2 g t).adj.red n d).2.1=true at zok
     generalize movE (letW2 g t).adj.red n d=z at x1 y2 zok hmore
     cases hz:z.2.2 with
     |false=>
      refine⟨([],0,0,3),Ev.up ?_,Ev.up ?_,by simp,fun h=>absurd h (by decide)⟩
      · simp only[impl_BringOut.l0]
        refine Ev.bind s1 ?_
        simp only[if_neg l2,if_neg hlen,if_pos hlen2]
        refine Ev.bind li (Ev.bind inv (Ev.bind x1 ?_))
        simp only[hz,Bool.false_eq_true,if_false];exact Ev.now _
      · simp only[spec_BringOut.l0]
        refine scan _ ?_
        unfold tailW
        simp only[if_neg l2,if_neg hlen,hwn]
        refine Ev.bind ls (Ev.bind y2 ?_)
        simp only[hz,Bool.false_eq_true,if_false];exact Ev.now _
     |true=>
      obtain⟨r,r1,r2,r3⟩:=ih (out++[t]) z.1 z.2.1 (by simp;omega) (hmore hz)
      refine⟨r,Ev.up ?_,Ev.up ?_,r3⟩
      · simp only[impl_BringOut.l0]
        refine Ev.bind s1 ?_
        simp only[if_neg l2,if_neg hlen,if_pos hlen2]
        refine Ev.bind li (Ev.bind inv (Ev.bind x1 ?_))
        simp only[hz,if_true];exact r1
      · simp only[spec_BringOut.l0]
        refine scan _ ?_
        unfold tailW
        simp only[if_neg l2,if_neg hlen,hwn]
        refine Ev.bind ls (Ev.bind y2 ?_)
        simp only[hz,if_true,if_pos hlen2];exact r2
end
theorem BringOut_both (p:Int) (g:List S47) (s:List S32) (n d:Int) (hg:g.length≤4611686018427387904) (hs:s.length≤4611686018427387904):∃r:List Int×Int×Int×Int,Ev (fun k=>impl_BringOut.f k p g s n d) r∧Ev (fun k=>spec_BringOut.f k p g s n d) r∧r.1.length≤12∧(r.2.2.2=0→freeCodeW p g s=0∧endB n d=true∧InfoB p g s n d r.1 r.2.1 r.2.2.1):=by
  have h1:=spec_l09List_ev (p:=p) (g:=g) (s:=s) hg hs
  obtain⟨⟨fr,code⟩,h2,h3⟩:=freeCode_both (p:=p) (g:=g) (s:=s) hg hs
  have e1:=impl_IsEnd_ev n d
  have e2:=spec_l01End_ev n d
  have one:∀c:Int,Ev (fun k=>spec_BringOut.j0 k p g s c true n d) ([],0,0,1):=fun c=>Ev.up (by simp only[spec_BringOut.j0,if_true];exact Ev.now _)
  cases he:endB n d with
  |false=>
   rw[he] at e1 e2
   refine⟨([],0,0,1),?_,?_,by simp,fun h=>absurd h (by decide)⟩
   · unfold impl_BringOut.f
     refine Ev.bind e1 ?_
     simp only[Bool.false_eq_true,if_false];exact Ev.now _
   · unfold spec_BringOut.f
     refine Ev.bind h1 ?_
     by_cases c1:freeCodeW p g s=1
     · simp only[if_pos c1];exact one _
     · simp only[if_neg c1]
       refine Ev.bind e2 ?_
       exact one _
  |true=>
   rw[he] at e1 e2
   by_cases c:freeCodeW p g s=0
   · rw[c] at h1 h2
     simp only[if_true] at h2
     obtain⟨hf,h5,hap⟩:=h3 c
     obtain⟨hball,hok,hlen,hsl⟩:=code_parts c
     have hready:Ev (fun k=>spec_l09Ready.f k p g s) (if code=0 then(if fr=true then code else 5) else code):=by
        unfold spec_l09Ready.f
        refine Ev.bind hf ?_
        by_cases c0:code=0
        · simp only[if_pos c0]
          by_cases cf:fr=true
          · simp only[if_pos cf];exact Ev.now _
          · simp only[if_neg cf];exact Ev.now _
        · simp only[if_neg c0];exact Ev.now _
     have startS:∀r,Ev (fun k=>spec_BringOut.j1 k p g s (if code=0 then(if fr=true then code else 5) else code) n d) r→Ev (fun k=>spec_BringOut.f k p g s n d) r:=fun r hr=>by
        unfold spec_BringOut.f
        refine Ev.bind h1 ?_
        simp only[if_neg (show ¬(0:Int)=1 by decide)]
        refine Ev.bind e2 (Ev.up ?_)
        simp only[spec_BringOut.j0,Bool.not_true,Bool.false_eq_true,if_false,if_true]
        exact Ev.bind hready hr
     have startI:∀r,Ev (fun k=>if code=0 then(if fr=true then(impl_BringOut.l0 k p g s (([]:List Int)) n d) else(some (([]:List Int),0,0,5))) else(some (([]:List Int),0,0,code))) r→Ev (fun k=>impl_BringOut.f k p g s n d) r:=fun r hr=>by
        unfold impl_BringOut.f
        refine Ev.bind e1 ?_
        simp only[if_true]
        exact Ev.bind h2 hr
     by_cases c0:code=0
     · by_cases cf:fr=true
       · subst c0 cf
         have hfm:FreeM p g s:=fr_free hball (List.all_eq_true.2 hok) hlen.2 hsl hf rfl
         obtain⟨r,r1,r2,r3,r4⟩:=bring_l0 hball hok hlen.2 hsl (hap rfl) hfm n d 12 [] n d rfl ⟨by simp,fun i hi=>by simp at hi,fun i h1 h2=>by simp at h2,fun h=>absurd rfl h,he,by show n*(0*n+1*d)=d*(1*n+0*d);grind⟩
         refine⟨r,startI _ ?_,startS _ (Ev.up ?_),r3,fun hr=>⟨c,rfl,r4 hr⟩⟩
         · simp only[eq_self_iff_true,if_true];exact r1
         · simp only[spec_BringOut.j1,eq_self_iff_true,if_true];exact r2
       · refine⟨([],0,0,5),startI _ ?_,startS _ (Ev.up ?_),by simp,fun h=>absurd h (by decide)⟩
         · simp only[if_pos c0,if_neg cf];exact Ev.now _
         · simp only[spec_BringOut.j1,if_pos c0,if_neg cf,if_neg (show ¬(5:Int)=0 by decide)];exact Ev.now _
     · refine⟨([],0,0,code),startI _ ?_,startS _ (Ev.up ?_),by simp,fun h=>absurd h c0⟩
       · simp only[if_neg c0];exact Ev.now _
       · simp only[spec_BringOut.j1,if_neg c0];exact Ev.now _
   · simp only[if_neg c] at h2
     refine⟨([],0,0,freeCodeW p g s),?_,?_,by simp,fun h=>absurd h c⟩
     · unfold impl_BringOut.f
       refine Ev.bind e1 ?_
       simp only[if_true]
       refine Ev.bind h2 ?_
       simp only[if_neg c];exact Ev.now _
     · unfold spec_BringOut.f
       refine Ev.bind h1 ?_
       rcases code_one c with c1|c2
       · simp only[if_pos c1]
         rw[c1];exact one _
       · simp only[if_neg (show ¬freeCodeW p g s=1 by omega)]
         refine Ev.bind e2 (Ev.up ?_)
         simp only[spec_BringOut.j0,Bool.not_true,Bool.false_eq_true,if_false,if_neg c]
         refine Ev.up ?_
         simp only[spec_BringOut.j1,if_neg c];exact Ev.now _
structure okS (c:List Int) (q:Int):Prop where
  b:∀x∈c,0≤x∧x≤255
  l:c.length≤5000
  p:0≤q∧q≤c.length
theorem mask34 {n:Int} (h0:0≤n) (h1:n<18446744073709551616):Go.bits .and .u64 n 17179869183=n%17179869184:=by
  obtain⟨m,rfl⟩:∃m:Nat,n=(m:Int):=⟨n.toNat,by omega⟩
  have h:=Go.bits_and_u64_nat m 17179869183 (by omega) (by omega)
  have e:m &&& 17179869183=m%17179869184:=Nat.and_two_pow_sub_one_eq_mod m 34
  rw[e] at h
  rw[show ((17179869183:Nat):Int)=17179869183 from rfl] at h
  rw[h];omega
theorem next_ok {c:List Int} {q:Int} (S:okS c q) (h a:Int):∃v q' h',spec_l01Next.f c q h a=some (v,q',h')∧okS c q'∧0≤v∧(1≤a→v<a):=by
  have Sl:=S.l
  have Sp:=S.p
  unfold spec_l01Next.f
  by_cases h1:a<1
  · rw[if_pos h1];exact⟨0,q,h,rfl,S,by omega,by omega⟩
  rw[if_neg h1]
  obtain⟨w,hw⟩:∃w,w=IntKind.u64.wrap (IntKind.u64.wrap (h*6364136223846793005)+1442695040888963407):=⟨_,rfl⟩
  have hw0:0≤w∧w<18446744073709551616:=by rw[hw,IntKind.wrap_u64];omega
  rw[←hw,mask34 (by omega) (by omega),wid (n:=w / 8388608%17179869184) (by omega) (by omega)]
  by_cases h2:q<(c.length:Int)
  · have hb:0≤rd c q∧rd c q≤255:=by
      obtain⟨m,rfl⟩:∃m:Nat,q=(m:Int):=⟨q.toNat,by omega⟩
      rw[rd_nat c m (by omega)];exact S.b _ (List.getElem_mem _)
    rw[if_pos h2,if_pos Sp.1,if_neg (show ¬a=0 by omega),wid (n:=rd c q) (by omega) (by omega),wid (n:=w / 8388608%17179869184+rd c q) (by omega) (by omega),wid (n:=q+1) (by omega) (by omega),tmod_cast (by omega)]
    exact⟨_,_,_,rfl,⟨S.b,S.l,by omega⟩,Int.emod_nonneg _ (by omega),fun _=>Int.emod_lt_of_pos _ (by omega)⟩
  · rw[if_neg h2,if_neg (show ¬a=0 by omega),tmod_cast (by omega)]
    exact⟨_,_,_,rfl,S,Int.emod_nonneg _ (by omega),fun _=>Int.emod_lt_of_pos _ (by omega)⟩
theorem pick_ok {c:List Int} {q:Int} (S:okS c q) (h:Int) (l:List Int) (hl:1≤l.length):∃v q' h',spec_l01Pick.f c q h l=some (v,q',h')∧okS c q':=by
  obtain⟨v,q',h',e,S',v0,v1⟩:=next_ok S h (l.length:Int)
  unfold spec_l01Pick.f
  rw[e]
  simp only[Option.bind_some,if_pos v0,if_pos (v1 (by omega))]
  exact⟨_,_,_,rfl,S'⟩
theorem from_ok {c:List Int} (hb:∀x∈c,0≤x∧x≤255) (hl:c.length≤5000):∃h,Ev (fun k=>spec_l01From.f k c) (c,0,h):=by
  have key:∀d i:Nat,i+d=c.length→∀h,∃h',Ev (fun k=>spec_l01From.l0 k c i c 0 h) (c,0,h'):=by
    intro d
    induction d with
    |zero=>
     intro i hi h
     refine⟨h,Ev.up ?_⟩
     simp only[spec_l01From.l0,if_neg (show ¬(i:Int)<(c.length:Int) by omega)];exact Ev.now _
    |succ d ih=>
     intro i hi h
     by_cases h4: (i:Int)<4096
     · obtain⟨h',e⟩:=ih (i+1) (by omega) (IntKind.u64.wrap (IntKind.u64.wrap (IntKind.u64.wrap (h*1099511628211)+IntKind.u64.wrap (rd c i))+71))
       refine⟨h',Ev.up ?_⟩
       simp only[spec_l01From.l0,if_pos (show (i:Int)<(c.length:Int) by omega),if_pos h4,if_pos (show (0:Int)≤(i:Int) by omega)]
       rw[wid (n:=(i:Int)+1) (by omega) (by omega)]
       exact e
     · refine⟨h,Ev.up ?_⟩
       simp only[spec_l01From.l0,if_pos (show (i:Int)<(c.length:Int) by omega),if_neg h4];exact Ev.now _
  unfold spec_l01From.f
  exact key c.length 0 (by omega) _
theorem rd_mem {l:List Int} {i:Int} (h0:0≤i) (h1:i<(l.length:Int)):rd l i∈l:=by
  obtain⟨m,rfl⟩:∃m:Nat,i=(m:Int):=⟨i.toNat,by omega⟩
  rw[rd_nat l m (by omega)];exact List.getElem_mem _
theorem pick_in {c:List Int} {q:Int} (S:okS c q) (h:Int) (l:List Int) (hl:1≤l.length):∃v q' h',spec_l01Pick.f c q h l=some (v,q',h')∧okS c q'∧v∈l:=by
  obtain⟨v,q',h',e,S',v0,v1⟩:=next_ok S h (l.length:Int)
  unfold spec_l01Pick.f
  rw[e]
  simp only[Option.bind_some,if_pos v0,if_pos (v1 (by omega))]
  exact⟨_,_,_,rfl,S',rd_mem v0 (v1 (by omega))⟩
theorem badB_ok {c:List Int} {q:Int} (S:okS c q) (h x y z:Int):∃a b d q' h',spec_l01Bad.f c q h x y z=some (a,b,d,q',h')∧okS c q':=by
  obtain⟨v,q1,h1,e1,S1,_⟩:=next_ok S h 40
  obtain⟨x2,q2,h2,e2,S2⟩:=pick_ok S1 h1 [(-7),7,wrap64 (x - 1),1099511627776] (by simp)
  obtain⟨x3,q3,h3,e3,S3⟩:=pick_ok S1 h1 [(-1),wrap64 (y*7),1099511627776] (by simp)
  obtain⟨x4,q4,h4,e4,S4⟩:=pick_ok S1 h1 [(-1),wrap64 (z+1),7] (by simp)
  unfold spec_l01Bad.f
  simp only[e1,Option.bind_some]
  by_cases c0:v=0
  · simp only[if_pos c0,e2,Option.bind_some];exact⟨_,_,_,_,_,rfl,S2⟩
  by_cases c1:v=1
  · simp only[if_neg c0,if_pos c1,e3,Option.bind_some];exact⟨_,_,_,_,_,rfl,S3⟩
  by_cases c2:v=2
  · simp only[if_neg c0,if_neg c1,if_pos c2,e4,Option.bind_some];exact⟨_,_,_,_,_,rfl,S4⟩
  · simp only[if_neg c0,if_neg c1,if_neg c2];exact⟨_,_,_,_,_,rfl,S1⟩
def Dr (c:List Int) (g:Nat→Option (Int×Int×Int×Int×Int×Int)):Prop:=∃a b e d q h,Ev g (a,b,e,d,q,h)∧okS c q
theorem Dr.of {c:List Int} {f g:Nat→Option (Int×Int×Int×Int×Int×Int)} (h:Dr c f) (up:∀r,Ev f r→Ev g r):Dr c g:=by
  obtain⟨a,b,e,d,q,h',h1,h2⟩:=h
  exact⟨a,b,e,d,q,h',up _ h1,h2⟩
theorem dj3 {C:List Int} {q:Int} (S:okS C q) (h a b c d:Int):Dr C (fun k=>spec_l04Draw.j3 k C q h a b c d):=by
  obtain⟨v,q',h',e,S',_⟩:=next_ok S h 40
  by_cases c0:v=0
  · refine⟨1001,b,c,d,q',h',Ev.up ?_,S'⟩
    simp only[spec_l04Draw.j3]
    refine Ev.bindv e ?_
    simp only[if_pos c0]
    exact Ev.now _
  by_cases c1:v=1
  · refine⟨a,b,a,b,q',h',Ev.up ?_,S'⟩
    simp only[spec_l04Draw.j3]
    refine Ev.bindv e ?_
    simp only[if_neg c0,if_pos c1]
    exact Ev.now _
  · refine⟨a,b,c,d,q',h',Ev.up ?_,S'⟩
    simp only[spec_l04Draw.j3]
    refine Ev.bindv e ?_
    simp only[if_neg c0,if_neg c1]
    exact Ev.now _
theorem dj2 {C:List Int} {q:Int} (S:okS C q) (h a b c d:Int):Dr C (fun k=>spec_l04Draw.j2 k C q h a b c d):=by
  obtain⟨v,q1,h1,e1,S1,_⟩:=next_ok S h 9
  by_cases c0:v=0
  · obtain⟨v2,q2,h2,e2,S2⟩:=pick_ok S1 h1 [2,3,4,5,9] (by simp)
    obtain⟨v3,q3,h3,e3,S3,_⟩:=next_ok S2 h2 5
    refine(dj3 S3 h3 v2 (wrap64 (v3 - 2)) 0 1).of fun r hr=>Ev.up ?_
    simp only[spec_l04Draw.j2]
    refine Ev.bindv e1 ?_
    simp only[if_pos c0]
    exact Ev.bindv e2 (Ev.bindv e3 hr)
  by_cases c1:v=1
  · obtain⟨v2,q2,h2,e2,S2⟩:=pick_ok S1 h1 [2,3,4,7,1] (by simp)
    refine(dj3 S2 h2 1 0 0 v2).of fun r hr=>Ev.up ?_
    simp only[spec_l04Draw.j2]
    refine Ev.bindv e1 ?_
    simp only[if_neg c0,if_pos c1]
    exact Ev.bindv e2 hr
  by_cases c2:v=2
  · obtain⟨v2,q2,h2,e2,S2⟩:=pick_ok S1 h1 [1, -1,2,3] (by simp)
    refine(dj3 S2 h2 0 v2 1 0).of fun r hr=>Ev.up ?_
    simp only[spec_l04Draw.j2]
    refine Ev.bindv e1 ?_
    simp only[if_neg c0,if_neg c1,if_pos c2]
    exact Ev.bindv e2 hr
  by_cases c3:v=3
  · obtain⟨v2,q2,h2,e2,S2,_⟩:=next_ok S1 h1 2001
    obtain⟨v3,q3,h3,e3,S3,_⟩:=next_ok S2 h2 9
    obtain⟨v4,q4,h4,e4,S4,_⟩:=next_ok S3 h3 9
    obtain⟨v5,q5,h5,e5,S5,_⟩:=next_ok S4 h4 2001
    refine(dj3 S5 h5 (wrap64 (v2 - 1000)) v3 v4 (wrap64 (v5 - 1000))).of fun r hr=>Ev.up ?_
    simp only[spec_l04Draw.j2]
    refine Ev.bindv e1 ?_
    simp only[if_neg c0,if_neg c1,if_neg c2,if_pos c3]
    exact Ev.bindv e2 (Ev.bindv e3 (Ev.bindv e4 (Ev.bindv e5 hr)))
  by_cases c4:v=4
  · obtain⟨v2,q2,h2,e2,S2,_⟩:=next_ok S1 h1 7
    refine(dj3 S2 h2 1 (wrap64 (v2 - 3)) 0 1).of fun r hr=>Ev.up ?_
    simp only[spec_l04Draw.j2]
    refine Ev.bindv e1 ?_
    simp only[if_neg c0,if_neg c1,if_neg c2,if_neg c3,if_pos c4]
    exact Ev.bindv e2 hr
  · refine(dj3 S1 h1 a b c d).of fun r hr=>Ev.up ?_
    simp only[spec_l04Draw.j2]
    refine Ev.bindv e1 ?_
    simp only[if_neg c0,if_neg c1,if_neg c2,if_neg c3,if_neg c4]
    exact hr
theorem wr0:wrap64 (0+1)=1:=by unfold wrap64;omega
theorem wr1:wrap64 (1+1)=2:=by unfold wrap64;omega
theorem wr2:wrap64 (2+1)=3:=by unfold wrap64;omega
theorem wr3:wrap64 (3+1)=4:=by unfold wrap64;omega
theorem dl0 {C:List Int} (n:Nat):∀(i:Int),0≤i→i+n=5→∀(q h a b c d:Int),okS C q→Dr C (fun k=>spec_l04Draw.l0 k i C q h a b c d):=by
  induction n with
  |zero=>
   intro i h0 hi q h a b c d S
   refine(dj2 S h a b c d).of fun r hr=>Ev.up ?_
   simp only[spec_l04Draw.l0,if_neg (show ¬i<5 by omega)]
   exact hr
  |succ n ih=>
   intro i h0 hi q h a b c d S
   obtain⟨v1,q1,h1,e1,S1,_⟩:=next_ok S h 11
   obtain⟨v2,q2,h2,e2,S2,_⟩:=next_ok S1 h1 11
   obtain⟨v3,q3,h3,e3,S3,_⟩:=next_ok S2 h2 11
   obtain⟨v4,q4,h4,e4,S4,_⟩:=next_ok S3 h3 11
   have go:∀g:Nat→Option (Int×Int×Int×Int×Int×Int),Dr C g→(∀r,Ev g r→Ev (fun k=>if wrap64 (wrap64 (wrap64 (v1 - 5)*wrap64 (v4 - 5)) - wrap64 (wrap64 (v2 - 5)*wrap64 (v3 - 5)))=0 then spec_l04Draw.l0 k (wrap64 (i+1)) C q4 h4 (wrap64 (v1 - 5)) (wrap64 (v2 - 5)) (wrap64 (v3 - 5)) (wrap64 (v4 - 5)) else spec_l04Draw.j2 k C q4 h4 (wrap64 (v1 - 5)) (wrap64 (v2 - 5)) (wrap64 (v3 - 5)) (wrap64 (v4 - 5))) r)→Dr C (fun k=>spec_l04Draw.l0 k i C q h a b c d):=by
      intro g hg hup
      refine hg.of fun r hr=>Ev.up ?_
      simp only[spec_l04Draw.l0,if_pos (show i<5 by omega)]
      refine Ev.up ?_
      simp only[spec_l04Draw.l1,if_pos (show (0:Int)<4 by decide),wr0]
      refine Ev.bindv e1 ?_
      simp only[if_true]
      refine Ev.up ?_
      simp only[spec_l04Draw.l1,if_pos (show (1:Int)<4 by decide),if_neg (show ¬(1:Int)=0 by decide),if_true,wr1]
      refine Ev.bindv e2 ?_
      refine Ev.up ?_
      simp only[spec_l04Draw.l1,if_pos (show (2:Int)<4 by decide),if_neg (show ¬(2:Int)=0 by decide),if_neg (show ¬(2:Int)=1 by decide),if_true,wr2]
      refine Ev.bindv e3 ?_
      refine Ev.up ?_
      simp only[spec_l04Draw.l1,if_pos (show (3:Int)<4 by decide),if_neg (show ¬(3:Int)=0 by decide),if_neg (show ¬(3:Int)=1 by decide),if_neg (show ¬(3:Int)=2 by decide),if_true,wr3]
      refine Ev.bindv e4 ?_
      refine Ev.up ?_
      simp only[spec_l04Draw.l1,if_neg (show ¬(4:Int)<4 by decide),spec_l04Det.f,Option.bind_some]
      exact hup r hr
   by_cases c0:wrap64 (wrap64 (wrap64 (v1 - 5)*wrap64 (v4 - 5)) - wrap64 (wrap64 (v2 - 5)*wrap64 (v3 - 5)))=0
   · refine go _ (ih (i+1) (by omega) (by omega) q4 h4 (wrap64 (v1 - 5)) (wrap64 (v2 - 5)) (wrap64 (v3 - 5)) (wrap64 (v4 - 5)) S4) fun r hr=>?_
     simp only[if_pos c0,wid (n:=i+1) (by omega) (by omega)]
     exact hr
   · refine go _ (dj2 S4 h4 (wrap64 (v1 - 5)) (wrap64 (v2 - 5)) (wrap64 (v3 - 5)) (wrap64 (v4 - 5))) fun r hr=>?_
     simp only[if_neg c0]
     exact hr
theorem matDraw_ok {C:List Int} {q:Int} (S:okS C q) (h:Int):∃(g:M4) (q' h':Int),Ev (fun k=>spec_l04Draw.f k C q h) (g.a,g.b,g.c,g.d,q',h')∧okS C q':=by
  obtain⟨a,b,c,d,q',h',h1,h2⟩:=dl0 (C:=C) 5 0 (by omega) (by omega) q h 0 0 0 0 S
  exact⟨⟨a,b,c,d⟩,q',h',h1,h2⟩
theorem Ex.bind {α β:Type} {o:Nat→Option α} {f:Nat→α→Option β} {a:α} (h:Ev o a) (k:∃r,Ev (fun n=>f n a) r):∃r,Ev (fun n=>(o n).bind (f n)) r:=by
  obtain⟨r,e⟩:=k
  exact⟨r,Ev.bind h e⟩
theorem Ex.bindv {α β:Type} {o:Option α} {f:Nat→α→Option β} {a:α} (h:o=some a) (k:∃r,Ev (fun n=>f n a) r):∃r,Ev (fun n=>o.bind (f n)) r:=by
  obtain⟨r,e⟩:=k
  exact⟨r,Ev.bindv h e⟩
theorem ipow_le7 {p:Int} (h1:1≤p) (h7:p≤7) (n:Nat):p^n≤7^n:=by
  induction n with
  |zero=>simp
  |succ n ih=>
   rw[Int.pow_succ,Int.pow_succ]
   have:=ipow_pos h1 n
   exact Int.mul_le_mul ih h7 (by omega) (by have:=ipow_pos (p:=7) (by omega) n;omega)
theorem pow7_12 {p:Int} (h1:1≤p) (h7:p≤7) {n:Nat} (hn:n≤12):p^n≤13841287201:=by
  have a:=ipow_le7 h1 h7 n
  have b:=ipow_mono (p:=7) (by omega) hn
  have c: (7:Int)^12=13841287201:=by decide
  omega
theorem powW7 {p:Int} (h1:1≤p) (h7:p≤7) {n:Nat} (hn:n≤12):powW p n 1=p^n:=by
  have:=pow7_12 h1 h7 hn
  rw[powW_fit p h1 n 1 (by omega) (by omega),Int.one_mul]
theorem of_any {p num L:Int} (D:Nat) (hp2:2≤p) (hp7:p≤7) (hD:D≤6) (h1: -1152921504606846976≤num) (h2:num≤1152921504606846976):
    ∃r:Int×Int×Int×Bool,Ev (fun k=>spec_l01Of.f k p num (p^D) L) r:=by
  have hpow:∀j:Nat,p^j≠0:=fun j=>Int.pow_ne_zero (by omega)
  have hpD:=pow7_12 (by omega) hp7 (show D≤12 by omega)
  have hpD1:=ipow_pos (p:=p) (by omega) D
  unfold spec_l01Of.f
  by_cases hL: -6≤L∧L≤6
  case neg=>
    refine⟨(0,0,0,false),Ev.bindv (In_eq _ _ _) ?_⟩
    rw[decide_eq_false hL]
    simp only[Bool.false_eq_true,if_false]
    exact Ev.now _
  have eIn:spec_l01In.f L (-6) 6=some true:=by rw[In_eq,decide_eq_true hL]
  rw[eIn]
  simp only[Option.bind_some,if_true]
  by_cases h0:num=0
  · simp only[if_pos h0];exact⟨_,Ev.now _⟩
  simp only[if_neg h0]
  have hvD:val p (p^D)=D:=val_eq hp2 (u:=1) (by simp) (fun h=>by have:=Int.le_of_dvd (by omega) h;omega)
  have hv60:=val_le_of_lt hp2 h0 61 (by omega)
  obtain⟨u,hu,hn⟩:=val_spec hp2 h0
  have e1:=spec_l01Val_ev hp2 h0 (by omega) (by omega)
  have e2:=spec_l01Val_ev hp2 (hpow D) (by omega) (by omega)
  rw[hvD] at e2
  generalize hv:val p num=v at*
  by_cases hle:L≤(v:Int) - (D:Int)
  · refine Ex.bind e1 (Ex.bind e2 ?_)
    rw[wid (n:=(v:Int) - (D:Int)) (by omega) (by omega),wid (n:=(D:Int) - (v:Int)) (by omega) (by omega)]
    simp only[if_pos hle];exact⟨_,Ev.now _⟩
  obtain⟨dn,hdn⟩:∃dn:Nat,(dn:Int)=mx ((D:Int) - (v:Int)) 0:=⟨D - v,by rw[mx_eq];split<;>omega⟩
  have hdn2: (dn:Int)=if (D:Int) - v<0 then 0 else(D:Int) - v:=by rw[hdn,mx_eq]
  have hup: (mx ((v:Int) - (D:Int)) 0)=if (v:Int) - D<0 then 0 else(v:Int) - D:=mx_eq _ _
  have hdn6:dn≤D:=by split at hdn2<;>omega
  have hmp:1≤L+dn:=by split at hdn2<;>omega
  have hmp2: (L+dn).toNat≤12:=by omega
  have hu0:u≠0:=by intro e;rw[e] at hn;exact hn (Int.dvd_zero p)
  have hpv1:=ipow_pos (p:=p) (by omega) v
  have hpv:p^v≤1152921504606846976:=by
    have:num.natAbs=(p^v).natAbs*u.natAbs:=by rw[←Int.natAbs_mul,←hu]
    have h3: (p^v).natAbs*1≤(p^v).natAbs*u.natAbs:=Nat.mul_le_mul_left _ (by omega)
    omega
  have pv:powW p v 1=p^v:=by rw[powW_fit p (by omega) v 1 (by omega) (by omega),Int.one_mul]
  have hm1:p^(L+(dn:Int)).toNat≤13841287201:=pow7_12 (by omega) hp7 hmp2
  have hm0:2≤p^(L+(dn:Int)).toNat:=by
    have:=ipow_mono (p:=p) (by omega) (show 1≤(L+(dn:Int)).toNat by omega)
    rw[Int.pow_one] at this;omega
  refine Ex.bind e1 (Ex.bind e2 ?_)
  rw[wid (n:=(v:Int) - (D:Int)) (by omega) (by omega),wid (n:=(D:Int) - (v:Int)) (by omega) (by omega)]
  simp only[if_neg hle]
  rw[←hdn]
  simp only[if_neg (show ¬(dn:Int)>6 by omega)]
  rw[wid (n:=L+(dn:Int)) (by omega) (by omega)]
  refine Ex.bind (spec_l01Power_ev p (L+dn) (by omega)) ?_
  rw[powW7 (by omega) hp7 hmp2]
  refine Ex.bind (spec_l01Power_ev p v (by omega)) ?_
  rw[Int.toNat_natCast,pv]
  simp only[if_neg (hpow v)]
  refine Ex.bind (spec_l01Power_ev p D (by omega)) ?_
  rw[Int.toNat_natCast,powW7 (by omega) hp7 (show D≤12 by omega)]
  simp only[if_neg (hpow D)]
  rw[Int.tdiv_self (hpow D),show wrap64 1=1 from wid (by omega) (by omega)]
  refine Ex.bind (spec_l01InvMod_one hm0 (by omega)) ?_
  refine Ex.bindv (spec_l01MulMod_eq (by omega) (by omega)) ?_
  refine Ex.bind (spec_l01Power_ev p _ (by rw[hup];split<;>omega)) ?_
  refine Ex.bindv (spec_l01MulMod_eq (by omega) (by omega)) ?_
  exact⟨_,Ev.now _⟩
theorem drawB_any {c:List Int} {q p:Int} (S:okS c q) (h:Int) (hp2:2≤p) (hp7:p≤7):∃a b d q' h',Ev (fun k=>spec_l01Draw.f k c q h p) (a,b,d,q',h')∧okS c q':=by
  obtain⟨v1,q1,h1,e1,S1,a1,b1⟩:=next_ok S h 13
  obtain⟨L,q2,h2,e2,S2,m2⟩:=pick_in S1 h1 [0,1,2,3,wrap64 (v1 - 6)] (by simp)
  obtain⟨v3,q3,h3,e3,S3,_⟩:=next_ok S2 h2 6
  unfold spec_l01Draw.f
  by_cases c3:v3=0
  · refine⟨L,0,0,q3,h3,Ev.bindv e1 (Ev.bindv e2 (Ev.bindv e3 ?_)),S3⟩
    simp only[if_pos c3];exact Ev.now _
  obtain⟨v4,q4,h4,e4,S4,a4,b4⟩:=next_ok S3 h3 20
  obtain⟨v5,q5,h5,e5,S5,a5,b5⟩:=next_ok S4 h4 2000000
  obtain⟨n,q6,h6,e6,S6,m6⟩:=pick_in S5 h5 [wrap64 (v4 - 10),wrap64 (v5 - 1000000)] (by simp)
  have hn: -1000000≤n∧n≤1000000:=by
    have:=b4 (by omega)
    have:=b5 (by omega)
    rw[wid (n:=v4 - 10) (by omega) (by omega),wid (n:=v5 - 1000000) (by omega) (by omega)] at m6
    simp only[List.mem_cons,List.not_mem_nil,or_false] at m6
    omega
  obtain⟨v7,q7,h7,e7,S7,a7,b7⟩:=next_ok S6 h6 7
  obtain⟨x,q8,h8,e8,S8,m8⟩:=pick_in S7 h7 [0,0,1,2,v7] (by simp)
  have hx:0≤x∧x≤6:=by
    have:=b7 (by omega)
    simp only[List.mem_cons,List.not_mem_nil,or_false] at m8
    omega
  have ep:=spec_l01Power_ev p x (by omega)
  rw[powW7 (by omega) hp7 (by omega)] at ep
  obtain⟨B,eo⟩:=of_any (p:=p) (num:=n) (L:=L) x.toNat hp2 hp7 (by omega) (by omega) (by omega)
  cases hB:B.2.2.2 with
  |true=>
   refine⟨B.1,B.2.1,B.2.2.1,q8,h8,Ev.bindv e1 (Ev.bindv e2 (Ev.bindv e3 ?_)),S8⟩
   simp only[if_neg c3]
   refine Ev.bindv e4 (Ev.bindv e5 (Ev.bindv e6 (Ev.bindv e7 (Ev.bindv e8 (Ev.bind ep (Ev.bind eo ?_))))))
   simp only[hB,if_true]
   exact Ev.now _
  |false=>
   refine⟨L,0,0,q8,h8,Ev.bindv e1 (Ev.bindv e2 (Ev.bindv e3 ?_)),S8⟩
   simp only[if_neg c3]
   refine Ev.bindv e4 (Ev.bindv e5 (Ev.bindv e6 (Ev.bindv e7 (Ev.bindv e8 (Ev.bind ep (Ev.bind eo ?_))))))
   simp only[hB,Bool.false_eq_true,if_false]
   exact Ev.now _
theorem clamp_bd (a:Int):2≤mn (mx a 2) 7∧mn (mx a 2) 7≤7:=by unfold mn mx;split<;>split<;>omega
theorem side_ok {c:List Int} {q:Int} (S:okS c q) (h p:Int):∃a b d o q' h',Ev (fun k=>spec_l09Side.f k c q h p) (a,b,d,o,q',h')∧okS c q':=by
  obtain⟨a,b,d,q1,h1,e1,S1⟩:=drawB_any S h (clamp_bd p).1 (clamp_bd p).2
  obtain⟨a',b',d',q2,h2,e2,S2⟩:=badB_ok S1 h1 a b d
  obtain⟨v,q3,h3,e3,S3,_⟩:=next_ok S2 h2 4
  exact⟨a',b',d',v==0,q3,h3,Ev.bind e1 (Ev.bindv e2 (Ev.bindv e3 (Ev.now _))),S3⟩
theorem pow_b {p:Int} (hp:primeB p=true) (n:Nat) (h:n≤22∨(n≤23∧p≠7)):p^n≤3909821048582988049:=by
  rcases prime_cases hp with e|e|e|e
  · have h1:p^n≤p^23:=ipow_mono (by omega) (by omega)
    have h2:p^23≤3909821048582988049:=by subst e;decide
    omega
  · have h1:p^n≤p^23:=ipow_mono (by omega) (by omega)
    have h2:p^23≤3909821048582988049:=by subst e;decide
    omega
  · have h1:p^n≤p^23:=ipow_mono (by omega) (by omega)
    have h2:p^23≤3909821048582988049:=by subst e;decide
    omega
  · have h1:p^n≤p^22:=ipow_mono (by omega) (by omega)
    have h2:p^22≤3909821048582988049:=by subst e;decide
    omega
theorem cop {p:Int} (hp:primeB p=true) {g:Int} (h:¬p∣g):Int.gcd g p=1:=by
  have h1: (Int.gcd g p:Int)∣g:=Int.gcd_dvd_left g p
  have h2: (Int.gcd g p:Int)∣p:=Int.gcd_dvd_right g p
  generalize Int.gcd g p=n at h1 h2
  rcases prime_cases hp with e|e|e|e<;>subst e
  · have h3:n∣2:=Int.natCast_dvd_natCast.1 h2
    have:∀n,n<3→n∣2→n=1∨n=2:=by decide
    rcases this n (by have:=Nat.le_of_dvd (by omega) h3;omega) h3 with h4|h4
    · exact h4
    · subst h4;exact absurd h1 h
  · have h3:n∣3:=Int.natCast_dvd_natCast.1 h2
    have:∀n,n<4→n∣3→n=1∨n=3:=by decide
    rcases this n (by have:=Nat.le_of_dvd (by omega) h3;omega) h3 with h4|h4
    · exact h4
    · subst h4;exact absurd h1 h
  · have h3:n∣5:=Int.natCast_dvd_natCast.1 h2
    have:∀n,n<6→n∣5→n=1∨n=5:=by decide
    rcases this n (by have:=Nat.le_of_dvd (by omega) h3;omega) h3 with h4|h4
    · exact h4
    · subst h4;exact absurd h1 h
  · have h3:n∣7:=Int.natCast_dvd_natCast.1 h2
    have:∀n,n<8→n∣7→n=1∨n=7:=by decide
    rcases this n (by have:=Nat.le_of_dvd (by omega) h3;omega) h3 with h4|h4
    · exact h4
    · subst h4;exact absurd h1 h
theorem unit_of {p:Int} (hp:primeB p=true) {g:Int} (h0:0≤g) (h:¬p∣g) (j:Nat) (hj:g∣p^j):g=1:=by
  induction j with
  |zero=>
   rw[Int.pow_zero] at hj
   have:=Int.eq_one_of_dvd_one h0 hj
   exact this
  |succ j ih=>
   rw[Int.pow_succ] at hj
   have hk:g.natAbs∣(p^j).natAbs*p.natAbs:=by rw[←Int.natAbs_mul];exact Int.natAbs_dvd_natAbs.2 hj
   exact ih (Int.natAbs_dvd_natAbs.1 (Nat.Coprime.dvd_of_dvd_mul_right (show Nat.Coprime g.natAbs p.natAbs from cop hp h) hk))
theorem g4_one {p:Int} (hp:primeB p=true) {a b d:Int} (j:Nat) (h:j=0∨¬p∣a∨¬p∣b∨¬p∣d):g4 a b (p^j) d=1:=by
  obtain⟨h1,h2,h3,h4⟩:=g4_dvd a b (p^j) d
  have h0:=g4_nonneg a b (p^j) d
  rcases h with h|h
  · subst h
    exact Int.eq_one_of_dvd_one h0 (Int.dvd_trans h3 (by rw[Int.pow_zero];exact Int.dvd_refl 1))
  · refine unit_of hp h0 (fun hd=>?_) j h3
    rcases h with h|h|h
    · exact h (Int.dvd_trans hd h1)
    · exact h (Int.dvd_trans hd h2)
    · exact h (Int.dvd_trans hd h4)
theorem fit_one {a b c d:Int} (h:g4 a b c d=1):fitM a b c d=true→(-1000≤a∧a≤1000)∧(-1000≤b∧b≤1000)∧(-1000≤c∧c≤1000)∧(-1000≤d∧d≤1000):=by
  intro hf
  unfold fitM entB rM byM at hf
  rw[h] at hf
  simp only[Bool.and_eq_true,decide_eq_true_eq] at hf
  rcases sg_or a b with e|e
  · rw[e] at hf;simpa using hf
  · rw[e] at hf
    simp only[Int.one_mul,Int.tdiv_neg,Int.tdiv_one] at hf
    omega
def pmA (p T:Int) (D e:Int):Int:=T*p^D.toNat*p^(max (-e) 0).toNat
def pmB (p S T D D' e:Int):Int:=p^(max e 0).toNat*p^D.toNat*p^D'.toNat - S*T*p^(max (-e) 0).toNat
def pmC (p D D' e:Int):Int:=p^D.toNat*p^D'.toNat*p^(max (-e) 0).toNat
def pmD (p S D' e:Int):Int:= -S*p^D'.toNat*p^(max (-e) 0).toNat
theorem pm_det {p:Int} (hp:2≤p) (S T D D' e:Int):pmA p T D e*pmD p S D' e - pmB p S T D D' e*pmC p D D' e≠0:=by
  have h:pmA p T D e*pmD p S D' e - pmB p S T D D' e*pmC p D D' e= -(p^(max e 0).toNat*p^D.toNat*p^D'.toNat*(p^D.toNat*p^D'.toNat*p^(max (-e) 0).toNat)):=by
    unfold pmA pmB pmC pmD
    generalize p^(max e 0).toNat=u
    generalize p^D.toNat=x
    generalize p^D'.toNat=y
    generalize p^(max (-e) 0).toNat=z
    rw[Int.sub_mul]
    have:T*x*z*(-S*y*z)= -(S*T*z*(x*y*z)):=by
      simp only[Int.neg_mul,Int.mul_neg]
      congr 1
      ac_rfl
    omega
  rw[h]
  have hpos:∀n:Nat,p^n≠0:=fun n=>Int.pow_ne_zero (by omega)
  intro h0
  have:=Int.neg_eq_zero.1 h0
  simp only[Int.mul_eq_zero] at this
  rcases this with ((h|h)|h)|((h|h)|h)<;>exact hpos _ h
theorem pm_norm0 {p:Int} (hp:primeB p=true) (B C:Int) (n:Nat):∀(num:Int),B*p^n=num*C→∃(num':Int) (n':Nat),n'≤n∧B*p^n'=num'*C∧(n'=0∨¬p∣num')∧num'.natAbs≤num.natAbs:=by
  have hp2:=prime_lo hp
  induction n with
  |zero=>intro num h;exact⟨num,0,Nat.le_refl _,h,.inl rfl,Nat.le_refl _⟩
  |succ n ih=>
   intro num h
   by_cases hd:p∣num
   · obtain⟨u,hu⟩:=hd
     have h1:B*p^n=u*C:=by
        rw[hu,Int.pow_succ] at h
        refine Int.eq_of_mul_eq_mul_left (a:=p) (by omega) ?_
        rw[Int.mul_left_comm p B,Int.mul_comm p (p^n),h,Int.mul_assoc]
     have hua:u.natAbs≤num.natAbs:=by
        rw[hu,Int.natAbs_mul]
        exact Nat.le_mul_of_pos_left _ (by omega)
     obtain⟨num',n',q1,q2,q3,q4⟩:=ih u h1
     exact⟨num',n',by omega,q2,q3,by omega⟩
   · exact⟨num,n+1,Nat.le_refl _,h,.inr hd,Nat.le_refl _⟩
theorem pm_same {p:Int} (hp:primeB p=true) {S T D D' e num:Int} {n j:Nat} (hD:0≤D) (hD':0≤D') (hB:pmB p S T D D' e*p^n=num*pmC p D D' e) (h1:D.toNat≤j) (h2:D'.toNat≤j) (h3:n≤j):
    (rM (pmA p T D e) (pmB p S T D D' e) (pmC p D D' e) (pmD p S D' e) (pmA p T D e)=rM (T*p^(j - D'.toNat)) (num*p^(j - n)) (p^j) (-S*p^(j - D.toNat)) (T*p^(j - D'.toNat))∧
    rM (pmA p T D e) (pmB p S T D D' e) (pmC p D D' e) (pmD p S D' e) (pmB p S T D D' e)=rM (T*p^(j - D'.toNat)) (num*p^(j - n)) (p^j) (-S*p^(j - D.toNat)) (num*p^(j - n))∧
    rM (pmA p T D e) (pmB p S T D D' e) (pmC p D D' e) (pmD p S D' e) (pmC p D D' e)=rM (T*p^(j - D'.toNat)) (num*p^(j - n)) (p^j) (-S*p^(j - D.toNat)) (p^j)∧
    rM (pmA p T D e) (pmB p S T D D' e) (pmC p D D' e) (pmD p S D' e) (pmD p S D' e)=rM (T*p^(j - D'.toNat)) (num*p^(j - n)) (p^j) (-S*p^(j - D.toNat)) (-S*p^(j - D.toNat)))∧
    T*p^(j - D'.toNat)*(-S*p^(j - D.toNat)) - num*p^(j - n)*p^j≠0:=by
  have hp2:=prime_lo hp
  have hpos:∀n:Nat,p^n≠0:=fun n=>Int.pow_ne_zero (by omega)
  have hC:pmC p D D' e≠0:=by
    unfold pmC
    intro h
    simp only[Int.mul_eq_zero] at h
    rcases h with (h|h)|h<;>exact hpos _ h
  have eA:p^j*pmA p T D e=pmC p D D' e*(T*p^(j - D'.toNat)):=by
    have hj:p^j=p^D'.toNat*p^(j - D'.toNat):=by rw[←Int.pow_add];congr 1;omega
    unfold pmA pmC
    rw[hj]
    generalize p^(j - D'.toNat)=w
    ac_rfl
  have eD:p^j*pmD p S D' e=pmC p D D' e*(-S*p^(j - D.toNat)):=by
    have hj:p^j=p^D.toNat*p^(j - D.toNat):=by rw[←Int.pow_add];congr 1;omega
    unfold pmD pmC
    rw[hj]
    generalize p^(j - D.toNat)=w
    generalize -S=s
    ac_rfl
  have eB:p^j*pmB p S T D D' e=pmC p D D' e*(num*p^(j - n)):=by
    have hj:p^j=p^n*p^(j - n):=by rw[←Int.pow_add];congr 1;omega
    rw[hj,show p^n*p^(j - n)*pmB p S T D D' e=pmB p S T D D' e*p^n*p^(j - n) from by ac_rfl,hB]
    ac_rfl
  have eC:p^j*pmC p D D' e=pmC p D D' e*p^j:=Int.mul_comm _ _
  have hdet:=pm_det hp2 S T D D' e
  have hne:=rowNe hdet
  have det2:T*p^(j - D'.toNat)*(-S*p^(j - D.toNat)) - num*p^(j - n)*p^j≠0:=by
    intro h0
    apply hdet
    have q:p^j*p^j*(pmA p T D e*pmD p S D' e - pmB p S T D D' e*pmC p D D' e)=0:=by
      rw[Int.mul_sub,show p^j*p^j*(pmA p T D e*pmD p S D' e)=(p^j*pmA p T D e)*(p^j*pmD p S D' e) from by ac_rfl,
        show p^j*p^j*(pmB p S T D D' e*pmC p D D' e)=(p^j*pmB p S T D D' e)*(p^j*pmC p D D' e) from by ac_rfl,eA,eB,eC,eD,
        show pmC p D D' e*(T*p^(j - D'.toNat))*(pmC p D D' e*(-S*p^(j - D.toNat)))=pmC p D D' e*pmC p D D' e*(T*p^(j - D'.toNat)*(-S*p^(j - D.toNat))) from by ac_rfl,
        show pmC p D D' e*(num*p^(j - n))*(pmC p D D' e*p^j)=pmC p D D' e*pmC p D D' e*(num*p^(j - n)*p^j) from by ac_rfl,←Int.mul_sub,h0,Int.mul_zero]
    rcases Int.mul_eq_zero.1 q with h|h
    · rcases Int.mul_eq_zero.1 h with h|h<;>exact absurd h (hpos _)
    · exact h
  have hne2:=rowNe det2
  have k1:=rM_mul (m:=p^j) (pmC p D D' e) (pmD p S D' e) (hpos j) hne
  have k2:=rM_mul (m:=pmC p D D' e) (p^j) (-S*p^(j - D.toNat)) hC hne2
  rw[eA,eB,eC,eD] at k1
  exact⟨⟨k1.1.symm.trans k2.1,k1.2.1.symm.trans k2.2.1,k1.2.2.1.symm.trans k2.2.2.1,k1.2.2.2.symm.trans k2.2.2.2⟩,det2⟩
theorem g4_chain (A B C D:Int): (Int.gcd D (Int.gcd C (Int.gcd B (Int.gcd A 0:Int):Int):Int):Int)=g4 A B C D:=by
  unfold g4
  congr 1
  show Nat.gcd D.natAbs (Nat.gcd C.natAbs (Nat.gcd B.natAbs (Nat.gcd A.natAbs 0)))=Nat.gcd (Nat.gcd A.natAbs B.natAbs) (Nat.gcd C.natAbs D.natAbs)
  rw[Nat.gcd_zero_right]
  apply Nat.dvd_antisymm
  · refine Nat.dvd_gcd (Nat.dvd_gcd ?_ ?_) (Nat.dvd_gcd ?_ ?_)
    · exact Nat.dvd_trans (Nat.gcd_dvd_right _ _) (Nat.dvd_trans (Nat.gcd_dvd_right _ _) (Nat.gcd_dvd_right _ _))
    · exact Nat.dvd_trans (Nat.gcd_dvd_right _ _) (Nat.dvd_trans (Nat.gcd_dvd_right _ _) (Nat.gcd_dvd_left _ _))
    · exact Nat.dvd_trans (Nat.gcd_dvd_right _ _) (Nat.gcd_dvd_left _ _)
    · exact Nat.gcd_dvd_left _ _
  · refine Nat.dvd_gcd ?_ (Nat.dvd_gcd ?_ (Nat.dvd_gcd ?_ ?_))
    · exact Nat.dvd_trans (Nat.gcd_dvd_right _ _) (Nat.gcd_dvd_right _ _)
    · exact Nat.dvd_trans (Nat.gcd_dvd_right _ _) (Nat.gcd_dvd_left _ _)
    · exact Nat.dvd_trans (Nat.gcd_dvd_left _ _) (Nat.gcd_dvd_right _ _)
    · exact Nat.dvd_trans (Nat.gcd_dvd_left _ _) (Nat.gcd_dvd_left _ _)
theorem gstep {β:Type} {v d:Int} {cont:Nat→Int→Option β} {r:β} (hv:bd62 v) (hd:bd62 d) (h:Ev (fun k=>cont k (Int.gcd v d:Int)) r):
    Ev (fun k=>if v=0 then(if d=0 then cont k d else(spec_l01Gcd.f k v d).bind fun t=>cont k t) else(spec_l01Gcd.f k v d).bind fun t=>cont k t) r:=by
  unfold bd62 at hv hd
  have hb:Ev (fun k=>(spec_l01Gcd.f k v d).bind fun t=>cont k t) r:=Ev.bind (spec_l01Gcd_ev v d (by omega) (by omega) (by omega) (by omega)) h
  by_cases h1:v=0
  · by_cases h2:d=0
    · simp only[if_pos h1,if_pos h2]
      rw[h1,h2] at h
      rw[h2]
      exact h
    · simp only[if_pos h1,if_neg h2];exact hb
  · simp only[if_neg h1];exact hb
theorem gcd_bd62 {a b:Int} (ha:bd62 a) (hb:bd62 b):bd62 (Int.gcd a b:Int):=by
  have:=gcd_le ha hb
  unfold bd62
  omega
theorem paired_l2 {A B C D y:Int} (hA:bd62 A) (hB:bd62 B) (hC:bd62 C) (hD:bd62 D) (hy:y≠0):
    Ev (fun k=>spec_l09Paired.l2 k y 0 A B C D) (if entB (Int.tdiv A y)&&(entB (Int.tdiv B y)&&(entB (Int.tdiv C y)&&entB (Int.tdiv D y))) then(Int.tdiv A y,Int.tdiv B y,Int.tdiv C y,Int.tdiv D y,true) else(0,0,0,0,false)):=by
  have wx:∀x,bd62 x→wrap64 (Int.tdiv x y)=Int.tdiv x y:=fun x hx=>by have:=tdiv_bd y hx;exact wid (by omega) (by omega)
  have w1:wrap64 (0+1)=1:=by rw[wid (by omega) (by omega)];rfl
  have w2:wrap64 (1+1)=2:=by rw[wid (by omega) (by omega)];rfl
  have w3:wrap64 (2+1)=3:=by rw[wid (by omega) (by omega)];rfl
  have w4:wrap64 (3+1)=4:=by rw[wid (by omega) (by omega)];rfl
  refine Ev.up ?_
  simp only[spec_l09Paired.l2,if_pos (show (0:Int)<4 by decide),if_pos (rfl: (0:Int)=0),if_neg hy,wx A hA]
  refine Ev.bindv (In_eq _ _ _) ?_
  show Ev _ (if entB (Int.tdiv A y)&&_ then _ else _)
  cases hEA:entB (Int.tdiv A y) with
  |false=>
   rw[show decide (-1000≤Int.tdiv A y∧Int.tdiv A y≤1000)=false from hEA]
   simp only[Bool.false_eq_true,if_false,Bool.false_and];exact Ev.now _
  |true=>
   rw[show decide (-1000≤Int.tdiv A y∧Int.tdiv A y≤1000)=true from hEA]
   simp only[if_true,Bool.true_and,w1]
   refine Ev.up ?_
   simp only[spec_l09Paired.l2,if_pos (show (1:Int)<4 by decide),if_neg (show ¬(1:Int)=0 by decide),if_pos (rfl: (1:Int)=1),if_neg hy,wx B hB]
   refine Ev.bindv (In_eq _ _ _) ?_
   cases hEB:entB (Int.tdiv B y) with
   |false=>
    rw[show decide (-1000≤Int.tdiv B y∧Int.tdiv B y≤1000)=false from hEB]
    simp only[Bool.false_eq_true,if_false,Bool.false_and];exact Ev.now _
   |true=>
    rw[show decide (-1000≤Int.tdiv B y∧Int.tdiv B y≤1000)=true from hEB]
    simp only[if_true,Bool.true_and,w2]
    refine Ev.up ?_
    simp only[spec_l09Paired.l2,if_pos (show (2:Int)<4 by decide),if_neg (show ¬(2:Int)=0 by decide),if_neg (show ¬(2:Int)=1 by decide),if_pos (rfl: (2:Int)=2),if_neg hy,wx C hC]
    refine Ev.bindv (In_eq _ _ _) ?_
    cases hEC:entB (Int.tdiv C y) with
    |false=>
     rw[show decide (-1000≤Int.tdiv C y∧Int.tdiv C y≤1000)=false from hEC]
     simp only[Bool.false_eq_true,if_false,Bool.false_and];exact Ev.now _
    |true=>
     rw[show decide (-1000≤Int.tdiv C y∧Int.tdiv C y≤1000)=true from hEC]
     simp only[if_true,Bool.true_and,w3]
     refine Ev.up ?_
     simp only[spec_l09Paired.l2,if_pos (show (3:Int)<4 by decide),if_neg (show ¬(3:Int)=0 by decide),if_neg (show ¬(3:Int)=1 by decide),if_neg (show ¬(3:Int)=2 by decide),if_pos (rfl: (3:Int)=3),if_neg hy,wx D hD]
     refine Ev.bindv (In_eq _ _ _) ?_
     cases hED:entB (Int.tdiv D y) with
     |false=>
      rw[show decide (-1000≤Int.tdiv D y∧Int.tdiv D y≤1000)=false from hED]
      simp only[Bool.false_eq_true,if_false];exact Ev.now _
     |true=>
      rw[show decide (-1000≤Int.tdiv D y∧Int.tdiv D y≤1000)=true from hED]
      simp only[if_true,w4]
      refine Ev.up ?_
      simp only[spec_l09Paired.l2,if_neg (show ¬(4:Int)<4 by decide)]
      exact Ev.now _
theorem paired_l0 {A B C D:Int} (hA:bd62 A) (hB:bd62 B) (hC:bd62 C) (hD:bd62 D) (hne:A≠0∨B≠0):
    Ev (fun k=>spec_l09Paired.l0 k 0 0 A B C D) (if fitM A B C D then(rM A B C D A,rM A B C D B,rM A B C D C,rM A B C D D,true) else(0,0,0,0,false)):=by
  have w1:wrap64 (0+1)=1:=by rw[wid (by omega) (by omega)];rfl
  have w2:wrap64 (1+1)=2:=by rw[wid (by omega) (by omega)];rfl
  have w3:wrap64 (2+1)=3:=by rw[wid (by omega) (by omega)];rfl
  have w4:wrap64 (3+1)=4:=by rw[wid (by omega) (by omega)];rfl
  have z:bd62 0:=by unfold bd62;omega
  have d1:=gcd_bd62 hA z
  have d2:=gcd_bd62 hB d1
  have d3:=gcd_bd62 hC d2
  have d4:=gcd_bd62 hD d3
  refine Ev.up ?_
  simp only[spec_l09Paired.l0,if_pos (show (0:Int)<4 by decide),if_pos (rfl: (0:Int)=0),w1]
  refine gstep (cont:=fun k t=>spec_l09Paired.l0 k t 1 A B C D) hA z (Ev.up ?_)
  simp only[spec_l09Paired.l0,if_pos (show (1:Int)<4 by decide),if_neg (show ¬(1:Int)=0 by decide),if_pos (rfl: (1:Int)=1),w2]
  refine gstep (cont:=fun k t=>spec_l09Paired.l0 k t 2 A B C D) hB d1 (Ev.up ?_)
  simp only[spec_l09Paired.l0,if_pos (show (2:Int)<4 by decide),if_neg (show ¬(2:Int)=0 by decide),if_neg (show ¬(2:Int)=1 by decide),if_pos (rfl: (2:Int)=2),w3]
  refine gstep (cont:=fun k t=>spec_l09Paired.l0 k t 3 A B C D) hC d2 (Ev.up ?_)
  simp only[spec_l09Paired.l0,if_pos (show (3:Int)<4 by decide),if_neg (show ¬(3:Int)=0 by decide),if_neg (show ¬(3:Int)=1 by decide),if_neg (show ¬(3:Int)=2 by decide),if_pos (rfl: (3:Int)=3),w4]
  refine gstep (cont:=fun k t=>spec_l09Paired.l0 k t 4 A B C D) hD d3 (Ev.up ?_)
  simp only[spec_l09Paired.l0,if_neg (show ¬(4:Int)<4 by decide)]
  rw[g4_chain] at d4⊢
  have hy:=byM_ne C D hne
  have fin:=paired_l2 hA hB hC hD hy
  have j3:Ev (fun k=>spec_l09Paired.j3 k (byM A B C D) A B C D) (if fitM A B C D then(rM A B C D A,rM A B C D B,rM A B C D C,rM A B C D D,true) else(0,0,0,0,false)):=by
    refine Ev.up ?_
    simp only[spec_l09Paired.j3]
    exact fin
  unfold bd62 at d4
  have pos:sg A B=1→g4 A B C D=byM A B C D:=fun e=>by unfold byM;rw[e];omega
  have neg:sg A B= -1→wrap64 (-(g4 A B C D))=byM A B C D:=fun e=>by rw[wid (by omega) (by omega)];unfold byM;rw[e];omega
  refine Ev.up ?_
  simp only[spec_l09Paired.l1,if_pos (show (0:Int)<4 by decide),if_pos (rfl: (0:Int)=0),w1]
  by_cases hA0:A=0
  · simp only[if_pos hA0]
    have hB0:=hne.resolve_left (fun h=>h hA0)
    refine Ev.up ?_
    simp only[spec_l09Paired.l1,if_pos (show (1:Int)<4 by decide),if_neg (show ¬(1:Int)=0 by decide),if_pos (rfl: (1:Int)=1),if_neg hB0]
    by_cases hBn:B<0
    · simp only[if_pos hBn]
      rw[neg (by unfold sg;rw[if_pos (.inr ⟨hA0,hBn⟩)])];exact j3
    · simp only[if_neg hBn]
      rw[pos (by unfold sg;rw[if_neg (by omega)])];exact j3
  · simp only[if_neg hA0]
    by_cases hAn:A<0
    · simp only[if_pos hAn]
      rw[neg (by unfold sg;rw[if_pos (.inl hAn)])];exact j3
    · simp only[if_neg hAn]
      rw[pos (by unfold sg;rw[if_neg (by omega)])];exact j3
theorem mx_max3 (a b:Int):mx a b=max a b:=by unfold mx;split<;>omega
theorem pow_14 {p:Int} (hp:primeB p=true) (n:Nat) (h:n≤13):p^n≤96889010407:=by
  have hp2:=prime_lo hp
  have h1:p^n≤p^13:=ipow_mono (by omega) h
  have h2:p^13≤96889010407:=by rcases prime_cases hp with rfl|rfl|rfl|rfl<;>decide
  omega
theorem mulB {x y M N:Int} (hx:0≤x∧x≤M) (hy:0≤y∧y≤N):0≤x*y∧x*y≤M*N:=
  ⟨Int.mul_nonneg hx.1 hy.1,Int.mul_le_mul hx.2 hy.2 hy.1 (by omega)⟩
section
variable {p La Sa Da Lb Tb Db:Int} (h:ballB p La Sa Da=true) (h':ballB p Lb Tb Db=true)
def pmW (p La Sa Da Lb Tb Db:Int):Int×Int×Int×Int×Bool:=
  if fitM (pmA p Tb Da (La+Lb - 1)) (pmB p Sa Tb Da Db (La+Lb - 1)) (pmC p Da Db (La+Lb - 1)) (pmD p Sa Db (La+Lb - 1)) then
    (rM (pmA p Tb Da (La+Lb - 1)) (pmB p Sa Tb Da Db (La+Lb - 1)) (pmC p Da Db (La+Lb - 1)) (pmD p Sa Db (La+Lb - 1)) (pmA p Tb Da (La+Lb - 1)),
     rM (pmA p Tb Da (La+Lb - 1)) (pmB p Sa Tb Da Db (La+Lb - 1)) (pmC p Da Db (La+Lb - 1)) (pmD p Sa Db (La+Lb - 1)) (pmB p Sa Tb Da Db (La+Lb - 1)),
     rM (pmA p Tb Da (La+Lb - 1)) (pmB p Sa Tb Da Db (La+Lb - 1)) (pmC p Da Db (La+Lb - 1)) (pmD p Sa Db (La+Lb - 1)) (pmC p Da Db (La+Lb - 1)),
     rM (pmA p Tb Da (La+Lb - 1)) (pmB p Sa Tb Da Db (La+Lb - 1)) (pmC p Da Db (La+Lb - 1)) (pmD p Sa Db (La+Lb - 1)) (pmD p Sa Db (La+Lb - 1)),true)
  else(0,0,0,0,false)
def pmN (p La Sa Da Lb Tb Db:Int):Int:=if La+Lb - 1+(Da+Db)≥0 then p^(La+Lb - 1+(Da+Db)).toNat - Sa*Tb else 1 - Sa*Tb*p^(-(La+Lb - 1+(Da+Db))).toNat
def pmE (La Da Lb Db:Int):Nat:=if La+Lb - 1+(Da+Db)≥0 then(Da+Db).toNat else(-(La+Lb - 1)).toNat
include h h' in
theorem pm_rel:pmB p Sa Tb Da Db (La+Lb - 1)*p^pmE La Da Lb Db=pmN p La Sa Da Lb Tb Db*pmC p Da Db (La+Lb - 1):=by
  obtain⟨hp,hL,hD,_,_⟩:=ball_parts h
  obtain⟨_,hL',hD',_,_⟩:=ball_parts h'
  unfold pmB pmC pmN pmE
  by_cases hu:La+Lb - 1+(Da+Db)≥0
  · rw[if_pos hu,if_pos hu]
    have e1:p^(max (La+Lb - 1) 0).toNat*p^Da.toNat*p^Db.toNat=p^(La+Lb - 1+(Da+Db)).toNat*p^(max (-(La+Lb - 1)) 0).toNat:=by
      rw[←Int.pow_add,←Int.pow_add,←Int.pow_add];congr 1;omega
    have e2:p^(Da+Db).toNat=p^Da.toNat*p^Db.toNat:=by rw[←Int.pow_add];congr 1;omega
    rw[e1,e2,←Int.sub_mul]
    ac_rfl
  · rw[if_neg hu,if_neg hu]
    have e0:p^(max (La+Lb - 1) 0).toNat=1:=by rw[show (max (La+Lb - 1) 0).toNat=0 by omega,Int.pow_zero]
    have e1:p^(max (-(La+Lb - 1)) 0).toNat=p^Da.toNat*p^Db.toNat*p^(-(La+Lb - 1+(Da+Db))).toNat:=by
      rw[←Int.pow_add,←Int.pow_add];congr 1;omega
    have e2:p^(-(La+Lb - 1)).toNat=p^(max (-(La+Lb - 1)) 0).toNat:=by congr 1;omega
    rw[e0,Int.one_mul,e2,e1]
    generalize p^Da.toNat=x
    generalize p^Db.toNat=y
    generalize p^(-(La+Lb - 1+(Da+Db))).toNat=w
    rw[show Sa*Tb*(x*y*w)=x*y*(Sa*Tb*w) from by ac_rfl,show x*y - x*y*(Sa*Tb*w)=x*y*(1 - Sa*Tb*w) from by rw[Int.mul_sub,Int.mul_one]]
    ac_rfl
include h h' in
theorem pm_facts {num:Int} {n:Nat} (hn:n≤1000) (hB:pmB p Sa Tb Da Db (La+Lb - 1)*p^n=num*pmC p Da Db (La+Lb - 1)) (hu:n=0∨¬p∣num)
    (hf:fitM (pmA p Tb Da (La+Lb - 1)) (pmB p Sa Tb Da Db (La+Lb - 1)) (pmC p Da Db (La+Lb - 1)) (pmD p Sa Db (La+Lb - 1))=true):
    (0≤Tb∧Tb≤1000)∧(0≤Sa∧Sa≤1000)∧p^(max (max Da.toNat Db.toNat) n)≤1000∧(-1000≤num∧num≤1000):=by
  obtain⟨hp,hL,hD,_,_⟩:=ball_parts h
  obtain⟨_,hL',hD',_,_⟩:=ball_parts h'
  have hp2:=prime_lo hp
  have s0:=(ball_num h).1
  have t0:=(ball_num h').1
  have us:=ball_unit h
  have ut:=ball_unit h'
  generalize hj:max (max Da.toNat Db.toNat) n=j
  obtain⟨⟨r1,r2,r3,r4⟩,_⟩:=pm_same (S:=Sa) (T:=Tb) (j:=j) hp hD.1 hD'.1 hB (by omega) (by omega) (by omega)
  unfold fitM at hf
  rw[r1,r2,r3,r4] at hf
  have g1:g4 (Tb*p^(j - Db.toNat)) (num*p^(j - n)) (p^j) (-Sa*p^(j - Da.toNat))=1:=by
    refine g4_one hp j ?_
    by_cases j0:j=0
    · exact .inl j0
    · right
      rcases(show j=Db.toNat∨j=n∨j=Da.toNat by omega) with e|e|e
      · left
        rw[show j - Db.toNat=0 by omega,Int.pow_zero,Int.mul_one]
        exact ut.resolve_left (by omega)
      · right;left
        rw[show j - n=0 by omega,Int.pow_zero,Int.mul_one]
        exact hu.resolve_left (by omega)
      · right;right
        rw[show j - Da.toNat=0 by omega,Int.pow_zero,Int.mul_one]
        intro hd
        exact us.resolve_left (by omega) (Int.dvd_neg.1 hd)
  obtain⟨f1,f2,f3,f4⟩:=fit_one g1 hf
  have q1:=ipow_pos (show 1≤p by omega) (j - Db.toNat)
  have q2:=ipow_pos (show 1≤p by omega) (j - n)
  have q4:=ipow_pos (show 1≤p by omega) (j - Da.toNat)
  have k1:=Int.mul_nonneg t0 (show 0≤p^(j - Db.toNat) - 1 by omega)
  have k4:=Int.mul_nonneg s0 (show 0≤p^(j - Da.toNat) - 1 by omega)
  rw[Int.mul_sub] at k1 k4
  rw[Int.neg_mul] at f4
  refine⟨⟨t0,by omega⟩,⟨s0,by omega⟩,f3.2,?_⟩
  by_cases hn0:0≤num
  · have k2:=Int.mul_nonneg hn0 (show 0≤p^(j - n) - 1 by omega)
    rw[Int.mul_sub] at k2
    omega
  · have k2:=Int.mul_nonneg (show 0≤ -num by omega) (show 0≤p^(j - n) - 1 by omega)
    rw[Int.mul_sub,Int.neg_mul] at k2
    omega
include h h' in
theorem pm_small (hf:fitM (pmA p Tb Da (La+Lb - 1)) (pmB p Sa Tb Da Db (La+Lb - 1)) (pmC p Da Db (La+Lb - 1)) (pmD p Sa Db (La+Lb - 1))=true):
    (0≤Tb∧Tb≤1000)∧(0≤Sa∧Sa≤1000)∧p^(max Da.toNat Db.toNat)≤1000∧La+Lb - 1+(Da+Db)≤19:=by
  obtain⟨hp,hL,hD,_,_⟩:=ball_parts h
  obtain⟨_,hL',hD',_,_⟩:=ball_parts h'
  have hp2:=prime_lo hp
  have us:=ball_unit h
  have ut:=ball_unit h'
  have hE:pmE La Da Lb Db≤1000:=by unfold pmE;split<;>omega
  obtain⟨num,n,n1,n2,n3,n4⟩:=pm_norm0 hp (pmB p Sa Tb Da Db (La+Lb - 1)) (pmC p Da Db (La+Lb - 1)) (pmE La Da Lb Db) (pmN p La Sa Da Lb Tb Db) (pm_rel h h')
  obtain⟨a1,a2,a3,a4⟩:=pm_facts h h' (by omega) n2 n3 hf
  have hm:p^(max Da.toNat Db.toNat)≤1000:=by
    have:=ipow_mono (p:=p) (by omega) (show max Da.toNat Db.toNat≤max (max Da.toNat Db.toNat) n by omega)
    omega
  refine⟨a1,a2,hm,?_⟩
  apply Decidable.byContradiction
  intro hup
  have hDD:0<Da∧0<Db:=by omega
  have hs:=us.resolve_left (by omega)
  have ht:=ut.resolve_left (by omega)
  have hN:pmN p La Sa Da Lb Tb Db=p^(La+Lb - 1+(Da+Db)).toNat - Sa*Tb:=by unfold pmN;rw[if_pos (by omega)]
  have hC:pmC p Da Db (La+Lb - 1)≠0:=by
    have hpos:∀n:Nat,p^n≠0:=fun n=>Int.pow_ne_zero (by omega)
    unfold pmC
    intro h
    simp only[Int.mul_eq_zero] at h
    rcases h with (h|h)|h<;>exact hpos _ h
  have hnd:¬p∣pmN p La Sa Da Lb Tb Db:=by
    intro hd
    rw[hN] at hd
    have h1:p∣p^(La+Lb - 1+(Da+Db)).toNat:=⟨p^((La+Lb - 1+(Da+Db)).toNat - 1),by rw[←Int.pow_succ'];congr 1;omega⟩
    have h2:p∣Sa*Tb:=by
      have:=Int.dvd_sub h1 hd
      rwa [Int.sub_sub_self] at this
    have h3:p.natAbs∣Sa.natAbs*Tb.natAbs:=by rw[←Int.natAbs_mul];exact Int.natAbs_dvd_natAbs.2 h2
    have h4:Nat.Coprime p.natAbs Sa.natAbs:=by rw[Nat.coprime_comm];exact cop hp hs
    exact ht (Int.natAbs_dvd_natAbs.1 (Nat.Coprime.dvd_of_dvd_mul_left h4 h3))
  have hnn:num*p^(pmE La Da Lb Db - n)=pmN p La Sa Da Lb Tb Db:=by
    refine Int.eq_of_mul_eq_mul_right hC ?_
    rw[←pm_rel h h',show num*p^(pmE La Da Lb Db - n)*pmC p Da Db (La+Lb - 1)=num*pmC p Da Db (La+Lb - 1)*p^(pmE La Da Lb Db - n) from by ac_rfl,←n2,Int.mul_assoc,←Int.pow_add]
    congr 2;omega
  have hnE:pmE La Da Lb Db - n=0:=by
    apply Decidable.byContradiction
    intro h0
    exact hnd (hnn▸⟨num*p^(pmE La Da Lb Db - n - 1),by
      rw[show p*(num*p^(pmE La Da Lb Db - n - 1))=num*(p^(pmE La Da Lb Db - n - 1)*p) from by ac_rfl,←Int.pow_succ]
      congr 2;omega⟩)
  rw[hnE,Int.pow_zero,Int.mul_one,hN] at hnn
  have hpw: (1048576:Int)≤p^(La+Lb - 1+(Da+Db)).toNat:=by
    have h1:=ipow_mono (p:=p) (by omega) (show 20≤(La+Lb - 1+(Da+Db)).toNat by omega)
    have h2: (1048576:Int)≤p^20:=by rcases prime_cases hp with rfl|rfl|rfl|rfl<;>decide
    omega
  have:=mulB a2 a1
  omega
include h h' in
theorem spec_l09Paired_ev:Ev (fun k=>spec_l09Paired.f k p La Sa Da Lb Tb Db) (pmW p La Sa Da Lb Tb Db):=by
  obtain⟨hp,hL,hD,hz,hS⟩:=ball_parts h
  obtain⟨_,hL',hD',hz',hS'⟩:=ball_parts h'
  have hp2:=prime_lo hp
  have s0:=ball_num h
  have t0:=ball_num h'
  have stop (nf:fitM (pmA p Tb Da (La+Lb - 1)) (pmB p Sa Tb Da Db (La+Lb - 1)) (pmC p Da Db (La+Lb - 1)) (pmD p Sa Db (La+Lb - 1))≠true) (m:Int):Ev (fun k=>spec_l09Paired.j0 k p m true La Sa Da Lb Tb Db) (pmW p La Sa Da Lb Tb Db):=by
    unfold pmW
    rw[if_neg nf]
    refine Ev.up ?_
    simp only[spec_l09Paired.j0,if_true]
    exact Ev.now _
  unfold spec_l09Paired.f
  rw[wid (n:=La+Lb) (by omega) (by omega),wid (n:=La+Lb - 1) (by omega) (by omega),wid (n:=Da+Db) (by omega) (by omega)]
  by_cases c1:Sa>1000000
  · simp only[if_pos c1]
    exact stop (fun hf=>by have:=(pm_small h h' hf).2.1;omega) _
  simp only[if_neg c1]
  by_cases c2:Tb>1000000
  · simp only[if_pos c2]
    exact stop (fun hf=>by have:=(pm_small h h' hf).1;omega) _
  simp only[if_neg c2]
  have main (h7:p=7→Da+Db≠12):Ev (fun k=>spec_l09Paired.j0 k p (La+Lb - 1) false La Sa Da Lb Tb Db) (pmW p La Sa Da Lb Tb Db):=by
    refine Ev.up ?_
    simp only[spec_l09Paired.j0,Bool.false_eq_true,if_false,mx_max3]
    rw[wid (n:= -(La+Lb - 1)) (by omega) (by omega)]
    refine Ev.bind (spec_l01Power_ev p _ (by omega)) (Ev.bind (spec_l01Power_ev p _ (by omega)) (Ev.bind (spec_l01Power_ev p _ (by omega)) (Ev.bind (spec_l01Power_ev p _ (by omega)) ?_)))
    rw[powW_prime hp _ (by omega),powW_prime hp _ (by omega),powW_prime hp _ (by omega),powW_prime hp _ (by omega)]
    have px:=ipow_pos (show 1≤p by omega) Da.toNat
    have py:=ipow_pos (show 1≤p by omega) Db.toNat
    have pu:=ipow_pos (show 1≤p by omega) (max (La+Lb - 1) 0).toNat
    have pz:=ipow_pos (show 1≤p by omega) (max (-(La+Lb - 1)) 0).toNat
    have bx:=pow_6 hp Da.toNat (by omega)
    have by_:=pow_6 hp Db.toNat (by omega)
    have bu:=pow_13 hp (max (La+Lb - 1) 0).toNat (by omega)
    have bz:=pow_14 hp (max (-(La+Lb - 1)) 0).toNat (by omega)
    have bxyz:p^Da.toNat*p^Db.toNat*p^(max (-(La+Lb - 1)) 0).toNat≤3909821048582988049:=by
      rw[←Int.pow_add,←Int.pow_add]
      refine pow_b hp _ ?_
      have i1:La+Da≤0→Da=0:=fun x=>(hz x).2
      have i2:Lb+Db≤0→Db=0:=fun x=>(hz' x).2
      have i3:p≠7∨Da+Db≠12:=by by_cases e:p=7;exact .inr (h7 e);exact .inl e
      clear hS hS' stop
      rcases i3 with i3|i3
      · right;refine⟨?_,i3⟩;omega
      · left;omega
    have buxy:p^(max (La+Lb - 1) 0).toNat*p^Da.toNat*p^Db.toNat≤3909821048582988049:=by
      rw[←Int.pow_add,←Int.pow_add]
      refine pow_b hp _ ?_
      have i3:p≠7∨Da+Db≠12:=by by_cases e:p=7;exact .inr (h7 e);exact .inl e
      clear hS hS' stop
      rcases i3 with i3|i3
      · right;refine⟨?_,i3⟩;omega
      · left;omega
    have bux:0≤p^(max (La+Lb - 1) 0).toNat*p^Da.toNat∧p^(max (La+Lb - 1) 0).toNat*p^Da.toNat≤13841287201*117649:=mulB ⟨by omega,bu⟩ ⟨by omega,bx⟩
    have bxy:0≤p^Da.toNat*p^Db.toNat∧p^Da.toNat*p^Db.toNat≤117649*117649:=mulB ⟨by omega,bx⟩ ⟨by omega,by_⟩
    have btx:0≤Tb*p^Da.toNat∧Tb*p^Da.toNat≤1000000*117649:=mulB ⟨t0.1,by omega⟩ ⟨by omega,bx⟩
    have bsy:0≤Sa*p^Db.toNat∧Sa*p^Db.toNat≤1000000*117649:=mulB ⟨s0.1,by omega⟩ ⟨by omega,by_⟩
    have bst:0≤Sa*Tb∧Sa*Tb≤1000000*1000000:=mulB ⟨s0.1,by omega⟩ ⟨t0.1,by omega⟩
    have zx:=Int.mul_nonneg bxy.1 (show 0≤p^(max (-(La+Lb - 1)) 0).toNat by omega)
    have zu:=Int.mul_nonneg bux.1 (show 0≤p^Db.toNat by omega)
    have top {L T D:Int} (hb:ballB p L T D=true):T=0∨(0<L+D∧T≤p^(L+D).toNat):=by
      obtain⟨_,_,_,y1,y2⟩:=ball_parts hb
      by_cases y:L+D≤0
      · exact .inl (y1 y).1
      · exact .inr ⟨by omega,by have:=(y2 (by omega)).1;omega⟩
    have btxz:0≤Tb*p^Da.toNat*p^(max (-(La+Lb - 1)) 0).toNat∧Tb*p^Da.toNat*p^(max (-(La+Lb - 1)) 0).toNat≤3909821048582988049:=by
      refine⟨Int.mul_nonneg btx.1 (by omega),?_⟩
      rcases top h' with e|⟨e1,e2⟩
      · rw[e];simp
      · by_cases he:La+Lb - 1≥0
        · rw[show (max (-(La+Lb - 1)) 0).toNat=0 by omega,Int.pow_zero,Int.mul_one];omega
        · have q1:=mulB ⟨t0.1,e2⟩ ⟨show 0≤p^Da.toNat by omega,Int.le_refl _⟩
          have q2:=mulB q1 ⟨show 0≤p^(max (-(La+Lb - 1)) 0).toNat by omega,Int.le_refl _⟩
          rw[←Int.pow_add,←Int.pow_add] at q2
          have q3:=pow_b hp ((Lb+Db).toNat+Da.toNat+(max (-(La+Lb - 1)) 0).toNat) (.inl (by omega))
          omega
    have bsyz:0≤Sa*p^Db.toNat*p^(max (-(La+Lb - 1)) 0).toNat∧Sa*p^Db.toNat*p^(max (-(La+Lb - 1)) 0).toNat≤3909821048582988049:=by
      refine⟨Int.mul_nonneg bsy.1 (by omega),?_⟩
      rcases top h with e|⟨e1,e2⟩
      · rw[e];simp
      · by_cases he:La+Lb - 1≥0
        · rw[show (max (-(La+Lb - 1)) 0).toNat=0 by omega,Int.pow_zero,Int.mul_one];omega
        · have q1:=mulB ⟨s0.1,e2⟩ ⟨show 0≤p^Db.toNat by omega,Int.le_refl _⟩
          have q2:=mulB q1 ⟨show 0≤p^(max (-(La+Lb - 1)) 0).toNat by omega,Int.le_refl _⟩
          rw[←Int.pow_add,←Int.pow_add] at q2
          have q3:=pow_b hp ((La+Da).toNat+Db.toNat+(max (-(La+Lb - 1)) 0).toNat) (.inl (by omega))
          omega
    have bstz:0≤Sa*Tb*p^(max (-(La+Lb - 1)) 0).toNat∧Sa*Tb*p^(max (-(La+Lb - 1)) 0).toNat≤96889010407000000:=by
      refine⟨Int.mul_nonneg bst.1 (by omega),?_⟩
      rcases top h with e|⟨e1,e2⟩
      · rw[e];simp
      · rcases top h' with e'|⟨e1',e2'⟩
        · rw[e'];simp
        · by_cases he:La+Lb - 1≥0
          · rw[show (max (-(La+Lb - 1)) 0).toNat=0 by omega,Int.pow_zero,Int.mul_one];omega
          · have q1:=mulB ⟨s0.1,e2⟩ ⟨t0.1,e2'⟩
            have q2:=mulB q1 ⟨show 0≤p^(max (-(La+Lb - 1)) 0).toNat by omega,Int.le_refl _⟩
            rw[←Int.pow_add,←Int.pow_add] at q2
            have q3:=pow_14 hp ((La+Da).toNat+(Lb+Db).toNat+(max (-(La+Lb - 1)) 0).toNat) (by omega)
            omega
    have eD: -Sa*p^Db.toNat= -(Sa*p^Db.toNat):=Int.neg_mul _ _
    have eD2: -(Sa*p^Db.toNat)*p^(max (-(La+Lb - 1)) 0).toNat= -(Sa*p^Db.toNat*p^(max (-(La+Lb - 1)) 0).toNat):=Int.neg_mul _ _
    rw[wid (n:=Tb*p^Da.toNat) (by omega) (by omega),wid (n:=Tb*p^Da.toNat*p^(max (-(La+Lb - 1)) 0).toNat) (by omega) (by omega),
      wid (n:=p^(max (La+Lb - 1) 0).toNat*p^Da.toNat) (by omega) (by omega),wid (n:=p^(max (La+Lb - 1) 0).toNat*p^Da.toNat*p^Db.toNat) (by omega) (by omega),
      wid (n:=Sa*Tb) (by omega) (by omega),wid (n:=Sa*Tb*p^(max (-(La+Lb - 1)) 0).toNat) (by omega) (by omega),
      wid (n:=p^(max (La+Lb - 1) 0).toNat*p^Da.toNat*p^Db.toNat - Sa*Tb*p^(max (-(La+Lb - 1)) 0).toNat) (by omega) (by omega),
      wid (n:=p^Da.toNat*p^Db.toNat) (by omega) (by omega),wid (n:=p^Da.toNat*p^Db.toNat*p^(max (-(La+Lb - 1)) 0).toNat) (by omega) (by omega),
      wid (n:= -Sa) (by omega) (by omega),wid (n:= -Sa*p^Db.toNat) (by omega) (by omega),wid (n:= -Sa*p^Db.toNat*p^(max (-(La+Lb - 1)) 0).toNat) (by rw[eD,eD2];omega) (by rw[eD,eD2];omega)]
    have hne:=rowNe (pm_det hp2 Sa Tb Da Db (La+Lb - 1))
    have:=paired_l0 (A:=pmA p Tb Da (La+Lb - 1)) (B:=pmB p Sa Tb Da Db (La+Lb - 1)) (C:=pmC p Da Db (La+Lb - 1)) (D:=pmD p Sa Db (La+Lb - 1))
      (by unfold bd62 pmA;omega) (by unfold bd62 pmB;omega) (by unfold bd62 pmC;omega) (by unfold bd62 pmD;rw[eD,eD2];omega) hne
    exact this
  by_cases c3:p=7
  · simp only[if_pos c3]
    by_cases c4:Da+Db=12
    · rw[c4]
      refine stop (fun hf=>?_) _
      have h1:=(pm_small h h' hf).2.2.1
      rw[show max Da.toNat Db.toNat=6 by omega,c3] at h1
      exact absurd h1 (by decide)
    · rw[show (Da+Db==12)=false from beq_eq_false_iff_ne.2 c4]
      exact main (fun _=>c4)
  · simp only[if_neg c3]
    exact main (fun e=>absurd e c3)
include h h' in
end
theorem nearF_ok {c:List Int} {q:Int} (S:okS c q) (h a:Int):∃v q' h',spec_l01Near.f c q h a=some (v,q',h')∧okS c q':=by
  obtain⟨v1,q1,h1,e1,S1,_⟩:=next_ok S h 14
  unfold spec_l01Near.f
  rw[e1]
  simp only[Option.bind_some]
  by_cases c0:v1=0
  · obtain⟨v2,q2,h2,e2,S2⟩:=pick_ok S1 h1 [(-1),wrap64 (a+1),1099511627776,(-4611686018427387904)] (by simp)
    rw[if_pos c0,e2]
    exact⟨v2,q2,h2,rfl,S2⟩
  · obtain⟨v2,q2,h2,e2,S2,_⟩:=next_ok S1 h1 (wrap64 (a+1))
    rw[if_neg c0,e2]
    exact⟨v2,q2,h2,rfl,S2⟩
theorem w64_bd (x:Int): -9223372036854775808≤wrap64 x∧wrap64 x≤9223372036854775807:=by unfold wrap64;omega
theorem gcd_any (n:Nat):∀a b:Int,b.natAbs<n→ -9223372036854775808≤a→a≤9223372036854775807→ -9223372036854775808≤b→b≤9223372036854775807→(b=0→a≠0)→∃r:Int,Ev (fun k=>spec_l01Gcd.l0 k a b) r∧r≠0∧ -9223372036854775808≤r∧r≤9223372036854775807:=by
  induction n with
  |zero=>intro a b h;omega
  |succ n ih=>
   intro a b h a1 a2 b1 b2 hz
   by_cases c:b=0
   · refine⟨mx a (wrap64 (-a)),Ev.up ?_,?_,?_⟩
     · simp only[spec_l01Gcd.l0,if_pos c];exact Ev.now _
     · have:=hz c
       unfold mx wrap64
       split<;>omega
     · have:=w64_bd (-a)
       unfold mx
       split<;>omega
   · have t1: (Int.tmod a b).natAbs<b.natAbs:=by
        rw[Int.natAbs_tmod]
        exact Nat.mod_lt _ (by omega)
     obtain⟨r,r1,r2⟩:=ih b (Int.tmod a b) (by omega) b1 b2 (by omega) (by omega) (fun _=>c)
     refine⟨r,Ev.up ?_,r2⟩
     simp only[spec_l01Gcd.l0,if_neg c];exact r1
theorem endOf_any (a b:Int):∃r,Ev (fun k=>spec_l01EndOf.f k (wrap64 a) (wrap64 b)) r:=by
  have h1:=w64_bd a
  have h2:=w64_bd b
  generalize wrap64 a=n at*
  generalize wrap64 b=d at*
  unfold spec_l01EndOf.f
  by_cases c:d=0
  · simp only[if_pos c];exact⟨_,Ev.now _⟩
  · simp only[if_neg c]
    obtain⟨t,t1,t2,t3⟩:=gcd_any (d.natAbs+1) n d (by omega) h1.1 h1.2 h2.1 h2.2 (fun h=>absurd h c)
    refine Ex.bind (f:=fun k t=>_) (show Ev (fun k=>spec_l01Gcd.f k n d) t from t1) ?_
    by_cases c1:d<0
    · simp only[if_pos c1]
      have:wrap64 (-t)≠0:=by unfold wrap64;omega
      simp only[if_neg this]
      split
      · exact⟨_,Ev.now _⟩
      · exact⟨_,Ev.now _⟩
    · simp only[if_neg c1,if_neg t2]
      split
      · exact⟨_,Ev.now _⟩
      · exact⟨_,Ev.now _⟩
theorem endOf_low (n d:Int) (hn: -1000≤n∧n≤1000) (hd: -1000≤d∧d≤1000):∃r,Ev (fun k=>spec_l01EndOf.f k (wrap64 n) d) r:=by
  have:=endOf_any n d
  rw[wid (n:=d) (by omega) (by omega)] at this
  exact this
section
variable {C:List Int}
theorem words_l0 (a:Int) (n:Nat):∀(xs:List Int) (m q h:Int),okS C q→m≤n→ -1≤m→xs.length+n≤7→∃w q' h',Ev (fun k=>spec_l09Words.l0 k a xs m C q h) (w,q',h')∧okS C q'∧w.length≤8:=by
  induction n with
  |zero=>
   intro xs m q h S hm _ hl
   obtain⟨v1,q1,h1,e1,S1,_⟩:=next_ok S h 40
   by_cases c:v1=0
   · obtain⟨v2,q2,h2,e2,S2⟩:=pick_ok S1 h1 [0,wrap64 (a+1),wrap64 ((wrap64 (-a)) - 1)] (by simp)
     refine⟨xs++[v2],q2,h2,Ev.up ?_,S2,by simp;omega⟩
     simp only[spec_l09Words.l0,if_neg (show ¬m>0 by omega)]
     refine Ev.bindv e1 ?_
     simp only[if_pos c]
     refine Ev.bindv e2 ?_
     simp only[if_pos (show xs.length<17592186044416 by omega)]
     exact Ev.now _
   · refine⟨xs,q1,h1,Ev.up ?_,S1,by omega⟩
     simp only[spec_l09Words.l0,if_neg (show ¬m>0 by omega)]
     refine Ev.bindv e1 ?_
     simp only[if_neg c]
     exact Ev.now _
  |succ n ih=>
   intro xs m q h S hm hm1 hl
   by_cases hp:m>0
   · have hlim:xs.length<17592186044416:=by omega
     have em:wrap64 (m - 1)=m - 1:=wid (by omega) (by omega)
     obtain⟨v1,q1,h1,e1,S1,_⟩:=next_ok S h a
     obtain⟨v2,q2,h2,e2,S2,_⟩:=next_ok S1 h1 2
     have go:∀y q h,okS C q→∃w q' h',Ev (fun k=>spec_l09Words.l0 k a (xs++[y]) (m - 1) C q h) (w,q',h')∧okS C q'∧w.length≤8:=fun y q h S=>ih (xs++[y]) (m - 1) q h S (by omega) (by omega) (by simp;omega)
     by_cases c1: (xs.length:Int)>0
     · have el:wrap64 ((xs.length:Int) - 1)=(xs.length:Int) - 1:=wid (by omega) (by omega)
       by_cases c2:rd xs ((xs.length:Int) - 1)=wrap64 (-(wrap64 ((wrap64 (1+v1))*(wrap64 (1 - (wrap64 (2*v2)))))))
       · obtain⟨v3,q3,h3,e3,S3,_⟩:=next_ok S2 h2 8
         by_cases c3:v3>0
         · obtain⟨w,q',h',g1,g2⟩:=go (wrap64 (-(wrap64 ((wrap64 (1+v1))*(wrap64 (1 - (wrap64 (2*v2)))))))) q3 h3 S3
           refine⟨w,q',h',Ev.up ?_,g2⟩
           simp only[spec_l09Words.l0,if_pos hp]
           refine Ev.bindv e1 (Ev.bindv e2 ?_)
           simp only[if_pos c1,el,if_pos (show (0:Int)≤(xs.length:Int) - 1 by omega),if_pos (show (xs.length:Int) - 1<(xs.length:Int) by omega),if_pos c2]
           refine Ev.bindv e3 ?_
           simp only[if_pos c3,if_pos hlim,em]
           exact g1
         · obtain⟨w,q',h',g1,g2⟩:=go (wrap64 ((wrap64 (1+v1))*(wrap64 (1 - (wrap64 (2*v2)))))) q3 h3 S3
           refine⟨w,q',h',Ev.up ?_,g2⟩
           simp only[spec_l09Words.l0,if_pos hp]
           refine Ev.bindv e1 (Ev.bindv e2 ?_)
           simp only[if_pos c1,el,if_pos (show (0:Int)≤(xs.length:Int) - 1 by omega),if_pos (show (xs.length:Int) - 1<(xs.length:Int) by omega),if_pos c2]
           refine Ev.bindv e3 ?_
           simp only[if_neg c3,if_pos hlim,em]
           exact g1
       · obtain⟨w,q',h',g1,g2⟩:=go (wrap64 ((wrap64 (1+v1))*(wrap64 (1 - (wrap64 (2*v2)))))) q2 h2 S2
         refine⟨w,q',h',Ev.up ?_,g2⟩
         simp only[spec_l09Words.l0,if_pos hp]
         refine Ev.bindv e1 (Ev.bindv e2 ?_)
         simp only[if_pos c1,el,if_pos (show (0:Int)≤(xs.length:Int) - 1 by omega),if_pos (show (xs.length:Int) - 1<(xs.length:Int) by omega),if_neg c2,if_pos hlim,em]
         exact g1
     · obtain⟨w,q',h',g1,g2⟩:=go (wrap64 ((wrap64 (1+v1))*(wrap64 (1 - (wrap64 (2*v2)))))) q2 h2 S2
       refine⟨w,q',h',Ev.up ?_,g2⟩
       simp only[spec_l09Words.l0,if_pos hp]
       refine Ev.bindv e1 (Ev.bindv e2 ?_)
       simp only[if_neg c1,if_pos hlim,em]
       exact g1
   · exact ih xs m q h S (by omega) hm1 (by omega)
theorem words_ok {q:Int} (S:okS C q) (h a:Int):∃w q' h',Ev (fun k=>spec_l09Words.f k C q h a) (w,q',h')∧okS C q'∧w.length≤8:=by
  obtain⟨v1,q1,h1,e1,S1,a1,b1⟩:=next_ok S h 6
  obtain⟨n,q2,h2,e2,S2,m2⟩:=pick_in S1 h1 [1,2,2,3,v1] (by simp)
  have hn:0≤n∧n≤5:=by
    have:=b1 (by omega)
    simp only[List.mem_cons,List.not_mem_nil,or_false] at m2
    omega
  obtain⟨w,q',h',g1,g2⟩:=words_l0 a 7 [] n q2 h2 S2 (by omega) (by omega) (by simp)
  refine⟨w,q',h',?_,g2⟩
  unfold spec_l09Words.f
  exact Ev.bindv e1 (Ev.bindv e2 g1)
theorem ballF {p L r:Int} (hp:p=2∧L=2∧r=4∨p=3∧L=2∧r=9∨p=5∧L=1∧r=5∨p=7∧L=1∧r=7) {t:Int} (h0:0≤t) (h1:t<r):ballB p L t 0=true:=by
  have h9:t=0∨t=1∨t=2∨t=3∨t=4∨t=5∨t=6∨t=7∨t=8:=by omega
  rcases hp with ⟨rfl,rfl,rfl⟩|⟨rfl,rfl,rfl⟩|⟨rfl,rfl,rfl⟩|⟨rfl,rfl,rfl⟩<;>rcases h9 with rfl|rfl|rfl|rfl|rfl|rfl|rfl|rfl|rfl<;>first|decide|omega
theorem movers_end {p L r n st:Int} {g:List S47} {s:List S32} {q i:Int} (S:okS C q) (h:Int) (hi:¬i<n) (hg:1≤g.length∧g.length≤4) (hs:2≤s.length∧s.length≤8):
    ∃g' s' q' h',Ev (fun k=>spec_l09Movers.l0 k p L r n st g s i C q h) (p,g',s',q',h')∧okS C q'∧(1≤g'.length∧g'.length≤4)∧s'.length≤8:=by
  obtain⟨v,q1,h1,e1,S1,_⟩:=next_ok S h 24
  have start:∀x,Ev (fun k=>if v=0 then((spec_l04Draw.f k C q1 h1).bind fun bt313=>(if 0<(g.length:Int) then(some (p,(g.set (0:Int).toNat (⟨(⟨bt313.1,bt313.2.1⟩),(⟨bt313.2.2.1,bt313.2.2.2.1⟩)⟩:S47)),s,bt313.2.2.2.2.1,bt313.2.2.2.2.2)) else(none))) else(if v=1 then((spec_l01Next.f C q1 h1 (s.length:Int)).bind fun bt320=>((spec_l09Side.f k C bt320.2.1 bt320.2.2 p).bind fun bt323=>(if 0≤bt320.1 then(if bt320.1<(s.length:Int) then(some (p,g,(s.set (bt320.1:Int).toNat (⟨(⟨bt323.1,bt323.2.1,bt323.2.2.1⟩),bt323.2.2.2.1⟩:S32)),bt323.2.2.2.2.1,bt323.2.2.2.2.2)) else(none)) else(none)))) else(if v=2 then(if 1≤(s.length:Int) then(some (p,g,(s.drop (1:Int).toNat),q1,h1)) else(none)) else(if v=3 then(some (p,[(⟨⟨p,0⟩,⟨0,1⟩⟩:S47)],[(⟨⟨0,0,0⟩,true⟩:S32),⟨⟨1,0,0⟩,false⟩],q1,h1)) else(some (p,g,s,q1,h1)))))) x→Ev (fun k=>spec_l09Movers.l0 k p L r n st g s i C q h) x:=fun x hx=>by
    refine Ev.up ?_
    simp only[spec_l09Movers.l0,if_neg hi]
    exact Ev.bindv e1 hx
  by_cases c0:v=0
  · obtain⟨m,q2,h2,e2,S2⟩:=matDraw_ok S1 h1
    refine⟨g.set (0:Int).toNat ⟨⟨m.a,m.b⟩,⟨m.c,m.d⟩⟩,s,q2,h2,start _ ?_,S2,by simp;omega,hs.2⟩
    simp only[if_pos c0]
    refine Ev.bind e2 ?_
    simp only[if_pos (show (0:Int)<(g.length:Int) by omega)]
    exact Ev.now _
  · by_cases c1:v=1
    · obtain⟨u,q2,h2,e2,S2,u0,u1⟩:=next_ok S1 h1 (s.length:Int)
      have u1:=u1 (by omega)
      obtain⟨a,b,d,o,q3,h3,e3,S3⟩:=side_ok S2 h2 p
      refine⟨g,s.set (u:Int).toNat ⟨⟨a,b,d⟩,o⟩,q3,h3,start _ ?_,S3,hg,by simp;omega⟩
      simp only[if_neg c0,if_pos c1]
      refine Ev.bindv e2 (Ev.bind e3 ?_)
      simp only[if_pos u0,if_pos u1]
      exact Ev.now _
    · by_cases c2:v=2
      · refine⟨g,s.drop (1:Int).toNat,q1,h1,start _ ?_,S1,hg,by simp;omega⟩
        simp only[if_neg c0,if_neg c1,if_pos c2,if_pos (show (1:Int)≤(s.length:Int) by omega)]
        exact Ev.now _
      · by_cases c3:v=3
        · refine⟨[(⟨⟨p,0⟩,⟨0,1⟩⟩:S47)],[(⟨⟨0,0,0⟩,true⟩:S32),⟨⟨1,0,0⟩,false⟩],q1,h1,start _ ?_,S1,?_,?_⟩
          · simp only[if_neg c0,if_neg c1,if_neg c2,if_pos c3]
            exact Ev.now _
          · simp
          · simp
        · refine⟨g,s,q1,h1,start _ ?_,S1,hg,hs.2⟩
          simp only[if_neg c0,if_neg c1,if_neg c2,if_neg c3]
          exact Ev.now _
theorem movers_l0 {p L r st:Int} (hp:p=2∧L=2∧r=4∨p=3∧L=2∧r=9∨p=5∧L=1∧r=5∨p=7∧L=1∧r=7) (hst:0≤st∧st<r) {n:Int} (hn:1≤n∧n≤4) (d:Nat):∀(i:Nat) (g:List S47) (s:List S32) (q h:Int),(i:Int)+d=n→g.length=i→s.length=2*i→okS C q→
    ∃g' s' q' h',Ev (fun k=>spec_l09Movers.l0 k p L r n st g s i C q h) (p,g',s',q',h')∧okS C q'∧(1≤g'.length∧g'.length≤4)∧s'.length≤8:=by
  induction d with
  |zero=>
   intro i g s q h hi hg hs S
   exact movers_end S h (by omega) (by omega) (by omega)
  |succ d ih=>
   intro i g s q h hi hg hs S
   have hr:4≤r∧r≤9:=by omega
   have e1:wrap64 (st+wrap64 (2*(i:Int)))=st+2*i:=by rw[wid (n:=2*(i:Int)) (by omega) (by omega),wid (by omega) (by omega)]
   have e2:wrap64 (st+2*(i:Int)+1)=st+2*i+1:=wid (by omega) (by omega)
   have e3:wrap64 ((i:Int)+1)=((i+1:Nat):Int):=by rw[wid (by omega) (by omega)];omega
   have t1:0≤Int.tmod (st+2*i) r∧Int.tmod (st+2*i) r<r:=by
      rw[Int.tmod_eq_emod_of_nonneg (by omega)]
      exact⟨Int.emod_nonneg _ (by omega),Int.emod_lt_of_pos _ (by omega)⟩
   have t2:0≤Int.tmod (st+2*i+1) r∧Int.tmod (st+2*i+1) r<r:=by
      rw[Int.tmod_eq_emod_of_nonneg (by omega)]
      exact⟨Int.emod_nonneg _ (by omega),Int.emod_lt_of_pos _ (by omega)⟩
   have pe:=spec_l09Paired_ev (ballF hp t1.1 t1.2) (ballF hp t2.1 t2.2)
   generalize hx:Int.tmod (st+2*i) r=x at*
   generalize hy:Int.tmod (st+2*i+1) r=y at*
   generalize pmW p L x 0 L y 0=z at pe
   have key:∀m:S47,∃g' s' q' h',Ev (fun k=>spec_l09Movers.l0 k p L r n st (g++[m]) (s++[(⟨⟨L,x,0⟩,false⟩:S32),⟨⟨L,y,0⟩,false⟩]) ((i+1:Nat):Int) C q h) (p,g',s',q',h')∧okS C q'∧(1≤g'.length∧g'.length≤4)∧s'.length≤8:=fun m=>ih (i+1) (g++[m]) _ q h (by omega) (by simp;omega) (by simp;omega) S
   have l1:g.length<4398046511104:=by omega
   have l2:s.length+[(⟨⟨L,x,0⟩,false⟩:S32),⟨⟨L,y,0⟩,false⟩].length<4398046511104:=by simp;omega
   cases hz:z.2.2.2.2 with
   |true=>
    obtain⟨g',s',q',h',k1,k2⟩:=key ⟨⟨z.1,z.2.1⟩,⟨z.2.2.1,z.2.2.2.1⟩⟩
    refine⟨g',s',q',h',Ev.up ?_,k2⟩
    simp only[spec_l09Movers.l0,if_pos (show (i:Int)<n by omega),if_neg (show ¬r=0 by omega),e1,e2,e3,hx,hy]
    refine Ev.bind pe ?_
    simp only[hz,if_true,if_pos l1,Option.bind_some,if_pos l2]
    exact k1
   |false=>
    obtain⟨g',s',q',h',k1,k2⟩:=key ⟨⟨1,0⟩,⟨0,1⟩⟩
    refine⟨g',s',q',h',Ev.up ?_,k2⟩
    simp only[spec_l09Movers.l0,if_pos (show (i:Int)<n by omega),if_neg (show ¬r=0 by omega),e1,e2,e3,hx,hy]
    refine Ev.bind pe ?_
    simp only[hz,Bool.false_eq_true,if_false,if_pos l1,Option.bind_some,if_pos l2]
    exact k1
theorem movers_ok {q:Int} (S:okS C q) (h:Int):∃p g s q' h',Ev (fun k=>spec_l09Movers.f k C q h) (p,g,s,q',h')∧okS C q'∧(1≤g.length∧g.length≤4)∧s.length≤8:=by
  obtain⟨p,q1,h1,e1,S1,m1⟩:=pick_in S h [2,3,3,5,7] (by simp)
  have key:∀L r:Int,(p=2∧L=2∧r=4∨p=3∧L=2∧r=9∨p=5∧L=1∧r=5∨p=7∧L=1∧r=7)→∃g s q' h',Ev (fun k=>spec_l09Movers.j0 k p L r C q1 h1) (p,g,s,q',h')∧okS C q'∧(1≤g.length∧g.length≤4)∧s.length≤8:=by
    intro L r hp
    have hr:4≤r∧r≤9:=by omega
    have hm:mn (wrap64 (Int.tdiv r 2)) 3=mn (r / 2) 3:=by
      rw[Int.tdiv_eq_ediv_of_nonneg (by omega),wid (by omega) (by omega)]
    have hb:1≤mn (r / 2) 3∧mn (r / 2) 3≤3:=by unfold mn;split<;>omega
    obtain⟨v,q2,h2,e2,S2,v0,v1⟩:=next_ok S1 h1 (mn (r / 2) 3)
    have v1:=v1 (by omega)
    obtain⟨st,q3,h3,e3,S3,s0,s1⟩:=next_ok S2 h2 r
    have s1:=s1 (by omega)
    have en:wrap64 (1+v)=1+v:=wid (by omega) (by omega)
    obtain⟨g,s,q',h',k1,k2⟩:=movers_l0 hp ⟨s0,s1⟩ (n:=1+v) (by omega) (1+v).toNat 0 [] [] q3 h3 (by omega) rfl rfl S3
    refine⟨g,s,q',h',Ev.up ?_,k2⟩
    simp only[spec_l09Movers.j0,hm]
    refine Ev.bindv e2 (Ev.bindv e3 ?_)
    rw[en]
    exact k1
  unfold spec_l09Movers.f
  simp only[List.mem_cons,List.not_mem_nil,or_false] at m1
  by_cases c:p<5
  · have hpp:wrap64 (p*p)=p*p:=by
      have:p=2∨p=3:=by omega
      rcases this with rfl|rfl<;>exact wid (by omega) (by omega)
    obtain⟨g,s,q',h',k1,k2⟩:=key 2 (p*p) (by
      have:p=2∨p=3:=by omega
      rcases this with rfl|rfl<;>omega)
    refine⟨p,g,s,q',h',Ev.bindv e1 ?_,k2⟩
    simp only[if_pos c,hpp]
    exact k1
  · obtain⟨g,s,q',h',k1,k2⟩:=key 1 p (by omega)
    refine⟨p,g,s,q',h',Ev.bindv e1 ?_,k2⟩
    simp only[if_neg c]
    exact k1
theorem drawBring_l0 {p:Int} {g:List S47} {s:List S32} (hg:1≤g.length∧g.length≤4) (n:Nat):∀(m q h a b:Int),okS C q→m≤n→ -1≤m→n≤10→∃a' b',Ev (fun k=>spec_DrawBringOut.l0 k p g s m C q h a b) (p,g,s,a',b'):=by
  induction n with
  |zero=>
   intro m q h a b S hm _ _
   obtain⟨v,q1,h1,e1,S1,_⟩:=next_ok S h 30
   by_cases c:v=0
   · refine⟨2,4,Ev.up ?_⟩
     simp only[spec_DrawBringOut.l0,if_neg (show ¬m>0 by omega)]
     refine Ev.bindv e1 ?_
     simp only[if_pos c];exact Ev.now _
   · refine⟨a,b,Ev.up ?_⟩
     simp only[spec_DrawBringOut.l0,if_neg (show ¬m>0 by omega)]
     refine Ev.bindv e1 ?_
     simp only[if_neg c];exact Ev.now _
  |succ n ih=>
   intro m q h a b S hm hm1 hn
   by_cases hp:m>0
   · obtain⟨v,q1,h1,e1,S1,v0,v1⟩:=next_ok S h (g.length:Int)
     have v1:=v1 (by omega)
     have em:wrap64 (m - 1)=m - 1:=wid (by omega) (by omega)
     obtain⟨r,hr⟩:=endOf_any (wrap64 ((rd_T47 g v).f0.f0*a)+wrap64 ((rd_T47 g v).f0.f1*b)) (wrap64 ((rd_T47 g v).f1.f0*a)+wrap64 ((rd_T47 g v).f1.f1*b))
     have he:Ev (fun k=>spec_l04End.f k (rd_T47 g v).f0.f0 (rd_T47 g v).f0.f1 (rd_T47 g v).f1.f0 (rd_T47 g v).f1.f1 a b) (r.1,r.2.1,r.2.2):=by
        unfold spec_l04End.f
        exact Ev.bind hr (Ev.now _)
     cases hc:r.2.2 with
     |true=>
      obtain⟨a',b',k1⟩:=ih (m - 1) q1 h1 r.1 r.2.1 S1 (by omega) (by omega) (by omega)
      refine⟨a',b',Ev.up ?_⟩
      simp only[spec_DrawBringOut.l0,if_pos hp]
      refine Ev.bindv e1 ?_
      simp only[if_pos v0,if_pos v1]
      refine Ev.bind he ?_
      simp only[hc,if_true,em]
      exact k1
     |false=>
      obtain⟨a',b',k1⟩:=ih (m - 1) q1 h1 a b S1 (by omega) (by omega) (by omega)
      refine⟨a',b',Ev.up ?_⟩
      simp only[spec_DrawBringOut.l0,if_pos hp]
      refine Ev.bindv e1 ?_
      simp only[if_pos v0,if_pos v1]
      refine Ev.bind he ?_
      simp only[hc,Bool.false_eq_true,if_false,em]
      exact k1
   · exact ih m q h a b S (by omega) hm1 (by omega)
theorem small5_ok {q:Int} (S:okS C q) (h:Int):∃a b q' h',Ev (fun k=>spec_l05Small.f k C q h) (a,b,q',h')∧okS C q':=by
  obtain⟨v,q1,h1,e1,S1,_⟩:=next_ok S h 9
  unfold spec_l05Small.f
  by_cases c:v=0
  · refine⟨1,0,q1,h1,Ev.bindv e1 ?_,S1⟩
    simp only[if_pos c];exact Ev.now _
  · obtain⟨u,q2,h2,e2,S2,u0,u1⟩:=next_ok S1 h1 41
    have u1:=u1 (by omega)
    obtain⟨d,q3,h3,e3,S3,m3⟩:=pick_in S2 h2 [1,1,2,3,4,9,5,7] (by simp)
    simp only[List.mem_cons,List.not_mem_nil,or_false] at m3
    obtain⟨r,hr⟩:=endOf_low (u - 20) d (by omega) (by omega)
    refine⟨r.1,r.2.1,q3,h3,Ev.bindv e1 ?_,S3⟩
    simp only[if_neg c]
    exact Ev.bindv e2 (Ev.bindv e3 (Ev.bind hr (Ev.now _)))
variable (hb:∀x∈C,0≤x∧x≤255) (hl:C.length≤5000)
include hb hl
theorem dFree_ok:∃p g s,Ev (fun k=>spec_DrawIsFree.f k C) (p,g,s)∧g.length≤4∧s.length≤8:=by
  obtain⟨h,e0⟩:=from_ok hb hl
  obtain⟨p,g,s,q1,h1,e1,_,h4,h8⟩:=movers_ok (⟨hb,hl,by omega⟩:okS C 0) h
  refine⟨p,g,s,?_,h4.2,h8⟩
  unfold spec_DrawIsFree.f
  exact Ev.bind e0 (Ev.bind e1 (Ev.now _))
theorem dSide_ok:∃p g s w,Ev (fun k=>spec_DrawSideOfWord.f k C) (p,g,s,w)∧g.length≤4∧s.length≤8∧w.length≤8:=by
  obtain⟨h,e0⟩:=from_ok hb hl
  obtain⟨p,g,s,q1,h1,e1,S1,h4,h8⟩:=movers_ok (⟨hb,hl,by omega⟩:okS C 0) h
  obtain⟨w,q2,h2,e2,_,hw⟩:=words_ok S1 h1 (g.length:Int)
  refine⟨p,g,s,w,?_,h4.2,h8,hw⟩
  unfold spec_DrawSideOfWord.f
  exact Ev.bind e0 (Ev.bind e1 (Ev.bind e2 (Ev.now _)))
theorem dWordM_ok:∃g w,Ev (fun k=>spec_DrawWordMatrix.f k C) (g,w)∧g.length≤4∧w.length≤8:=by
  obtain⟨h,e0⟩:=from_ok hb hl
  obtain⟨p,g,s,q1,h1,e1,S1,h4,h8⟩:=movers_ok (⟨hb,hl,by omega⟩:okS C 0) h
  obtain⟨w,q2,h2,e2,_,hw⟩:=words_ok S1 h1 (g.length:Int)
  refine⟨g,w,?_,h4.2,hw⟩
  unfold spec_DrawWordMatrix.f
  exact Ev.bind e0 (Ev.bind e1 (Ev.bind e2 (Ev.now _)))
theorem dBring_ok:∃p g s a b,Ev (fun k=>spec_DrawBringOut.f k C) (p,g,s,a,b)∧g.length≤4∧s.length≤8:=by
  obtain⟨h,e0⟩:=from_ok hb hl
  obtain⟨p,g,s,q1,h1,e1,S1,h4,h8⟩:=movers_ok (⟨hb,hl,by omega⟩:okS C 0) h
  obtain⟨a,b,q2,h2,e2,S2⟩:=small5_ok S1 h1
  obtain⟨n,q3,h3,e3,S3,n0,n1⟩:=next_ok S2 h2 4
  have n1:=n1 (by omega)
  obtain⟨a',b',k⟩:=drawBring_l0 (p:=p) (s:=s) h4 4 n q3 h3 a b S3 (by omega) (by omega) (by omega)
  refine⟨p,g,s,a',b',?_,h4.2,h8⟩
  unfold spec_DrawBringOut.f
  exact Ev.bind e0 (Ev.bind e1 (Ev.bind e2 (Ev.bindv e3 k)))
theorem dCount_ok:∃a n,Ev (fun k=>spec_DrawCountShortWords.f k C) (a,n):=by
  obtain⟨h,e0⟩:=from_ok hb hl
  obtain⟨v,q1,h1,e1,S1⟩:=nearF_ok (⟨hb,hl,by omega⟩:okS C 0) h 3
  obtain⟨u,q2,h2,e2,S2⟩:=nearF_ok S1 h1 12
  refine⟨wrap64 (1+v),u,?_⟩
  · unfold spec_DrawCountShortWords.f
    exact Ev.bind e0 (Ev.bindv e1 (Ev.bindv e2 (Ev.now _)))
theorem dShort_ok:∃a w,Ev (fun k=>spec_DrawIsShortWord.f k C) (a,w)∧w.length≤8:=by
  obtain⟨h,e0⟩:=from_ok hb hl
  obtain⟨v,q1,h1,e1,S1⟩:=nearF_ok (⟨hb,hl,by omega⟩:okS C 0) h 3
  obtain⟨w,q2,h2,e2,_,hw⟩:=words_ok S1 h1 (mn (mx (wrap64 (1+v)) 1) 4)
  refine⟨wrap64 (1+v),w,?_,hw⟩
  unfold spec_DrawIsShortWord.f
  exact Ev.bind e0 (Ev.bindv e1 (Ev.bind e2 (Ev.now _)))
end
theorem no_ev {β:Type} (g:Nat→Int→Option β) (n:Nat) (p:Nat→Bool) (no:β)
    (hstep:∀(i:Nat) (r:β),i<n→p i=true→Ev (fun k=>g k ((i:Int)+1)) r→Ev (fun k=>g k i) r)
    (hno:∀(i:Nat),i<n→p i=false→Ev (fun k=>g k i) no)
    (h: (List.range n).all p=false):Ev (fun k=>g k 0) no:=by
  have key:∀(d i:Nat),i+d=n→(∃j,i≤j∧j<n∧p j=false)→Ev (fun k=>g k i) no:=by
    intro d
    induction d with
    |zero=>intro i hi ⟨j,h1,h2,_⟩;omega
    |succ d ih=>
     intro i hi ⟨j,h1,h2,h3⟩
     cases hp:p i with
     |false=>exact hno i (by omega) hp
     |true=>
      refine hstep i no (by omega) hp (ih (i+1) (by omega) ⟨j,?_,h2,h3⟩)
      rcases Nat.lt_or_ge i j with h|h
      · omega
      · exact absurd (show p i=false from (show i=j by omega)▸h3) (by rw[hp];decide)
  refine key n 0 (by omega) ?_
  obtain⟨j,h1,h2⟩:=List.all_eq_false.1 h
  exact⟨j,by omega,List.mem_range.1 h1,Bool.eq_false_iff.2 h2⟩
section
variable (l:List S47) (h4:l.length≤4) (hok:∀x∈l,(m4 x).ok=true)
include h4 hok in
include h4 hok in
include h4 hok in
def wmW (l:List S47) (w:List Int):Nat→Nat→M4→Int×Int×Int×Int×Int
  |0,_,A=>(A.a,A.b,A.c,A.d,0)
  |n+1,i,A=>if (A.mul (letW2 l (rd w (i:Int)))).red.ok then wmW l w n (i+1) (A.mul (letW2 l (rd w (i:Int)))).red else(0,0,0,0,3)
include h4 hok in
theorem impl_wm_l (w:List Int) (hw12:w.length≤12) (hw:∀i,i<w.length→letterB (l.length:Int) (rd w (i:Int))=true) (n:Nat):∀(i:Nat) (A:M4),i+n=w.length→A.ok=true→Ev (fun k=>impl_WordMatrix.l0 k l w w.length i A.a A.b A.c A.d) (wmW l w n i A):=by
  induction n with
  |zero=>
   intro i A hi hA
   exact Ev.step (f:=fun _=>some (A.a,A.b,A.c,A.d,0)) (fun k=>by simp only[impl_WordMatrix.l0];rw[if_neg (by omega)]) (Ev.now _)
  |succ n ih=>
   intro i A hi hA
   have hn:=hw i (by omega)
   obtain⟨k1,k2,k3⟩:=let_ok l h4 hok hn
   refine Ev.step (f:=fun k=>(impl_letterMatrix.f k l (rd w (i:Int))).bind fun g=>(impl_product.f k A.a A.b A.c A.d g.1 g.2.1 g.2.2.1 g.2.2.2).bind fun t=>if t.2.2.2.2=true then impl_WordMatrix.l0 k l w w.length ((i+1:Nat):Int) t.1 t.2.1 t.2.2.1 t.2.2.2.1 else some (0,0,0,0,3)) (fun k=>?_) (Ev.bind (impl_letter_ev l h4 hok hn) (Ev.bind (impl_product_ev hA k1) ?_))
   · simp only[impl_WordMatrix.l0]
     rw[if_pos (by omega),if_pos (by omega),if_pos (by omega),wid (n:=(i:Int)+1) (by omega) (by omega)];rfl
   · unfold wmW
     cases h: (A.mul (letW2 l (rd w (i:Int)))).red.ok with
     |false=>simp;exact Ev.now _
     |true=>simp only[if_true];exact ih (i+1) _ (by omega) h
include h4 hok in
theorem spec_wm_l (w:List Int) (hw12:w.length≤12) (hw:∀i,i<w.length→letterB (l.length:Int) (rd w (i:Int))=true) (n:Nat):∀(i:Nat) (A:M4),i+n=w.length→A.ok=true→Ev (fun k=>spec_WordMatrix.l1 k l w i A.a A.b A.c A.d) (wmW l w n i A):=by
  induction n with
  |zero=>
   intro i A hi hA
   exact Ev.step (f:=fun _=>some (A.a,A.b,A.c,A.d,0)) (fun k=>by simp only[spec_WordMatrix.l1];rw[if_neg (by omega)]) (Ev.now _)
  |succ n ih=>
   intro i A hi hA
   have hn:=hw i (by omega)
   obtain⟨k1,k2,k3⟩:=let_ok l h4 hok hn
   have hpr:=spec_l04Times_ev hA k2
   rw[k3 A hA] at hpr
   refine Ev.step (f:=fun k=>(spec_l09Letter.f k l (rd w (i:Int))).bind fun g=>(spec_l04Times.f k A.a A.b A.c A.d g.1 g.2.1 g.2.2.1 g.2.2.2).bind fun t=>if t.2.2.2.2=true then spec_WordMatrix.l1 k l w ((i+1:Nat):Int) t.1 t.2.1 t.2.2.1 t.2.2.2.1 else some (0,0,0,0,3)) (fun k=>?_) (Ev.bind (spec_letter_ev l h4 hok hn) (Ev.bind hpr ?_))
   · simp only[spec_WordMatrix.l1]
     rw[if_pos (by omega),if_pos (by omega),wid (n:=(i:Int)+1) (by omega) (by omega)];rfl
   · unfold wmW
     cases h: (A.mul (letW2 l (rd w (i:Int)))).red.ok with
     |false=>simp;exact Ev.now _
     |true=>simp only[if_true];exact ih (i+1) _ (by omega) h
end
def wordMW (l:List S47) (w:List Int):Int×Int×Int×Int×Int:=if l.all (fun x=>(m4 x).ok) then(if wordB (l.length:Int) w then wmW l w w.length 0 M4.one else(0,0,0,0,2)) else(0,0,0,0,1)
theorem spec_WordMatrix_ev (l:List S47) (w:List Int) (hl:l.length≤4611686018427387904) (hw:w.length≤35184372088832):Ev (fun k=>spec_WordMatrix.f k l w) (wordMW l w):=by
  unfold spec_WordMatrix.f wordMW
  have hr:∀(i:Nat) (k:Nat),i<l.length→spec_WordMatrix.l0 (k+1) l w i=(spec_l04Is.f k (l.getD i z47).f0.f0 (l.getD i z47).f0.f1 (l.getD i z47).f1.f0 (l.getD i z47).f1.f1).bind fun t=>if t=true then spec_WordMatrix.l0 k l w ((i:Int)+1) else some (0,0,0,0,1):=by
    intro i k hi
    simp only[spec_WordMatrix.l0]
    rw[if_pos (by omega),if_pos (by omega),wid (by omega) (by omega)];rfl
  rw[←all_range_getD l z47 (fun x=>(m4 x).ok)]
  by_cases hall: (List.range l.length).all (fun i=>(m4 (l.getD i z47)).ok)=true
  · rw[if_pos hall]
    have:=all_ev' (fun k i=>spec_WordMatrix.l0 k l w i) l.length (fun i=>(m4 (l.getD i z47)).ok) (if wordB (l.length:Int) w then wmW l w w.length 0 M4.one else(0,0,0,0,2)) (0,0,0,0,1) (by
      intro i r hi hb hr'
      refine Ev.step (hr i · hi) (Ev.bind (spec_l04Is_ev _ _ _ _) ?_)
      have hb':matB (l.getD i z47).f0.f0 (l.getD i z47).f0.f1 (l.getD i z47).f1.f0 (l.getD i z47).f1.f1=true:=hb
      rw[hb'];simpa using hr') (by
      intro i hi hb
      refine Ev.step (hr i · hi) (Ev.bind (spec_l04Is_ev _ _ _ _) ?_)
      have hb':matB (l.getD i z47).f0.f0 (l.getD i z47).f0.f1 (l.getD i z47).f1.f0 (l.getD i z47).f1.f1=false:=hb
      rw[hb'];simp;exact Ev.now _) (by
      refine Ev.step (f:=fun k=>(spec_l09Word.f k (l.length:Int) w).bind fun t=>if t=true then spec_WordMatrix.l1 k l w (0:Nat) 1 0 0 1 else some (0,0,0,0,2)) (fun k=>by simp only[spec_WordMatrix.l0];rw[if_neg (by omega)];rfl) ?_
      refine Ev.bind (spec_word _ w hw) ?_
      cases hwB:wordB (l.length:Int) w with
      |false=>simp;exact Ev.now _
      |true=>
       simp only[if_true]
       obtain⟨p1,p2,p3⟩:=word_parts hwB
       have hok:∀x∈l,(m4 x).ok=true:=by
          rw[all_range_getD l z47 (fun x=>(m4 x).ok),List.all_eq_true] at hall
          exact hall
       exact spec_wm_l l (by omega) hok w p2 p3 w.length 0 M4.one (by omega) (by decide))
    rw[if_pos hall] at this
    exact this
  · rw[if_neg hall]
    refine no_ev (fun k i=>spec_WordMatrix.l0 k l w i) l.length (fun i=>(m4 (l.getD i z47)).ok) (0,0,0,0,1) (by
      intro i r hi hb hr'
      refine Ev.step (hr i · hi) (Ev.bind (spec_l04Is_ev _ _ _ _) ?_)
      have hb':matB (l.getD i z47).f0.f0 (l.getD i z47).f0.f1 (l.getD i z47).f1.f0 (l.getD i z47).f1.f1=true:=hb
      rw[hb'];simpa using hr') (by
      intro i hi hb
      refine Ev.step (hr i · hi) (Ev.bind (spec_l04Is_ev _ _ _ _) ?_)
      have hb':matB (l.getD i z47).f0.f0 (l.getD i z47).f0.f1 (l.getD i z47).f1.f0 (l.getD i z47).f1.f1=false:=hb
      rw[hb'];simp;exact Ev.now _) (Bool.eq_false_iff.2 hall)
theorem impl_WordMatrix_ev (l:List S47) (w:List Int) (hl:l.length≤4611686018427387904) (hw:w.length≤35184372088832):Ev (fun k=>impl_WordMatrix.f k l w) (wordMW l w):=by
  unfold impl_WordMatrix.f wordMW
  refine Ev.bind (impl_areMatrices_ev l hl) ?_
  cases hall:l.all (fun x=>(m4 x).ok) with
  |false=>simp;exact Ev.now _
  |true=>
   simp only[if_true]
   have hok:∀x∈l,(m4 x).ok=true:=List.all_eq_true.1 hall
   unfold impl_isMovers.f
   by_cases h:1≤(l.length:Int)∧(l.length:Int)≤4
   · simp only[if_pos (show (l.length:Int)≥1 from h.1),decide_eq_true h.2,Option.bind_some,if_true]
     refine Ev.bind (impl_word_ev _ w h.1 h.2 hw) ?_
     cases hwB:wordB (l.length:Int) w with
     |false=>simp;exact Ev.now _
     |true=>
      obtain⟨p1,p2,p3⟩:=word_parts hwB
      simp only[if_true,impl_one.f,Option.bind_some]
      exact impl_wm_l l (by omega) hok w p2 p3 w.length 0 M4.one (by omega) (by decide)
   · have hwf:wordB (l.length:Int) w=false:=by unfold wordB;rw[decide_eq_false (fun h2=>h ⟨h2.1,h2.2.1⟩),Bool.false_and]
     rw[hwf]
     by_cases h1: (l.length:Int)≥1
     · simp only[if_pos h1,Option.bind_some,decide_eq_false (show ¬(l.length:Int)≤4 by omega),Bool.false_eq_true,if_false];exact Ev.now _
     · simp only[if_neg h1,Option.bind_some,Bool.false_eq_true,if_false];exact Ev.now _
def countW (a n:Int):Int×Int:=
  if (1≤a∧a≤4)∧0≤n∧n≤12 then(if n=0 then(1,0) else(wrap64 (wrap64 (2*a)*powW (wrap64 (wrap64 (2*a) - 1)) (wrap64 (n - 1)).toNat 1),0)) else(0,2)
theorem cnt_spec_j (a n:Int) (h: (1≤a∧a≤4)∧0≤n∧n≤12):Ev (fun k=>spec_CountShortWords.j0 k a n false) (countW a n):=by
  unfold countW
  rw[if_pos h]
  by_cases e:n=0
  · rw[if_pos e]
    exact Ev.step (f:=fun _=>some (1,0)) (fun k=>by simp only[spec_CountShortWords.j0];rw[if_neg (by decide),if_pos e]) (Ev.now _)
  · rw[if_neg e]
    refine Ev.step (f:=fun k=>(spec_l01Power.f k (wrap64 ((wrap64 (2*a)) - 1)) (wrap64 (n - 1))).bind fun t=>(some (wrap64 ((wrap64 (2*a))*t),0))) (fun k=>by simp only[spec_CountShortWords.j0];rw[if_neg (by decide),if_neg e]) ?_
    exact Ev.bind (spec_l01Power_ev _ _ (wrap_hi _)) (Ev.now _)
theorem cnt_spec_no (a n:Int):Ev (fun k=>spec_CountShortWords.j0 k a n true) (0,2):=
  Ev.step (f:=fun _=>some (0,2)) (fun k=>by simp only[spec_CountShortWords.j0];rw[if_pos trivial]) (Ev.now _)
theorem cnt_spec_ev (a n:Int):Ev (fun k=>spec_CountShortWords.f k a n) (countW a n):=by
  unfold spec_CountShortWords.f spec_l01In.f
  by_cases h1:a≥1
  · by_cases h2:a≤4
    · by_cases h3:n≥0
      · by_cases h4:n≤12
        · simp only[if_pos h1,if_pos h3,Option.bind_some,decide_eq_true h2,decide_eq_true h4,if_true,Bool.not_true]
          exact cnt_spec_j a n ⟨⟨h1,h2⟩,h3,h4⟩
        · simp only[if_pos h1,if_pos h3,Option.bind_some,decide_eq_true h2,decide_eq_false h4,if_true,Bool.not_false]
          rw[countW,if_neg (by omega)];exact cnt_spec_no a n
      · simp only[if_pos h1,if_neg h3,Option.bind_some,decide_eq_true h2,if_true,Bool.not_false]
        rw[countW,if_neg (by omega)];exact cnt_spec_no a n
    · simp only[if_pos h1,Option.bind_some,decide_eq_false h2,Bool.false_eq_true,if_false]
      rw[countW,if_neg (by omega)];exact cnt_spec_no a n
  · simp only[if_neg h1,Option.bind_some,Bool.false_eq_true,if_false]
    rw[countW,if_neg (by omega)];exact cnt_spec_no a n
theorem cnt_impl_j (a n:Int) (h: (1≤a∧a≤4)∧0≤n∧n≤12):Ev (fun k=>impl_CountShortWords.j0 k a n false) (countW a n):=by
  unfold countW
  rw[if_pos h]
  by_cases e:n=0
  · rw[if_pos e]
    exact Ev.step (f:=fun _=>some (1,0)) (fun k=>by simp only[impl_CountShortWords.j0];rw[if_neg (by decide),if_pos e]) (Ev.now _)
  · rw[if_neg e]
    refine Ev.step (f:=fun k=>(impl_power.f k (wrap64 ((wrap64 (2*a)) - 1)) (wrap64 (n - 1))).bind fun t=>(some (wrap64 ((wrap64 (2*a))*t),0))) (fun k=>by simp only[impl_CountShortWords.j0];rw[if_neg (by decide),if_neg e]) ?_
    exact Ev.bind (impl_power_ev _ _ (wrap_hi _)) (Ev.now _)
theorem cnt_impl_no (a n:Int):Ev (fun k=>impl_CountShortWords.j0 k a n true) (0,2):=
  Ev.step (f:=fun _=>some (0,2)) (fun k=>by simp only[impl_CountShortWords.j0];rw[if_pos trivial]) (Ev.now _)
theorem cnt_impl_ev (a n:Int):Ev (fun k=>impl_CountShortWords.f k a n) (countW a n):=by
  unfold impl_CountShortWords.f impl_isMovers.f
  by_cases h1:a≥1
  · by_cases h2:a≤4
    · by_cases h3:n<0
      · simp only[if_pos h1,if_pos h3,Option.bind_some,decide_eq_true h2,if_true]
        rw[countW,if_neg (by omega)];exact cnt_impl_no a n
      · by_cases h4:n>12
        · simp only[if_pos h1,if_neg h3,Option.bind_some,decide_eq_true h2,decide_eq_true h4,if_true]
          rw[countW,if_neg (by omega)];exact cnt_impl_no a n
        · simp only[if_pos h1,if_neg h3,Option.bind_some,decide_eq_true h2,decide_eq_false h4,if_true]
          exact cnt_impl_j a n ⟨⟨h1,h2⟩,by omega,by omega⟩
    · simp only[if_pos h1,Option.bind_some,decide_eq_false h2,Bool.false_eq_true,if_false]
      rw[countW,if_neg (by omega)];exact cnt_impl_no a n
  · simp only[if_neg h1,Option.bind_some,Bool.false_eq_true,if_false]
    rw[countW,if_neg (by omega)];exact cnt_impl_no a n
theorem like_ev {l:List Int} (hl:l.length≤4611686018427387904):Ev (fun k=>laws_likeInts.f k l l) true:=by
  have key:∀(d i:Nat),i+d=l.length→Ev (fun k=>laws_likeInts.l0 k l l i) true:=by
    intro d
    induction d with
    |zero=>
     intro i hi
     refine Ev.up ?_
     simp only[laws_likeInts.l0,if_neg (show ¬(i:Int)<(l.length:Int) by omega)];exact Ev.now _
    |succ d ih=>
     intro i hi
     refine Ev.up ?_
     simp only[laws_likeInts.l0,if_pos (show (i:Int)<(l.length:Int) by omega),if_pos (show (0:Int)≤(i:Int) by omega),if_true]
     rw[wid (n:=(i:Int)+1) (by omega) (by omega)]
     exact ih (i+1) (by omega)
  unfold laws_likeInts.f
  simp only[if_true]
  exact key l.length 0 (by omega)
theorem moveEnd_ev {a b c d y z:Int} (hg:matB a b c d=true) (he:endB y z=true):Ev (fun k=>impl_MoveEnd.f k a b c d y z)
    (if (endX (a*y+b*z) (c*y+d*z)).2.2=true then((endX (a*y+b*z) (c*y+d*z)).1,(endX (a*y+b*z) (c*y+d*z)).2.1,0) else(0,0,3)):=by
  unfold impl_MoveEnd.f
  refine Ev.bind (impl_IsMatrix_ev a b c d) ?_
  rw[hg]
  simp only[if_true]
  refine Ev.bind (impl_IsEnd_ev y z) ?_
  rw[he]
  refine Ev.up ?_
  simp only[impl_MoveEnd.j0,Bool.not_true,Bool.false_eq_true,if_false]
  have hok: (M4.mk a b c d).ok=true:=hg
  obtain⟨e1,e2,e3⟩:=end_bd he
  obtain⟨f1,f2,f3,f4⟩:=M4.fit_bd (M4.ok_fit hok)
  simp only at f1 f2 f3 f4
  obtain⟨a1,a2,a3⟩:=mov_bd f1 f2 e1 ⟨by omega,e3⟩
  obtain⟨b1,b2,b3⟩:=mov_bd f3 f4 e1 ⟨by omega,e3⟩
  have hm:Ev (fun k=>impl_moveEnd.f k a b c d y z) (endX (a*y+b*z) (c*y+d*z)):=by
    unfold impl_moveEnd.f
    rw[a3,b3]
    exact Ev.bind (endX_ev (n:=a*y+b*z) (d:=c*y+d*z) (by omega) (by omega)).1 (Ev.now _)
  refine Ev.bind hm ?_
  unfold impl_fittedEnd.f
  cases (endX (a*y+b*z) (c*y+d*z)).2.2<;>simp<;>exact Ev.now _
theorem isFree_both (p:Int) (g:List S47) (s:List S32) (hg:g.length≤4611686018427387904) (hs:s.length≤4611686018427387904):∃r:Bool×Int,Ev (fun k=>impl_IsFree.f k p g s) r∧Ev (fun k=>spec_IsFree.f k p g s) r:=by
  have h1:=spec_l09List_ev (p:=p) (g:=g) (s:=s) hg hs
  obtain⟨r,h2,h3⟩:=freeCode_both (p:=p) (g:=g) (s:=s) hg hs
  unfold impl_IsFree.f spec_IsFree.f
  by_cases c:freeCodeW p g s=0
  · rw[if_pos c] at h2
    refine⟨(r.1,r.2),Ev.bind h2 (Ev.now _),Ev.bind h1 ?_⟩
    simp only[if_pos c]
    exact Ev.bind (h3 c).1 (Ev.now _)
  · rw[if_neg c] at h2
    refine⟨(false,freeCodeW p g s),Ev.bind h2 (Ev.now _),Ev.bind h1 ?_⟩
    simp only[if_neg c]
    exact Ev.now _
theorem letter_bd {a:Int} (h4:a≤4) {w:List Int} {i:Nat} (h:letterB a (rd w (i:Int))=true): -4≤rd w (i:Int)∧rd w (i:Int)≤4:=by
  simp only[letterB,Bool.and_eq_true,Bool.not_eq_true',beq_eq_false_iff_ne,decide_eq_true_eq] at h
  omega
theorem isShort_both (a:Int) (w:List Int) (hw:w.length≤1000):∃r:Bool×Int,Ev (fun k=>impl_IsShortWord.f k a w) r∧Ev (fun k=>spec_IsShortWord.f k a w) r∧(wordB a w=true→shortP w→r=(true,0)):=by
  have hs:=spec_word a w (by omega)
  have no:wordB a w=false→Ev (fun k=>spec_IsShortWord.f k a w) (false,2):=fun h=>by
    unfold spec_IsShortWord.f
    rw[h] at hs
    refine Ev.bind hs ?_
    simp only[Bool.false_eq_true,if_false];exact Ev.now _
  by_cases c:1≤a∧a≤4
  · have hi:=impl_word_ev a w c.1 c.2 (by omega)
    have hm:impl_isMovers.f a=some true:=by
      unfold impl_isMovers.f
      rw[if_pos (show a≥1 by omega),decide_eq_true (show a≤4 by omega)]
    cases hB:wordB a w with
    |false=>
     rw[hB] at hi
     refine⟨(false,2),?_,no hB,fun h=>(by cases h)⟩
     unfold impl_IsShortWord.f
     refine Ev.bindv hm ?_
     simp only[if_true]
     refine Ev.bind hi ?_
     simp only[Bool.false_eq_true,if_false];exact Ev.now _
    |true=>
     rw[hB] at hi hs
     obtain⟨_,p2,p3⟩:=word_parts hB
     obtain⟨r,r1,r2⟩:=short_val w p2 (fun i hi=>letter_bd c.2 (p3 i hi)) w.length 1 (by omega) (by omega)
     have r1:Ev (fun k=>impl_isShort.l0 k w 1) r:=r1
     refine⟨(r,0),?_,?_,fun _ h=>by rw[r2.2 fun j h1 h2=>h j h1 h2]⟩
     · unfold impl_IsShortWord.f
       refine Ev.bindv hm ?_
       simp only[if_true]
       refine Ev.bind hi ?_
       simp only[if_true]
       unfold impl_isShort.f
       exact Ev.bind r1 (Ev.now _)
     · unfold spec_IsShortWord.f
       refine Ev.bind hs ?_
       simp only[if_true]
       unfold spec_l09Short.f
       simp only[short_same]
       exact Ev.bind r1 (Ev.now _)
  · have hm:impl_isMovers.f a=some false:=by
      unfold impl_isMovers.f
      by_cases c1:a≥1
      · rw[if_pos c1,decide_eq_false (show ¬a≤4 by omega)]
      · rw[if_neg c1]
    have hB:wordB a w=false:=by
      unfold wordB
      rw[decide_eq_false (by omega),Bool.false_and]
    refine⟨(false,2),?_,no hB,fun h=>by rw[hB] at h;cases h⟩
    unfold impl_IsShortWord.f
    refine Ev.bindv hm ?_
    simp only[Bool.false_eq_true,if_false];exact Ev.now _
theorem wm_word {g:List S47} {w:List Int} (h4:g.length≤4) (hok:∀x∈g,(m4 x).ok=true) (hw:∀i,i<w.length→letterB (g.length:Int) (rd w (i:Int))=true) (n:Nat):∀(i:Nat) (A:M4),i+n=w.length→A.ok=true→(∃k:Int,k≠0∧wordP g w i=A.smul k)→
    (wmW g w n i A).2.2.2.2=0→∃M:M4,wmW g w n i A=(M.a,M.b,M.c,M.d,0)∧M.ok=true∧∃k:Int,k≠0∧wordP g w w.length=M.smul k:=by
  induction n with
  |zero=>
   intro i A hi hA hk _
   obtain rfl:i=w.length:=by omega
   exact⟨A,rfl,hA,hk⟩
  |succ n ih=>
   intro i A hi hA ⟨k,hk,hP⟩ h0
   simp only[wmW] at h0⊢
   obtain⟨l1,l2,l3⟩:=let_ok g h4 hok (hw i (by omega))
   have hdet: (A.mul (letS2 g (rd w (i:Int)))).det≠0:=by rw[M4.det_mul];exact Int.mul_ne_zero (M4.ok_det hA) (M4.ok_det l2)
   have e:=M4.smul_red (A.mul (letS2 g (rd w (i:Int))))
   have hby:=M4.by_ne hdet
   rw[l3 A hA] at e
   by_cases c: (A.mul (letW2 g (rd w (i:Int)))).red.ok=true
   · rw[if_pos c] at h0⊢
     refine ih (i+1) _ (by omega) c ⟨k*(A.mul (letS2 g (rd w (i:Int)))).by_,Int.mul_ne_zero hk hby,?_⟩ h0
     simp only[wordP]
     rw[hP,M4.smul_mul]
     conv=>lhs;rw[←e]
     apply M4.ext'<;>simp only[M4.smul]<;>grind
   · rw[if_neg c] at h0
     exact absurd h0 (by decide)
theorem idx_inj {m a b:Int} (ha:letterB m a=true) (hb:letterB m b=true) (h:idxL a=idxL b):a=b:=by
  simp only[letterB,Bool.and_eq_true,Bool.not_eq_true',beq_eq_false_iff_ne,decide_eq_true_eq] at ha hb
  unfold idxL at h
  split at h<;>split at h<;>omega
theorem side_one {p:Int} {s:List S32} (hball:s.all (fun b=>ballB p b.f0.f0 b.f0.f1 b.f0.f2)=true) (hap:∀a b,0≤a→a<s.length→b<a→apW p s a b=true) {a b:Nat} (ha:a<s.length) (hb:b<s.length) (hne:a≠b) {y z:Int} (h1:memS p (nS s a) y z=true) (h2:memS p (nS s b) y z=true):False:=by
  rcases Nat.lt_or_gt_of_ne hne with h|h
  · exact apart_has (nS_ok hball hb) (nS_ok hball ha) (hap b a (by omega) hb h) h2 h1
  · exact apart_has (nS_ok hball ha) (nS_ok hball hb) (hap a b (by omega) ha h) h1 h2
theorem rd_take (w:List Int) {n i:Nat} (hi:i<n):rd (w.take n) (i:Int)=rd w (i:Int):=by
  simp only[rd,Int.toNat_natCast]
  rw[List.getD_eq_getElem?_getD,List.getD_eq_getElem?_getD,List.getElem?_take,if_pos hi]
theorem word_in {p:Int} {g:List S47} {s:List S32} {w:List Int} {r q:Int×Int×Int×Bool×Int} (h:InfoW p g s w r) (hl:1<w.length) (h':InfoW p g s (w.take (w.length - 1)) q):
    apartW p r.1 r.2.1 r.2.2.1 r.2.2.2.1 q.1 q.2.1 q.2.2.1 (!q.2.2.2.1)=true:=by
  obtain⟨hball,hok,hlen,hsl⟩:=code_parts h.code
  obtain⟨_,p2,p3⟩:=word_parts h.word
  refine apart_of h.ball h'.ball fun y z hyz e1 e2=>?_
  have htl: (w.take (w.length - 1)).length=w.length - 1:=by rw[List.length_take];omega
  have m1:=h.mem
  have m2:=h'.mem
  rw[htl] at m2
  rw[rd_take w (show w.length - 1 - 1<w.length - 1 by omega),wordP_congr (v:=w) (w.length - 1 - 1) (fun i hi=>rd_take w (by omega))] at m2
  have lN:=p3 (w.length - 1 - 1) (by omega)
  have lL:=p3 (w.length - 1) (by omega)
  have hsh:=h.short (w.length - 1) (by omega) (by omega)
  have hP:wordP g w (w.length - 1)=(wordP g w (w.length - 1 - 1)).mul (letS2 g (rd w ((w.length - 1 - 1:Nat):Int))):=by
    conv=>lhs;rw[show w.length - 1=(w.length - 1 - 1)+1 by omega]
    rfl
  rw[hP] at m1
  have hdet:=wordP_det (w:=w) hlen.2 hok (w.length - 1 - 1) (fun i hi=>p3 i (by omega))
  generalize wordP g w (w.length - 1 - 1)=B at*
  have ldet:=M4.ok_det (let_ok g hlen.2 hok lN).2.1
  generalize rd w ((w.length - 1 - 1:Nat):Int)=t at*
  generalize rd w ((w.length - 1:Nat):Int)=u at*
  have adB:B.adj.det≠0:=by rw[adj_det];exact hdet
  have adL: (letS2 g t).adj.det≠0:=by rw[adj_det];exact ldet
  have e1:memS p ⟨⟨r.1,r.2.1,r.2.2.1⟩,r.2.2.2.1⟩ y z=true:=e1
  have e2:memS p ⟨⟨q.1,q.2.1,q.2.2.1⟩,q.2.2.2.1⟩ y z=false:=by
    unfold memS
    revert e2
    simp only
    cases heldB p q.1 q.2.1 q.2.2.1 y z<;>cases q.2.2.2.1<;>simp
  have hf:=a_ne adB hyz
  have kB:=a_adj B y z
  generalize aY B.adj y z=fy at*
  generalize aZ B.adj y z=fz at*
  have hh:=a_ne adL hf
  have kL:=a_adj (letS2 g t) fy fz
  generalize aY (letS2 g t).adj fy fz=hy at*
  generalize aZ (letS2 g t).adj fy fz=hz at*
  have n2:=m2 fy fz hf
  have bq:bS p ⟨⟨q.1,q.2.1,q.2.2.1⟩,q.2.2.2.1⟩:=h'.ball
  have br:bS p ⟨⟨r.1,r.2.1,r.2.2.1⟩,r.2.2.2.1⟩:=h.ball
  rw[kB.1,kB.2,mem_mul bq hdet,e2] at n2
  have n3:=letter_mem hok hball hsl h.free lN hh
  rw[kL.1,kL.2,mem_mul (nS_ok hball (idx_lt hok hball hsl lN)) ldet,n2] at n3
  have n1:=m1 hy hz hh
  rw[(a_mul B (letS2 g t) hy hz).1,(a_mul B (letS2 g t) hy hz).2,kL.1,kL.2,(a_scale B _ fy fz).1,(a_scale B _ fy fz).2,kB.1,kB.2,mem_mul br ldet,mem_mul br hdet,e1] at n1
  have hnt:=letterB_neg lN
  refine side_one hball h.apart (idx_lt hok hball hsl lL) (idx_lt hok hball hsl hnt) (fun e=>?_) n1 (by
    cases hc:memS p (nS s (idxL (-t))) hy hz with
    |true=>rfl
    |false=>rw[hc] at n3;cases n3)
  exact hsh (idx_inj lL hnt e)
theorem apart_valid {p L T D L' T' D':Int} {o o':Bool} (h:ballB p L T D=true) (h':ballB p L' T' D'=true) (ha:apartW p L T D o L' T' D' o'=true):Ev (fun k=>impl_AreApartSides.f k p L T D o L' T' D' o') (true,0):=by
  unfold impl_AreApartSides.f
  refine Ev.bind (impl_areSides_ev p [⟨⟨L,T,D⟩,o⟩,⟨⟨L',T',D'⟩,o'⟩] (by simp)) ?_
  show Ev (fun k=>if sideCodeB p [⟨⟨L,T,D⟩,o⟩,⟨⟨L',T',D'⟩,o'⟩]=true then _ else _) _
  have hs:sideCodeB p [(⟨⟨L,T,D⟩,o⟩:S32),⟨⟨L',T',D'⟩,o'⟩]=true:=by
    unfold sideCodeB
    simp[(ball_parts h).1,h,h']
  rw[hs]
  simp only[if_true]
  have:=impl_apartSides_ev (o:=o) (o':=o') h h'
  rw[ha] at this
  exact Ev.bind this (Ev.now _)
theorem cr_ {a b mm u v Y Z:Int} (hm:mm≠0) (hy:Y=mm*u) (hz:Z=mm*v) (h:a*Z=b*Y):a*v=u*b:=by
  subst hy hz
  refine Int.eq_of_mul_eq_mul_left hm ?_
  rw[Int.mul_left_comm mm a v,h,Int.mul_left_comm b mm u,Int.mul_comm b u]
theorem FnFreeWords:laws_FnFreeWords.Pure:=by
  intro c _ _ hwf
  refine Ev.rounds ?_
  unfold laws_FnFreeWords.f laws_big.f
  simp only[Option.bind_some]
  by_cases hbig: (c.length:Int)>4096
  · rw[decide_eq_true hbig];simp only[if_true];exact Ev.now _
  rw[decide_eq_false hbig]
  simp only[Bool.false_eq_true,if_false]
  have hb:∀x∈c,0≤x∧x≤255:=by
    intro x hx
    have:=hwf x hx
    simp only[Lit.wf,Bool.and_eq_true,decide_eq_true_eq] at this
    exact⟨this.1,this.2⟩
  have hl5:c.length≤5000:=by omega
  have j5:Ev (fun k=>laws_FnFreeWords.j5 k c) true:=by
    obtain⟨p,g,s,e1,g4,s8⟩:=dFree_ok hb hl5
    obtain⟨r1,i1,q1⟩:=isFree_both p g s (by omega) (by omega)
    obtain⟨a,n,e2⟩:=dCount_ok hb hl5
    obtain⟨b,w,e3,w8⟩:=dShort_ok hb hl5
    obtain⟨r3,i3,q3,_⟩:=isShort_both b w (by omega)
    obtain⟨g',w',e4,g4',w8'⟩:=dWordM_ok hb hl5
    refine Ev.up ?_
    simp only[laws_FnFreeWords.j5]
    refine Ev.bind e1 (Ev.bind i1 (Ev.bind q1 (Ev.bind e2 (Ev.bind (cnt_impl_ev a n) (Ev.bind (cnt_spec_ev a n) (Ev.bind e3 (Ev.bind i3 (Ev.bind q3 (Ev.bind e4 (Ev.bind (impl_WordMatrix_ev g' w' (by omega) (by omega)) (Ev.bind (spec_WordMatrix_ev g' w' (by omega) (by omega)) ?_)))))))))))
    simp only[if_true,beq_self_eq_true,Bool.and_self]
    exact Ev.now _
  have j2:Ev (fun k=>laws_FnFreeWords.j2 k c) true:=by
    obtain⟨p,g,s,a,b,e1,g4,s8⟩:=dBring_ok hb hl5
    obtain⟨r,i1,q1,l12,inf⟩:=BringOut_both p g s a b (by omega) (by omega)
    refine Ev.up ?_
    simp only[laws_FnFreeWords.j2]
    refine Ev.bind e1 (Ev.bind i1 (Ev.bind q1 ?_))
    simp only[if_true]
    refine Ev.bind (like_ev (l:=r.1) (by omega)) ?_
    simp only[if_true,beq_self_eq_true,Bool.not_true,Bool.or_self]
    refine Ev.up ?_
    simp only[laws_FnFreeWords.j3,Bool.false_eq_true,if_false]
    by_cases h0:r.2.2.2=0
    · simp only[if_pos h0]
      obtain⟨c0,he,hB⟩:=inf h0
      obtain⟨hball,hok,hlen,hsl⟩:=code_parts c0
      have hwB:wordB (g.length:Int) r.1=true:=by
        unfold wordB
        rw[decide_eq_true (show 1≤(g.length:Int)∧(g.length:Int)≤4∧r.1.length≤12 from ⟨by omega,by omega,hB.len⟩),Bool.true_and,List.all_eq_true]
        intro x hx
        obtain⟨i,hi,rfl⟩:=List.mem_iff_getElem.1 hx
        have:=hB.letter i hi
        simp only[rd,Int.toNat_natCast,List.getD_eq_getElem?_getD,List.getElem?_eq_getElem hi,Option.getD_some] at this
        exact this
      obtain⟨t,t1,_,t3⟩:=isShort_both (g.length:Int) r.1 (by omega)
      rw[t3 hwB hB.short] at t1
      refine Ev.bind t1 (Ev.bind (impl_WordMatrix_ev g r.1 (by omega) (by omega)) ?_)
      simp only[if_true,Bool.not_true]
      refine Ev.up ?_
      simp only[laws_FnFreeWords.j4,Bool.false_eq_true,if_false]
      have hwm:wordMW g r.1=wmW g r.1 r.1.length 0 M4.one:=by
        unfold wordMW
        rw[if_pos (List.all_eq_true.2 hok),if_pos hwB]
      rw[hwm]
      by_cases hm: (wmW g r.1 r.1.length 0 M4.one).2.2.2.2=0
      · simp only[if_pos hm]
        obtain⟨M,m1,m2,k,hk,hP⟩:=wm_word hlen.2 hok hB.letter r.1.length 0 M4.one (by omega) one_ok ⟨1,by decide,by
          apply M4.ext'<;>simp[M4.smul,wordP]⟩ hm
        rw[m1]
        have mv:=moveEnd_ev (a:=M.a) (b:=M.b) (c:=M.c) (d:=M.d) m2 hB.fit
        refine Ev.bind mv ?_
        cases hx: (endX (M.a*r.2.1+M.b*r.2.2.1) (M.c*r.2.1+M.d*r.2.2.1)).2.2 with
        |false=>
         simp only[Bool.false_eq_true,if_false,if_neg (show ¬(3:Int)=0 by decide)]
         exact j5
        |true=>
         simp only[if_true]
         obtain⟨mm,hm0,hmy,hmz⟩:=endX_mul (a_ne (M4.ok_det m2) (endB_ne hB.fit))
         have hbk:=hB.back
         rw[hP,(a_smul k M _ _).1,(a_smul k M _ _).2] at hbk
         have hX:=endX_ok hx
         have hcr:a*aZ M r.2.1 r.2.2.1=b*aY M r.2.1 r.2.2.1:=by
            refine Int.eq_of_mul_eq_mul_left hk ?_
            rw[Int.mul_left_comm k a,hbk,Int.mul_left_comm k b]
         obtain⟨k1,k2⟩:=end_eq he hX (cr_ hm0 hmy hmz hcr)
         have k1:a=(endX (M.a*r.2.1+M.b*r.2.2.1) (M.c*r.2.1+M.d*r.2.2.1)).1:=k1
         have k2:b=(endX (M.a*r.2.1+M.b*r.2.2.1) (M.c*r.2.1+M.d*r.2.2.1)).2.1:=k2
         rw[←k1,←k2]
         simp only[beq_self_eq_true,Bool.not_true,Bool.or_self,Bool.false_eq_true,if_false]
         exact j5
      · simp only[if_neg hm];exact j5
    · simp only[if_neg h0];exact j5
  obtain⟨p,g,s,w,e1,g4,s8,w8⟩:=dSide_ok hb hl5
  obtain⟨r,i1,q1,inf⟩:=SideOfWord_both p g s w (by omega) (by omega) (by omega)
  refine Ev.bind e1 (Ev.bind i1 (Ev.bind q1 ?_))
  simp only[if_true,beq_self_eq_true,Bool.not_true,Bool.or_self]
  refine Ev.up ?_
  simp only[laws_FnFreeWords.j0,Bool.false_eq_true,if_false]
  by_cases h0:r.2.2.2.2=0
  · simp only[if_pos h0]
    refine Ev.up ?_
    simp only[laws_FnFreeWords.j1]
    by_cases h1: (w.length:Int)>1
    · have ew:wrap64 ((w.length:Int) - 1)=((w.length - 1:Nat):Int):=by rw[wid (by omega) (by omega)];omega
      simp only[decide_eq_true h1,if_true,ew,if_pos (show (0:Int)≤((w.length - 1:Nat):Int) by omega),if_pos (show ((w.length - 1:Nat):Int)≤(w.length:Int) by omega),Int.toNat_natCast]
      obtain⟨q,i2,_,inf2⟩:=SideOfWord_both p g s (w.take (w.length - 1)) (by omega) (by omega) (by rw[List.length_take];omega)
      refine Ev.bind i2 ?_
      by_cases h2:q.2.2.2.2=0
      · simp only[if_pos h2]
        have ha:=word_in (inf h0) (by omega) (inf2 h2)
        refine Ev.bind (apart_valid (inf h0).ball (inf2 h2).ball ha) ?_
        simp only[if_true]
        exact j2
      · simp only[if_neg h2];exact j2
    · simp only[decide_eq_false h1,Bool.false_eq_true,if_false];exact j2
  · simp only[if_neg h0]
    refine Ev.up ?_
    simp only[laws_FnFreeWords.j1,Bool.false_eq_true,if_false]
    exact j2
end Go.Proofs.YtanckmepopmjkabGreat.Pure
