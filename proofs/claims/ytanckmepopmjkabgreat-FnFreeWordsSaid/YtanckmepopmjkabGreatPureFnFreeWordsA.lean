/- FnFreeWords: sides of words lie one in the other, the matrix of the numbers that bring an end out leads back to it, and short words are counted as told; no condition beyond the row's. -/
import Derived.Test.YtanckmepopmjkabGreatTXd
import Derived.Test.YtanckmepopmjkabGreatWSized
namespace Go.Proofs.YtanckmepopmjkabGreat.PrintWords
open Go.ChangeShapes Go.WideShapes
/-- The name by which the printed row calls the word. -/
theorem sized_ints {H:Type} {enc:TypeId×Value→H} {P:Program} {W:World} {base:Nat} {spare:Nat→Bool} {held:Bool} {t e:TypeId} {k:IntKind} {a:Option Addr} {len cap:Nat} {d:DataW H} {ps:List MemPlace} {ts:List TypeId} {ds:List (DataW H)} {j:Nat}
    (hsz: (DataW.weightsEach P ts ds).all (·≤reachBytes)=true) (ht:ts[j]? =some t) (hd:ds[j]? =some d) (hu:P.underlying t=some (.slice e)) (he:P.underlying e=some (.int k)) (hc:P.cellsOf e=1) {B:Nat} (hB:P.bytesOf e=B)
    (h:DataW.Trod enc P W base spare held t (.slice a len cap) d ps):len*B≤140737488351232:=
  Go.Proofs.YtanckmepopmjkabGreatW.PrintWords.sized_ints hsz ht hd hu he hc hB h
end Go.Proofs.YtanckmepopmjkabGreat.PrintWords
namespace Go.Proofs.YtanckmepopmjkabGreat.Pure
open Go.RowKit Go.Proofs.YtanckmepopmjkabGreat.QW Go.Proofs.YtanckmepopmjkabGreatW.PrintWords Go.Proofs.YtanckmepopmjkabGreatW.PrintLast
set_option linter.unusedVariables false
set_option linter.unusedSimpArgs false
set_option linter.unusedSectionVars false
theorem wid {n:Int} (h0: -9223372036854775808≤n:=by omega) (h1:n≤9223372036854775807:=by omega):wrap64 n=n:=by unfold wrap64;omega
theorem wrap_hi (n:Int):wrap64 n≤9223372036854775807:=by unfold wrap64;omega
theorem Ev.val {α:Type} {o:Option α} {r:α} (h:o=some r):Ev (fun _=>o) r:=⟨0,fun _ _=>h⟩
theorem Ev.bindv {α β:Type} {o:Option α} {f:Nat→α→Option β} {a:α} {r:β} (h:o=some a) (k:Ev (fun n=>f n a) r):Ev (fun n=>o.bind (f n)) r:=by
  subst h;exact k
def powW (p:Int):Nat→Int→Int
  |0,acc=>acc
  |n+1,acc=>powW p n (wrap64 (acc*p))
def primeB (p:Int):Bool:=p==2||(p==3||(p==5||p==7))
theorem prime_cases {p:Int} (h:primeB p=true):p=2∨p=3∨p=5∨p=7:=by
  simpa [primeB] using h
theorem prime_lo {p:Int} (h:primeB p=true):2≤p:=by rcases prime_cases h with h|h|h|h<;>omega
theorem ipow_pos {p:Int} (hp:1≤p) (n:Nat): (1:Int)≤p^n:=by
  have:=Int.pow_pos (n:=p) (m:=n) (by omega)
  omega
theorem ipow_mono {p:Int} (hp:1≤p) {m n:Nat} (h:m≤n):p^m≤p^n:=by
  obtain⟨d,rfl⟩:∃d,n=m+d:=⟨n - m,by omega⟩
  rw[Int.pow_add]
  have h1:=ipow_pos hp m
  have h2:=ipow_pos hp d
  have:=Int.mul_le_mul_of_nonneg_left h2 (show 0≤p^m by omega)
  rwa [Int.mul_one] at this
theorem powW_fit (p:Int) (hp:1≤p) (n:Nat):∀(acc:Int),0≤acc→acc*p^n≤9223372036854775807→powW p n acc=acc*p^n:=by
  induction n with
  |zero=>intro acc _ _;simp[powW]
  |succ n ih=>
   intro acc h0 h
   have hpn: (1:Int)≤p^n:=ipow_pos hp n
   have e:acc*p^(n+1)=acc*p*p^n:=by rw[Int.pow_succ,Int.mul_comm (p^n) p,←Int.mul_assoc]
   have h1:0≤acc*p:=Int.mul_nonneg h0 (by omega)
   have h2:acc*p≤acc*p*p^n:=by
      have:=Int.mul_le_mul_of_nonneg_left hpn h1
      rwa [Int.mul_one] at this
   simp only[powW]
   rw[wid (by omega) (by omega),ih _ h1 (by omega),e]
theorem pow_le_top {p:Int} (h:primeB p=true) (n:Nat) (hn:n≤22):p^n≤9223372036854775807:=by
  have hp:=prime_lo h
  have h1:p^n≤p^22:=ipow_mono (by omega) hn
  have h2:p^22≤9223372036854775807:=by
    rcases prime_cases h with rfl|rfl|rfl|rfl<;>decide
  omega
theorem powW_prime {p:Int} (h:primeB p=true) (n:Nat) (hn:n≤22):powW p n 1=p^n:=by
  have hp:=prime_lo h
  rw[powW_fit p (by omega) n 1 (by omega) (by rw[Int.one_mul];exact pow_le_top h n hn),Int.one_mul]
def ballB (p L T D:Int):Bool:=
  primeB p&&(decide (-6≤L∧L≤6)&&(decide (0≤D∧D≤6)&&(if L+D≤0 then T==0&&D==0 else decide (0≤T∧T<p^(L+D).toNat)&&(D==0||!(Int.tmod T p==0)))))
def valF (p:Int):Nat→Int→Nat
  |0,_=>0
  |f+1,n=>if n%p=0 then valF p f (n / p)+1 else 0
def val (p n:Int):Nat:=valF p n.natAbs n
theorem valF_spec {p:Int} (hp:2≤p) (f:Nat):∀n:Int,n≠0→n.natAbs≤f→∃u,n=p^(valF p f n)*u∧¬p∣u:=by
  induction f with
  |zero=>intro n h0 hf;omega
  |succ f ih=>
   intro n h0 hf
   unfold valF
   by_cases h:n%p=0
   · rw[if_pos h]
     obtain⟨q,hq⟩:=Int.dvd_of_emod_eq_zero h
     have hq0:q≠0:=by intro e;subst e;simp at hq;exact h0 hq
     have hdiv:n / p=q:=by rw[hq];exact Int.mul_ediv_cancel_left q (by omega)
     rw[hdiv]
     have hlt:q.natAbs≤f:=by
        have:n.natAbs=p.natAbs*q.natAbs:=by rw[hq,Int.natAbs_mul]
        have h2:2*q.natAbs≤p.natAbs*q.natAbs:=Nat.mul_le_mul_right _ (by omega)
        omega
     obtain⟨u,hu,hn⟩:=ih q hq0 hlt
     refine⟨u,?_,hn⟩
     conv=>lhs;rw[hq,hu]
     rw[Int.pow_succ',Int.mul_assoc]
   · rw[if_neg h]
     exact⟨n,by simp,fun hd=>h (Int.emod_eq_zero_of_dvd hd)⟩
theorem val_spec {p n:Int} (hp:2≤p) (h:n≠0):∃u,n=p^(val p n)*u∧¬p∣u:=valF_spec hp _ n h (Nat.le_refl _)
theorem pow_unique {p u u':Int} (hp:2≤p) (hu:¬p∣u) (hu':¬p∣u'):∀(v v':Nat),p^v*u=p^v'*u'→v=v':=by
  have key:∀(v d:Nat) (x x':Int),¬p∣x→p^v*x=p^(v+(d+1))*x'→False:=by
    intro v d x x' hx h
    rw[Int.pow_add,Int.mul_assoc] at h
    have h2:x=p^(d+1)*x':=Int.eq_of_mul_eq_mul_left (Int.pow_ne_zero (by omega)) h
    apply hx
    rw[h2,Int.pow_succ',Int.mul_assoc]
    exact Int.dvd_mul_right _ _
  intro v v' h
  rcases Nat.lt_trichotomy v v' with h1|h1|h1
  · obtain⟨d,rfl⟩:∃d,v'=v+(d+1):=⟨v' - v - 1,by omega⟩
    exact(key v d u u' hu h).elim
  · exact h1
  · obtain⟨d,rfl⟩:∃d,v=v'+(d+1):=⟨v - v' - 1,by omega⟩
    exact(key v' d u' u hu' h.symm).elim
theorem val_eq {p n u:Int} {v:Nat} (hp:2≤p) (h:n=p^v*u) (hu:¬p∣u):val p n=v:=by
  have hn:n≠0:=by
    intro e;rw[e] at h
    rcases Int.mul_eq_zero.1 h.symm with h|h
    · exact Int.pow_ne_zero (by omega) h
    · exact hu (by rw[h];exact Int.dvd_zero p)
  obtain⟨u',h',hu'⟩:=val_spec hp hn
  exact pow_unique hp hu' hu _ _ (h'.symm.trans h)
theorem val_pow_mul {p e:Int} (j:Nat) (hp:2≤p) (he:e≠0):val p (p^j*e)=j+val p e:=by
  obtain⟨u,h,hu⟩:=val_spec hp he
  refine val_eq hp (u:=u) ?_ hu
  conv=>lhs;rw[h]
  rw[Int.pow_add,Int.mul_assoc]
theorem val_dvd {p n:Int} (hp:2≤p) (h:n≠0) (j:Nat):p^j∣n↔j≤val p n:=by
  obtain⟨u,hu,hn⟩:=val_spec hp h
  constructor
  · rintro⟨q,hq⟩
    rcases Nat.lt_or_ge (val p n) j with h1|h1
    · exfalso
      obtain⟨d,hd⟩:∃d,j=val p n+(d+1):=⟨j - val p n - 1,by omega⟩
      have h2:p^(val p n)*u=p^(val p n)*(p^(d+1)*q):=by
        have e:n=p^(val p n)*(p^(d+1)*q):=by rw[←Int.mul_assoc,←Int.pow_add,←hd];exact hq
        exact hu.symm.trans e
      have h3:=Int.eq_of_mul_eq_mul_left (Int.pow_ne_zero (by omega)) h2
      apply hn
      rw[h3,Int.pow_succ',Int.mul_assoc]
      exact Int.dvd_mul_right _ _
    · exact h1
  · intro h1
    obtain⟨d,hd⟩:∃d,val p n=j+d:=⟨val p n - j,by omega⟩
    refine⟨p^d*u,?_⟩
    conv=>lhs;rw[hu,hd,Int.pow_add,Int.mul_assoc]
theorem val_le_of_lt {p n:Int} (hp:2≤p) (h:n≠0) (j:Nat) (hlt:n.natAbs<2^j):val p n<j:=by
  rcases Nat.lt_or_ge (val p n) j with h1|h1
  · exact h1
  · exfalso
    obtain⟨q,hq⟩:=(val_dvd hp h j).2 h1
    have hq0:q≠0:=by intro e;subst e;simp at hq;exact h hq
    have:n.natAbs=p.natAbs^j*q.natAbs:=by rw[hq,Int.natAbs_mul,Int.natAbs_pow]
    have h2:2^j≤p.natAbs^j:=Nat.pow_le_pow_left (by omega) j
    have h3:p.natAbs^j*1≤p.natAbs^j*q.natAbs:=Nat.mul_le_mul_left _ (by omega)
    omega
theorem tdiv_bdv {x M:Int} (g:Int) (hx: -M≤x∧x≤M): -M≤Int.tdiv x g∧Int.tdiv x g≤M:=by
  have:=Int.natAbs_tdiv_le_natAbs x g
  omega
theorem pow_13 {p:Int} (hp:primeB p=true) (n:Nat) (h:n≤12):p^n≤13841287201:=by
  have hp2:=prime_lo hp
  have h1:p^n≤p^12:=ipow_mono (by omega) h
  have h2:p^12≤13841287201:=by rcases prime_cases hp with rfl|rfl|rfl|rfl<;>decide
  omega
theorem pow_6 {p:Int} (hp:primeB p=true) (n:Nat) (h:n≤6):p^n≤117649:=by
  have hp2:=prime_lo hp
  have h1:p^n≤p^6:=ipow_mono (by omega) h
  have h2:p^6≤117649:=by rcases prime_cases hp with rfl|rfl|rfl|rfl<;>decide
  omega
def markOf (p T D:Int):Int:=T*p^(6 - D).toNat
def ofM (p L X:Int):Int×Int×Int:=
  let x:=X%p^(L+6).toNat
  let dn:Int:=if x=0 then 0 else if (val p x:Int)<6 then 6 - val p x else 0
  (L,x / p^(6 - dn).toNat,dn)
theorem ofM_of {p L X T D:Int} (hp:2≤p) (hx:X%p^(L+6).toNat=T*p^(6 - D).toNat) (hD:0≤D∧D≤6) (hu:D=0∨¬p∣T):ofM p L X=(L,T,D):=by
  unfold ofM
  simp only[hx]
  have hpow:∀j:Nat,p^j≠0:=fun j=>Int.pow_ne_zero (by omega)
  by_cases h0:T*p^(6 - D).toNat=0
  · have hT:T=0:=by
      rcases Int.mul_eq_zero.1 h0 with h|h
      · exact h
      · exact absurd h (hpow _)
    have hD0:D=0:=by
      rcases hu with h|h
      · exact h
      · exact absurd (by rw[hT];exact Int.dvd_zero p) h
    subst hT;subst hD0
    simp
  · rw[if_neg h0]
    have hT:T≠0:=by intro e;rw[e] at h0;simp at h0
    have hv:val p (T*p^(6 - D).toNat)=(6 - D).toNat+val p T:=by rw[Int.mul_comm];exact val_pow_mul _ hp hT
    have hdn: (if ((val p (T*p^(6 - D).toNat):Nat):Int)<6 then 6 - ((val p (T*p^(6 - D).toNat):Nat):Int) else 0)=D:=by
      rw[hv]
      rcases hu with h|h
      · rw[if_neg (by omega)];exact h.symm
      · have:val p T=0:=val_eq hp (u:=T) (by simp) h
        rw[this]
        by_cases hd:D=0
        · rw[if_neg (by omega)];exact hd.symm
        · rw[if_pos (by omega)];omega
    rw[hdn,Int.mul_ediv_cancel _ (hpow _)]
theorem ofM_mod (p L X:Int):ofM p L (X%p^(L+6).toNat)=ofM p L X:=by unfold ofM;simp only[Int.emod_emod]
theorem ofM_back {p L X:Int} (hp:2≤p): (ofM p L X).2.1*p^(6 - (ofM p L X).2.2).toNat=X%p^(L+6).toNat∧(0≤(ofM p L X).2.2∧(ofM p L X).2.2≤6)∧((ofM p L X).2.2=0∨¬p∣(ofM p L X).2.1):=by
  unfold ofM
  simp only
  generalize hx:X%p^(L+6).toNat=x
  by_cases h0:x=0
  · rw[if_pos h0];simp[h0]
  · rw[if_neg h0]
    obtain⟨u,hu,hn⟩:=val_spec hp h0
    have hpow:∀j:Nat,p^j≠0:=fun j=>Int.pow_ne_zero (by omega)
    by_cases hv: ((val p x:Nat):Int)<6
    · rw[if_pos hv]
      have e: (6 - (6 - ((val p x:Nat):Int))).toNat=val p x:=by omega
      rw[e]
      have hq:x / p^val p x=u:=by
        conv=>lhs;lhs;rw[hu]
        exact Int.mul_ediv_cancel_left _ (hpow _)
      rw[hq]
      refine⟨?_,by omega,.inr hn⟩
      rw[Int.mul_comm];exact hu.symm
    · rw[if_neg hv]
      refine⟨?_,by omega,.inl rfl⟩
      have hd:p^(6 - (0:Int)).toNat∣x:=(val_dvd hp h0 _).2 (by omega)
      exact Int.ediv_mul_cancel hd
theorem ofM_inj {p L X Y:Int} (hp:2≤p):ofM p L X=ofM p L Y↔X%p^(L+6).toNat=Y%p^(L+6).toNat:=by
  constructor
  · intro h
    rw[←(ofM_back (X:=X) hp).1,←(ofM_back (X:=Y) hp).1,h]
  · intro h
    rw[←ofM_mod p L X,h,ofM_mod]
theorem ball_parts {p L T D:Int} (h:ballB p L T D=true):primeB p=true∧(-6≤L∧L≤6)∧(0≤D∧D≤6)∧(L+D≤0→T=0∧D=0)∧(0<L+D→(0≤T∧T<p^(L+D).toNat)∧(D=0∨¬p∣T)):=by
  unfold ballB at h
  simp only[Bool.and_eq_true,decide_eq_true_eq] at h
  obtain⟨h1,h2,h3,h4⟩:=h
  refine⟨h1,h2,h3,?_,?_⟩
  · intro hn;rw[if_pos hn] at h4;simpa using h4
  · intro hn
    rw[if_neg (by omega)] at h4
    simp only[Bool.and_eq_true,decide_eq_true_eq,Bool.or_eq_true,beq_iff_eq,Bool.not_eq_true',beq_eq_false_iff_ne] at h4
    refine⟨h4.1,?_⟩
    rcases h4.2 with h5|h5
    · exact .inl h5
    · exact .inr (fun hd=>h5 (Int.tmod_eq_zero_of_dvd hd))
theorem mark_lt {p L T D:Int} (h:ballB p L T D=true):0≤markOf p T D∧markOf p T D<p^(L+6).toNat:=by
  obtain⟨hp,hL,hD,h0,h1⟩:=ball_parts h
  have hp2:=prime_lo hp
  unfold markOf
  by_cases hn:L+D≤0
  · rw[(h0 hn).1]
    have:=ipow_pos (p:=p) (by omega) (L+6).toNat
    omega
  · obtain⟨⟨a,b⟩,_⟩:=h1 (by omega)
    have hq:=ipow_pos (p:=p) (by omega) (6 - D).toNat
    refine⟨Int.mul_nonneg a (by omega),?_⟩
    have e:p^(L+6).toNat=p^(L+D).toNat*p^(6 - D).toNat:=by rw[←Int.pow_add];congr 1;omega
    rw[e]
    exact Int.mul_lt_mul_of_pos_right b (by omega)
theorem mark_mod {p L T D:Int} (h:ballB p L T D=true):markOf p T D%p^(L+6).toNat=markOf p T D:=Int.emod_eq_of_lt (mark_lt h).1 (mark_lt h).2
theorem ball_unit {p L T D:Int} (h:ballB p L T D=true):D=0∨¬p∣T:=by
  obtain⟨_,_,_,h0,h1⟩:=ball_parts h
  by_cases hn:L+D≤0
  · exact .inl (h0 hn).2
  · exact(h1 (by omega)).2
theorem ofM_mark {p L T D:Int} (h:ballB p L T D=true):ofM p L (markOf p T D)=(L,T,D):=
  ofM_of (prime_lo (ball_parts h).1) (mark_mod h) (ball_parts h).2.2.1 (ball_unit h)
theorem ofM_ball {p L X:Int} (hp:primeB p=true) (hL: -6≤L∧L≤6):ballB p L (ofM p L X).2.1 (ofM p L X).2.2=true:=by
  have hp2:=prime_lo hp
  obtain⟨hx,hD,hu⟩:=ofM_back (p:=p) (L:=L) (X:=X) hp2
  have hpos:=ipow_pos (p:=p) (by omega) (L+6).toNat
  have hx0:=Int.emod_nonneg X (show p^(L+6).toNat≠0 by omega)
  have hx1:=Int.emod_lt_of_pos X (show 0<p^(L+6).toNat by omega)
  generalize (ofM p L X).2.1=T at*
  generalize (ofM p L X).2.2=D at*
  have hq:=ipow_pos (p:=p) (by omega) (6 - D).toNat
  rw[←hx] at hx0 hx1
  have hT0:0≤T:=by
    rcases Int.lt_or_le T 0 with h|h
    · have:=Int.mul_neg_of_neg_of_pos h (show 0<p^(6 - D).toNat by omega);omega
    · exact h
  unfold ballB
  rw[hp,decide_eq_true hL,decide_eq_true hD,Bool.true_and,Bool.true_and,Bool.true_and]
  by_cases hn:L+D≤0
  · rw[if_pos hn]
    have hT:T=0:=by
      rcases Int.lt_or_eq_of_le hT0 with h|h
      · exfalso
        have e:p^(6 - D).toNat=p^(L+6).toNat*p^(-(L+D)).toNat:=by rw[←Int.pow_add];congr 1;omega
        have h2:=ipow_pos (p:=p) (by omega) (-(L+D)).toNat
        have h3:p^(L+6).toNat*1≤p^(L+6).toNat*p^(-(L+D)).toNat:=Int.mul_le_mul_of_nonneg_left (by omega) (by omega)
        have h4:1*p^(6 - D).toNat≤T*p^(6 - D).toNat:=Int.mul_le_mul_of_nonneg_right (by omega) (by omega)
        omega
      · exact h.symm
    have hD0:D=0:=by
      rcases hu with h|h
      · exact h
      · exact absurd (by rw[hT];exact Int.dvd_zero p) h
    simp[hT,hD0]
  · rw[if_neg hn]
    have hlt:T<p^(L+D).toNat:=by
      have e:p^(L+6).toNat=p^(L+D).toNat*p^(6 - D).toNat:=by rw[←Int.pow_add];congr 1;omega
      rw[e] at hx1
      exact Int.lt_of_mul_lt_mul_right hx1 (by omega)
    rw[decide_eq_true (show 0≤T∧T<p^(L+D).toNat from ⟨hT0,hlt⟩),Bool.true_and]
    rcases hu with h|h
    · simp[h]
    · have: (Int.tmod T p==0)=false:=beq_eq_false_iff_ne.2 (fun e=>h (Int.dvd_of_tmod_eq_zero e))
      simp[this]
theorem ball_num {p L T D:Int} (h:ballB p L T D=true):0≤T∧T≤13841287201:=by
  obtain⟨hp,hL,hD,h0,h1⟩:=ball_parts h
  have hp2:=prime_lo hp
  by_cases hn:L+D≤0
  · rw[(h0 hn).1];omega
  · have:=(h1 (by omega)).1
    have:=pow_13 hp (L+D).toNat (by omega)
    omega
def endB (n d:Int):Bool:=if d=0 then n==1 else decide (1≤d∧d≤1000000)&&(decide (-1000000≤n∧n≤1000000)&&((Int.gcd n d:Int)==1))
def nearW (p T D n d:Int):Int:=n*p^D.toNat - T*d
def heldB (p L T D n d:Int):Bool:=if d=0 then false else if nearW p T D n d=0 then true else decide (L≤(val p (nearW p T D n d):Int) - val p d - D)
theorem near_mark {p L T D:Int} (n d:Int) (h:ballB p L T D=true):n*p^6 - markOf p T D*d=p^(6 - D).toNat*nearW p T D n d:=by
  obtain⟨_,_,hD,_⟩:=ball_parts h
  unfold nearW markOf
  have e:p^6=p^D.toNat*p^(6 - D).toNat:=by rw[←Int.pow_add];congr 1;omega
  rw[e,Int.mul_sub]
  simp only[Int.mul_assoc,Int.mul_comm,Int.mul_left_comm]
theorem end_bd {n d:Int} (h:endB n d=true): (-1000000≤n∧n≤1000000)∧0≤d∧d≤1000000:=by
  unfold endB at h
  by_cases h0:d=0
  · rw[if_pos h0] at h;have:n=1:=by simpa using h
    omega
  · rw[if_neg h0] at h
    simp only[Bool.and_eq_true,decide_eq_true_eq] at h
    omega
theorem mul_bdn {x y M N:Int} (hx: -M≤x∧x≤M) (hy:1≤y) (hy2:y≤N): -(M*N)≤x*y∧x*y≤M*N:=by
  have h1:=Int.mul_nonneg (show 0≤M - x by omega) (show 0≤y by omega)
  have h2:=Int.mul_nonneg (show 0≤M+x by omega) (show 0≤y by omega)
  have h3:=Int.mul_nonneg (show 0≤M by omega) (show 0≤N - y by omega)
  simp only[Int.sub_mul,Int.mul_sub,Int.add_mul] at h1 h2 h3
  constructor<;>omega
def holdsB (p L T D L' T' D':Int):Bool:=decide (L≤L')&&((markOf p T' D' - markOf p T D)%p^(L+6).toNat==0)
theorem holds_iff {p L T D T' D':Int} (h:ballB p L T D=true):ofM p L (markOf p T' D')=(L,T,D)↔(markOf p T' D' - markOf p T D)%p^(L+6).toNat=0:=by
  have hp2:=prime_lo (ball_parts h).1
  rw[←ofM_mark h,ofM_inj hp2]
  exact Int.emod_eq_emod_iff_emod_sub_eq_zero
theorem impl_power_l (p N:Int) (hN:N≤9223372036854775807) (n:Nat):∀(acc i:Int),0≤i→(i+n=N∨(n=0∧N≤i))→Ev (fun k=>impl_power.l0 k p acc N i) (powW p n acc):=by
  induction n with
  |zero=>
   intro acc i hi hx
   exact Ev.step (f:=fun _=>some acc) (fun k=>by simp only[impl_power.l0];rw[if_neg (by omega)]) (Ev.now _)
  |succ n ih=>
   intro acc i hi hx
   exact Ev.step (f:=fun k=>impl_power.l0 k p (wrap64 (acc*p)) N (i+1)) (fun k=>by
      simp only[impl_power.l0];rw[if_pos (by omega),show wrap64 (i+1)=i+1 from wid (by omega) (by omega)]) (ih _ (i+1) (by omega) (by omega))
theorem impl_power_ev (p x:Int) (h:x≤9223372036854775807):Ev (fun k=>impl_power.f k p x) (powW p x.toNat 1):=by
  refine Ev.congr (f:=fun k=>impl_power.l0 k p 1 x 0) (fun k=>rfl) (impl_power_l p x h x.toNat 1 0 (by omega) (by omega))
theorem impl_mark_ev {p L T D:Int} (h:ballB p L T D=true):Ev (fun k=>impl_mark.f k p L T D) (markOf p T D):=by
  obtain⟨hp,hL,hD,_,_⟩:=ball_parts h
  have hp2:=prime_lo hp
  obtain⟨m0,m1⟩:=mark_lt h
  have m2:=pow_13 hp (L+6).toNat (by omega)
  unfold impl_mark.f
  rw[wid (n:=6 - D) (by omega) (by omega)]
  refine Ev.bind (impl_power_ev p _ (by omega)) ?_
  rw[powW_prime hp _ (by omega),show T*p^(6 - D).toNat=markOf p T D from rfl,wid (by omega) (by omega)]
  exact Ev.now _
theorem impl_holds_ev {p L T D L' T' D':Int} (h:ballB p L T D=true) (h':ballB p L' T' D'=true):Ev (fun k=>impl_holds.f k p L T D L' T' D') (holdsB p L T D L' T' D'):=by
  obtain⟨hp,hL,_⟩:=ball_parts h
  have hp2:=prime_lo hp
  have hL':=(ball_parts h').2.1
  obtain⟨a0,a1⟩:=mark_lt h
  obtain⟨b0,b1⟩:=mark_lt h'
  have m2:=pow_13 hp (L+6).toNat (by omega)
  have m2':=pow_13 hp (L'+6).toNat (by omega)
  have m1:=ipow_pos (p:=p) (by omega) (L+6).toNat
  unfold impl_holds.f holdsB
  by_cases hle:L≤L'
  · simp only[if_pos hle,decide_eq_true hle,Bool.true_and]
    refine Ev.bind (impl_mark_ev h') (Ev.bind (impl_mark_ev h) ?_)
    rw[wid (n:=L+6) (by omega) (by omega)]
    refine Ev.bind (impl_power_ev p _ (by omega)) ?_
    rw[powW_prime hp _ (by omega),wid (n:=markOf p T' D' - markOf p T D) (by omega) (by omega)]
    simp only[if_neg (show ¬p^(L+6).toNat=0 by omega)]
    rw[show (Int.tmod (markOf p T' D' - markOf p T D) (p^(L+6).toNat)==0)=((markOf p T' D' - markOf p T D)%p^(L+6).toNat==0) from by
      rw[Bool.eq_iff_iff,beq_iff_eq,beq_iff_eq,←Int.dvd_iff_tmod_eq_zero,←Int.dvd_iff_emod_eq_zero]]
    exact Ev.now _
  · simp only[if_neg hle,decide_eq_false hle,Bool.false_and];exact Ev.now _
theorem spec_l01Power_l (p:Int) (n:Nat):∀(x acc:Int),(n:Int)≤9223372036854775807→(x=n∨(n=0∧x≤0))→Ev (fun k=>spec_l01Power.l0 k p x acc) (powW p n acc):=by
  induction n with
  |zero=>
   intro x acc _ hx
   exact Ev.step (f:=fun _=>some acc) (fun k=>by simp only[spec_l01Power.l0];rw[if_neg (by omega)]) (Ev.now _)
  |succ n ih=>
   intro x acc hn hx
   have hx':x=n+1:=by omega
   exact Ev.step (f:=fun k=>spec_l01Power.l0 k p n (wrap64 (acc*p))) (fun k=>by
      simp only[spec_l01Power.l0];rw[if_pos (by omega),show wrap64 (x - 1)=(n:Int) from by rw[hx',wid (by omega) (by omega)];omega]) (ih n _ (by omega) (.inl rfl))
theorem spec_l01Power_ev (p x:Int) (h:x≤9223372036854775807):Ev (fun k=>spec_l01Power.f k p x) (powW p x.toNat 1):=by
  refine Ev.congr (f:=fun k=>spec_l01Power.l0 k p x 1) (fun k=>rfl) (spec_l01Power_l p x.toNat x 1 (by omega) (by omega))
theorem spec_l01Val_l (p:Int) (hp:2≤p) (v:Nat):∀(n u acc:Int),n=p^v*u→¬p∣u→n≠0→ -4611686018427387904≤n→n≤4611686018427387904→0≤acc→acc+v≤4611686018427387904→Ev (fun k=>spec_l01Val.l0 k p n acc) (acc+v):=by
  induction v with
  |zero=>
   intro n u acc h hu h0 h1 h2 h3 h4
   refine Ev.step (f:=fun _=>some acc) (fun k=>?_) (by simp;exact Ev.now _)
   simp only[spec_l01Val.l0]
   rw[if_neg (by omega),if_neg]
   intro e
   rw[h] at e
   exact hu (by simpa using Int.dvd_of_tmod_eq_zero e)
  |succ v ih=>
   intro n u acc h hu h0 h1 h2 h3 h4
   have hn:n=p*(p^v*u):=by rw[h,Int.pow_succ',Int.mul_assoc]
   have hm:Int.tmod n p=0:=by rw[hn];exact Int.mul_tmod_right p _
   have hd:Int.tdiv n p=p^v*u:=by rw[hn];exact Int.mul_tdiv_cancel_left _ (by omega)
   have hb:=tdiv_bdv p (show -4611686018427387904≤n∧n≤4611686018427387904 from ⟨h1,h2⟩)
   have hne:p^v*u≠0:=by intro e;rw[e] at hn;simp at hn;exact h0 hn
   refine Ev.step (f:=fun k=>spec_l01Val.l0 k p (p^v*u) (acc+1)) (fun k=>?_) ?_
   · simp only[spec_l01Val.l0]
     rw[if_neg (by omega),if_pos hm,hd]
     rw[hd] at hb
     rw[wid (n:=p^v*u) (by omega) (by omega),wid (n:=acc+1) (by omega) (by omega)]
   · rw[hd] at hb
     have:=ih (p^v*u) u (acc+1) rfl hu hne hb.1 hb.2 (by omega) (by omega)
     rw[show acc+((v+1:Nat):Int)=acc+1+(v:Int) from by omega]
     exact this
theorem spec_l01Val_ev {p n:Int} (hp:2≤p) (h0:n≠0) (h1: -4611686018427387904≤n:=by omega) (h2:n≤4611686018427387904:=by omega):Ev (fun k=>spec_l01Val.f k p n) (val p n:Int):=by
  obtain⟨u,h,hu⟩:=val_spec hp h0
  have hv:=val_le_of_lt hp h0 63 (by omega)
  have:=spec_l01Val_l p hp (val p n) n u 0 h hu h0 h1 h2 (by omega) (by omega)
  rw[Int.zero_add] at this
  unfold spec_l01Val.f
  exact this
theorem tmod_cast {a m:Int} (h:0≤a):Int.tmod a m=a%m:=Int.tmod_eq_emod_of_nonneg h
theorem tdiv_cast {a m:Int} (h:0≤a):Int.tdiv a m=a / m:=Int.tdiv_eq_ediv_of_nonneg h
theorem tmod_lt' {a m:Int} (hm:0<m): -m<Int.tmod a m∧Int.tmod a m<m:=by
  have h1:=Int.natAbs_tmod a m
  have h2:=Nat.mod_lt a.natAbs (show 0<m.natAbs by omega)
  omega
theorem emod_mul_emod' (a b m:Int):a%m*b%m=a*b%m:=by rw[Int.mul_emod (a%m) b m,Int.emod_emod,←Int.mul_emod]
theorem modW {a m:Int} (hm:1≤m) (hm2:m≤2305843009213693952):Int.tmod (wrap64 (Int.tmod a m+m)) m=a%m:=by
  obtain⟨h1,h2⟩:=tmod_lt' (a:=a) (show 0<m by omega)
  rw[wid (by omega) (by omega),tmod_cast (by omega),Int.add_emod_right]
  have e:=Int.tmod_add_mul_tdiv a m
  conv=>rhs;rw[←e,Int.add_mul_emod_self_left]
theorem spec_l01MulMod_eq {a b m:Int} (hm:1≤m) (hm2:m≤100000000000):spec_l01MulMod.f a b m=some (a*b%m):=by
  unfold spec_l01MulMod.f
  rw[if_neg (by omega),modW hm (by omega),modW hm (by omega)]
  have a0:=Int.emod_nonneg a (show m≠0 by omega)
  have a1:=Int.emod_lt_of_pos a (show 0<m by omega)
  have b0:=Int.emod_nonneg b (show m≠0 by omega)
  have b1:=Int.emod_lt_of_pos b (show 0<m by omega)
  have hab:a*b%m=(a%m)*(b%m)%m:=Int.mul_emod a b m
  rw[hab]
  generalize a%m=x at*
  generalize b%m=y at*
  rw[tdiv_cast b0,tmod_cast b0]
  have q0:0≤y / 1000000:=by omega
  have q1:y / 1000000≤100000:=by omega
  have r0:0≤y%1000000:=by omega
  have r1:y%1000000≤1000000:=by omega
  have p0:0≤x*(y / 1000000):=Int.mul_nonneg a0 q0
  have p1:x*(y / 1000000)≤100000000000*100000:=Int.mul_le_mul (by omega) q1 q0 (by omega)
  have s0:0≤x*(y%1000000):=Int.mul_nonneg a0 r0
  have s1:x*(y%1000000)≤100000000000*1000000:=Int.mul_le_mul (by omega) r1 r0 (by omega)
  rw[wid (n:=y / 1000000) (by omega) (by omega),wid (n:=x*(y / 1000000)) (by omega) (by omega),wid (n:=x*(y%1000000)) (by omega) (by omega),tmod_cast p0,tmod_cast s0]
  have t0:=Int.emod_nonneg (x*(y / 1000000)) (show m≠0 by omega)
  have t1:=Int.emod_lt_of_pos (x*(y / 1000000)) (show 0<m by omega)
  rw[wid (n:=x*(y / 1000000)%m*1000000) (by omega) (by omega),tmod_cast (a:=x*(y / 1000000)%m*1000000) (by omega)]
  have u0:=Int.emod_nonneg (x*(y / 1000000)%m*1000000) (show m≠0 by omega)
  have u1:=Int.emod_lt_of_pos (x*(y / 1000000)%m*1000000) (show 0<m by omega)
  have v0:=Int.emod_nonneg (x*(y%1000000)) (show m≠0 by omega)
  have v1:=Int.emod_lt_of_pos (x*(y%1000000)) (show 0<m by omega)
  rw[wid (n:=x*(y / 1000000)%m*1000000%m+x*(y%1000000)%m) (by omega) (by omega),tmod_cast (a:=x*(y / 1000000)%m*1000000%m+x*(y%1000000)%m) (by omega)]
  congr 1
  have e1:x*(y / 1000000)%m*1000000%m=x*(y / 1000000)*1000000%m:=by rw[emod_mul_emod']
  rw[e1,←Int.add_emod]
  congr 1
  rw[Int.mul_assoc,←Int.mul_add]
  congr 1
  omega
theorem spec_l01InvMod_one {m:Int} (hm:2≤m) (hm2:m≤100000000000):Ev (fun k=>spec_l01InvMod.f k 1 m) 1:=by
  have h1:Int.tmod (wrap64 (Int.tmod 1 m+m)) m=1:=by rw[modW (by omega) (by omega)];exact Int.emod_eq_of_lt (by omega) (by omega)
  refine Ev.congr (f:=fun k=>spec_l01InvMod.l0 k m 1 m 1 0) (fun k=>by unfold spec_l01InvMod.f;rw[if_neg (by omega),h1]) ?_
  have q0:Int.tdiv 1 m=0:=by rw[tdiv_cast (by omega)];exact Int.ediv_eq_zero_of_lt (by omega) (by omega)
  have q1:Int.tdiv m 1=m:=Int.tdiv_one m
  have z0:wrap64 0=0:=wid (by omega) (by omega)
  have z1:wrap64 1=1:=wid (by omega) (by omega)
  refine Ev.step (f:=fun k=>spec_l01InvMod.l0 k m m 1 0 1) (fun k=>?_) ?_
  · simp only[spec_l01InvMod.l0]
    rw[if_neg (by omega),q0,z0,Int.zero_mul,z0,Int.sub_zero,z1,Int.mul_zero,z0,Int.sub_zero,z1]
  refine Ev.step (f:=fun k=>spec_l01InvMod.l0 k m 1 0 1 (-m)) (fun k=>?_) ?_
  · simp only[spec_l01InvMod.l0]
    rw[if_neg (by omega),q1,wid (n:=m) (by omega) (by omega),Int.mul_one,wid (n:=m) (by omega) (by omega),Int.sub_self,z0,Int.zero_sub,wid (n:= -m) (by omega) (by omega)]
  refine Ev.step (f:=fun _=>some 1) (fun k=>?_) (Ev.now _)
  simp only[spec_l01InvMod.l0]
  rw[if_pos trivial,if_neg (by omega),h1]
theorem In_eq (a b c:Int):spec_l01In.f a b c=some (decide (b≤a∧a≤c)):=by
  unfold spec_l01In.f
  by_cases h:a≥b
  · rw[if_pos h];congr 1;exact decide_eq_decide.2 ⟨fun h2=>⟨h,h2⟩,fun h2=>h2.2⟩
  · rw[if_neg h];congr 1;exact(decide_eq_false (fun h2=>h h2.1)).symm
theorem mx_abs (a:Int) (h: -9223372036854775807≤a) (h2:a≤9223372036854775807):mx a (wrap64 (-a))=(a.natAbs:Int):=by
  rw[wid (by omega) (by omega)];unfold mx;split<;>omega
theorem mx_eq (a b:Int):mx a b=if a<b then b else a:=rfl
theorem spec_l01Of_pow {p num L:Int} (D:Nat) (hp:primeB p=true) (hD:D≤6) (h1: -1152921504606846976≤num) (h2:num≤1152921504606846976) (hL: -6≤L∧L≤6):
    Ev (fun k=>spec_l01Of.f k p num (p^D) L) ((ofM p L (num*p^(6 - D))).1,(ofM p L (num*p^(6 - D))).2.1,(ofM p L (num*p^(6 - D))).2.2,true):=by
  have hp2:=prime_lo hp
  have hpow:∀j:Nat,p^j≠0:=fun j=>Int.pow_ne_zero (by omega)
  have hpD:=pow_13 hp D (by omega)
  have hpD1:=ipow_pos (p:=p) (by omega) D
  unfold spec_l01Of.f
  refine Ev.bindv (In_eq _ _ _) ?_
  rw[decide_eq_true hL]
  simp only[if_true]
  by_cases h0:num=0
  · simp only[if_pos h0]
    have e:ofM p L (num*p^(6 - D))=(L,0,0):=by
      rw[h0,Int.zero_mul];exact ofM_of hp2 (by simp) (by omega) (.inl rfl)
    rw[e];exact Ev.now _
  simp only[if_neg h0]
  have hvD:val p (p^D)=D:=val_eq hp2 (u:=1) (by simp) (fun h=>by have:=Int.le_of_dvd (by omega) h;omega)
  have hv60:=val_le_of_lt hp2 h0 61 (by omega)
  refine Ev.bind (spec_l01Val_ev hp2 h0 (by omega) (by omega)) (Ev.bind (spec_l01Val_ev hp2 (hpow D) (by omega) (by omega)) ?_)
  rw[hvD]
  obtain⟨u,hu,hn⟩:=val_spec hp2 h0
  generalize hv:val p num=v at*
  rw[wid (n:=(v:Int) - (D:Int)) (by omega) (by omega),wid (n:=(D:Int) - (v:Int)) (by omega) (by omega)]
  have hX:num*p^(6 - D)=p^(v+(6 - D))*u:=by
    rw[hu,Int.pow_add,Int.mul_assoc,Int.mul_assoc,Int.mul_comm u]
  by_cases hle:L≤(v:Int) - (D:Int)
  · simp only[if_pos hle]
    have e:ofM p L (num*p^(6 - D))=(L,0,0):=by
      refine ofM_of hp2 ?_ (by omega) (.inl rfl)
      rw[hX,Int.zero_mul,show v+(6 - D)=(L+6).toNat+(v+(6 - D) - (L+6).toNat) from by omega,Int.pow_add,Int.mul_assoc]
      exact Int.mul_emod_right _ _
    rw[e];exact Ev.now _
  simp only[if_neg hle]
  obtain⟨dn,hdn⟩:∃dn:Nat,(dn:Int)=mx ((D:Int) - (v:Int)) 0:=⟨D - v,by rw[mx_eq];split<;>omega⟩
  have hdn2: (dn:Int)=if (D:Int) - v<0 then 0 else(D:Int) - v:=by rw[hdn,mx_eq]
  rw[←hdn]
  have hdn6:dn≤D:=by split at hdn2<;>omega
  have hmp:1≤L+dn:=by split at hdn2<;>omega
  have hmp2: (L+dn).toNat≤12:=by omega
  simp only[if_neg (show ¬(dn:Int)>6 by omega)]
  rw[wid (n:=L+(dn:Int)) (by omega) (by omega)]
  refine Ev.bind (spec_l01Power_ev p (L+dn) (by omega)) ?_
  rw[powW_prime hp _ (by omega)]
  have hu0:u≠0:=by intro e;rw[e] at hn;exact hn (Int.dvd_zero p)
  have hpv1:=ipow_pos (p:=p) (by omega) v
  have hpv:p^v≤1152921504606846976:=by
    have:num.natAbs=(p^v).natAbs*u.natAbs:=by rw[←Int.natAbs_mul,←hu]
    have h3: (p^v).natAbs*1≤(p^v).natAbs*u.natAbs:=Nat.mul_le_mul_left _ (by omega)
    omega
  have hub: -1152921504606846976≤u∧u≤1152921504606846976:=by
    have:num.natAbs=(p^v).natAbs*u.natAbs:=by rw[←Int.natAbs_mul,←hu]
    have h3:1*u.natAbs≤(p^v).natAbs*u.natAbs:=Nat.mul_le_mul_right _ (by omega)
    omega
  have pv:powW p v 1=p^v:=by rw[powW_fit p (by omega) v 1 (by omega) (by omega),Int.one_mul]
  refine Ev.bind (spec_l01Power_ev p v (by omega)) ?_
  rw[Int.toNat_natCast,pv]
  simp only[if_neg (hpow v)]
  refine Ev.bind (spec_l01Power_ev p D (by omega)) ?_
  rw[Int.toNat_natCast,powW_prime hp D (by omega)]
  simp only[if_neg (hpow D)]
  rw[Int.tdiv_self (hpow D),show wrap64 1=1 from wid (by omega) (by omega)]
  have hm1:p^(L+(dn:Int)).toNat≤13841287201:=pow_13 hp _ hmp2
  have hm0:2≤p^(L+(dn:Int)).toNat:=by
    have:=ipow_mono (p:=p) (by omega) (show 1≤(L+(dn:Int)).toNat by omega)
    rw[Int.pow_one] at this;omega
  refine Ev.bind (spec_l01InvMod_one hm0 (by omega)) ?_
  have hq:Int.tdiv num (p^v)=u:=by
    conv=>lhs;lhs;rw[hu]
    exact Int.mul_tdiv_cancel_left _ (hpow v)
  rw[hq,wid (n:=u) (by omega) (by omega)]
  refine Ev.bindv (spec_l01MulMod_eq (by omega) (by omega)) ?_
  rw[Int.mul_one]
  obtain⟨e,he⟩:∃e:Nat,(e:Int)=mx ((v:Int) - (D:Int)) 0:=⟨v - D,by rw[mx_eq];split<;>omega⟩
  have he2: (e:Int)=if (v:Int) - D<0 then 0 else(v:Int) - D:=by rw[he,mx_eq]
  rw[←he]
  have hev:e≤v:=by split at he2<;>omega
  have hpe:p^e≤p^v:=ipow_mono (by omega) hev
  refine Ev.bind (spec_l01Power_ev p e (by omega)) ?_
  rw[Int.toNat_natCast,powW_fit p (by omega) e 1 (by omega) (by omega),Int.one_mul]
  refine Ev.bindv (spec_l01MulMod_eq (by omega) (by omega)) ?_
  have hT:u%p^(L+(dn:Int)).toNat*p^e%p^(L+(dn:Int)).toNat=u*p^e%p^(L+(dn:Int)).toNat:=by rw[emod_mul_emod']
  rw[hT]
  have hexp:v+(6 - D)=(6 - (dn:Int)).toNat+e:=by split at hdn2<;>split at he2<;>omega
  have hexp2: (L+6).toNat=(6 - (dn:Int)).toNat+(L+(dn:Int)).toNat:=by omega
  have key:ofM p L (num*p^(6 - D))=(L,u*p^e%p^(L+(dn:Int)).toNat,(dn:Int)):=by
    refine ofM_of hp2 ?_ (by omega) ?_
    · rw[hX,hexp,hexp2,Int.pow_add,Int.pow_add,Int.mul_assoc,Int.mul_emod_mul_of_pos _ _ (Int.lt_of_lt_of_le (by omega) (ipow_pos (p:=p) (by omega) _)),Int.mul_comm (p^e) u,Int.mul_comm]
    · by_cases hz:dn=0
      · left;omega
      · right
        have e0:e=0:=by split at hdn2<;>split at he2<;>omega
        rw[e0,Int.pow_zero,Int.mul_one]
        intro hd
        apply hn
        have hpm:p∣p^(L+(dn:Int)).toNat:=by
          obtain⟨j,hj⟩:∃j,(L+(dn:Int)).toNat=j+1:=⟨(L+(dn:Int)).toNat - 1,by omega⟩
          rw[hj,Int.pow_succ'];exact Int.dvd_mul_right _ _
        have:=Int.dvd_add hd (Int.dvd_trans hpm (Int.dvd_mul_right (p^(L+(dn:Int)).toNat) (u / p^(L+(dn:Int)).toNat)))
        rwa [Int.emod_add_mul_ediv] at this
  rw[key]
  exact Ev.now _
theorem spec_l01Holds_ev {p L T D L' T' D':Int} (h:ballB p L T D=true) (h':ballB p L' T' D'=true):Ev (fun k=>spec_l01Holds.f k p L T D L' T' D') (holdsB p L T D L' T' D'):=by
  obtain⟨hp,hL,hD,_⟩:=ball_parts h
  obtain⟨_,hL',hD',_⟩:=ball_parts h'
  have hT':=ball_num h'
  unfold spec_l01Holds.f holdsB
  by_cases hle:L≤L'
  · simp only[if_neg (show ¬L>L' by omega),decide_eq_true hle,Bool.true_and]
    refine Ev.bind (spec_l01Power_ev p D' (by omega)) ?_
    rw[powW_prime hp _ (by omega)]
    have:=spec_l01Of_pow (num:=T') D'.toNat hp (by omega) (by omega) (by omega) hL
    rw[show 6 - D'.toNat=(6 - D').toNat from by omega] at this
    refine Ev.bind this ?_
    simp only[if_true]
    rw[show ((ofM p L (T'*p^(6 - D').toNat)).1==L&&((ofM p L (T'*p^(6 - D').toNat)).2.1==T&&(ofM p L (T'*p^(6 - D').toNat)).2.2==D))=((markOf p T' D' - markOf p T D)%p^(L+6).toNat==0) from by
      rw[Bool.eq_iff_iff]
      simp only[Bool.and_eq_true,beq_iff_eq]
      rw[←holds_iff h]
      show _↔ofM p L (T'*p^(6 - D').toNat)=(L,T,D)
      constructor
      · rintro⟨e1,e2,e3⟩;exact Prod.ext e1 (Prod.ext e2 e3)
      · intro e;rw[e];exact⟨rfl,rfl,rfl⟩]
    exact Ev.now _
  · simp only[if_pos (show L>L' by omega),decide_eq_false hle,Bool.false_and];exact Ev.now _
def apartW (p L T D:Int) (o:Bool) (L' T' D':Int) (o':Bool):Bool:=
  if o&&o' then false else if o then holdsB p L T D L' T' D' else if o' then holdsB p L' T' D' L T D else !(holdsB p L T D L' T' D')&&!(holdsB p L' T' D' L T D)
theorem impl_apartSides_ev {p L T D:Int} {o:Bool} {L' T' D':Int} {o':Bool} (h:ballB p L T D=true) (h':ballB p L' T' D'=true):Ev (fun k=>impl_apartSides.f k p L T D o L' T' D' o') (apartW p L T D o L' T' D' o'):=by
  have a:=impl_holds_ev h h'
  have b:=impl_holds_ev h' h
  unfold impl_apartSides.f apartW
  cases o<;>cases o'
  · simp only[Bool.false_eq_true,if_false,Bool.false_and]
    refine Ev.step (f:=fun k=>(impl_apart.f k p L T D L' T' D').bind fun t=>some t) (fun k=>by simp[impl_apartSides.j0]) ?_
    refine Ev.bind (a:=!(holdsB p L T D L' T' D')&&!(holdsB p L' T' D' L T D)) ?_ (Ev.now _)
    unfold impl_apart.f
    refine Ev.bind a ?_
    cases holdsB p L T D L' T' D' with
    |true=>simp;exact Ev.now _
    |false=>simp only[Bool.false_eq_true,if_false,Bool.not_false,Bool.true_and];exact Ev.bind b (Ev.now _)
  · simp only[Bool.false_eq_true,if_false,Bool.false_and,if_true]
    refine Ev.step (f:=fun k=>(impl_holds.f k p L' T' D' L T D).bind fun t=>some t) (fun k=>by simp[impl_apartSides.j0]) ?_
    exact Ev.bind b (Ev.now _)
  · simp only[Bool.false_eq_true,if_false,Bool.and_false,if_true]
    refine Ev.step (f:=fun k=>(impl_holds.f k p L T D L' T' D').bind fun t=>some t) (fun k=>by simp[impl_apartSides.j0]) ?_
    exact Ev.bind a (Ev.now _)
  · simp only[Bool.and_self,if_true]
    exact Ev.step (f:=fun _=>some false) (fun k=>by simp[impl_apartSides.j0]) (Ev.now _)
theorem spec_l09Apart_ev {p L T D:Int} {o:Bool} {L' T' D':Int} {o':Bool} (h:ballB p L T D=true) (h':ballB p L' T' D'=true):Ev (fun k=>spec_l09Apart.f k p L T D o L' T' D' o') (apartW p L T D o L' T' D' o'):=by
  have a:=spec_l01Holds_ev h h'
  have b:=spec_l01Holds_ev h' h
  unfold spec_l09Apart.f apartW
  cases o<;>cases o'
  · simp only[Bool.false_eq_true,if_false,Bool.false_and]
    refine Ev.step (f:=fun k=>(spec_l01Holds.f k p L T D L' T' D').bind fun t=>if t=true then some false else(spec_l01Holds.f k p L' T' D' L T D).bind fun t=>some (!t)) (fun k=>by simp[spec_l09Apart.j0]) ?_
    refine Ev.bind a ?_
    cases holdsB p L T D L' T' D' with
    |true=>simp;exact Ev.now _
    |false=>simp only[Bool.false_eq_true,if_false,Bool.not_false,Bool.true_and];exact Ev.bind b (Ev.now _)
  · simp only[Bool.false_eq_true,if_false,Bool.false_and,if_true]
    refine Ev.step (f:=fun k=>(spec_l01Holds.f k p L' T' D' L T D).bind fun t=>some t) (fun k=>by simp[spec_l09Apart.j0]) ?_
    exact Ev.bind b (Ev.now _)
  · simp only[Bool.false_eq_true,if_false,Bool.and_false,if_true]
    refine Ev.step (f:=fun k=>(spec_l01Holds.f k p L T D L' T' D').bind fun t=>some t) (fun k=>by simp[spec_l09Apart.j0]) ?_
    exact Ev.bind a (Ev.now _)
  · simp only[Bool.and_self,if_true]
    exact Ev.step (f:=fun _=>some false) (fun k=>by simp[spec_l09Apart.j0]) (Ev.now _)
theorem Ev.up {α:Type} {g:Nat→Option α} {r:α} (h:Ev (fun k=>g (k+1)) r):Ev g r:=Ev.step (f:=fun k=>g (k+1)) (fun _=>rfl) h
theorem gcd_step (a b:Int) (h:b≠0):Int.gcd b (Int.tmod a b)=Int.gcd a b:=by
  unfold Int.gcd
  rw[Int.natAbs_tmod,Nat.gcd_comm a.natAbs b.natAbs]
  conv=>rhs;rw[Nat.gcd_rec]
  rw[Nat.gcd_comm]
def isInv (d m w:Int):Prop:=0≤w∧w<m∧∃k,w*d+k*m=1
structure Eu (d m a b x y:Int):Prop where
  e1:∃k,a=x*d+k*m
  e2:∃k,b=y*d+k*m
  e3:0≤a
  e4:0≤b
  e5:Int.gcd a b=1
  e6: (0≤x∧y≤0∧x*b - y*a=m)∨(x≤0∧0≤y∧y*a - x*b=m)
theorem eu_init {d m:Int} (hm:1≤m) (h:Int.gcd d m=1):Eu d m (d%m) m 1 0:=by
  refine⟨⟨-(d / m),?_⟩,⟨1,by omega⟩,Int.emod_nonneg d (by omega),by omega,?_,.inl ⟨by omega,by omega,by omega⟩⟩
  · have:=Int.emod_add_mul_ediv d m
    rw[Int.neg_mul,Int.mul_comm (d / m)];omega
  · have e:d%m=d+m*(-(d / m)):=by have:=Int.emod_add_mul_ediv d m;rw[Int.mul_neg];omega
    rw[e,Int.gcd_add_mul_left_left];exact h
theorem eu_bd {d m a b x y:Int} (I:Eu d m a b x y) (hm:1≤m): (b≠0→ -m≤x∧x≤m)∧(a≠0→ -m≤y∧y≤m):=by
  obtain⟨e1,e2,e3,e4,e5,e6⟩:=I
  have s:∀z c:Int,0≤z→1≤c→z≤z*c:=fun z c hz hc=>by
    have:=Int.mul_le_mul_of_nonneg_left hc hz;omega
  rcases e6 with ⟨h1,h2,h3⟩|⟨h1,h2,h3⟩
  · have p1:=Int.mul_nonneg h1 e4
    have p2:=Int.mul_nonneg (show 0≤ -y by omega) e3
    rw[Int.neg_mul] at p2
    refine⟨fun hb=>?_,fun ha=>?_⟩
    · have:=s x b h1 (by omega);omega
    · have:=s (-y) a (by omega) (by omega);rw[Int.neg_mul] at this;omega
  · have p1:=Int.mul_nonneg h2 e3
    have p2:=Int.mul_nonneg (show 0≤ -x by omega) e4
    rw[Int.neg_mul] at p2
    refine⟨fun hb=>?_,fun ha=>?_⟩
    · have:=s (-x) b (by omega) (by omega);rw[Int.neg_mul] at this;omega
    · have:=s y a h2 (by omega);omega
theorem eu_step {d m a b x y:Int} (I:Eu d m a b x y) (hb:b≠0):Eu d m b (a - a / b*b) y (x - a / b*y):=by
  obtain⟨⟨k1,e1⟩,⟨k2,e2⟩,e3,e4,e5,e6⟩:=I
  have hr:a - a / b*b=a%b:=by have:=Int.emod_add_mul_ediv a b;rw[Int.mul_comm] at this;omega
  have hq:=Int.ediv_nonneg e3 e4
  refine⟨⟨k2,e2⟩,⟨k1 - a / b*k2,?_⟩,e4,?_,?_,?_⟩
  · generalize a / b=q at*;subst e1;subst e2;grind
  · rw[hr];exact Int.emod_nonneg a hb
  · rw[hr,←tmod_cast e3,gcd_step a b hb];exact e5
  · generalize a / b=q at*
    rcases e6 with ⟨h1,h2,h3⟩|⟨h1,h2,h3⟩
    · have p:=Int.mul_nonneg hq (show 0≤ -y by omega)
      rw[Int.mul_neg] at p
      exact .inr ⟨h2,by omega,by grind⟩
    · have p:=Int.mul_nonneg hq h2
      exact .inl ⟨h2,by omega,by grind⟩
theorem eu_end {d m a x y:Int} (I:Eu d m a 0 x y) (hm:1≤m):isInv d m (x%m):=by
  obtain⟨⟨k1,e1⟩,e2,e3,e4,e5,e6⟩:=I
  have ha:a=1:=by rw[Int.gcd_zero_right] at e5;omega
  refine⟨Int.emod_nonneg x (by omega),Int.emod_lt_of_pos x (by omega),k1+x / m*d,?_⟩
  have:=Int.emod_add_mul_ediv x m
  generalize x / m=q at*
  generalize x%m=r at*
  subst this
  grind
theorem eu_loop (g:Nat→Int→Int→Int→Int→Option Int) {d m:Int} (hm:1≤m) (hm2:m≤100000000000)
    (hstep:∀k a b x y,b≠0→g (k+1) a b x y=g k b (wrap64 (a - wrap64 (wrap64 (Int.tdiv a b)*b))) y (wrap64 (x - wrap64 (wrap64 (Int.tdiv a b)*y))))
    (hend:∀k a x y,g (k+1) a 0 x y=some (x%m)) (n:Nat):∀a b x y,Eu d m a b x y→a≤m→b≤m→b<n→∃w,Ev (fun k=>g k a b x y) w∧isInv d m w:=by
  induction n with
  |zero=>intro a b x y I h1 h2 h3;have:=I.e4;omega
  |succ n ih=>
   intro a b x y I h1 h2 h3
   by_cases hb:b=0
   · subst hb
     exact⟨x%m,Ev.step (f:=fun _=>some (x%m)) (fun k=>hend k a x y) (Ev.now _),eu_end I hm⟩
   · have I':=eu_step I hb
     have hr:a - a / b*b=a%b:=by have:=Int.emod_add_mul_ediv a b;rw[Int.mul_comm] at this;omega
     have hlt:=Int.emod_lt_of_pos a (show 0<b by have:=I.e4;omega)
     have hge:=Int.emod_nonneg a hb
     have e3:=I.e3
     have e4:=I.e4
     obtain⟨w,hw,hi⟩:=ih _ _ _ _ I' h2 (by omega) (by omega)
     refine⟨w,?_,hi⟩
     have bx:=(eu_bd I hm).1 hb
     have by':=(eu_bd I' hm).2 hb
     have hq0:=Int.ediv_nonneg e3 e4
     have hq1:=Int.ediv_le_self b e3
     refine Ev.step (fun k=>hstep k a b x y hb) ?_
     have c1:wrap64 (Int.tdiv a b)=a / b:=by rw[tdiv_cast e3];exact wid (by omega) (by omega)
     have c2:wrap64 (a / b*b)=a / b*b:=wid (by omega) (by omega)
     have c3:wrap64 (a / b*y)=a / b*y:=wid (by omega) (by omega)
     rw[c1,c2,c3,wid (n:=a - a / b*b) (by omega) (by omega),wid (n:=x - a / b*y) (by omega) (by omega)]
     exact hw
theorem impl_isLevel_eq (L:Int):impl_isLevel.f L=some (decide (-6≤L∧L≤6)):=by
  unfold impl_isLevel.f
  by_cases h:L≥ -6
  · rw[if_pos h];congr 1;exact decide_eq_decide.2 ⟨fun h2=>⟨h,h2⟩,fun h2=>h2.2⟩
  · rw[if_neg h];congr 1;exact(decide_eq_false (fun h2=>h h2.1)).symm
theorem impl_valuation_l (p:Int) (hp:2≤p) (v:Nat):∀(n u acc:Int),n=p^v*u→¬p∣u→n≠0→ -4611686018427387904≤n→n≤4611686018427387904→0≤acc→acc+v≤4611686018427387904→Ev (fun k=>impl_valuation.l0 k p n acc) (acc+v):=by
  induction v with
  |zero=>
   intro n u acc h hu h0 h1 h2 h3 h4
   refine Ev.step (f:=fun _=>some acc) (fun k=>?_) (by simp;exact Ev.now _)
   simp only[impl_valuation.l0]
   rw[if_neg (by omega),if_neg]
   intro e
   rw[h] at e
   exact hu (by simpa using Int.dvd_of_tmod_eq_zero e)
  |succ v ih=>
   intro n u acc h hu h0 h1 h2 h3 h4
   have hn:n=p*(p^v*u):=by rw[h,Int.pow_succ',Int.mul_assoc]
   have hm:Int.tmod n p=0:=by rw[hn];exact Int.mul_tmod_right p _
   have hd:Int.tdiv n p=p^v*u:=by rw[hn];exact Int.mul_tdiv_cancel_left _ (by omega)
   have hb:=tdiv_bdv p (show -4611686018427387904≤n∧n≤4611686018427387904 from ⟨h1,h2⟩)
   have hne:p^v*u≠0:=by intro e;rw[e] at hn;simp at hn;exact h0 hn
   refine Ev.step (f:=fun k=>impl_valuation.l0 k p (p^v*u) (acc+1)) (fun k=>?_) ?_
   · simp only[impl_valuation.l0]
     rw[if_neg (by omega),if_pos hm,hd]
     rw[hd] at hb
     rw[wid (n:=p^v*u) (by omega) (by omega),wid (n:=acc+1) (by omega) (by omega)]
   · rw[hd] at hb
     have:=ih (p^v*u) u (acc+1) rfl hu hne hb.1 hb.2 (by omega) (by omega)
     rw[show acc+((v+1:Nat):Int)=acc+1+(v:Int) from by omega]
     exact this
def valW (p n:Int):Int:=if n=0 then 1000 else val p n
theorem impl_valuation_ev {p n:Int} (hp:2≤p) (h1: -4611686018427387904≤n:=by omega) (h2:n≤4611686018427387904:=by omega):Ev (fun k=>impl_valuation.f k p n) (valW p n):=by
  unfold impl_valuation.f valW
  by_cases h0:n=0
  · simp only[if_pos h0];exact Ev.now _
  · simp only[if_neg h0]
    obtain⟨u,h,hu⟩:=val_spec hp h0
    have hv:=val_le_of_lt hp h0 63 (by omega)
    have:=impl_valuation_l p hp (val p n) n u 0 h hu h0 h1 h2 (by omega) (by omega)
    rw[Int.zero_add] at this
    exact this
theorem impl_mod_eq {a m:Int} (hm:1≤m) (hm2:m≤2305843009213693952):impl_mod.f a m=some (a%m):=by
  unfold impl_mod.f
  rw[if_neg (by omega),modW hm hm2]
theorem impl_ofMark_ev {p L x:Int} (hp:primeB p=true) (hL: -6≤L∧L≤6):Ev (fun k=>impl_ofMark.f k p L x) ((ofM p L x).1,(ofM p L x).2.1,(ofM p L x).2.2,true):=by
  have hp2:=prime_lo hp
  unfold impl_ofMark.f
  refine Ev.bindv (impl_isLevel_eq L) ?_
  rw[decide_eq_true hL]
  simp only[if_true]
  rw[wid (n:=L+6) (by omega) (by omega)]
  refine Ev.bind (impl_power_ev p (L+6) (by omega)) ?_
  rw[powW_prime hp _ (by omega)]
  have m1:=ipow_pos (p:=p) (by omega) (L+6).toNat
  have m2:=pow_13 hp (L+6).toNat (by omega)
  refine Ev.bindv (impl_mod_eq m1 (by omega)) ?_
  have x0:=Int.emod_nonneg x (show p^(L+6).toNat≠0 by omega)
  have x1:=Int.emod_lt_of_pos x (show 0<p^(L+6).toNat by omega)
  refine Ev.bind (impl_valuation_ev hp2 (by omega) (by omega)) ?_
  have hv:valW p (x%p^(L+6).toNat)≤1000∧0≤valW p (x%p^(L+6).toNat):=by
    unfold valW
    split
    · omega
    · rename_i h0
      have:=val_le_of_lt hp2 h0 62 (by omega)
      omega
  have hdn:mx (wrap64 (6 - valW p (x%p^(L+6).toNat))) 0=(ofM p L x).2.2:=by
    rw[wid (n:=6 - valW p (x%p^(L+6).toNat)) (by omega) (by omega)]
    unfold ofM valW mx
    simp only
    by_cases h0:x%p^(L+6).toNat=0
    · rw[if_pos h0,if_pos h0];rfl
    · rw[if_neg h0,if_neg h0]
      by_cases h6: ((val p (x%p^(L+6).toNat):Nat):Int)<6
      · rw[if_neg (by omega),if_pos h6]
      · rw[if_neg h6];split<;>omega
  rw[hdn]
  obtain⟨_,hD,_⟩:=ofM_back (p:=p) (L:=L) (X:=x) hp2
  rw[wid (n:=6 - (ofM p L x).2.2) (by omega) (by omega)]
  refine Ev.bind (impl_power_ev p _ (by omega)) ?_
  rw[powW_prime hp _ (by omega)]
  have q1:=ipow_pos (p:=p) (by omega) (6 - (ofM p L x).2.2).toNat
  simp only[if_neg (show ¬p^(6 - (ofM p L x).2.2).toNat=0 by omega)]
  rw[tdiv_cast x0]
  have hT:x%p^(L+6).toNat / p^(6 - (ofM p L x).2.2).toNat=(ofM p L x).2.1:=rfl
  have d0:=Int.ediv_nonneg x0 (show 0≤p^(6 - (ofM p L x).2.2).toNat by omega)
  have d1:=Int.ediv_le_self (p^(6 - (ofM p L x).2.2).toNat) x0
  rw[wid (n:=x%p^(L+6).toNat / p^(6 - (ofM p L x).2.2).toNat) (by omega) (by omega),hT]
  exact Ev.now _
theorem impl_inverse_ev {d m:Int} (hm:1≤m) (hm2:m≤100000000000) (hg:Int.gcd d m=1):∃w,Ev (fun k=>impl_inverse.f k d m) w∧isInv d m w:=by
  have m1:=Int.emod_lt_of_pos d (show 0<m by omega)
  obtain⟨w,h,i⟩:=eu_loop (fun k a b x y=>impl_inverse.l0 k m a b x y) (d:=d) hm hm2
    (fun k a b x y hb=>by simp only[impl_inverse.l0];rw[if_neg hb])
    (fun k a x y=>by simp only[impl_inverse.l0,if_true];rw[impl_mod_eq hm (by omega)];rfl)
    (m.toNat+1) _ _ _ _ (eu_init hm hg) (by omega) (by omega) (by omega)
  refine⟨w,?_,i⟩
  unfold impl_inverse.f
  exact Ev.bindv (impl_mod_eq hm (by omega)) h
theorem spec_l01InvMod_ev {d m:Int} (hm:1≤m) (hm2:m≤100000000000) (hg:Int.gcd d m=1):∃w,Ev (fun k=>spec_l01InvMod.f k d m) w∧isInv d m w:=by
  have m1:=Int.emod_lt_of_pos d (show 0<m by omega)
  obtain⟨w,h,i⟩:=eu_loop (fun k a b x y=>spec_l01InvMod.l0 k m a b x y) (d:=d) hm hm2
    (fun k a b x y hb=>by simp only[spec_l01InvMod.l0];rw[if_neg hb])
    (fun k a x y=>by simp only[spec_l01InvMod.l0,if_true];rw[if_neg (by omega),modW hm (by omega)])
    (m.toNat+1) _ _ _ _ (eu_init hm hg) (by omega) (by omega) (by omega)
  refine⟨w,?_,i⟩
  refine Ev.congr (f:=fun k=>spec_l01InvMod.l0 k m (d%m) m 1 0) (fun k=>?_) h
  unfold spec_l01InvMod.f
  rw[if_neg (by omega),modW hm (by omega)]
theorem pd_fin:∀q:Fin 8,(q.val=2∨q.val=3∨q.val=5∨q.val=7)→∀g:Fin 8,g.val∣q.val→g.val=1∨g.val=q.val:=by decide
theorem gcd_unit {p u:Int} (hp:primeB p=true) (hu:¬p∣u) (K:Nat):Int.gcd u (p^K)=1:=by
  obtain⟨q,rfl⟩:∃q:Nat,p=(q:Int):=⟨p.toNat,by have:=prime_lo hp;omega⟩
  have hq:q=2∨q=3∨q=5∨q=7:=by have:=prime_cases hp;omega
  have h1:Nat.Coprime u.natAbs q:=by
    have hd:=Nat.gcd_dvd_right u.natAbs q
    have hle:=Nat.le_of_dvd (by omega) hd
    have:=pd_fin ⟨q,by omega⟩ hq ⟨Nat.gcd u.natAbs q,by omega⟩ hd
    rcases this with h|h
    · exact h
    · exfalso
      apply hu
      have h2:Nat.gcd u.natAbs q∣u.natAbs:=Nat.gcd_dvd_left _ _
      have h':Nat.gcd u.natAbs q=q:=h
      rw[h'] at h2
      exact Int.natAbs_dvd_natAbs.1 (by rw[Int.natAbs_natCast];exact h2)
  have h2:=Nat.Coprime.pow_right K h1
  show Nat.gcd u.natAbs ((q:Int)^K).natAbs=1
  rw[Int.natAbs_pow]
  exact h2
structure Kn (y1 y0 u v:Int):Prop where
  k1:2147483648≤y1
  k2:y1<4294967296
  k3:0≤y0
  k4:y0<4294967296
  k5:0≤u
  k6:u<y1*4294967296+y0
  k7:0≤v
  k8:v<4294967296
def knQ (y1 y0 u v:Int):Int:=(u*4294967296+v) / (y1*4294967296+y0)
theorem knQ_spec {y1 y0 u v:Int} (K:Kn y1 y0 u v):knQ y1 y0 u v*y1*4294967296+knQ y1 y0 u v*y0≤u*4294967296+v∧u*4294967296+v<knQ y1 y0 u v*y1*4294967296+knQ y1 y0 u v*y0+(y1*4294967296+y0)∧0≤knQ y1 y0 u v∧knQ y1 y0 u v<4294967296:=by
  obtain⟨k1,k2,k3,k4,k5,k6,k7,k8⟩:=K
  have h:=Int.emod_add_mul_ediv (u*4294967296+v) (y1*4294967296+y0)
  have h0:=Int.emod_nonneg (u*4294967296+v) (show y1*4294967296+y0≠0 by omega)
  have h1:=Int.emod_lt_of_pos (u*4294967296+v) (show 0<y1*4294967296+y0 by omega)
  have h2:=Int.ediv_nonneg (show 0≤u*4294967296+v by omega) (show 0≤y1*4294967296+y0 by omega)
  have h3: (u*4294967296+v) / (y1*4294967296+y0)<4294967296:=Int.ediv_lt_of_lt_mul (by omega) (by omega)
  unfold knQ
  generalize (u*4294967296+v) / (y1*4294967296+y0)=Q at*
  have e: (y1*4294967296+y0)*Q=Q*y1*4294967296+Q*y0:=by rw[Int.mul_comm,Int.mul_add,←Int.mul_assoc]
  rw[e] at h
  refine⟨by omega,by omega,h2,h3⟩
structure KnI (y1 y0 u v q r:Int):Prop where
  i1:q*y1+r=u
  i2:0≤r
  i3:r<4294967296
  i4:knQ y1 y0 u v≤q
  i5:q≤4294967297
theorem kn_mul {y1 y0 a b:Int} (h:a≤b) (h1:0≤y1) (h0:0≤y0):a*y1≤b*y1∧a*y0≤b*y0:=⟨Int.mul_le_mul_of_nonneg_right h h1,Int.mul_le_mul_of_nonneg_right h h0⟩
theorem kn_init {y1 y0 u v:Int} (K:Kn y1 y0 u v):KnI y1 y0 u v (u / y1) (u - u / y1*y1):=by
  obtain⟨q1,q2,q3,q4⟩:=knQ_spec K
  obtain⟨k1,k2,k3,k4,k5,k6,k7,k8⟩:=K
  have h:=Int.emod_add_mul_ediv u y1
  have h0:=Int.emod_nonneg u (show y1≠0 by omega)
  have h1:=Int.emod_lt_of_pos u (show 0<y1 by omega)
  have hz:=Int.mul_nonneg q3 k3
  have e:y1*(u / y1)=u / y1*y1:=Int.mul_comm _ _
  rw[e] at h
  refine⟨by omega,by omega,by omega,Int.le_ediv_of_mul_le (by omega) (by omega),?_⟩
  have:u / y1<4294967298:=Int.ediv_lt_of_lt_mul (by omega) (by omega)
  omega
theorem kn_stop {y1 y0 u v q r:Int} (K:Kn y1 y0 u v) (I:KnI y1 y0 u v q r) (hc:q*y0≤4294967296*r+v):q=knQ y1 y0 u v:=by
  obtain⟨q1,q2,q3,q4⟩:=knQ_spec K
  obtain⟨k1,k2,k3,k4,k5,k6,k7,k8⟩:=K
  obtain⟨i1,i2,i3,i4,i5⟩:=I
  rcases Int.lt_or_le (knQ y1 y0 u v) q with h|h
  · exfalso
    obtain⟨m1,m2⟩:=kn_mul (show knQ y1 y0 u v+1≤q by omega) (show 0≤y1 by omega) k3
    rw[Int.add_mul,Int.one_mul] at m1 m2
    omega
  · omega
theorem kn_down {y1 y0 u v q r:Int} (K:Kn y1 y0 u v) (I:KnI y1 y0 u v q r) (hc:q≥4294967296∨q*y0>4294967296*r+v):knQ y1 y0 u v≤q - 1∧(q - 1)*y1+(r+y1)=u:=by
  obtain⟨q1,q2,q3,q4⟩:=knQ_spec K
  obtain⟨k1,k2,k3,k4,k5,k6,k7,k8⟩:=K
  obtain⟨i1,i2,i3,i4,i5⟩:=I
  rw[Int.sub_mul,Int.one_mul]
  refine⟨?_,by omega⟩
  rcases hc with hc|hc
  · omega
  · rcases Int.lt_or_le (knQ y1 y0 u v) q with h|h
    · omega
    · exfalso
      obtain⟨m1,m2⟩:=kn_mul h (show 0≤y1 by omega) k3
      omega
theorem kn_break {y1 y0 u v q r:Int} (K:Kn y1 y0 u v) (I:KnI y1 y0 u v q r) (hc:q≥4294967296∨q*y0>4294967296*r+v) (hr:r+y1≥4294967296):q - 1=knQ y1 y0 u v:=by
  obtain⟨d1,d2⟩:=kn_down K I hc
  obtain⟨q1,q2,q3,q4⟩:=knQ_spec K
  obtain⟨k1,k2,k3,k4,k5,k6,k7,k8⟩:=K
  obtain⟨i1,i2,i3,i4,i5⟩:=I
  obtain⟨-,m2⟩:=kn_mul (show q - 1≤4294967296 by omega) (show 0≤y1 by omega) k3
  rcases Int.lt_or_le (knQ y1 y0 u v) (q - 1) with h|h
  · exfalso
    obtain⟨n1,n2⟩:=kn_mul (show knQ y1 y0 u v+1≤q - 1 by omega) (show 0≤y1 by omega) k3
    rw[Int.add_mul,Int.one_mul] at n1 n2
    omega
  · omega
theorem kn_next {y1 y0 u v q r:Int} (K:Kn y1 y0 u v) (I:KnI y1 y0 u v q r) (hc:q≥4294967296∨q*y0>4294967296*r+v) (hr:¬r+y1≥4294967296):KnI y1 y0 u v (q - 1) (r+y1):=by
  obtain⟨d1,d2⟩:=kn_down K I hc
  obtain⟨k1,k2,k3,k4,k5,k6,k7,k8⟩:=K
  obtain⟨i1,i2,i3,i4,i5⟩:=I
  exact⟨d2,by omega,by omega,d1,by omega⟩
theorem kn_size {y1 y0 u v q r:Int} (K:Kn y1 y0 u v) (I:KnI y1 y0 u v q r):0≤q∧0≤4294967296*r+v∧4294967296*r+v<18446744073709551616∧0≤q*y0∧(q<4294967296→q*y0<18446744073709551616):=by
  obtain⟨q1,q2,q3,q4⟩:=knQ_spec K
  obtain⟨k1,k2,k3,k4,k5,k6,k7,k8⟩:=K
  obtain⟨i1,i2,i3,i4,i5⟩:=I
  refine⟨by omega,by omega,by omega,Int.mul_nonneg (by omega) k3,fun h=>?_⟩
  have:=Int.mul_le_mul_of_nonneg_right (show q≤4294967296 by omega) k3
  omega
theorem kn_rem {y1 y0 u v:Int}:u*4294967296+v - knQ y1 y0 u v*(y1*4294967296+y0)=(u*4294967296+v)%(y1*4294967296+y0):=by
  have h:=Int.emod_add_mul_ediv (u*4294967296+v) (y1*4294967296+y0)
  unfold knQ
  rw[Int.mul_comm (y1*4294967296+y0)] at h
  omega
theorem wu {n:Int} (h0:0≤n) (h1:n<18446744073709551616):IntKind.u64.wrap n=n:=by rw[IntKind.wrap_u64];omega
theorem len8_fin:∀n:Fin 256,n.val≠0→∃l:Fin 9,bt (⟨#[0,1,2,2,3,3,3,3,4,4,4,4,4,4,4,4,5,5,5,5,5,5,5,5,5,5,5,5,5,5,5,5,6,6,6,6,6,6,6,6,6,6,6,6,6,6,6,6,6,6,6,6,6,6,6,6,6,6,6,6,6,6,6,6,7,7,7,7,7,7,7,7,7,7,7,7,7,7,7,7,7,7,7,7,7,7,7,7,7,7,7,7,7,7,7,7,7,7,7,7,7,7,7,7,7,7,7,7,7,7,7,7,7,7,7,7,7,7,7,7,7,7,7,7,7,7,7,7,8,8,8,8,8,8,8,8,8,8,8,8,8,8,8,8,8,8,8,8,8,8,8,8,8,8,8,8,8,8,8,8,8,8,8,8,8,8,8,8,8,8,8,8,8,8,8,8,8,8,8,8,8,8,8,8,8,8,8,8,8,8,8,8,8,8,8,8,8,8,8,8,8,8,8,8,8,8,8,8,8,8,8,8,8,8,8,8,8,8,8,8,8,8,8,8,8,8,8,8,8,8,8,8,8,8,8,8,8,8,8,8,8,8,8,8,8,8,8,8,8,8,8,8,8,8,8,8]⟩:ByteArray) ((n.val:Nat):Int)=(l.val:Int)∧1≤l.val∧2^(l.val - 1)≤n.val∧n.val<2^l.val:=by decide+kernel
theorem len8_t (n:Int) (h0:1≤n) (h1:n<256):∃l:Nat,bt (⟨#[0,1,2,2,3,3,3,3,4,4,4,4,4,4,4,4,5,5,5,5,5,5,5,5,5,5,5,5,5,5,5,5,6,6,6,6,6,6,6,6,6,6,6,6,6,6,6,6,6,6,6,6,6,6,6,6,6,6,6,6,6,6,6,6,7,7,7,7,7,7,7,7,7,7,7,7,7,7,7,7,7,7,7,7,7,7,7,7,7,7,7,7,7,7,7,7,7,7,7,7,7,7,7,7,7,7,7,7,7,7,7,7,7,7,7,7,7,7,7,7,7,7,7,7,7,7,7,7,8,8,8,8,8,8,8,8,8,8,8,8,8,8,8,8,8,8,8,8,8,8,8,8,8,8,8,8,8,8,8,8,8,8,8,8,8,8,8,8,8,8,8,8,8,8,8,8,8,8,8,8,8,8,8,8,8,8,8,8,8,8,8,8,8,8,8,8,8,8,8,8,8,8,8,8,8,8,8,8,8,8,8,8,8,8,8,8,8,8,8,8,8,8,8,8,8,8,8,8,8,8,8,8,8,8,8,8,8,8,8,8,8,8,8,8,8,8,8,8,8,8,8,8,8,8,8,8]⟩:ByteArray) n=(l:Int)∧1≤l∧l≤8∧(2:Int)^(l - 1)≤n∧n<(2:Int)^l:=by
  obtain⟨m,rfl⟩:∃m:Nat,n=(m:Int):=⟨n.toNat,by omega⟩
  obtain⟨l,hl,a,b,c⟩:=len8_fin ⟨m,by omega⟩ (by show m≠0;omega)
  refine⟨l.val,hl,a,by omega,?_,?_⟩
  · have: ((2^(l.val - 1):Nat):Int)≤(m:Int):=by exact_mod_cast b
    rwa [Int.natCast_pow] at this
  · have: (m:Int)<((2^l.val:Nat):Int):=by exact_mod_cast c
    rwa [Int.natCast_pow] at this
def isLen (y:Int) (L:Nat):Prop:=1≤L∧(2:Int)^(L - 1)≤y∧y<(2:Int)^L
theorem len_up {y C:Int} (c:Nat) (hC:C=2^c) {l:Nat} (h:isLen (y / C) l):isLen y (c+l):=by
  obtain⟨h1,h2,h3⟩:=h
  have hc: (0:Int)<2^c:=Int.pow_pos (by omega)
  subst hC
  refine⟨by omega,?_,?_⟩
  · rw[show c+l - 1=(l - 1)+c from by omega,Int.pow_add]
    exact Int.mul_le_of_le_ediv hc h2
  · rw[Nat.add_comm,Int.pow_add]
    exact Int.lt_mul_of_ediv_lt hc h3
theorem Len64_j {x c:Int} (h0:1≤x) (h1:x<4294967296) (hc:0≤c∧c≤32):∃l:Nat,Ev (fun k=>bits_Len64.j0 k x c) (c+l)∧isLen x l∧l≤32:=by
  by_cases a:x≥65536
  · by_cases b:x / 65536≥256
    · obtain⟨l,hl,p1,p2,p3,p4⟩:=len8_t (x / 65536 / 256%256) (by omega) (by omega)
      rw[Int.emod_eq_of_lt (show 0≤x / 65536 / 256 by omega) (by omega)] at p3 p4
      refine⟨16+(8+l),?_,len_up 16 rfl (len_up 8 rfl ⟨p1,p3,p4⟩),by omega⟩
      refine Ev.step (f:=fun _=>some (c+((16+(8+l):Nat):Int))) (fun k=>?_) (Ev.now _)
      rw[bits_Len64.j0.eq_2]
      rw[if_pos a,if_pos b,if_pos (by omega),if_pos (by omega),hl,wid (n:=(l:Int)) (by omega) (by omega),wid (n:=c+16) (by omega) (by omega),wid (n:=c+16+8) (by omega) (by omega),wid (n:=c+16+8+(l:Int)) (by omega) (by omega)]
      exact congrArg some (by clear hl;omega)
    · obtain⟨l,hl,p1,p2,p3,p4⟩:=len8_t (x / 65536%256) (by omega) (by omega)
      rw[Int.emod_eq_of_lt (show 0≤x / 65536 by omega) (by omega)] at p3 p4
      refine⟨16+l,?_,len_up 16 rfl ⟨p1,p3,p4⟩,by omega⟩
      refine Ev.step (f:=fun _=>some (c+((16+l:Nat):Int))) (fun k=>?_) (Ev.now _)
      rw[bits_Len64.j0.eq_2]
      rw[if_pos a,if_neg b,if_pos (by omega),if_pos (by omega),hl,wid (n:=(l:Int)) (by omega) (by omega),wid (n:=c+16) (by omega) (by omega),wid (n:=c+16+(l:Int)) (by omega) (by omega)]
      exact congrArg some (by clear hl;omega)
  · by_cases b:x≥256
    · obtain⟨l,hl,p1,p2,p3,p4⟩:=len8_t (x / 256%256) (by omega) (by omega)
      rw[Int.emod_eq_of_lt (show 0≤x / 256 by omega) (by omega)] at p3 p4
      refine⟨8+l,?_,len_up 8 rfl ⟨p1,p3,p4⟩,by omega⟩
      refine Ev.step (f:=fun _=>some (c+((8+l:Nat):Int))) (fun k=>?_) (Ev.now _)
      rw[bits_Len64.j0.eq_2]
      rw[if_neg a,if_pos b,if_pos (by omega),if_pos (by omega),hl,wid (n:=(l:Int)) (by omega) (by omega),wid (n:=c+8) (by omega) (by omega),wid (n:=c+8+(l:Int)) (by omega) (by omega)]
      exact congrArg some (by clear hl;omega)
    · obtain⟨l,hl,p1,p2,p3,p4⟩:=len8_t (x%256) (by omega) (by omega)
      rw[Int.emod_eq_of_lt (show 0≤x by omega) (by omega)] at p3 p4
      refine⟨l,?_,⟨p1,p3,p4⟩,by omega⟩
      refine Ev.step (f:=fun _=>some (c+(l:Int))) (fun k=>?_) (Ev.now _)
      rw[bits_Len64.j0.eq_2]
      rw[if_neg a,if_neg b,if_pos (by omega),if_pos (by omega),hl,wid (n:=(l:Int)) (by omega) (by omega),wid (n:=c+(l:Int)) (by omega) (by omega)]
theorem Len64_ev {y:Int} (h0:1≤y) (h1:y<18446744073709551616):∃L:Nat,Ev (fun k=>bits_Len64.f k y) (L:Int)∧isLen y L∧L≤64:=by
  unfold bits_Len64.f
  by_cases a:y≥4294967296
  · obtain⟨l,e,i,b⟩:=Len64_j (x:=y / 4294967296) (c:=32) (by omega) (by omega) (by omega)
    refine⟨32+l,?_,len_up 32 rfl i,by omega⟩
    simp only[if_pos a]
    exact e
  · obtain⟨l,e,i,b⟩:=Len64_j (x:=y) (c:=0) (by omega) (by omega) (by omega)
    refine⟨l,?_,i,by omega⟩
    simp only[if_neg a]
    rw[Int.zero_add] at e
    exact e
theorem LeadingZeros64_ev {y:Int} (h0:1≤y) (h1:y<18446744073709551616):∃s:Nat,Ev (fun k=>bits_LeadingZeros64.f k y) (s:Int)∧s≤63∧9223372036854775808≤y*2^s∧y*2^s<18446744073709551616:=by
  obtain⟨L,e,⟨i1,i2,i3⟩,b⟩:=Len64_ev h0 h1
  have hs: (0:Int)<2^(64 - L):=Int.pow_pos (by omega)
  refine⟨64 - L,?_,by omega,?_,?_⟩
  · unfold bits_LeadingZeros64.f
    refine Ev.bind e ?_
    rw[wid (n:=64 - (L:Int)) (by omega) (by omega),show 64 - (L:Int)=((64 - L:Nat):Int) from by omega]
    exact Ev.now _
  · have:=Int.mul_le_mul_of_nonneg_right i2 (Int.le_of_lt hs)
    rw[←Int.pow_add,show L - 1+(64 - L)=63 from by omega] at this
    exact this
  · have:=Int.mul_lt_mul_of_pos_right i3 hs
    rw[←Int.pow_add,show L+(64 - L)=64 from by omega] at this
    exact this
theorem maskU {n:Int} (h0:0≤n) (h1:n<18446744073709551616):Go.bits .and .u64 n 4294967295=n%4294967296:=by
  obtain⟨m,rfl⟩:∃m:Nat,n=(m:Int):=⟨n.toNat,by omega⟩
  have h:=Go.bits_and_u64_nat m 4294967295 (by omega) (by omega)
  have e:m &&& 4294967295=m%4294967296:=Nat.and_two_pow_sub_one_eq_mod m 32
  rw[e] at h
  rw[show ((4294967295:Nat):Int)=4294967295 from rfl] at h
  rw[h];omega
theorem orU {a b:Int} (s:Nat) (ha:0≤a) (hb:0≤b) (hb1:b<2^s) (h1:a*2^s+b<18446744073709551616):Go.bits .or .u64 (a*2^s) b=a*2^s+b:=by
  obtain⟨m,rfl⟩:∃m:Nat,a=(m:Int):=⟨a.toNat,by omega⟩
  obtain⟨n,rfl⟩:∃n:Nat,b=(n:Int):=⟨b.toNat,by omega⟩
  have e0: (m:Int)*2^s=((2^s*m:Nat):Int):=by rw[Int.natCast_mul,Int.natCast_pow,Int.mul_comm];rfl
  rw[e0] at h1⊢
  have hn:n<2^s:=by have: (n:Int)<((2^s:Nat):Int):=by rw[Int.natCast_pow];exact hb1
                    omega
  rw[Go.bits_or_u64_nat _ _ (by omega) (by omega),←Nat.two_pow_add_eq_or_of_lt hn]
  omega
theorem shlU {x:Int} (s:Nat) (hs:s≤63):shl .u64 x (s:Int)=x*2^s%18446744073709551616:=by
  unfold shl
  rw[IntKind.wrap_u64,Int.toNat_natCast,Nat.min_eq_left (show s≤IntKind.u64.bits from by show s≤64;omega)]
theorem shrU {x:Int} (s:Nat) (hs:s≤64):shr .u64 x (s:Int)=x / 2^s:=by
  unfold shr
  rw[Int.toNat_natCast,Nat.min_eq_left (show s≤IntKind.u64.bits from hs)]
theorem Div64_l0 {y1 y0 u v y s w:Int} {r:Int×Int} (K:Kn y1 y0 u v) (hj:Ev (fun k=>bits_Div64.j2 k y s y1 y0 u v w (knQ y1 y0 u v)) r) (n:Nat):∀q h,(4294967296 - h).toNat<n→KnI y1 y0 u v q h→Ev (fun k=>bits_Div64.l0 k y s y1 y0 u v w q h) r:=by
  induction n with
  |zero=>intro q h hn;omega
  |succ n ih=>
   intro q h hn I
   obtain⟨s1,s2,s3,s4,s5⟩:=kn_size K I
   have j:∀b:Bool,(b=true↔(q≥4294967296∨q*y0>4294967296*h+v))→Ev (fun k=>bits_Div64.j1 k y s y1 y0 u v w q h b) r:=by
      intro b hb
      cases b with
      |true=>
       have hc:=hb.1 rfl
       obtain⟨d1,d2⟩:=kn_down K I hc
       have i2:=I.i2;have i3:=I.i3;have i5:=I.i5;have k1:=K.k1;have k2:=K.k2
       obtain⟨-, -,z1, -⟩:=knQ_spec K
       by_cases hr:h+y1≥4294967296
       · refine Ev.step (f:=fun k=>bits_Div64.j2 k y s y1 y0 u v w (knQ y1 y0 u v)) (fun k=>?_) hj
         rw[bits_Div64.j1,if_pos rfl,wu (n:=h+y1) (by omega) (by omega),if_pos hr,wu (n:=q - 1) (by omega) (by omega),kn_break K I hc hr]
       · refine Ev.step (f:=fun k=>bits_Div64.l0 k y s y1 y0 u v w (q - 1) (h+y1)) (fun k=>?_) (ih _ _ (by omega) (kn_next K I hc hr))
         rw[bits_Div64.j1,if_pos rfl,wu (n:=h+y1) (by omega) (by omega),if_neg hr,wu (n:=q - 1) (by omega) (by omega)]
      |false=>
       have hc:¬(q≥4294967296∨q*y0>4294967296*h+v):=fun h=>by have:=hb.2 h;simp at this
       refine Ev.step (f:=fun k=>bits_Div64.j2 k y s y1 y0 u v w (knQ y1 y0 u v)) (fun k=>?_) hj
       rw[bits_Div64.j1,if_neg (by simp),kn_stop K I (by omega)]
   by_cases hq:q≥4294967296
   · refine Ev.step (f:=fun k=>bits_Div64.j1 k y s y1 y0 u v w q h true) (fun k=>?_) (j true ⟨fun _=> .inl hq,fun _=>rfl⟩)
     rw[bits_Div64.l0,if_pos hq]
   · have s6:=s5 (by omega)
     have i2:=I.i2;have i3:=I.i3;have k7:=K.k7
     refine Ev.step (f:=fun k=>bits_Div64.j1 k y s y1 y0 u v w q h (decide (q*y0>4294967296*h+v))) (fun k=>?_) (j _ ⟨fun h=> .inr (of_decide_eq_true h),fun h=>decide_eq_true (h.resolve_left hq)⟩)
     rw[bits_Div64.l0,if_neg hq,wu (n:=q*y0) (by omega) (by omega),wu (n:=4294967296*h) (by omega) (by omega),wu (n:=4294967296*h+v) (by omega) (by omega)]
theorem Div64_l1 {y1 y0 u v y s q1:Int} (K:Kn y1 y0 u v) (hy:y=y1*4294967296+y0) (hs:0≤s) (n:Nat):∀q h,(4294967296 - h).toNat<n→KnI y1 y0 u v q h→Ev (fun k=>bits_Div64.l1 k y s y1 y0 v q1 h u q) (IntKind.u64.wrap (IntKind.u64.wrap (q1*4294967296)+knQ y1 y0 u v),shr .u64 ((u*4294967296+v)%y) s):=by
  induction n with
  |zero=>intro q h hn;omega
  |succ n ih=>
   intro q h hn I
   obtain⟨s1,s2,s3,s4,s5⟩:=kn_size K I
   have k1:=K.k1;have k2:=K.k2;have k3:=K.k3;have k4:=K.k4;have k5:=K.k5;have k7:=K.k7;have k8:=K.k8
   have fin:IntKind.u64.wrap (IntKind.u64.wrap (IntKind.u64.wrap (u*4294967296)+v) - IntKind.u64.wrap (knQ y1 y0 u v*y))=(u*4294967296+v)%y:=by
      have e:=kn_rem (y1:=y1) (y0:=y0) (u:=u) (v:=v)
      rw[←hy] at e
      have h0:=Int.emod_nonneg (u*4294967296+v) (show y≠0 by omega)
      have h1:=Int.emod_lt_of_pos (u*4294967296+v) (show 0<y by omega)
      simp only[IntKind.wrap_u64]
      omega
   have j:∀b:Bool,(b=true↔(q≥4294967296∨q*y0>4294967296*h+v))→Ev (fun k=>bits_Div64.j4 k y s y1 y0 v q1 h u q b) (IntKind.u64.wrap (IntKind.u64.wrap (q1*4294967296)+knQ y1 y0 u v),shr .u64 ((u*4294967296+v)%y) s):=by
      intro b hb
      cases b with
      |true=>
       have hc:=hb.1 rfl
       obtain⟨d1,d2⟩:=kn_down K I hc
       have i2:=I.i2;have i3:=I.i3;have i5:=I.i5
       obtain⟨-, -,z1, -⟩:=knQ_spec K
       by_cases hr:h+y1≥4294967296
       · refine Ev.step (f:=fun _=>some (IntKind.u64.wrap (IntKind.u64.wrap (q1*4294967296)+knQ y1 y0 u v),shr .u64 ((u*4294967296+v)%y) s)) (fun k=>?_) (Ev.now _)
         rw[bits_Div64.j4,if_pos rfl,wu (n:=h+y1) (by omega) (by omega),if_pos hr,if_pos hs,wu (n:=q - 1) (by omega) (by omega),kn_break K I hc hr,fin]
       · refine Ev.step (f:=fun k=>bits_Div64.l1 k y s y1 y0 v q1 (h+y1) u (q - 1)) (fun k=>?_) (ih _ _ (by omega) (kn_next K I hc hr))
         rw[bits_Div64.j4,if_pos rfl,wu (n:=h+y1) (by omega) (by omega),if_neg hr,wu (n:=q - 1) (by omega) (by omega)]
      |false=>
       have hc:¬(q≥4294967296∨q*y0>4294967296*h+v):=fun h=>by have:=hb.2 h;simp at this
       refine Ev.step (f:=fun _=>some (IntKind.u64.wrap (IntKind.u64.wrap (q1*4294967296)+knQ y1 y0 u v),shr .u64 ((u*4294967296+v)%y) s)) (fun k=>?_) (Ev.now _)
       rw[bits_Div64.j4,if_neg (by simp),if_pos hs,kn_stop K I (by omega),fin]
   by_cases hq:q≥4294967296
   · refine Ev.step (f:=fun k=>bits_Div64.j4 k y s y1 y0 v q1 h u q true) (fun k=>?_) (j true ⟨fun _=> .inl hq,fun _=>rfl⟩)
     rw[bits_Div64.l1,if_pos hq]
   · have s6:=s5 (by omega)
     have i2:=I.i2;have i3:=I.i3
     refine Ev.step (f:=fun k=>bits_Div64.j4 k y s y1 y0 v q1 h u q (decide (q*y0>4294967296*h+v))) (fun k=>?_) (j _ ⟨fun h=> .inr (of_decide_eq_true h),fun h=>decide_eq_true (h.resolve_left hq)⟩)
     rw[bits_Div64.l1,if_neg hq,wu (n:=q*y0) (by omega) (by omega),wu (n:=4294967296*h) (by omega) (by omega),wu (n:=4294967296*h+v) (by omega) (by omega)]
theorem Div64_ev {hi lo y:Int} (h0:0≤hi) (h1:hi<y) (h2:y<18446744073709551616) (l0:0≤lo) (l1:lo<18446744073709551616):∃q,Ev (fun k=>bits_Div64.f k hi lo y) (q,(hi*18446744073709551616+lo)%y):=by
  unfold bits_Div64.f
  simp only[if_neg (show ¬y=0 by omega),if_neg (show ¬y≤hi by omega)]
  by_cases hz:hi=0
  · subst hz
    simp only[if_true]
    rw[tmod_cast l0,Int.zero_mul,Int.zero_add]
    exact⟨_,Ev.now _⟩
  · simp only[if_neg hz]
    obtain⟨s,es,s63,n0,n1⟩:=LeadingZeros64_ev (y:=y) (by omega) h2
    have hS: (0:Int)<2^s:=Int.pow_pos (by omega)
    have hT: (0:Int)<2^(64 - s):=Int.pow_pos (by omega)
    have hST: (2:Int)^s*2^(64 - s)=18446744073709551616:=by rw[←Int.pow_add,show s+(64 - s)=64 from by omega];rfl
    have a1: (hi+1)*2^s≤y*2^s:=Int.mul_le_mul_of_nonneg_right (by omega) (Int.le_of_lt hS)
    have a0:0≤hi*2^s:=Int.mul_nonneg h0 (Int.le_of_lt hS)
    have b0:0≤lo / 2^(64 - s):=Int.ediv_nonneg l0 (Int.le_of_lt hT)
    have b1:lo / 2^(64 - s)<2^s:=Int.ediv_lt_of_lt_mul hT (by rw[hST];exact l1)
    rw[Int.add_mul,Int.one_mul] at a1
    have es1:shl .u64 y (s:Int)=y*2^s:=by rw[shlU s s63];exact Int.emod_eq_of_lt (by omega) n1
    have es2:shl .u64 hi (s:Int)=hi*2^s:=by rw[shlU s s63];exact Int.emod_eq_of_lt (by omega) (by omega)
    have es3:shr .u64 lo (64 - (s:Int))=lo / 2^(64 - s):=by rw[show 64 - (s:Int)=((64 - s:Nat):Int) from by omega,shrU (64 - s) (by omega)]
    have lo':hi*2^s+lo / 2^(64 - s)<y*2^s:=by omega
    have split: (hi*2^s+lo / 2^(64 - s))*18446744073709551616+shl .u64 lo (s:Int)=(hi*18446744073709551616+lo)*2^s:=by
      rw[shlU s s63]
      have e1:lo=2^(64 - s)*(lo / 2^(64 - s))+lo%2^(64 - s):=(Int.mul_ediv_add_emod lo _).symm
      have m0:=Int.emod_nonneg lo (show (2:Int)^(64 - s)≠0 by omega)
      have m1:=Int.emod_lt_of_pos lo hT
      have e2:lo*2^s=18446744073709551616*(lo / 2^(64 - s))+lo%2^(64 - s)*2^s:=by
        conv=>lhs;rw[e1]
        rw[←hST];grind
      have p0:0≤lo%2^(64 - s)*2^s:=Int.mul_nonneg m0 (Int.le_of_lt hS)
      have p1:lo%2^(64 - s)*2^s<18446744073709551616:=by
        have:=Int.mul_lt_mul_of_pos_right m1 hS
        rwa [Int.mul_comm (2^(64 - s)),hST] at this
      have e3: (hi*18446744073709551616+lo)*2^s=hi*2^s*18446744073709551616+lo*2^s:=by grind
      rw[e3,e2]
      omega
    have v0:0≤shl .u64 lo (s:Int)∧shl .u64 lo (s:Int)<18446744073709551616:=by rw[shlU s s63];omega
    generalize hY:y*2^s=Y at*
    generalize hU:hi*2^s+lo / 2^(64 - s)=U at*
    generalize hV:shl .u64 lo (s:Int)=V at*
    have or':Go.bits .or .u64 (hi*2^s) (lo / 2^(64 - s))=U:=by rw[orU s h0 b0 b1 (by omega),hU]
    have K1:Kn (Y / 4294967296) (Y%4294967296) U (V / 4294967296):=⟨by omega,by omega,by omega,by omega,by omega,by omega,by omega,by omega⟩
    have yy:Y / 4294967296*4294967296+Y%4294967296=Y:=by omega
    have I1:=kn_init K1
    generalize hu': (U*4294967296+V / 4294967296)%Y=U' at*
    have u0:0≤U'∧U'<Y:=by rw[←hu'];exact⟨Int.emod_nonneg _ (by omega),Int.emod_lt_of_pos _ (by omega)⟩
    have K2:Kn (Y / 4294967296) (Y%4294967296) U' (V%4294967296):=⟨by omega,by omega,by omega,by omega,by omega,by omega,by omega,by omega⟩
    have I2:=kn_init K2
    have ls:∀{a b:Int},0≤a→0≤b→0≤Int.ediv a b∧Int.ediv a b≤a:=fun ha hb=>⟨Int.ediv_nonneg ha hb,Int.ediv_le_self _ ha⟩
    have final:shr .u64 ((U'*4294967296+V%4294967296)%Y) (s:Int)=(hi*18446744073709551616+lo)%y:=by
      rw[shrU s (by omega),←hu']
      have e: (((U*4294967296+V / 4294967296)%Y)*4294967296+V%4294967296)%Y=((hi*18446744073709551616+lo)%y)*2^s:=by
        rw[Int.add_emod,emod_mul_emod',←Int.add_emod,←hY,show (U*4294967296+V / 4294967296)*4294967296+V%4294967296=(hi*18446744073709551616+lo)*2^s from by omega,Int.mul_comm _ (2^s),Int.mul_comm y,Int.mul_emod_mul_of_pos _ _ hS,Int.mul_comm]
      rw[e]
      exact Int.mul_ediv_cancel _ (by omega)
    have D1:=ls (show 0≤U by omega) (show 0≤Y / 4294967296 by omega)
    have D2:=ls u0.1 (show 0≤Y / 4294967296 by omega)
    refine⟨IntKind.u64.wrap (IntKind.u64.wrap (knQ (Y / 4294967296) (Y%4294967296) U (V / 4294967296)*4294967296)+knQ (Y / 4294967296) (Y%4294967296) U' (V%4294967296)),Ev.bind es ?_⟩
    rw[wu (n:=(s:Int)) (by omega) (by omega)]
    simp only[if_pos (show (0:Int)≤(s:Int) by omega)]
    rw[wu (n:=64 - (s:Int)) (by omega) (by omega)]
    simp only[if_pos (show (0:Int)≤64 - (s:Int) by omega),es1,es2,es3,hV,or']
    rw[maskU (by omega) (by omega),maskU v0.1 v0.2]
    simp only[if_neg (show ¬Y / 4294967296=0 by omega)]
    rw[tdiv_cast (show 0≤U by omega)]
    have r1:=I1.i2;have r2:=I1.i3;have r3:=I2.i2;have r4:=I2.i3;have r5:=I1.i1;have r6:=I2.i1
    have D1a:0≤U / (Y / 4294967296):=D1.1
    have D1b:U / (Y / 4294967296)≤U:=D1.2
    have D2a:0≤U' / (Y / 4294967296):=D2.1
    have D2b:U' / (Y / 4294967296)≤U':=D2.2
    have M1:=Int.mul_nonneg D1a (show 0≤Y / 4294967296 by omega)
    have M2:=Int.mul_nonneg D2a (show 0≤Y / 4294967296 by omega)
    rw[wu (n:=U / (Y / 4294967296)) (by omega) (by omega),wu (n:=U / (Y / 4294967296)*(Y / 4294967296)) (by omega) (by omega),wu (n:=U - U / (Y / 4294967296)*(Y / 4294967296)) (by omega) (by omega)]
    rw[←final]
    refine Div64_l0 K1 ?_ _ _ _ (Nat.lt_succ_self _) I1
    refine Ev.step (f:=fun k=>bits_Div64.l1 k Y s (Y / 4294967296) (Y%4294967296) (V%4294967296) (knQ (Y / 4294967296) (Y%4294967296) U (V / 4294967296)) (U' - U' / (Y / 4294967296)*(Y / 4294967296)) U' (U' / (Y / 4294967296))) (fun k=>?_) (Div64_l1 K2 yy.symm (by omega) _ _ _ (Nat.lt_succ_self _) I2)
    have e:=kn_rem (y1:=Y / 4294967296) (y0:=Y%4294967296) (u:=U) (v:=V / 4294967296)
    rw[yy,hu'] at e
    have fin:IntKind.u64.wrap (IntKind.u64.wrap (IntKind.u64.wrap (U*4294967296)+V / 4294967296) - IntKind.u64.wrap (knQ (Y / 4294967296) (Y%4294967296) U (V / 4294967296)*Y))=U':=by
      simp only[IntKind.wrap_u64]
      omega
    rw[bits_Div64.j2,if_neg (show ¬Y / 4294967296=0 by omega),fin,tdiv_cast u0.1,wu (n:=U' / (Y / 4294967296)) (by omega) (by omega),wu (n:=U' / (Y / 4294967296)*(Y / 4294967296)) (by omega) (by omega),wu (n:=U' - U' / (Y / 4294967296)*(Y / 4294967296)) (by omega) (by omega)]
theorem Mul64_eq {a b:Int} (a0:0≤a) (a1:a<18446744073709551616) (b0:0≤b) (b1:b<18446744073709551616):bits_Mul64.f a b=some (a*b / 18446744073709551616,a*b%18446744073709551616):=by
  unfold bits_Mul64.f
  rw[maskU a0 a1,maskU b0 b1]
  have hz:∀{x y:Int},0≤x→x≤4294967295→0≤y→y≤4294967295→0≤x*y∧x*y≤18446744065119617025:=fun hx hx2 hy hy2=>⟨Int.mul_nonneg hx hy,Int.mul_le_mul hx2 hy2 hy (by omega)⟩
  obtain⟨x1,hx1⟩:∃x,x=a / 4294967296:=⟨_,rfl⟩
  obtain⟨x0,hx0⟩:∃x,x=a%4294967296:=⟨_,rfl⟩
  obtain⟨y1,hy1⟩:∃x,x=b / 4294967296:=⟨_,rfl⟩
  obtain⟨y0,hy0⟩:∃x,x=b%4294967296:=⟨_,rfl⟩
  have ha:a=x1*4294967296+x0:=by omega
  have hb:b=y1*4294967296+y0:=by omega
  have e:a*b=x1*y1*18446744073709551616+x1*y0*4294967296+x0*y1*4294967296+x0*y0:=by rw[ha,hb];grind
  rw[←hx1,←hx0,←hy1,←hy0]
  have p11:=hz (x:=x1) (y:=y1) (by omega) (by omega) (by omega) (by omega)
  have p10:=hz (x:=x1) (y:=y0) (by omega) (by omega) (by omega) (by omega)
  have p01:=hz (x:=x0) (y:=y1) (by omega) (by omega) (by omega) (by omega)
  have p00:=hz (x:=x0) (y:=y0) (by omega) (by omega) (by omega) (by omega)
  rw[e]
  clear e ha hb hx1 hx0 hy1 hy0
  generalize x1*y1=A at*
  generalize x1*y0=B at*
  generalize x0*y1=C at*
  generalize x0*y0=D at*
  rw[wu (n:=A) (by omega) (by omega),wu (n:=B) (by omega) (by omega),wu (n:=C) (by omega) (by omega),wu (n:=D) (by omega) (by omega)]
  rw[wu (n:=B+D / 4294967296) (by omega) (by omega),maskU (n:=B+D / 4294967296) (by omega) (by omega)]
  simp only[IntKind.wrap_u64]
  congr 1
  refine Prod.ext ?_ ?_<;>simp only<;>omega
theorem impl_times_ev {a b m:Int} (hm:1≤m) (hm2:m≤2305843009213693952):Ev (fun k=>impl_times.f k a b m) (a*b%m):=by
  unfold impl_times.f
  refine Ev.bindv (impl_mod_eq hm hm2) (Ev.bindv (impl_mod_eq hm hm2) ?_)
  have a0:=Int.emod_nonneg a (show m≠0 by omega)
  have a1:=Int.emod_lt_of_pos a (show 0<m by omega)
  have b0:=Int.emod_nonneg b (show m≠0 by omega)
  have b1:=Int.emod_lt_of_pos b (show 0<m by omega)
  rw[wu (n:=a%m) (by omega) (by omega),wu (n:=b%m) (by omega) (by omega),wu (n:=m) (by omega) (by omega)]
  refine Ev.bindv (Mul64_eq (by omega) (by omega) (by omega) (by omega)) ?_
  simp only[if_neg (show ¬m=0 by omega)]
  have p0:0≤a%m*(b%m):=Int.mul_nonneg a0 b0
  have h0:0≤a%m*(b%m) / 18446744073709551616:=by omega
  rw[tmod_cast h0]
  obtain⟨q,hq⟩:=Div64_ev (hi:=a%m*(b%m) / 18446744073709551616%m) (lo:=a%m*(b%m)%18446744073709551616) (y:=m) (Int.emod_nonneg _ (by omega)) (Int.emod_lt_of_pos _ (by omega)) (by omega) (by omega) (by omega)
  refine Ev.bind hq ?_
  have e: (a%m*(b%m) / 18446744073709551616%m*18446744073709551616+a%m*(b%m)%18446744073709551616)%m=a*b%m:=by
    rw[Int.add_emod,emod_mul_emod',←Int.add_emod,show a%m*(b%m) / 18446744073709551616*18446744073709551616+a%m*(b%m)%18446744073709551616=a%m*(b%m) from by omega,←Int.mul_emod]
  rw[e]
  have c0:=Int.emod_nonneg (a*b) (show m≠0 by omega)
  have c1:=Int.emod_lt_of_pos (a*b) (show 0<m by omega)
  rw[wid (n:=a*b%m) (by omega) (by omega)]
  exact Ev.now _
theorem mx_eq' (a b:Int):mx a b=if a<b then b else a:=rfl
def uOf (p n:Int):Int:=n / p^val p n
theorem uOf_spec {p n:Int} (hp:2≤p) (h:n≠0):n=p^val p n*uOf p n∧¬p∣uOf p n:=by
  obtain⟨u,hu,hn⟩:=val_spec hp h
  have e:uOf p n=u:=by
    unfold uOf
    conv=>lhs;lhs;rw[hu]
    exact Int.mul_ediv_cancel_left u (Int.pow_ne_zero (by omega))
  rw[e];exact⟨hu,hn⟩
theorem uOf_bd {p n M:Int} (hp:2≤p) (h:n≠0) (hM: -M≤n∧n≤M): (-M≤uOf p n∧uOf p n≤M)∧1≤p^val p n∧p^val p n≤M:=by
  obtain⟨hu,hn⟩:=uOf_spec hp h
  have hu0:uOf p n≠0:=by intro e;rw[e] at hn;exact hn (Int.dvd_zero p)
  have h1:=ipow_pos (p:=p) (by omega) (val p n)
  have e:n.natAbs=(p^val p n).natAbs*(uOf p n).natAbs:=by rw[←Int.natAbs_mul,←hu]
  have h3: (p^val p n).natAbs*1≤(p^val p n).natAbs*(uOf p n).natAbs:=Nat.mul_le_mul_left _ (by omega)
  have h4:1*(uOf p n).natAbs≤(p^val p n).natAbs*(uOf p n).natAbs:=Nat.mul_le_mul_right _ (by omega)
  omega
theorem uOf_scale {p n:Int} (j:Nat) (hp:2≤p) (h:n≠0):uOf p (p^j*n)=uOf p n:=by
  unfold uOf
  rw[val_pow_mul j hp h,Int.pow_add,Int.mul_ediv_mul_of_pos _ _ (Int.pow_pos (by omega))]
def atF (p L n d w:Int):Int×Int×Int×Bool:=
  if ¬(-6≤L∧L≤6) then(0,0,0,false)
  else if n=0∨L≤(val p n:Int) - val p d then(L,0,0,true)
  else if (val p n:Int) - val p d< -6 then(0,0,0,false)
  else((ofM p L (uOf p n*w*p^((val p n:Int) - val p d+6).toNat)).1,(ofM p L (uOf p n*w*p^((val p n:Int) - val p d+6).toNat)).2.1,(ofM p L (uOf p n*w*p^((val p n:Int) - val p d+6).toNat)).2.2,true)
theorem atF_scale {p L n d w:Int} (j:Nat) (hp:2≤p) (hd:d≠0):atF p L (p^j*n) (p^j*d) w=atF p L n d w:=by
  unfold atF
  by_cases h0:n=0
  · subst h0
    simp
  · have:p^j*n≠0:=Int.mul_ne_zero (Int.pow_ne_zero (by omega)) h0
    rw[val_pow_mul j hp h0,val_pow_mul j hp hd,uOf_scale j hp h0]
    have e: ((j+val p n:Nat):Int) - ((j+val p d:Nat):Int)=(val p n:Int) - val p d:=by omega
    rw[e]
    simp only[this,h0]
theorem atF_ball {p L n d w:Int} (hp:primeB p=true) (h: (atF p L n d w).2.2.2=true):ballB p (atF p L n d w).1 (atF p L n d w).2.1 (atF p L n d w).2.2.1=true:=by
  revert h
  unfold atF
  by_cases hL: -6≤L∧L≤6
  · rw[if_neg (by simpa using hL)]
    by_cases h1:n=0∨L≤(val p n:Int) - val p d
    · rw[if_pos h1];intro _
      have:=ofM_ball (X:=0) hp hL
      have e:ofM p L 0=(L,0,0):=ofM_of (prime_lo hp) (by simp) (by omega) (.inl rfl)
      rw[e] at this;exact this
    · rw[if_neg h1]
      by_cases h2: (val p n:Int) - val p d< -6
      · rw[if_pos h2];intro h;simp at h
      · rw[if_neg h2];intro _;exact ofM_ball hp hL
  · rw[if_pos hL];intro h;simp at h
theorem impl_unit_ev {p n:Int} (hp:primeB p=true) (h:n≠0) (h1: -1152921504606846976≤n) (h2:n≤1152921504606846976):Ev (fun k=>impl_unit.f k p n) (uOf p n):=by
  have hp2:=prime_lo hp
  obtain⟨b1,b2,b3⟩:=uOf_bd hp2 h ⟨h1,h2⟩
  obtain⟨hu,hn⟩:=uOf_spec hp2 h
  unfold impl_unit.f
  refine Ev.bind (impl_valuation_ev hp2 (by omega) (by omega)) ?_
  have hv:valW p n=(val p n:Int):=by unfold valW;rw[if_neg h]
  rw[hv]
  have hv61:=val_le_of_lt hp2 h 61 (by omega)
  refine Ev.bind (impl_power_ev p _ (by omega)) ?_
  rw[Int.toNat_natCast,powW_fit p (by omega) _ 1 (by omega) (by omega),Int.one_mul]
  simp only[if_neg (show ¬p^val p n=0 by omega)]
  have e:Int.tdiv n (p^val p n)=uOf p n:=by
    conv=>lhs;lhs;rw[hu]
    exact Int.mul_tdiv_cancel_left _ (by omega)
  rw[e,wid (n:=uOf p n) (by omega) (by omega)]
  exact Ev.now _
theorem impl_ballAt_ev {p n d L:Int} (hp:primeB p=true) (hd:d≠0) (n1: -1152921504606846976≤n) (n2:n≤1152921504606846976) (d1: -1152921504606846976≤d) (d2:d≤1152921504606846976):
    ∃w,((-6≤L∧L≤6)→isInv (uOf p d) (p^(L+6).toNat) w)∧Ev (fun k=>impl_ballAt.f k p n d L) (atF p L n d w):=by
  have hp2:=prime_lo hp
  unfold impl_ballAt.f
  by_cases hL: -6≤L∧L≤6
  · have m1:=ipow_pos (p:=p) (by omega) (L+6).toNat
    have m2:=pow_13 hp (L+6).toNat (by omega)
    obtain⟨w,hw,iw⟩:=impl_inverse_ev m1 (by omega) (gcd_unit hp (uOf_spec hp2 hd).2 (L+6).toNat)
    refine⟨w,fun _=>iw,?_⟩
    refine Ev.bindv (impl_isLevel_eq L) ?_
    rw[decide_eq_true hL]
    simp only[if_true]
    refine Ev.bind (impl_valuation_ev hp2 (by omega) (by omega)) (Ev.bind (impl_valuation_ev hp2 (by omega) (by omega)) ?_)
    have hvd:valW p d=(val p d:Int):=by unfold valW;rw[if_neg hd]
    rw[hvd]
    unfold atF
    rw[if_neg (by simpa using hL)]
    by_cases h0:n=0
    · simp only[if_pos h0]
      rw[if_pos (.inl h0)]
      exact Ev.step (f:=fun _=>some (L,0,0,true)) (fun k=>by simp only[impl_ballAt.j0,if_true]) (Ev.now _)
    · simp only[if_neg h0]
      have hvn:valW p n=(val p n:Int):=by unfold valW;rw[if_neg h0]
      have v1:=val_le_of_lt hp2 h0 61 (by omega)
      have v2:=val_le_of_lt hp2 hd 61 (by omega)
      rw[hvn,wid (n:=(val p n:Int) - val p d) (by omega) (by omega)]
      by_cases hle:L≤(val p n:Int) - val p d
      · rw[if_pos (.inr hle),decide_eq_true (show (val p n:Int) - val p d≥L from hle)]
        exact Ev.step (f:=fun _=>some (L,0,0,true)) (fun k=>by simp only[impl_ballAt.j0,if_true]) (Ev.now _)
      · rw[if_neg (by omega),decide_eq_false (show ¬(val p n:Int) - val p d≥L from hle)]
        by_cases h6: (val p n:Int) - val p d< -6
        · rw[if_pos h6]
          exact Ev.step (f:=fun _=>some (0,0,0,false)) (fun k=>by simp only[impl_ballAt.j0,Bool.false_eq_true,if_false];rw[if_pos h6]) (Ev.now _)
        · rw[if_neg h6]
          generalize hv: (val p n:Int) - val p d=v at*
          refine Ev.up ?_
          simp only[impl_ballAt.j0,Bool.false_eq_true,if_false,if_neg h6]
          rw[wid (n:=L+6) (by omega) (by omega),wid (n:=v+6) (by omega) (by omega)]
          refine Ev.bind (impl_power_ev p (L+6) (by omega)) ?_
          rw[powW_prime hp _ (by omega)]
          refine Ev.bind (impl_unit_ev hp h0 n1 n2) (Ev.bind (impl_unit_ev hp hd d1 d2) (Ev.bind hw ?_))
          refine Ev.bind (impl_times_ev m1 (by omega)) (Ev.bind (impl_power_ev p (v+6) (by omega)) ?_)
          rw[powW_prime hp _ (by omega)]
          refine Ev.bind (impl_times_ev m1 (by omega)) (Ev.bind (impl_ofMark_ev hp hL) ?_)
          rw[emod_mul_emod',ofM_mod]
          exact Ev.now _
  · refine⟨0,fun h=>absurd h hL,?_⟩
    refine Ev.bindv (impl_isLevel_eq L) ?_
    rw[decide_eq_false hL]
    simp only[Bool.false_eq_true,if_false]
    unfold atF
    rw[if_pos hL]
    exact Ev.now _
theorem spec_l01Of_ev {p n d L w:Int} (hp:primeB p=true) (hd:d≠0) (n1: -1152921504606846976≤n) (n2:n≤1152921504606846976) (d1: -1152921504606846976≤d) (d2:d≤1152921504606846976)
    (hw: (-6≤L∧L≤6)→isInv (uOf p d) (p^(L+6).toNat) w):Ev (fun k=>spec_l01Of.f k p n d L) (atF p L n d w):=by
  have hp2:=prime_lo hp
  have hpow:∀j:Nat,p^j≠0:=fun j=>Int.pow_ne_zero (by omega)
  unfold spec_l01Of.f
  refine Ev.bindv (In_eq _ _ _) ?_
  unfold atF
  by_cases hL: -6≤L∧L≤6
  · rw[decide_eq_true hL,if_neg (by simpa using hL)]
    simp only[if_true]
    by_cases h0:n=0
    · simp only[if_pos h0]
      rw[if_pos (.inl h0)];exact Ev.now _
    simp only[if_neg h0]
    refine Ev.bind (spec_l01Val_ev hp2 h0 (by omega) (by omega)) (Ev.bind (spec_l01Val_ev hp2 hd (by omega) (by omega)) ?_)
    have v1:=val_le_of_lt hp2 h0 61 (by omega)
    have v2:=val_le_of_lt hp2 hd 61 (by omega)
    obtain⟨bu,pu1,pu2⟩:=uOf_bd hp2 h0 (M:=1152921504606846976) ⟨n1,n2⟩
    obtain⟨bd,pd1,pd2⟩:=uOf_bd hp2 hd (M:=1152921504606846976) ⟨d1,d2⟩
    obtain⟨eu,nu⟩:=uOf_spec hp2 h0
    obtain⟨ed,nd⟩:=uOf_spec hp2 hd
    have q1:Int.tdiv n (p^val p n)=uOf p n:=by
      conv=>lhs;lhs;rw[eu]
      exact Int.mul_tdiv_cancel_left _ (hpow _)
    have q2:Int.tdiv d (p^val p d)=uOf p d:=by
      conv=>lhs;lhs;rw[ed]
      exact Int.mul_tdiv_cancel_left _ (hpow _)
    have r1:powW p (val p n) 1=p^val p n:=by rw[powW_fit p (by omega) _ 1 (by omega) (by omega),Int.one_mul]
    have r2:powW p (val p d) 1=p^val p d:=by rw[powW_fit p (by omega) _ 1 (by omega) (by omega),Int.one_mul]
    generalize hva:val p n=a at*
    generalize hvb:val p d=b at*
    rw[wid (n:=(a:Int) - (b:Int)) (by omega) (by omega),wid (n:=(b:Int) - (a:Int)) (by omega) (by omega)]
    by_cases hle:L≤(a:Int) - (b:Int)
    · simp only[if_pos hle]
      rw[if_pos (.inr hle)];exact Ev.now _
    simp only[if_neg hle]
    rw[if_neg (by omega)]
    obtain⟨dn,hdn⟩:∃dn:Nat,(dn:Int)=mx ((b:Int) - (a:Int)) 0:=⟨b - a,by rw[mx_eq'];split<;>omega⟩
    have hdn2: (dn:Int)=if (b:Int) - a<0 then 0 else(b:Int) - a:=by rw[hdn,mx_eq']
    obtain⟨e,he⟩:∃e:Nat,(e:Int)=mx ((a:Int) - (b:Int)) 0:=⟨a - b,by rw[mx_eq'];split<;>omega⟩
    have he2: (e:Int)=if (a:Int) - b<0 then 0 else(a:Int) - b:=by rw[he,mx_eq']
    rw[←hdn,←he]
    by_cases h6: (a:Int) - b< -6
    · rw[if_pos h6]
      simp only[if_pos (show (dn:Int)>6 by split at hdn2<;>omega)]
      exact Ev.now _
    rw[if_neg h6]
    have hdn6:dn≤6:=by split at hdn2<;>omega
    simp only[if_neg (show ¬(dn:Int)>6 by omega)]
    have hmp:1≤L+dn:=by split at hdn2<;>omega
    rw[wid (n:=L+(dn:Int)) (by omega) (by omega)]
    refine Ev.bind (spec_l01Power_ev p (L+dn) (by omega)) ?_
    rw[powW_prime hp _ (by omega)]
    refine Ev.bind (spec_l01Power_ev p a (by omega)) ?_
    rw[Int.toNat_natCast,r1]
    simp only[if_neg (hpow a)]
    refine Ev.bind (spec_l01Power_ev p b (by omega)) ?_
    rw[Int.toNat_natCast,r2]
    simp only[if_neg (hpow b)]
    rw[q1,q2,wid (n:=uOf p n) (by omega) (by omega),wid (n:=uOf p d) (by omega) (by omega)]
    have m1:=ipow_pos (p:=p) (by omega) (L+(dn:Int)).toNat
    have m2:=pow_13 hp (L+(dn:Int)).toNat (by omega)
    obtain⟨w',ew',iw'⟩:=spec_l01InvMod_ev m1 (by omega) (gcd_unit hp nd (L+(dn:Int)).toNat)
    refine Ev.bind ew' ?_
    refine Ev.bindv (spec_l01MulMod_eq m1 (by omega)) ?_
    have he6: (e:Int)≤6:=by split at he2<;>omega
    refine Ev.bind (spec_l01Power_ev p e (by omega)) ?_
    rw[Int.toNat_natCast,powW_prime hp e (by omega)]
    refine Ev.bindv (spec_l01MulMod_eq m1 (by omega)) ?_
    rw[emod_mul_emod']
    have hexp: ((a:Int) - b+6).toNat=(6 - (dn:Int)).toNat+e:=by split at hdn2<;>split at he2<;>omega
    have hexp2: (L+6).toNat=(6 - (dn:Int)).toNat+(L+(dn:Int)).toNat:=by omega
    have hq:=ipow_pos (p:=p) (by omega) (6 - (dn:Int)).toNat
    have hww: (uOf p n*w*p^e)%p^(L+(dn:Int)).toNat=(uOf p n*w'*p^e)%p^(L+(dn:Int)).toNat:=by
      obtain⟨_,_,k,hk⟩:=hw hL
      obtain⟨_,_,k',hk'⟩:=iw'
      rw[hexp2,Int.pow_add] at hk
      apply Int.emod_eq_emod_iff_emod_sub_eq_zero.2
      apply Int.emod_eq_zero_of_dvd
      generalize p^(L+(dn:Int)).toNat=M at*
      generalize p^(6 - (dn:Int)).toNat=N at*
      generalize p^e=E at*
      generalize uOf p n=U at*
      generalize uOf p d=D at*
      exact⟨U*E*(w*k' - w'*(k*N)),by grind⟩
    have key:ofM p L (uOf p n*w*p^((a:Int) - b+6).toNat)=(L,uOf p n*w'*p^e%p^(L+(dn:Int)).toNat,(dn:Int)):=by
      refine ofM_of hp2 ?_ (by omega) ?_
      · rw[hexp,hexp2,Int.pow_add,Int.pow_add,Int.mul_comm (p^(6 - (dn:Int)).toNat) (p^e),←Int.mul_assoc,Int.mul_comm _ (p^(6 - (dn:Int)).toNat),Int.mul_emod_mul_of_pos _ _ (by omega),hww,Int.mul_comm]
      · by_cases hz:dn=0
        · left;omega
        · right
          have e0:e=0:=by split at hdn2<;>split at he2<;>omega
          rw[e0,Int.pow_zero,Int.mul_one]
          intro hdv
          have hpm:p∣p^(L+(dn:Int)).toNat:=by
            obtain⟨j,hj⟩:∃j,(L+(dn:Int)).toNat=j+1:=⟨(L+(dn:Int)).toNat - 1,by omega⟩
            rw[hj,Int.pow_succ'];exact Int.dvd_mul_right _ _
          have h3:=Int.dvd_add hdv (Int.dvd_trans hpm (Int.dvd_mul_right (p^(L+(dn:Int)).toNat) (uOf p n*w' / p^(L+(dn:Int)).toNat)))
          rw[Int.emod_add_mul_ediv] at h3
          obtain⟨_,_,k',hk'⟩:=iw'
          have h4:p∣uOf p n*w'*uOf p d:=Int.dvd_trans h3 (Int.dvd_mul_right _ _)
          have h5:uOf p n=uOf p n*w'*uOf p d+uOf p n*k'*p^(L+(dn:Int)).toNat:=by
            generalize p^(L+(dn:Int)).toNat=M at*
            generalize uOf p n=U at*
            generalize uOf p d=D at*
            grind
          apply nu
          rw[h5]
          exact Int.dvd_add h4 (Int.dvd_trans hpm (Int.dvd_mul_left _ _))
    rw[key]
    exact Ev.now _
  · rw[decide_eq_false hL,if_pos hL]
    simp only[Bool.false_eq_true,if_false]
    exact Ev.now _
def entB (x:Int):Bool:=decide (-1000≤x∧x≤1000)
def matB (a b c d:Int):Bool:=(entB a&&(entB b&&(entB c&&entB d)))&&!(a*d - b*c==0)
theorem ent_lo {x:Int} (h:entB x=true): -1000≤x:=by unfold entB at h;simp at h;omega
theorem ent_hi {x:Int} (h:entB x=true):x≤1000:=by unfold entB at h;simp at h;omega
theorem mul_bd {x y m n:Int} (hx: -m≤x) (hx2:x≤m) (hy: -n≤y) (hy2:y≤n) (hm:0≤m) (hn:0≤n): -(m*n)≤x*y∧x*y≤m*n:=by
  have h1:=Int.mul_nonneg (show 0≤m - x by omega) (show 0≤n - y by omega)
  have h2:=Int.mul_nonneg (show 0≤m+x by omega) (show 0≤n+y by omega)
  have h3:=Int.mul_nonneg (show 0≤m - x by omega) (show 0≤n+y by omega)
  have h4:=Int.mul_nonneg (show 0≤m+x by omega) (show 0≤n - y by omega)
  simp only[Int.sub_mul,Int.mul_sub,Int.add_mul,Int.mul_add] at h1 h2 h3 h4
  constructor<;>omega
theorem det_bd {a b c d m:Int} (hm:0≤m) (ha: -m≤a∧a≤m) (hb: -m≤b∧b≤m) (hc: -m≤c∧c≤m) (hd: -m≤d∧d≤m): (-(m*m)≤a*d∧a*d≤m*m)∧(-(m*m)≤b*c∧b*c≤m*m):=
  ⟨mul_bd ha.1 ha.2 hd.1 hd.2 hm hm,mul_bd hb.1 hb.2 hc.1 hc.2 hm hm⟩
theorem rd_nat (l:List Int) (j:Nat) (h:j<l.length):rd l (j:Int)=l[j]:=by
  unfold rd;rw[Int.toNat_natCast,List.getD_eq_getElem?_getD,List.getElem?_eq_getElem h];rfl
theorem all_ev {β:Type} (g:Nat→Int→Option β) (n:Nat) (p:Nat→Bool) (yes no:β)
    (hstep:∀(i:Nat),i<n→p i=true→Ev (fun k=>g k ((i:Int)+1)) yes→Ev (fun k=>g k i) yes)
    (hstepno:∀(i:Nat),i<n→p i=true→Ev (fun k=>g k ((i:Int)+1)) no→Ev (fun k=>g k i) no)
    (hno:∀(i:Nat),i<n→p i=false→Ev (fun k=>g k i) no)
    (hend:Ev (fun k=>g k n) yes):Ev (fun k=>g k 0) (if (List.range n).all p then yes else no):=by
  have key:∀(d i:Nat),i+d=n→Ev (fun k=>g k i) (if (List.range' i d).all p then yes else no):=by
    intro d
    induction d with
    |zero=>intro i hi;have:i=n:=by omega
           subst this;simpa using hend
    |succ d ih=>
     intro i hi
     have h:=ih (i+1) (by omega)
     rw[List.range'_succ,List.all_cons]
     cases e:p i with
     |false=>simpa using hno i (by omega) e
     |true=>
      rw[Bool.true_and]
      have e1: (((i+1:Nat):Int))=(i:Int)+1:=by omega
      rw[e1] at h
      cases e2: (List.range' (i+1) d).all p with
      |true=>rw[e2] at h;exact hstep i (by omega) e h
      |false=>rw[e2] at h;exact hstepno i (by omega) e h
  have:=key n 0 (by omega)
  rw[←List.range_eq_range'] at this
  exact this
theorem all_range_rd (l:List Int) (q:Int→Bool): (List.range l.length).all (fun i=>q (rd l (i:Int)))=l.all q:=by
  rw[Bool.eq_iff_iff]
  simp only[List.all_eq_true,List.mem_range]
  constructor
  · intro h x hx
    obtain⟨i,hi,rfl⟩:=List.mem_iff_getElem.1 hx
    have:=h i hi
    rwa [rd_nat l i hi] at this
  · intro h i hi
    rw[rd_nat l i hi]
    exact h _ (List.getElem_mem hi)
theorem all_range_getD {α:Type} (l:List α) (d:α) (q:α→Bool): (List.range l.length).all (fun i=>q (l.getD i d))=l.all q:=by
  rw[Bool.eq_iff_iff]
  simp only[List.all_eq_true,List.mem_range]
  constructor
  · intro h x hx
    obtain⟨i,hi,rfl⟩:=List.mem_iff_getElem.1 hx
    have:=h i hi
    rwa [List.getD_eq_getElem?_getD,List.getElem?_eq_getElem hi] at this
  · intro h i hi
    rw[List.getD_eq_getElem?_getD,List.getElem?_eq_getElem hi]
    exact h _ (List.getElem_mem hi)
theorem all_ev' {β:Type} (g:Nat→Int→Option β) (n:Nat) (p:Nat→Bool) (yes no:β)
    (hstep:∀(i:Nat) (r:β),i<n→p i=true→Ev (fun k=>g k ((i:Int)+1)) r→Ev (fun k=>g k i) r)
    (hno:∀(i:Nat),i<n→p i=false→Ev (fun k=>g k i) no)
    (hend:Ev (fun k=>g k n) yes):Ev (fun k=>g k 0) (if (List.range n).all p then yes else no):=
  all_ev g n p yes no (fun i hi hp h=>hstep i yes hi hp h) (fun i hi hp h=>hstep i no hi hp h) hno hend
theorem ite_tf (b:Bool): (if b then true else false)=b:=by cases b<;>rfl
theorem impl_within_ev (m:Int) (l:List Int) (hm:0≤m) (hm2:m≤4611686018427387904) (hl:l.length≤4611686018427387904):Ev (fun k=>impl_within.f k m l) (l.all (fun x=>decide (-m≤x∧x≤m))):=by
  unfold impl_within.f
  rw[←ite_tf (l.all _),←all_range_rd]
  have w:wrap64 (-m)= -m:=wid (by omega) (by omega)
  refine all_ev' (fun k i=>impl_within.l0 k m l l.length i) l.length (fun i=>decide (-m≤rd l (i:Int)∧rd l (i:Int)≤m)) true false ?_ ?_ ?_
  · intro i r hi hp hr
    have hp:=of_decide_eq_true hp
    refine Ev.step (f:=fun k=>impl_within.l0 k m l l.length ((i:Int)+1)) (fun k=>?_) hr
    simp only[impl_within.l0]
    rw[if_pos (by omega),if_pos (by omega),if_pos (by omega),w,if_neg (by omega),if_neg (by omega),wid (by omega) (by omega)]
  · intro i hi hp
    have hp:=of_decide_eq_false hp
    refine Ev.step (f:=fun _=>some false) (fun k=>?_) (Ev.now _)
    simp only[impl_within.l0]
    rw[if_pos (by omega),if_pos (by omega),if_pos (by omega),w]
    by_cases h:rd l (i:Int)< -m
    · rw[if_pos h]
    · rw[if_neg h,if_pos (by omega)]
  · exact Ev.step (f:=fun _=>some true) (fun k=>by simp only[impl_within.l0];rw[if_neg (by omega)]) (Ev.now _)
theorem impl_determinant_eq {a b c d m:Int} (hm:0≤m) (hm2:m≤2000000000) (ha: -m≤a∧a≤m) (hb: -m≤b∧b≤m) (hc: -m≤c∧c≤m) (hd: -m≤d∧d≤m):impl_determinant.f a b c d=some (a*d - b*c):=by
  have hmm:m*m≤4000000000000000000:=by have:=Int.mul_le_mul hm2 hm2 hm (by omega);omega
  obtain⟨h1,h2⟩:=det_bd hm ha hb hc hd
  unfold impl_determinant.f
  rw[wid (n:=a*d) (by omega) (by omega),wid (n:=b*c) (by omega) (by omega),wid (by omega) (by omega)]
theorem impl_IsMatrix_ev (a b c d:Int):Ev (fun k=>impl_IsMatrix.f k a b c d) (matB a b c d):=by
  unfold impl_IsMatrix.f matB
  refine Ev.bind (impl_within_ev 1000 [a,b,c,d] (by omega) (by omega) (by simp)) ?_
  rw[show ([a,b,c,d]:List Int).all (fun x=>decide (-1000≤x∧x≤1000))=(entB a&&(entB b&&(entB c&&entB d))) from by simp[entB]]
  cases h: (entB a&&(entB b&&(entB c&&entB d))) with
  |false=>simp only[Bool.false_eq_true,if_false,Bool.false_and];exact Ev.now _
  |true=>
   simp only[Bool.and_eq_true] at h
   simp only[if_true,Bool.true_and]
   refine Ev.bindv (impl_determinant_eq (m:=1000) (by omega) (by omega) ⟨ent_lo h.1,ent_hi h.1⟩ ⟨ent_lo h.2.1,ent_hi h.2.1⟩ ⟨ent_lo h.2.2.1,ent_hi h.2.2.1⟩ ⟨ent_lo h.2.2.2,ent_hi h.2.2.2⟩) ?_
   exact Ev.now _
theorem spec_l04Det_eq {a b c d m:Int} (hm:0≤m) (hm2:m≤2000000000) (ha: -m≤a∧a≤m) (hb: -m≤b∧b≤m) (hc: -m≤c∧c≤m) (hd: -m≤d∧d≤m):spec_l04Det.f a b c d=some (a*d - b*c):=by
  have hmm:m*m≤4000000000000000000:=by have:=Int.mul_le_mul hm2 hm2 hm (by omega);omega
  obtain⟨h1,h2⟩:=det_bd hm ha hb hc hd
  unfold spec_l04Det.f
  rw[wid (n:=a*d) (by omega) (by omega),wid (n:=b*c) (by omega) (by omega),wid (by omega) (by omega)]
theorem spec_l04Is_ev (a b c d:Int):Ev (fun k=>spec_l04Is.f k a b c d) (matB a b c d):=by
  have w0:wrap64 1=1:=wid (by omega) (by omega)
  have w1:wrap64 2=2:=wid (by omega) (by omega)
  have hI:∀x:Int,spec_l01In.f x (-1000) 1000=some (entB x):=fun x=>In_eq x _ _
  unfold spec_l04Is.f matB
  refine Ev.step (f:=fun k=>spec_l04Is.l1 k 0 0 a b c d) (fun k=>by simp only[spec_l04Is.l0];rw[if_pos (by decide)]) ?_
  have no:Ev (fun _:Nat=>(some false:Option Bool)) false:=Ev.now _
  cases ha:entB a with
  |false=>exact Ev.step (f:=fun _=>some false) (fun k=>by simp[spec_l04Is.l1,hI,ha]) no
  |true=>
  refine Ev.step (f:=fun k=>spec_l04Is.l1 k 0 1 a b c d) (fun k=>by simp[spec_l04Is.l1,hI,ha,w0]) ?_
  cases hb:entB b with
  |false=>exact Ev.step (f:=fun _=>some false) (fun k=>by simp[spec_l04Is.l1,hI,hb]) no
  |true=>
  refine Ev.step (f:=fun k=>spec_l04Is.l1 k 0 2 a b c d) (fun k=>by simp[spec_l04Is.l1,hI,hb,w1]) ?_
  refine Ev.step (f:=fun k=>spec_l04Is.l0 k 1 a b c d) (fun k=>by simp[spec_l04Is.l1,w0]) ?_
  refine Ev.step (f:=fun k=>spec_l04Is.l1 k 1 0 a b c d) (fun k=>by simp only[spec_l04Is.l0];rw[if_pos (by decide)]) ?_
  cases hc:entB c with
  |false=>exact Ev.step (f:=fun _=>some false) (fun k=>by simp[spec_l04Is.l1,hI,hc]) no
  |true=>
  refine Ev.step (f:=fun k=>spec_l04Is.l1 k 1 1 a b c d) (fun k=>by simp[spec_l04Is.l1,hI,hc,w0]) ?_
  cases hd:entB d with
  |false=>exact Ev.step (f:=fun _=>some false) (fun k=>by simp[spec_l04Is.l1,hI,hd]) no
  |true=>
  refine Ev.step (f:=fun k=>spec_l04Is.l1 k 1 2 a b c d) (fun k=>by simp[spec_l04Is.l1,hI,hd,w1]) ?_
  refine Ev.step (f:=fun k=>spec_l04Is.l0 k 2 a b c d) (fun k=>by simp[spec_l04Is.l1,w1]) ?_
  refine Ev.step (f:=fun _=>(spec_l04Det.f a b c d).bind fun t=>some (t !=0)) (fun k=>by simp only[spec_l04Is.l0];rw[if_neg (by decide)]) ?_
  refine Ev.bindv (spec_l04Det_eq (m:=1000) (by omega) (by omega) ⟨ent_lo ha,ent_hi ha⟩ ⟨ent_lo hb,ent_hi hb⟩ ⟨ent_lo hc,ent_hi hc⟩ ⟨ent_lo hd,ent_hi hd⟩) ?_
  simp only[Bool.true_and]
  exact Ev.now _
def bd62 (x:Int):Prop:= -4611686018427387904≤x∧x≤4611686018427387904
def g4 (a b c d:Int):Int:=(Int.gcd (Int.gcd a b:Int) (Int.gcd c d:Int):Int)
def sg (a b:Int):Int:=if a<0∨(a=0∧b<0) then -1 else 1
def byM (a b c d:Int):Int:=g4 a b c d*sg a b
theorem sg_or (a b:Int):sg a b=1∨sg a b= -1:=by unfold sg;split<;>simp
theorem g4_nonneg (a b c d:Int):0≤g4 a b c d:=by unfold g4;omega
theorem g4_dvd (a b c d:Int):g4 a b c d∣a∧g4 a b c d∣b∧g4 a b c d∣c∧g4 a b c d∣d:=by
  unfold g4
  have h1:=Int.gcd_dvd_left (Int.gcd a b:Int) (Int.gcd c d:Int)
  have h2:=Int.gcd_dvd_right (Int.gcd a b:Int) (Int.gcd c d:Int)
  exact⟨Int.dvd_trans h1 (Int.gcd_dvd_left a b),Int.dvd_trans h1 (Int.gcd_dvd_right a b),Int.dvd_trans h2 (Int.gcd_dvd_left c d),Int.dvd_trans h2 (Int.gcd_dvd_right c d)⟩
theorem g4_ne {a b:Int} (c d:Int) (h:a≠0∨b≠0):g4 a b c d≠0:=by
  intro e
  obtain⟨h1,h2,_⟩:=g4_dvd a b c d
  rw[e] at h1 h2
  rcases h with h|h
  · exact h (Int.zero_dvd.1 h1)
  · exact h (Int.zero_dvd.1 h2)
theorem byM_ne {a b:Int} (c d:Int) (h:a≠0∨b≠0):byM a b c d≠0:=by
  have:=g4_ne c d h
  unfold byM
  rcases sg_or a b with e|e<;>rw[e]<;>omega
theorem byM_dvd (a b c d:Int):byM a b c d∣a∧byM a b c d∣b∧byM a b c d∣c∧byM a b c d∣d:=by
  have h:=g4_dvd a b c d
  unfold byM
  rcases sg_or a b with e|e<;>rw[e]
  · simpa using h
  · simpa using h
theorem gcd_le {a b M:Int} (ha: -M≤a∧a≤M) (hb: -M≤b∧b≤M): (Int.gcd a b:Int)≤M:=by
  by_cases h:a=0
  · subst h;rw[Int.gcd_zero_left];omega
  · have:Int.gcd a b≤a.natAbs:=Nat.gcd_le_left _ (by omega)
    omega
theorem tdiv_bd {x M:Int} (g:Int) (hx: -M≤x∧x≤M): -M≤Int.tdiv x g∧Int.tdiv x g≤M:=by
  have:=Int.natAbs_tdiv_le_natAbs x g
  omega
theorem redDet {a b c d:Int} (h:a*d - b*c≠0):Int.tdiv a (byM a b c d)*Int.tdiv d (byM a b c d) - Int.tdiv b (byM a b c d)*Int.tdiv c (byM a b c d)≠0:=by
  obtain⟨h1,h2,h3,h4⟩:=byM_dvd a b c d
  generalize byM a b c d=m at*
  have e1:=Int.tdiv_mul_cancel h1
  have e2:=Int.tdiv_mul_cancel h2
  have e3:=Int.tdiv_mul_cancel h3
  have e4:=Int.tdiv_mul_cancel h4
  generalize Int.tdiv a m=a' at*
  generalize Int.tdiv b m=b' at*
  generalize Int.tdiv c m=c' at*
  generalize Int.tdiv d m=d' at*
  intro e
  apply h
  rw[←e1,←e2,←e3,←e4]
  have:a'*m*(d'*m) - b'*m*(c'*m)=(a'*d' - b'*c')*(m*m):=by
    rw[Int.sub_mul];simp only[Int.mul_assoc,Int.mul_comm,Int.mul_left_comm]
  rw[this,e,Int.zero_mul]
def rM (a b c d x:Int):Int:=Int.tdiv x (byM a b c d)
def fitM (a b c d:Int):Bool:=entB (rM a b c d a)&&(entB (rM a b c d b)&&(entB (rM a b c d c)&&entB (rM a b c d d)))
theorem rowNe {a b c d:Int} (h:a*d - b*c≠0):a≠0∨b≠0:=by
  by_cases ha:a=0
  · right;intro hb;apply h;rw[ha,hb];simp
  · left;exact ha
theorem gcd_mul (m a b:Int): (Int.gcd (m*a) (m*b):Int)=(m.natAbs:Int)*(Int.gcd a b:Int):=by
  rw[Int.gcd_mul_left];simp
theorem g4_mul (m a b c d:Int):g4 (m*a) (m*b) (m*c) (m*d)=(m.natAbs:Int)*g4 a b c d:=by
  unfold g4
  rw[gcd_mul,gcd_mul,gcd_mul,Int.natAbs_natCast]
theorem sg_mul {m a b:Int} (hm:m≠0) (h:a≠0∨b≠0):sg (m*a) (m*b)=(if m<0 then -1 else 1)*sg a b:=by
  have key:∀x:Int,(m*x<0↔if m<0 then 0<x else x<0):=by
    intro x
    by_cases hn:m<0
    · rw[if_pos hn]
      constructor
      · intro h1
        rcases Int.lt_trichotomy x 0 with h2|h2|h2
        · have:=Int.mul_pos_of_neg_of_neg hn h2;omega
        · subst h2;simp at h1
        · exact h2
      · intro h1;exact Int.mul_neg_of_neg_of_pos hn h1
    · rw[if_neg hn]
      have hp:0<m:=by omega
      constructor
      · intro h1
        rcases Int.lt_trichotomy x 0 with h2|h2|h2
        · exact h2
        · subst h2;simp at h1
        · have:=Int.mul_pos hp h2;omega
      · intro h1;exact Int.mul_neg_of_pos_of_neg hp h1
  have z:m*a=0↔a=0:=by
    rw[Int.mul_eq_zero]
    constructor
    · intro h
      rcases h with h|h
      · exact absurd h hm
      · exact h
    · intro h;exact .inr h
  have ka:=key a
  have kb:=key b
  unfold sg
  by_cases hn:m<0
  · rw[if_pos hn] at ka kb
    rw[if_pos hn]
    by_cases h1:a<0
    · rw[if_neg (by rw[ka,kb,z];omega),if_pos (.inl h1)];rfl
    · by_cases h2:a=0
      · by_cases h3:b<0
        · rw[if_neg (by rw[ka,kb,z];omega),if_pos (.inr ⟨h2,h3⟩)];rfl
        · rw[if_pos (by rw[ka,kb,z];omega),if_neg (by omega)];rfl
      · rw[if_pos (by rw[ka,kb,z];omega),if_neg (by omega)];rfl
  · rw[if_neg hn] at ka kb
    rw[if_neg hn,Int.one_mul]
    by_cases h1:a<0∨(a=0∧b<0)
    · rw[if_pos h1,if_pos (by rw[ka,kb,z];exact h1)]
    · rw[if_neg h1,if_neg (by rw[ka,kb,z];exact h1)]
theorem byM_mul {m a b:Int} (c d:Int) (hm:m≠0) (h:a≠0∨b≠0):byM (m*a) (m*b) (m*c) (m*d)=m*byM a b c d:=by
  unfold byM
  rw[g4_mul,sg_mul hm h]
  by_cases hn:m<0
  · rw[if_pos hn,show (m.natAbs:Int)= -m from by omega]
    simp only[Int.neg_mul,Int.mul_neg,Int.one_mul,Int.neg_neg,Int.mul_assoc]
  · rw[if_neg hn,show (m.natAbs:Int)=m from by omega,Int.one_mul,Int.mul_assoc]
theorem tdiv_mul_same {m x y:Int} (hm:m≠0) (h:y∣x):Int.tdiv (m*x) (m*y)=Int.tdiv x y:=by
  obtain⟨q,rfl⟩:=h
  by_cases hy:y=0
  · subst hy;simp
  · rw[←Int.mul_assoc,Int.mul_tdiv_cancel_left _ (Int.mul_ne_zero hm hy),Int.mul_tdiv_cancel_left _ hy]
theorem rM_mul {m a b:Int} (c d:Int) (hm:m≠0) (h:a≠0∨b≠0):rM (m*a) (m*b) (m*c) (m*d) (m*a)=rM a b c d a∧rM (m*a) (m*b) (m*c) (m*d) (m*b)=rM a b c d b∧rM (m*a) (m*b) (m*c) (m*d) (m*c)=rM a b c d c∧rM (m*a) (m*b) (m*c) (m*d) (m*d)=rM a b c d d:=by
  obtain⟨h1,h2,h3,h4⟩:=byM_dvd a b c d
  unfold rM
  rw[byM_mul c d hm h]
  exact⟨tdiv_mul_same hm h1,tdiv_mul_same hm h2,tdiv_mul_same hm h3,tdiv_mul_same hm h4⟩
structure M4 where
  a:Int
  b:Int
  c:Int
  d:Int
def M4.det (g:M4):Int:=g.a*g.d - g.b*g.c
def M4.mul (g h:M4):M4:=⟨g.a*h.a+g.b*h.c,g.a*h.b+g.b*h.d,g.c*h.a+g.d*h.c,g.c*h.b+g.d*h.d⟩
def M4.by_ (g:M4):Int:=byM g.a g.b g.c g.d
def M4.red (g:M4):M4:=⟨Int.tdiv g.a g.by_,Int.tdiv g.b g.by_,Int.tdiv g.c g.by_,Int.tdiv g.d g.by_⟩
def M4.smul (m:Int) (g:M4):M4:=⟨m*g.a,m*g.b,m*g.c,m*g.d⟩
def M4.fit (g:M4):Bool:=entB g.a&&(entB g.b&&(entB g.c&&entB g.d))
def M4.ok (g:M4):Bool:=matB g.a g.b g.c g.d
def M4.one:M4:=⟨1,0,0,1⟩
def M4.adj (g:M4):M4:=⟨g.d, -g.b, -g.c,g.a⟩
theorem M4.ext' {g h:M4} (h1:g.a=h.a) (h2:g.b=h.b) (h3:g.c=h.c) (h4:g.d=h.d):g=h:=by cases g;cases h;simp_all
theorem M4.det_mul (g h:M4): (g.mul h).det=g.det*h.det:=by
  unfold M4.det M4.mul
  simp only[Int.sub_mul,Int.mul_sub,Int.add_mul,Int.mul_add,Int.mul_assoc,Int.mul_comm,Int.mul_left_comm]
  omega
theorem M4.mul_smul (m:Int) (g h:M4):g.mul (h.smul m)=(g.mul h).smul m:=by
  apply M4.ext'<;>simp only[M4.mul,M4.smul,Int.mul_add,Int.mul_left_comm]
theorem M4.adj_smul (m:Int) (g:M4): (g.smul m).adj=g.adj.smul m:=by
  apply M4.ext'<;>simp only[M4.adj,M4.smul,Int.mul_neg]
theorem M4.adj_det (g:M4):g.adj.det=g.det:=by unfold M4.adj M4.det;simp only[Int.neg_mul_neg,Int.mul_comm]
theorem M4.row_ne {g:M4} (h:g.det≠0):g.a≠0∨g.b≠0:=rowNe h
theorem M4.by_ne {g:M4} (h:g.det≠0):g.by_≠0:=byM_ne _ _ (M4.row_ne h)
theorem M4.red_det {g:M4} (h:g.det≠0):g.red.det≠0:=redDet h
theorem M4.smul_red (g:M4):g.red.smul g.by_=g:=by
  obtain⟨h1,h2,h3,h4⟩:=byM_dvd g.a g.b g.c g.d
  apply M4.ext'
  · exact Int.mul_tdiv_cancel' h1
  · exact Int.mul_tdiv_cancel' h2
  · exact Int.mul_tdiv_cancel' h3
  · exact Int.mul_tdiv_cancel' h4
theorem M4.red_smul {m:Int} {g:M4} (hm:m≠0) (h:g.det≠0): (g.smul m).red=g.red:=by
  obtain⟨h1,h2,h3,h4⟩:=rM_mul (m:=m) g.c g.d hm (M4.row_ne h)
  exact M4.ext' h1 h2 h3 h4
theorem M4.red_mul_red {g h:M4} (hg:g.det≠0) (hh:h.det≠0): (g.mul h.red).red=(g.mul h).red:=by
  conv=>rhs;rw[←M4.smul_red h,M4.mul_smul]
  rw[M4.red_smul (M4.by_ne hh)]
  rw[M4.det_mul];exact Int.mul_ne_zero hg (M4.red_det hh)
theorem M4.red_adj_red {g:M4} (hg:g.det≠0):g.red.adj.red=g.adj.red:=by
  conv=>rhs;rw[←M4.smul_red g,M4.adj_smul]
  rw[M4.red_smul (M4.by_ne hg)]
  rw[M4.adj_det];exact M4.red_det hg
theorem M4.ok_det {g:M4} (h:g.ok=true):g.det≠0:=by
  unfold M4.ok matB at h;rw[Bool.and_eq_true] at h
  have:=h.2
  unfold M4.det
  intro e;rw[e] at this;simp at this
theorem M4.ok_fit {g:M4} (h:g.ok=true):g.fit=true:=by
  unfold M4.ok matB at h;rw[Bool.and_eq_true] at h;exact h.1
theorem M4.ok_of {g:M4} (h:g.det≠0):g.ok=g.fit:=by
  unfold M4.ok matB M4.fit
  rw[show (g.a*g.d - g.b*g.c==0)=false from beq_eq_false_iff_ne.2 h];simp
theorem M4.fit_bd {g:M4} (h:g.fit=true): (-1000≤g.a∧g.a≤1000)∧(-1000≤g.b∧g.b≤1000)∧(-1000≤g.c∧g.c≤1000)∧(-1000≤g.d∧g.d≤1000):=by
  unfold M4.fit at h;simp only[Bool.and_eq_true] at h
  exact⟨⟨ent_lo h.1,ent_hi h.1⟩,⟨ent_lo h.2.1,ent_hi h.2.1⟩,⟨ent_lo h.2.2.1,ent_hi h.2.2.1⟩,⟨ent_lo h.2.2.2,ent_hi h.2.2.2⟩⟩
theorem ent_of {x:Int} (h: -1000≤x∧x≤1000):entB x=true:=decide_eq_true h
theorem M4.red_fit {g:M4} (h:g.fit=true):g.red.fit=true:=by
  obtain⟨h1,h2,h3,h4⟩:=M4.fit_bd h
  unfold M4.fit M4.red
  simp only[ent_of (tdiv_bd _ h1),ent_of (tdiv_bd _ h2),ent_of (tdiv_bd _ h3),ent_of (tdiv_bd _ h4),Bool.and_self]
theorem M4.red_ok {g:M4} (h:g.ok=true):g.red.ok=true:=by
  rw[M4.ok_of (M4.red_det (M4.ok_det h))];exact M4.red_fit (M4.ok_fit h)
theorem M4.one_mul (g:M4):M4.one.mul g=g:=by apply M4.ext'<;>simp[M4.mul,M4.one]
def mulW (x y u v:Int):Int:=wrap64 (wrap64 (x*u)+wrap64 (y*v))
theorem mulW_eq {x y u v M:Int} (hM:0≤M) (hM2:M≤1000000000) (hx: -M≤x∧x≤M) (hy: -M≤y∧y≤M) (hu: -M≤u∧u≤M) (hv: -M≤v∧v≤M):mulW x y u v=x*u+y*v:=by
  have hmm:M*M≤1000000000000000000:=by have:=Int.mul_le_mul hM2 hM2 hM (by omega);omega
  obtain⟨a1,a2⟩:=mul_bd hx.1 hx.2 hu.1 hu.2 hM hM
  obtain⟨b1,b2⟩:=mul_bd hy.1 hy.2 hv.1 hv.2 hM hM
  unfold mulW
  rw[wid (n:=x*u) (by omega) (by omega),wid (n:=y*v) (by omega) (by omega),wid (by omega) (by omega)]
theorem mulS {x y M N:Int} (hx: -M≤x∧x≤M) (hy: -N≤y∧y≤N) (hM:0≤M) (hN:0≤N): -(M*N)≤x*y∧x*y≤M*N:=mul_bd hx.1 hx.2 hy.1 hy.2 hM hN
theorem moveSide_both {p L T D:Int} {o:Bool} {a b c d:Int} (h:ballB p L T D=true) (hg:matB a b c d=true):∃r:Int×Int×Int×Bool×Bool,
    Ev (fun k=>impl_moveSide.f k p a b c d L T D o) r∧Ev (fun k=>spec_l09Move.f k p a b c d L T D o) r∧(r.2.2.2.2=true→ballB p r.1 r.2.1 r.2.2.1=true):=by
  obtain⟨hp,hL,hD,_,_⟩:=ball_parts h
  have hp2:=prime_lo hp
  have hT:=ball_num h
  have hX:=mark_lt h
  have hX2:=pow_13 hp (L+6).toNat (by omega)
  have hok: (M4.mk a b c d).ok=true:=hg
  obtain⟨g1,g2,g3,g4⟩:=M4.fit_bd (M4.ok_fit hok)
  simp only at g1 g2 g3 g4
  have hdet:a*d - b*c≠0:=M4.ok_det hok
  obtain⟨db1,db2⟩:=det_bd (m:=1000) (by omega) g1 g2 g3 g4
  have p6:=pow_6 hp 6 (by omega)
  have p60:=ipow_pos (p:=p) (by omega) 6
  have pD:=pow_6 hp D.toNat (by omega)
  have pD0:=ipow_pos (p:=p) (by omega) D.toNat
  have aT:=mulS (M:=1000) (N:=13841287201) g1 (y:=T) (by omega) (by omega) (by omega)
  have bD:=mulS (M:=1000) (N:=117649) g2 (y:=p^D.toNat) (by omega) (by omega) (by omega)
  have cT:=mulS (M:=1000) (N:=13841287201) g3 (y:=T) (by omega) (by omega) (by omega)
  have dD:=mulS (M:=1000) (N:=117649) g4 (y:=p^D.toNat) (by omega) (by omega) (by omega)
  have aX:=mulS (M:=1000) (N:=13841287201) g1 (y:=markOf p T D) (by omega) (by omega) (by omega)
  have b6:=mulS (M:=1000) (N:=117649) g2 (y:=p^6) (by omega) (by omega) (by omega)
  have cX:=mulS (M:=1000) (N:=13841287201) g3 (y:=markOf p T D) (by omega) (by omega) (by omega)
  have d6:=mulS (M:=1000) (N:=117649) g4 (y:=p^6) (by omega) (by omega) (by omega)
  have e6:p^6=p^(6 - D).toNat*p^D.toNat:=by rw[←Int.pow_add];congr 1;omega
  have hnum:a*markOf p T D+b*p^6=p^(6 - D).toNat*(a*T+b*p^D.toNat):=by unfold markOf;rw[e6];grind
  have hden:c*markOf p T D+d*p^6=p^(6 - D).toNat*(c*T+d*p^D.toNat):=by unfold markOf;rw[e6];grind
  obtain⟨top,htop⟩:∃x,x=a*T+b*p^D.toNat:=⟨_,rfl⟩
  obtain⟨bot,hbot⟩:∃x,x=c*T+d*p^D.toNat:=⟨_,rfl⟩
  obtain⟨num,hnum'⟩:∃x,x=a*markOf p T D+b*p^6:=⟨_,rfl⟩
  obtain⟨den,hden'⟩:∃x,x=c*markOf p T D+d*p^6:=⟨_,rfl⟩
  rw[←htop,←hnum'] at hnum
  rw[←hbot,←hden'] at hden
  have vdet:=val_le_of_lt hp2 hdet 22 (by omega)
  generalize hvd:val p (a*d - b*c)=V at*
  have core_in:c≠0→∃r:Int×Int×Int×Bool×Bool,Ev (fun k=>impl_moveSide.j0 k p num den V (val p c) true a b c d L T D o) r∧Ev (fun k=>spec_l09Move.j0 k p V top bot c true a b c d L T D o) r∧(r.2.2.2.2=true→ballB p r.1 r.2.1 r.2.2.1=true):=by
    intro hc
    have vc:=val_le_of_lt hp2 hc 10 (by omega)
    obtain⟨w,hw,ew⟩:=impl_ballAt_ev (p:=p) (n:=a) (d:=c) (L:=(V:Int) - 2*(val p c:Int) - L+1) hp hc (by omega) (by omega) (by omega) (by omega)
    have ew':=spec_l01Of_ev (p:=p) (n:=a) (d:=c) (L:=(V:Int) - 2*(val p c:Int) - L+1) (w:=w) hp hc (by omega) (by omega) (by omega) (by omega) hw
    have hball:=atF_ball (p:=p) (L:=(V:Int) - 2*(val p c:Int) - L+1) (n:=a) (d:=c) (w:=w) hp
    generalize hr:atF p ((V:Int) - 2*(val p c:Int) - L+1) a c w=r at*
    refine⟨(r.1,r.2.1,r.2.2.1,!o,r.2.2.2),Ev.up ?_,Ev.up ?_,hball⟩
    · simp only[impl_moveSide.j0,if_true]
      rw[wid (n:=2*(val p c:Int)) (by omega) (by omega),wid (n:=(V:Int) - 2*(val p c:Int)) (by omega) (by omega),wid (n:=(V:Int) - 2*(val p c:Int) - L) (by omega) (by omega),wid (n:=(V:Int) - 2*(val p c:Int) - L+1) (by omega) (by omega)]
      exact Ev.bind ew (Ev.now _)
    · simp only[spec_l09Move.j0,if_true]
      refine Ev.bind (spec_l01Val_ev hp2 hc (by omega) (by omega)) ?_
      rw[wid (n:=2*(val p c:Int)) (by omega) (by omega),wid (n:=(V:Int) - 2*(val p c:Int)) (by omega) (by omega),wid (n:=(V:Int) - 2*(val p c:Int) - L) (by omega) (by omega),wid (n:=(V:Int) - 2*(val p c:Int) - L+1) (by omega) (by omega)]
      exact Ev.bind ew' (Ev.now _)
  have core_out:∀tc:Int,bot≠0→∃r:Int×Int×Int×Bool×Bool,Ev (fun k=>impl_moveSide.j0 k p num den V tc false a b c d L T D o) r∧Ev (fun k=>spec_l09Move.j0 k p V top bot c false a b c d L T D o) r∧(r.2.2.2.2=true→ballB p r.1 r.2.1 r.2.2.1=true):=by
    intro tc hb
    have hd0:den≠0:=by rw[hden];exact Int.mul_ne_zero (Int.pow_ne_zero (by omega)) hb
    have vb:=val_le_of_lt hp2 hb 45 (by omega)
    have vden: (val p den:Int)=(6 - D)+(val p bot:Int):=by rw[hden,val_pow_mul _ hp2 hb];omega
    obtain⟨w,hw,ew⟩:=impl_ballAt_ev (p:=p) (n:=num) (d:=den) (L:=(V:Int)+L - 2*((val p bot:Int) - D)) hp hd0 (by omega) (by omega) (by omega) (by omega)
    rw[hden,uOf_scale _ hp2 hb] at hw
    have ew':=spec_l01Of_ev (p:=p) (n:=top) (d:=bot) (L:=(V:Int)+L - 2*((val p bot:Int) - D)) (w:=w) hp hb (by omega) (by omega) (by omega) (by omega) hw
    have hball:=atF_ball (p:=p) (L:=(V:Int)+L - 2*((val p bot:Int) - D)) (n:=top) (d:=bot) (w:=w) hp
    have hs:atF p ((V:Int)+L - 2*((val p bot:Int) - D)) num den w=atF p ((V:Int)+L - 2*((val p bot:Int) - D)) top bot w:=by rw[hnum,hden];exact atF_scale _ hp2 hb
    rw[hs] at ew
    generalize hr:atF p ((V:Int)+L - 2*((val p bot:Int) - D)) top bot w=r at*
    refine⟨(r.1,r.2.1,r.2.2.1,o,r.2.2.2),Ev.up ?_,Ev.up ?_,hball⟩
    · simp only[impl_moveSide.j0,Bool.false_eq_true,if_false]
      refine Ev.bind (impl_valuation_ev hp2 (by omega) (by omega)) ?_
      have hv:valW p den=(6 - D)+(val p bot:Int):=by unfold valW;rw[if_neg hd0,vden]
      rw[hv,wid (n:=L+(V:Int)) (by omega) (by omega),wid (n:=6 - D+(val p bot:Int) - 6) (by omega) (by omega),wid (n:=2*(6 - D+(val p bot:Int) - 6)) (by omega) (by omega),wid (n:=L+(V:Int) - 2*(6 - D+(val p bot:Int) - 6)) (by omega) (by omega),show L+(V:Int) - 2*(6 - D+(val p bot:Int) - 6)=(V:Int)+L - 2*((val p bot:Int) - D) from by omega]
      exact Ev.bind ew (Ev.now _)
    · simp only[spec_l09Move.j0,Bool.false_eq_true,if_false]
      refine Ev.bind (spec_l01Val_ev hp2 hb (by omega) (by omega)) ?_
      rw[wid (n:=(V:Int)+L) (by omega) (by omega),wid (n:=(val p bot:Int) - D) (by omega) (by omega),wid (n:=2*((val p bot:Int) - D)) (by omega) (by omega),wid (n:=(V:Int)+L - 2*((val p bot:Int) - D)) (by omega) (by omega)]
      exact Ev.bind ew' (Ev.now _)
  have hvdet:valW p (a*d - b*c)=(V:Int):=by unfold valW;rw[if_neg hdet,hvd]
  have impl_of:∀r,Ev (fun k=>if c=0 then impl_moveSide.j0 k p num den V (valW p c) false a b c d L T D o else(impl_valuation.f k p den).bind fun t=>impl_moveSide.j0 k p num den V (valW p c) (decide (wrap64 (t - 6)≥wrap64 (L+valW p c))) a b c d L T D o) r→Ev (fun k=>impl_moveSide.f k p a b c d L T D o) r:=by
    intro r hr
    unfold impl_moveSide.f
    refine Ev.bind (impl_mark_ev h) (Ev.bind (impl_power_ev p 6 (by omega)) ?_)
    rw[show (6:Int).toNat=6 from rfl,powW_prime hp 6 (by omega)]
    refine Ev.bindv (impl_determinant_eq (m:=1000) (by omega) (by omega) g1 g2 g3 g4) ?_
    refine Ev.bind (impl_valuation_ev hp2 (by omega) (by omega)) (Ev.bind (impl_valuation_ev hp2 (by omega) (by omega)) ?_)
    rw[hvdet,wid (n:=a*markOf p T D) (by omega) (by omega),wid (n:=b*p^6) (by omega) (by omega),wid (n:=c*markOf p T D) (by omega) (by omega),wid (n:=d*p^6) (by omega) (by omega),wid (n:=a*markOf p T D+b*p^6) (by omega) (by omega),wid (n:=c*markOf p T D+d*p^6) (by omega) (by omega),←hnum',←hden']
    exact hr
  have spec_of:∀r,Ev (fun k=>if c=0 then spec_l09Move.j0 k p V top bot c false a b c d L T D o else if bot=0 then spec_l09Move.j0 k p V top bot c true a b c d L T D o else(spec_l01Val.f k p bot).bind fun t=>(spec_l01Val.f k p c).bind fun t'=>spec_l09Move.j0 k p V top bot c (decide (wrap64 (t - D)≥wrap64 (t'+L))) a b c d L T D o) r→Ev (fun k=>spec_l09Move.f k p a b c d L T D o) r:=by
    intro r hr
    unfold spec_l09Move.f
    refine Ev.bind (spec_l01Power_ev p D (by omega)) ?_
    rw[powW_prime hp _ (by omega),wid (n:=a*d) (by omega) (by omega),wid (n:=b*c) (by omega) (by omega),wid (n:=a*d - b*c) (by omega) (by omega)]
    refine Ev.bind (spec_l01Val_ev hp2 hdet (by omega) (by omega)) ?_
    rw[hvd,wid (n:=a*T) (by omega) (by omega),wid (n:=b*p^D.toNat) (by omega) (by omega),wid (n:=c*T) (by omega) (by omega),wid (n:=d*p^D.toNat) (by omega) (by omega),wid (n:=a*T+b*p^D.toNat) (by omega) (by omega),wid (n:=c*T+d*p^D.toNat) (by omega) (by omega),←htop,←hbot]
    exact hr
  by_cases hc:c=0
  · have hb:bot≠0:=by
      rw[hbot,hc,Int.zero_mul,Int.zero_add]
      refine Int.mul_ne_zero (fun e=>hdet ?_) (by omega)
      rw[hc,e];omega
    obtain⟨r,h1,h2,h3⟩:=core_out (valW p c) hb
    refine⟨r,impl_of r ?_,spec_of r ?_,h3⟩
    · simp only[if_pos hc];exact h1
    · simp only[if_pos hc];exact h2
  have hvc:valW p c=(val p c:Int):=by unfold valW;rw[if_neg hc]
  have vc:=val_le_of_lt hp2 hc 10 (by omega)
  by_cases hb:bot=0
  · obtain⟨r,h1,h2,h3⟩:=core_in hc
    have hd0:den=0:=by rw[hden,hb,Int.mul_zero]
    refine⟨r,impl_of r ?_,spec_of r ?_,h3⟩
    · simp only[if_neg hc]
      refine Ev.bind (impl_valuation_ev hp2 (by omega) (by omega)) ?_
      have hv:valW p den=1000:=by unfold valW;rw[if_pos hd0]
      rw[hv,hvc,wid (n:=1000 - 6) (by omega) (by omega),wid (n:=L+(val p c:Int)) (by omega) (by omega),decide_eq_true (show (1000 - 6:Int)≥L+(val p c:Int) by omega)]
      exact h1
    · simp only[if_neg hc,if_pos hb];exact h2
  have hd0:den≠0:=by rw[hden];exact Int.mul_ne_zero (Int.pow_ne_zero (by omega)) hb
  have vb:=val_le_of_lt hp2 hb 45 (by omega)
  have vden: (val p den:Int)=(6 - D)+(val p bot:Int):=by rw[hden,val_pow_mul _ hp2 hb];omega
  have hv:valW p den=(6 - D)+(val p bot:Int):=by unfold valW;rw[if_neg hd0,vden]
  have goal:∀r,Ev (fun k=>impl_moveSide.j0 k p num den V (val p c) (decide ((val p bot:Int) - D≥(val p c:Int)+L)) a b c d L T D o) r→Ev (fun k=>spec_l09Move.j0 k p V top bot c (decide ((val p bot:Int) - D≥(val p c:Int)+L)) a b c d L T D o) r→Ev (fun k=>impl_moveSide.f k p a b c d L T D o) r∧Ev (fun k=>spec_l09Move.f k p a b c d L T D o) r:=by
    intro r h1 h2
    refine⟨impl_of r ?_,spec_of r ?_⟩
    · simp only[if_neg hc]
      refine Ev.bind (impl_valuation_ev hp2 (by omega) (by omega)) ?_
      rw[hv,hvc,wid (n:=6 - D+(val p bot:Int) - 6) (by omega) (by omega),wid (n:=L+(val p c:Int)) (by omega) (by omega),show decide (6 - D+(val p bot:Int) - 6≥L+(val p c:Int))=decide ((val p bot:Int) - D≥(val p c:Int)+L) from decide_eq_decide.2 (by omega)]
      exact h1
    · simp only[if_neg hc,if_neg hb]
      refine Ev.bind (spec_l01Val_ev hp2 hb (by omega) (by omega)) (Ev.bind (spec_l01Val_ev hp2 hc (by omega) (by omega)) ?_)
      rw[wid (n:=(val p bot:Int) - D) (by omega) (by omega),wid (n:=(val p c:Int)+L) (by omega) (by omega)]
      exact h2
  by_cases hi: (val p bot:Int) - D≥(val p c:Int)+L
  · obtain⟨r,h1,h2,h3⟩:=core_in hc
    rw[decide_eq_true hi] at goal
    exact⟨r,(goal r h1 h2).1,(goal r h1 h2).2,h3⟩
  · obtain⟨r,h1,h2,h3⟩:=core_out (val p c) hb
    rw[decide_eq_false hi] at goal
    exact⟨r,(goal r h1 h2).1,(goal r h1 h2).2,h3⟩
theorem cop2 {p:Int} (hp:primeB p=true) {g:Int} (h:¬p∣g):Int.gcd g p=1:=by
  have h1: (Int.gcd g p:Int)∣g:=Int.gcd_dvd_left g p
  have h2: (Int.gcd g p:Int)∣p:=Int.gcd_dvd_right g p
  generalize Int.gcd g p=n at h1 h2
  rcases prime_cases hp with e|e|e|e<;>subst e
  · have h3:n∣2:=Int.natCast_dvd_natCast.1 h2
    have:∀n,n<3→n∣2→n=1∨n=2:=by decide
    rcases this n (by have:=Nat.le_of_dvd (by omega) h3;omega) h3 with h4|h4
    · exact h4
    · subst h4;exact absurd h1 h
  · have h3:n∣3:=Int.natCast_dvd_natCast.1 h2
    have:∀n,n<4→n∣3→n=1∨n=3:=by decide
    rcases this n (by have:=Nat.le_of_dvd (by omega) h3;omega) h3 with h4|h4
    · exact h4
    · subst h4;exact absurd h1 h
  · have h3:n∣5:=Int.natCast_dvd_natCast.1 h2
    have:∀n,n<6→n∣5→n=1∨n=5:=by decide
    rcases this n (by have:=Nat.le_of_dvd (by omega) h3;omega) h3 with h4|h4
    · exact h4
    · subst h4;exact absurd h1 h
  · have h3:n∣7:=Int.natCast_dvd_natCast.1 h2
    have:∀n,n<8→n∣7→n=1∨n=7:=by decide
    rcases this n (by have:=Nat.le_of_dvd (by omega) h3;omega) h3 with h4|h4
    · exact h4
    · subst h4;exact absurd h1 h
theorem Ev.det {α:Type} {g:Nat→Option α} {r s:α} (h:Ev g r) (h':Ev g s):r=s:=by
  obtain⟨K,hK⟩:=h
  obtain⟨K',hK'⟩:=h'
  have h1:=hK (K+K') (by omega)
  have h2:=hK' (K+K') (by omega)
  rw[h1] at h2
  injection h2
theorem val_mul {p a b:Int} (hp:primeB p=true) (ha:a≠0) (hb:b≠0):val p (a*b)=val p a+val p b∧uOf p (a*b)=uOf p a*uOf p b:=by
  have hp2:=prime_lo hp
  obtain⟨ea,na⟩:=uOf_spec hp2 ha
  obtain⟨eb,nb⟩:=uOf_spec hp2 hb
  have hn:¬p∣uOf p a*uOf p b:=fun hd=>nb (Int.natAbs_dvd_natAbs.1 (Nat.Coprime.dvd_of_dvd_mul_left (show Nat.Coprime (uOf p a).natAbs p.natAbs from cop2 hp na).symm (by rw[←Int.natAbs_mul];exact Int.natAbs_dvd_natAbs.2 hd)))
  have e:a*b=p^(val p a+val p b)*(uOf p a*uOf p b):=by
    rw[Int.pow_add]
    conv=>lhs;rw[ea,eb]
    grind
  have hv:=val_eq hp2 e hn
  refine⟨hv,?_⟩
  obtain⟨e2,_⟩:=uOf_spec hp2 (Int.mul_ne_zero ha hb)
  rw[hv] at e2
  have hq:p^(val p a+val p b)≠0:=Int.pow_ne_zero (by omega)
  exact Int.eq_of_mul_eq_mul_left hq (e2.symm.trans e)
theorem atF_gen {p L n d m w w':Int} (hp:primeB p=true) (hm:m≠0) (hd:d≠0) (hw: (-6≤L∧L≤6)→isInv (uOf p d) (p^(L+6).toNat) w) (hw': (-6≤L∧L≤6)→isInv (uOf p (m*d)) (p^(L+6).toNat) w'):atF p L (m*n) (m*d) w'=atF p L n d w:=by
  have hp2:=prime_lo hp
  unfold atF
  by_cases hL: -6≤L∧L≤6
  · simp only[if_neg (show ¬ ¬(-6≤L∧L≤6) from fun h=>h hL)]
    by_cases h0:n=0
    · subst h0
      simp only[Int.mul_zero,true_or,if_true]
    · obtain⟨vn,un⟩:=val_mul hp hm h0
      obtain⟨vd,ud⟩:=val_mul hp hm hd
      rw[vn,vd,un,show ((val p m+val p n:Nat):Int) - ((val p m+val p d:Nat):Int)=(val p n:Int) - val p d by omega]
      have hmn:m*n≠0:=Int.mul_ne_zero hm h0
      simp only[hmn,h0,false_or]
      have key:ofM p L (uOf p m*uOf p n*w'*p^((val p n:Int) - val p d+6).toNat)=ofM p L (uOf p n*w*p^((val p n:Int) - val p d+6).toNat):=by
        rw[ofM_inj hp2]
        obtain⟨_,_,k,hk⟩:=hw hL
        obtain⟨_,_,k',hk'⟩:=hw' hL
        rw[ud] at hk'
        generalize p^((val p n:Int) - val p d+6).toNat=P
        generalize p^(L+6).toNat=Q at hk hk'
        generalize uOf p m=um at hk'
        generalize uOf p n=un
        generalize uOf p d=ud at hk hk'
        have e:um*un*w'*P=un*w*P+Q*(un*P*(um*w'*k - w*k')):=by
          have e1:um*w'=um*w'*(w*ud+k*Q):=by rw[hk,Int.mul_one]
          have e2:um*w'*(w*ud+k*Q)=w*(w'*(um*ud))+um*w'*k*Q:=by grind
          have e3:w'*(um*ud)=1 - k'*Q:=by omega
          have e4:um*w'=w*(1 - k'*Q)+um*w'*k*Q:=by rw[←e3,←e2,←e1]
          have e5:um*un*w'*P=un*P*(um*w'):=by grind
          rw[e5,e4]
          grind
        rw[e,Int.add_mul_emod_self_left]
      rw[key]
  · simp only[if_pos hL]
section
variable {p L T D:Int} {o:Bool} {a b c d:Int}
theorem spec_move_form (h:ballB p L T D=true) (hg:matB a b c d=true):
    (c≠0∧(c*T+d*p^D.toNat=0∨(val p (c*T+d*p^D.toNat):Int) - D≥(val p c:Int)+L)→
      ∀w lv,lv=(val p (a*d - b*c):Int) - 2*(val p c:Int) - L+1→((-6≤lv∧lv≤6)→isInv (uOf p c) (p^(lv+6).toNat) w)→
       Ev (fun k=>spec_l09Move.f k p a b c d L T D o) ((atF p lv a c w).1,(atF p lv a c w).2.1,(atF p lv a c w).2.2.1,!o,(atF p lv a c w).2.2.2))∧
    (¬(c≠0∧(c*T+d*p^D.toNat=0∨(val p (c*T+d*p^D.toNat):Int) - D≥(val p c:Int)+L))→c*T+d*p^D.toNat≠0∧
      ∀w lv,lv=(val p (a*d - b*c):Int)+L - 2*((val p (c*T+d*p^D.toNat):Int) - D)→((-6≤lv∧lv≤6)→isInv (uOf p (c*T+d*p^D.toNat)) (p^(lv+6).toNat) w)→
       Ev (fun k=>spec_l09Move.f k p a b c d L T D o) ((atF p lv (a*T+b*p^D.toNat) (c*T+d*p^D.toNat) w).1,(atF p lv (a*T+b*p^D.toNat) (c*T+d*p^D.toNat) w).2.1,(atF p lv (a*T+b*p^D.toNat) (c*T+d*p^D.toNat) w).2.2.1,o,(atF p lv (a*T+b*p^D.toNat) (c*T+d*p^D.toNat) w).2.2.2)):=by
  obtain⟨hp,hL,hD,_,_⟩:=ball_parts h
  have hp2:=prime_lo hp
  have hT:=ball_num h
  have hok: (M4.mk a b c d).ok=true:=hg
  obtain⟨g1,g2,g3,g4⟩:=M4.fit_bd (M4.ok_fit hok)
  simp only at g1 g2 g3 g4
  have hdet:a*d - b*c≠0:=M4.ok_det hok
  obtain⟨db1,db2⟩:=det_bd (m:=1000) (by omega) g1 g2 g3 g4
  have pD:=pow_6 hp D.toNat (by omega)
  have pD0:=ipow_pos (p:=p) (by omega) D.toNat
  have aT:=mulS (M:=1000) (N:=13841287201) g1 (y:=T) (by omega) (by omega) (by omega)
  have bD:=mulS (M:=1000) (N:=117649) g2 (y:=p^D.toNat) (by omega) (by omega) (by omega)
  have cT:=mulS (M:=1000) (N:=13841287201) g3 (y:=T) (by omega) (by omega) (by omega)
  have dD:=mulS (M:=1000) (N:=117649) g4 (y:=p^D.toNat) (by omega) (by omega) (by omega)
  have bz:c=0→c*T+d*p^D.toNat≠0:=fun hc=>by
    rw[hc,Int.zero_mul,Int.zero_add]
    refine Int.mul_ne_zero (fun e=>hdet ?_) (by omega)
    rw[hc,e];omega
  obtain⟨top,htop⟩:∃x,x=a*T+b*p^D.toNat:=⟨_,rfl⟩
  obtain⟨bot,hbot⟩:∃x,x=c*T+d*p^D.toNat:=⟨_,rfl⟩
  rw[←hbot] at bz
  rw[←htop,←hbot]
  have vdet:=val_le_of_lt hp2 hdet 22 (by omega)
  generalize hvd:val p (a*d - b*c)=V at*
  have spec_of:∀r,Ev (fun k=>if c=0 then spec_l09Move.j0 k p V top bot c false a b c d L T D o else if bot=0 then spec_l09Move.j0 k p V top bot c true a b c d L T D o else(spec_l01Val.f k p bot).bind fun t=>(spec_l01Val.f k p c).bind fun t'=>spec_l09Move.j0 k p V top bot c (decide (wrap64 (t - D)≥wrap64 (t'+L))) a b c d L T D o) r→Ev (fun k=>spec_l09Move.f k p a b c d L T D o) r:=by
    intro r hr
    unfold spec_l09Move.f
    refine Ev.bind (spec_l01Power_ev p D (by omega)) ?_
    rw[powW_prime hp _ (by omega),wid (n:=a*d) (by omega) (by omega),wid (n:=b*c) (by omega) (by omega),wid (n:=a*d - b*c) (by omega) (by omega)]
    refine Ev.bind (spec_l01Val_ev hp2 hdet (by omega) (by omega)) ?_
    rw[hvd,wid (n:=a*T) (by omega) (by omega),wid (n:=b*p^D.toNat) (by omega) (by omega),wid (n:=c*T) (by omega) (by omega),wid (n:=d*p^D.toNat) (by omega) (by omega),wid (n:=a*T+b*p^D.toNat) (by omega) (by omega),wid (n:=c*T+d*p^D.toNat) (by omega) (by omega),←htop,←hbot]
    exact hr
  have goes:∀(q:Bool) r,c≠0→bot≠0→q=decide ((val p bot:Int) - D≥(val p c:Int)+L)→Ev (fun k=>spec_l09Move.j0 k p V top bot c q a b c d L T D o) r→Ev (fun k=>spec_l09Move.f k p a b c d L T D o) r:=by
    intro q r hc hb hq hr
    have vc:=val_le_of_lt hp2 hc 10 (by omega)
    have vb:=val_le_of_lt hp2 hb 45 (by omega)
    refine spec_of r ?_
    simp only[if_neg hc,if_neg hb]
    refine Ev.bind (spec_l01Val_ev hp2 hb (by omega) (by omega)) (Ev.bind (spec_l01Val_ev hp2 hc (by omega) (by omega)) ?_)
    rw[wid (n:=(val p bot:Int) - D) (by omega) (by omega),wid (n:=(val p c:Int)+L) (by omega) (by omega),←hq]
    exact hr
  constructor
  · rintro⟨hc,hin⟩ w lv hlv hw
    have vc:=val_le_of_lt hp2 hc 10 (by omega)
    have ew:=spec_l01Of_ev (p:=p) (n:=a) (d:=c) (L:=lv) (w:=w) hp hc (by omega) (by omega) (by omega) (by omega) hw
    have hj:Ev (fun k=>spec_l09Move.j0 k p V top bot c true a b c d L T D o) ((atF p lv a c w).1,(atF p lv a c w).2.1,(atF p lv a c w).2.2.1,!o,(atF p lv a c w).2.2.2):=by
      refine Ev.up ?_
      simp only[spec_l09Move.j0,if_true]
      refine Ev.bind (spec_l01Val_ev hp2 hc (by omega) (by omega)) ?_
      rw[wid (n:=2*(val p c:Int)) (by omega) (by omega),wid (n:=(V:Int) - 2*(val p c:Int)) (by omega) (by omega),wid (n:=(V:Int) - 2*(val p c:Int) - L) (by omega) (by omega),wid (n:=(V:Int) - 2*(val p c:Int) - L+1) (by omega) (by omega),←hlv]
      exact Ev.bind ew (Ev.now _)
    by_cases hb:bot=0
    · refine spec_of _ ?_
      simp only[if_neg hc,if_pos hb];exact hj
    · refine goes true _ hc hb (decide_eq_true ?_).symm hj
      rcases hin with hin|hin
      · exact absurd hin hb
      · exact hin
  · intro hni
    have hb:bot≠0:=fun e=>by
      by_cases hc:c=0
      · exact bz hc e
      · exact hni ⟨hc,.inl e⟩
    refine⟨hb,fun w lv hlv hw=>?_⟩
    have vb:=val_le_of_lt hp2 hb 45 (by omega)
    have ew:=spec_l01Of_ev (p:=p) (n:=top) (d:=bot) (L:=lv) (w:=w) hp hb (by omega) (by omega) (by omega) (by omega) hw
    have hj:Ev (fun k=>spec_l09Move.j0 k p V top bot c false a b c d L T D o) ((atF p lv top bot w).1,(atF p lv top bot w).2.1,(atF p lv top bot w).2.2.1,o,(atF p lv top bot w).2.2.2):=by
      refine Ev.up ?_
      simp only[spec_l09Move.j0,Bool.false_eq_true,if_false]
      refine Ev.bind (spec_l01Val_ev hp2 hb (by omega) (by omega)) ?_
      rw[wid (n:=(V:Int)+L) (by omega) (by omega),wid (n:=(val p bot:Int) - D) (by omega) (by omega),wid (n:=2*((val p bot:Int) - D)) (by omega) (by omega),wid (n:=(V:Int)+L - 2*((val p bot:Int) - D)) (by omega) (by omega),←hlv]
      exact Ev.bind ew (Ev.now _)
    by_cases hc:c=0
    · refine spec_of _ ?_
      simp only[if_pos hc];exact hj
    · exact goes false _ hc hb (decide_eq_false (fun e=>hni ⟨hc,.inr e⟩)).symm hj
end
theorem moveSide_scale {p L T D:Int} {o:Bool} {g:M4} {m:Int} (h:ballB p L T D=true) (hg:g.ok=true) (hm:m≠0) (hs: (g.smul m).ok=true):∃r:Int×Int×Int×Bool×Bool,
    Ev (fun k=>impl_moveSide.f k p g.a g.b g.c g.d L T D o) r∧Ev (fun k=>spec_l09Move.f k p (m*g.a) (m*g.b) (m*g.c) (m*g.d) L T D o) r∧(r.2.2.2.2=true→ballB p r.1 r.2.1 r.2.2.1=true):=by
  obtain⟨hp,hL,hD,_,_⟩:=ball_parts h
  have hp2:=prime_lo hp
  have hT:=ball_num h
  obtain⟨r,r1,r2,r3⟩:=moveSide_both (o:=o) h (show matB g.a g.b g.c g.d=true from hg)
  have f1:=spec_move_form (o:=o) h (show matB g.a g.b g.c g.d=true from hg)
  have f2:=spec_move_form (o:=o) h (show matB (m*g.a) (m*g.b) (m*g.c) (m*g.d)=true from hs)
  obtain⟨g1,g2,g3,g4⟩:=M4.fit_bd (M4.ok_fit hg)
  obtain⟨s1,s2,s3,s4⟩:=M4.fit_bd (M4.ok_fit hs)
  simp only[M4.smul] at s1 s2 s3 s4
  have hdet:g.a*g.d - g.b*g.c≠0:=M4.ok_det hg
  have pD:=pow_6 hp D.toNat (by omega)
  have pD0:=ipow_pos (p:=p) (by omega) D.toNat
  have eb:m*g.c*T+m*g.d*p^D.toNat=m*(g.c*T+g.d*p^D.toNat):=by grind
  have et:m*g.a*T+m*g.b*p^D.toNat=m*(g.a*T+g.b*p^D.toNat):=by grind
  have ed:m*g.a*(m*g.d) - m*g.b*(m*g.c)=m*(m*(g.a*g.d - g.b*g.c)):=by grind
  have aT:=mulS (M:=1000) (N:=13841287201) s1 (y:=T) (by omega) (by omega) (by omega)
  have bD:=mulS (M:=1000) (N:=117649) s2 (y:=p^D.toNat) (by omega) (by omega) (by omega)
  have cT:=mulS (M:=1000) (N:=13841287201) s3 (y:=T) (by omega) (by omega) (by omega)
  have dD:=mulS (M:=1000) (N:=117649) s4 (y:=p^D.toNat) (by omega) (by omega) (by omega)
  have aT':=mulS (M:=1000) (N:=13841287201) g1 (y:=T) (by omega) (by omega) (by omega)
  have bD':=mulS (M:=1000) (N:=117649) g2 (y:=p^D.toNat) (by omega) (by omega) (by omega)
  have cT':=mulS (M:=1000) (N:=13841287201) g3 (y:=T) (by omega) (by omega) (by omega)
  have dD':=mulS (M:=1000) (N:=117649) g4 (y:=p^D.toNat) (by omega) (by omega) (by omega)
  have vd:val p (m*(m*(g.a*g.d - g.b*g.c)))=val p m+(val p m+val p (g.a*g.d - g.b*g.c)):=by rw[(val_mul hp hm (Int.mul_ne_zero hm hdet)).1,(val_mul hp hm hdet).1]
  rw[eb,et,ed,vd] at f2
  have bt:m*(g.c*T+g.d*p^D.toNat)≤20000000000000∧ -20000000000000≤m*(g.c*T+g.d*p^D.toNat):=by rw[←eb];omega
  have tt:m*(g.a*T+g.b*p^D.toNat)≤20000000000000∧ -20000000000000≤m*(g.a*T+g.b*p^D.toNat):=by rw[←et];omega
  generalize hbot:g.c*T+g.d*p^D.toNat=bot at*
  generalize htop:g.a*T+g.b*p^D.toNat=top at*
  have iff: (m*g.c≠0∧(m*bot=0∨(val p (m*bot):Int) - D≥(val p (m*g.c):Int)+L))↔(g.c≠0∧(bot=0∨(val p bot:Int) - D≥(val p g.c:Int)+L)):=by
    by_cases hc:g.c=0
    · rw[hc,Int.mul_zero];simp
    · have hmc:m*g.c≠0:=Int.mul_ne_zero hm hc
      by_cases hb:bot=0
      · rw[hb,Int.mul_zero];simp[hc,hmc]
      · have hmb:m*bot≠0:=Int.mul_ne_zero hm hb
        rw[(val_mul hp hm hc).1,(val_mul hp hm hb).1]
        simp only[hc,hmc,hb,hmb,ne_eq,not_false_eq_true,false_or,true_and]
        omega
  refine⟨r,r1,?_,r3⟩
  by_cases hi:g.c≠0∧(bot=0∨(val p bot:Int) - D≥(val p g.c:Int)+L)
  · have hc:=hi.1
    have hmc:m*g.c≠0:=Int.mul_ne_zero hm hc
    obtain⟨lv,hlv⟩:∃lv,lv=(val p (g.a*g.d - g.b*g.c):Int) - 2*(val p g.c:Int) - L+1:=⟨_,rfl⟩
    obtain⟨w,hw,_⟩:=impl_ballAt_ev (p:=p) (n:=g.a) (d:=g.c) (L:=lv) hp hc (by omega) (by omega) (by omega) (by omega)
    obtain⟨w',hw',_⟩:=impl_ballAt_ev (p:=p) (n:=m*g.a) (d:=m*g.c) (L:=lv) hp hmc (by omega) (by omega) (by omega) (by omega)
    have e1:=f1.1 hi w lv hlv hw
    have e2:=f2.1 (iff.2 hi) w' lv (by rw[hlv,(val_mul hp hm hc).1];omega) hw'
    rw[atF_gen hp hm hc hw hw'] at e2
    obtain rfl:=Ev.det r2 e1
    exact e2
  · obtain⟨hb,f1'⟩:=f1.2 hi
    obtain⟨_,f2'⟩:=f2.2 (fun e=>hi (iff.1 e))
    have hmb:m*bot≠0:=Int.mul_ne_zero hm hb
    obtain⟨lv,hlv⟩:∃lv,lv=(val p (g.a*g.d - g.b*g.c):Int)+L - 2*((val p bot:Int) - D):=⟨_,rfl⟩
    obtain⟨w,hw,_⟩:=impl_ballAt_ev (p:=p) (n:=top) (d:=bot) (L:=lv) hp hb (by omega) (by omega) (by omega) (by omega)
    obtain⟨w',hw',_⟩:=impl_ballAt_ev (p:=p) (n:=m*top) (d:=m*bot) (L:=lv) hp hmb (by omega) (by omega) (by omega) (by omega)
    have e1:=f1' w lv hlv hw
    have e2:=f2' w' lv (by rw[hlv,(val_mul hp hm hb).1];omega) hw'
    rw[atF_gen hp hm hb hw hw'] at e2
    obtain rfl:=Ev.det r2 e1
    exact e2
theorem holds_dvd {p L T D L' T' D':Int}:holdsB p L T D L' T' D'=true↔L≤L'∧p^(L+6).toNat∣markOf p T' D' - markOf p T D:=by
  unfold holdsB
  rw[Bool.and_eq_true,decide_eq_true_eq,beq_iff_eq]
  exact⟨fun h=>⟨h.1,Int.dvd_of_emod_eq_zero h.2⟩,fun h=>⟨h.1,Int.emod_eq_zero_of_dvd h.2⟩⟩
theorem held_dvd {p L T D n d:Int} (h:ballB p L T D=true):heldB p L T D n d=true↔d≠0∧p^((L+6).toNat+val p d)∣n*p^6 - markOf p T D*d:=by
  obtain⟨hp,hL,hD,_⟩:=ball_parts h
  have hp2:=prime_lo hp
  rw[near_mark n d h]
  unfold heldB
  by_cases h0:d=0
  · rw[if_pos h0];simp[h0]
  rw[if_neg h0]
  by_cases hw:nearW p T D n d=0
  · rw[if_pos hw,hw,Int.mul_zero]
    exact⟨fun _=>⟨h0,Int.dvd_zero _⟩,fun _=>rfl⟩
  · rw[if_neg hw,decide_eq_true_eq,val_dvd hp2 (Int.mul_ne_zero (Int.pow_ne_zero (by omega)) hw),val_pow_mul _ hp2 hw]
    constructor
    · intro h1;exact⟨h0,by omega⟩
    · intro h1;have:=h1.2;omega
theorem pow_dvd' (p:Int) {a b:Nat} (h:a≤b):p^a∣p^b:=⟨p^(b - a),by rw[←Int.pow_add,Nat.add_sub_cancel' h]⟩
theorem val_div {p d:Int} (hp:2≤p) (hd:d≠0):p^val p d∣d:=(val_dvd hp hd _).2 (Nat.le_refl _)
theorem held_up {p L T D L' T' D' n d:Int} (h:ballB p L T D=true) (h':ballB p L' T' D'=true) (hh:holdsB p L T D L' T' D'=true) (he:heldB p L' T' D' n d=true):heldB p L T D n d=true:=by
  obtain⟨hp,hL,_⟩:=ball_parts h
  obtain⟨_,hL',_⟩:=ball_parts h'
  have hp2:=prime_lo hp
  rw[holds_dvd] at hh
  rw[held_dvd h'] at he
  rw[held_dvd h]
  obtain⟨h1,h2⟩:=hh
  obtain⟨h0,h3⟩:=he
  refine⟨h0,?_⟩
  have e:n*p^6 - markOf p T D*d=(n*p^6 - markOf p T' D'*d)+(markOf p T' D' - markOf p T D)*d:=by grind
  rw[e]
  refine Int.dvd_add (Int.dvd_trans (pow_dvd' p (by omega)) h3) ?_
  rw[Int.pow_add]
  exact Int.mul_dvd_mul h2 (val_div hp2 h0)
theorem held_two {p L T D L' T' D' n d:Int} (h:ballB p L T D=true) (h':ballB p L' T' D'=true) (hle:L≤L') (h1:heldB p L T D n d=true) (h2:heldB p L' T' D' n d=true):holdsB p L T D L' T' D'=true:=by
  obtain⟨hp,hL,_⟩:=ball_parts h
  have hp2:=prime_lo hp
  rw[held_dvd h] at h1
  rw[held_dvd h'] at h2
  rw[holds_dvd]
  refine⟨hle,?_⟩
  obtain⟨h0,h1⟩:=h1
  have h3:=Int.dvd_trans (pow_dvd' p (show (L+6).toNat+val p d≤(L'+6).toNat+val p d by omega)) h2.2
  have h4:=Int.dvd_sub h1 h3
  have e:n*p^6 - markOf p T D*d - (n*p^6 - markOf p T' D'*d)=(markOf p T' D' - markOf p T D)*d:=by grind
  rw[e] at h4
  by_cases hz:markOf p T' D' - markOf p T D=0
  · rw[hz];exact Int.dvd_zero _
  · rw[val_dvd hp2 (Int.mul_ne_zero hz h0),(val_mul hp hz h0).1] at h4
    rw[val_dvd hp2 hz]
    omega
theorem apart_has {p L T D L' T' D' n d:Int} {o o':Bool} (h:ballB p L T D=true) (h':ballB p L' T' D'=true) (ha:apartW p L T D o L' T' D' o'=true) (h1: (heldB p L T D n d !=o)=true) (h2: (heldB p L' T' D' n d !=o')=true):False:=by
  unfold apartW at ha
  cases o<;>cases o'
  · simp only[Bool.false_and,Bool.false_eq_true,if_false,Bool.and_eq_true,Bool.not_eq_true'] at ha
    have e1:heldB p L T D n d=true:=by simpa using h1
    have e2:heldB p L' T' D' n d=true:=by simpa using h2
    rcases Int.le_total L L' with hle|hle
    · rw[held_two h h' hle e1 e2] at ha;cases ha.1
    · rw[held_two h' h hle e2 e1] at ha;cases ha.2
  · simp only[Bool.false_and,Bool.false_eq_true,if_false,if_true] at ha
    have e1:heldB p L T D n d=true:=by simpa using h1
    have e2:heldB p L' T' D' n d=false:=by simpa using h2
    rw[held_up h' h ha e1] at e2;cases e2
  · simp only[Bool.and_false,Bool.false_eq_true,if_false,if_true] at ha
    have e1:heldB p L T D n d=false:=by simpa using h1
    have e2:heldB p L' T' D' n d=true:=by simpa using h2
    rw[held_up h h' ha e2] at e1;cases e1
  · simp at ha
def vge (p N t:Int):Prop:=p^t.toNat∣N
theorem vge_val {p N t:Int} (hp:2≤p) (h:N≠0):vge p N t↔t≤(val p N:Int):=by
  unfold vge
  rw[val_dvd hp h]
  omega
theorem vge_zero (p t:Int):vge p 0 t:=Int.dvd_zero _
theorem vge_add {p a b t:Int} (ha:vge p a t) (hb:vge p b t):vge p (a+b) t:=Int.dvd_add ha hb
theorem vge_neg {p a t:Int}:vge p (-a) t↔vge p a t:=Int.dvd_neg
theorem vge_mul {p a b t s:Int} (hp:primeB p=true) (ha:a≠0) (hs:s=t+(val p a:Int)):vge p (a*b) s↔vge p b t:=by
  have hp2:=prime_lo hp
  by_cases hb:b=0
  · rw[hb,Int.mul_zero];exact⟨fun _=>vge_zero p t,fun _=>vge_zero p s⟩
  · rw[vge_val hp2 (Int.mul_ne_zero ha hb),vge_val hp2 hb,(val_mul hp ha hb).1]
    omega
theorem val_neg {p n:Int} (hp:2≤p) (h:n≠0):val p (-n)=val p n:=by
  have h1:=(val_dvd hp (show -n≠0 by omega) (val p n)).1 (Int.dvd_neg.2 ((val_dvd hp h _).2 (Nat.le_refl _)))
  have h2:=(val_dvd hp h (val p (-n))).1 (Int.dvd_neg.1 ((val_dvd hp (show -n≠0 by omega) _).2 (Nat.le_refl _)))
  omega
theorem ultra {p x y:Int} (hp:2≤p) (hx:x≠0) (hy:y≠0) (hs:x - y≠0):
    (val p x<val p y→val p (x - y)=val p x)∧(val p y<val p x→val p (x - y)=val p y)∧(val p x=val p y→val p x≤val p (x - y)):=by
  have key:∀j,(p^j∣x→p^j∣y→j≤val p (x - y)):=fun j h1 h2=>(val_dvd hp hs j).1 (Int.dvd_sub h1 h2)
  have k2:∀j,(p^j∣x - y→p^j∣y→j≤val p x):=fun j h1 h2=>(val_dvd hp hx j).1 (by have:=Int.dvd_add h1 h2;rwa [show x - y+y=x by omega] at this)
  have k3:∀j,(p^j∣x - y→p^j∣x→j≤val p y):=fun j h1 h2=>(val_dvd hp hy j).1 (by have:=Int.dvd_sub h2 h1;rwa [show x - (x - y)=y by omega] at this)
  have dx:∀j,j≤val p x→p^j∣x:=fun j h=>(val_dvd hp hx j).2 h
  have dy:∀j,j≤val p y→p^j∣y:=fun j h=>(val_dvd hp hy j).2 h
  have ds:∀j,j≤val p (x - y)→p^j∣x - y:=fun j h=>(val_dvd hp hs j).2 h
  refine⟨fun h=>?_,fun h=>?_,fun h=>?_⟩
  · have h1:=key (val p x) (dx _ (Nat.le_refl _)) (dy _ (by omega))
    by_cases h2:val p x+1≤val p (x - y)
    · have:=k2 (val p x+1) (ds _ h2) (dy _ (by omega));omega
    · omega
  · have h1:=key (val p y) (dx _ (by omega)) (dy _ (Nat.le_refl _))
    by_cases h2:val p y+1≤val p (x - y)
    · have:=k3 (val p y+1) (ds _ h2) (dx _ (by omega));omega
    · omega
  · exact key (val p x) (dx _ (Nat.le_refl _)) (dy _ (by omega))
def inB (p n d L y z:Int):Prop:=vge p (n*z - y*d) (L+(val p d:Int)+(val p z:Int))
theorem inB_scale {p n d L m y z:Int} (hp:primeB p=true) (hm:m≠0) (hz:z≠0):inB p n d L (m*y) (m*z)↔inB p n d L y z:=by
  unfold inB
  rw[show n*(m*z) - m*y*d=m*(n*z - y*d) by grind,(val_mul hp hm hz).1]
  exact vge_mul hp hm (by omega)
theorem val_pow {p:Int} (hp:2≤p) (j:Nat):val p (p^j)=j:=by
  have h:=val_pow_mul (p:=p) (e:=1) j hp (by omega)
  rw[Int.mul_one] at h
  rw[h,val_eq (p:=p) (n:=1) (u:=1) (v:=0) hp (by simp) (by intro h;have:=Int.le_of_dvd (by omega) h;omega)]
  rfl
theorem held_inB {p L T D y z:Int} (h:ballB p L T D=true):heldB p L T D y z=true↔z≠0∧inB p T (p^D.toNat) L y z:=by
  obtain⟨hp,hL,hD,_⟩:=ball_parts h
  have hp2:=prime_lo hp
  unfold heldB inB
  rw[val_pow hp2]
  have e:T*z - y*p^D.toNat= -(nearW p T D y z):=by unfold nearW;omega
  rw[e,vge_neg]
  by_cases h0:z=0
  · rw[if_pos h0];simp[h0]
  rw[if_neg h0]
  by_cases hw:nearW p T D y z=0
  · rw[if_pos hw,hw];exact⟨fun _=>⟨h0,vge_zero _ _⟩,fun _=>rfl⟩
  · rw[if_neg hw,vge_val hp2 hw,decide_eq_true_eq]
    constructor
    · intro h1;exact⟨h0,by omega⟩
    · intro h1;have:=h1.2;omega
theorem atF_held {p L n d w y z:Int} (hp:primeB p=true) (hd:d≠0) (hw: (-6≤L∧L≤6)→isInv (uOf p d) (p^(L+6).toNat) w) (hok: (atF p L n d w).2.2.2=true):
    heldB p (atF p L n d w).1 (atF p L n d w).2.1 (atF p L n d w).2.2.1 y z=true↔z≠0∧inB p n d L y z:=by
  have hp2:=prime_lo hp
  have hball:=atF_ball hp hok
  have core: (atF p L n d w).1=L∧vge p (markOf p (atF p L n d w).2.1 (atF p L n d w).2.2.1*d - n*p^6) (L+6+(val p d:Int)):=by
    revert hok
    unfold atF
    by_cases hL: -6≤L∧L≤6
    · rw[if_neg (by simpa using hL)]
      by_cases h1:n=0∨L≤(val p n:Int) - val p d
      · rw[if_pos h1];intro _
        refine⟨rfl,?_⟩
        rw[show markOf p 0 0*d - n*p^6= -(p^6*n) by unfold markOf;grind,vge_neg]
        by_cases h0:n=0
        · rw[h0,Int.mul_zero];exact vge_zero _ _
        · refine(vge_mul (t:=L+(val p d:Int)) hp (Int.pow_ne_zero (by omega)) (by rw[val_pow hp2];omega)).2 ((vge_val hp2 h0).2 ?_)
          rcases h1 with h1|h1
          · exact absurd h1 h0
          · omega
      · rw[if_neg h1]
        by_cases h2: (val p n:Int) - val p d< -6
        · rw[if_pos h2];intro h;simp at h
        · rw[if_neg h2];intro _
          obtain⟨e,ev⟩:∃e:Nat,(e:Int)=(val p n:Int) - val p d+6:=⟨((val p n:Int) - val p d+6).toNat,by omega⟩
          have h0:n≠0:=fun h=>h1 (.inl h)
          have hq:=ofM_back (p:=p) (L:=L) (X:=uOf p n*w*p^((val p n:Int) - val p d+6).toNat) hp2
          refine⟨rfl,?_⟩
          simp only
          unfold markOf
          rw[hq.1]
          rw[←ev,Int.toNat_natCast]
          obtain⟨_,_,k',hk'⟩:=hw hL
          obtain⟨en,_⟩:=uOf_spec hp2 h0
          obtain⟨ed,_⟩:=uOf_spec hp2 hd
          generalize uOf p n=un at*
          generalize uOf p d=ud at*
          obtain⟨Q,hQ⟩:∃Q,Q=p^(L+6).toNat:=⟨_,rfl⟩
          rw[←hQ] at hk'⊢
          have hm:un*w*p^e%Q=un*w*p^e - Q*(un*w*p^e / Q):=Int.emod_def _ _
          rw[hm]
          generalize un*w*p^e / Q=k
          have hpp:p^e*p^val p d=p^val p n*p^6:=by rw[←Int.pow_add,←Int.pow_add];congr 1;omega
          unfold vge
          rw[show (L+6+(val p d:Int)).toNat=(L+6).toNat+val p d from by omega,Int.pow_add,←hQ]
          refine⟨-(un*p^e*k') - k*ud,?_⟩
          have e1:n*p^6=un*(p^e*p^val p d):=by
            rw[hpp]
            conv=>lhs;rw[en]
            grind
          have e2: (un*w*p^e - Q*k)*d=p^val p d*(un*p^e*(w*ud)) - Q*p^val p d*(k*ud):=by
            conv=>lhs;rw[ed]
            grind
          rw[e1,e2,show w*ud=1 - k'*Q by omega]
          grind
    · rw[if_pos hL];intro h;simp at h
  rw[held_dvd hball,core.1]
  obtain⟨_,hc⟩:=core
  obtain⟨_,hLr,_⟩:=ball_parts hball
  have hL6: -6≤L:=by
    revert hok;unfold atF
    by_cases hL: -6≤L∧L≤6
    · intro _;exact hL.1
    · rw[if_pos hL];intro h;simp at h
  generalize markOf p (atF p L n d w).2.1 (atF p L n d w).2.2.1=M at*
  refine and_congr_right fun hz=>?_
  rw[show (L+6).toNat+val p z=(L+6+(val p z:Int)).toNat by omega]
  show vge p (y*p^6 - M*z) (L+6+(val p z:Int))↔_
  rw[←vge_mul (a:=d) (s:=L+6+(val p z:Int)+(val p d:Int)) hp hd rfl]
  have hz2:vge p (z*(M*d - n*p^6)) (L+6+(val p z:Int)+(val p d:Int)):=(vge_mul hp hz (by omega)).2 hc
  have e3:d*(y*p^6 - M*z)= -(p^6*(n*z - y*d))+ -(z*(M*d - n*p^6)):=by grind
  have e4: -(p^6*(n*z - y*d))=d*(y*p^6 - M*z)+z*(M*d - n*p^6):=by grind
  have e5:vge p (d*(y*p^6 - M*z)) (L+6+(val p z:Int)+(val p d:Int))↔vge p (p^6*(n*z - y*d)) (L+6+(val p z:Int)+(val p d:Int)):=by
    rw[←vge_neg (a:=p^6*_)]
    constructor
    · intro h;rw[e4];exact vge_add h hz2
    · intro h;rw[e3];exact vge_add h (vge_neg.2 hz2)
  rw[e5]
  unfold inB
  exact vge_mul hp (Int.pow_ne_zero (by omega)) (by rw[val_pow hp2];omega)
theorem impl_gcd_l (n:Nat):∀(a b:Int),b.natAbs<n→ -9223372036854775807≤a→a≤9223372036854775807→ -9223372036854775807≤b→b≤9223372036854775807→Ev (fun k=>impl_gcd.l0 k a b) (Int.gcd a b:Int):=by
  induction n with
  |zero=>intro a b h;omega
  |succ n ih=>
   intro a b hn ha1 ha2 hb1 hb2
   by_cases hb:b=0
   · subst hb
     refine Ev.step (f:=fun _=>some (mx a (wrap64 (-a)))) (fun k=>by simp only[impl_gcd.l0,if_true]) ?_
     rw[mx_abs a ha1 ha2,Int.gcd_zero_right];exact Ev.now _
   · have hlt: (Int.tmod a b).natAbs<b.natAbs:=by rw[Int.natAbs_tmod];exact Nat.mod_lt _ (by omega)
     refine Ev.step (f:=fun k=>impl_gcd.l0 k b (Int.tmod a b)) (fun k=>by simp only[impl_gcd.l0];rw[if_neg hb]) ?_
     rw[←gcd_step a b hb]
     exact ih _ _ (by omega) hb1 hb2 (by omega) (by omega)
theorem impl_gcd_ev (a b:Int) (ha1: -9223372036854775807≤a) (ha2:a≤9223372036854775807) (hb1: -9223372036854775807≤b) (hb2:b≤9223372036854775807):Ev (fun k=>impl_gcd.f k a b) (Int.gcd a b:Int):=by
  unfold impl_gcd.f
  exact impl_gcd_l (b.natAbs+1) a b (by omega) ha1 ha2 hb1 hb2
theorem impl_IsEnd_ev (n d:Int):Ev (fun k=>impl_IsEnd.f k n d) (endB n d):=by
  unfold impl_IsEnd.f endB
  by_cases h0:d=0
  · simp only[if_pos h0];exact Ev.now _
  · simp only[if_neg h0]
    refine Ev.bind (impl_within_ev 1000000 [n,d] (by omega) (by omega) (by simp)) ?_
    by_cases h2: -1000000≤n∧n≤1000000
    · by_cases h1:1≤d∧d≤1000000
      · rw[show ([n,d]:List Int).all (fun x=>decide (-1000000≤x∧x≤1000000))=true from by simp;omega,decide_eq_true h1,decide_eq_true h2]
        simp only[if_true,Bool.true_and,if_pos (show d>0 by omega)]
        exact Ev.bind (impl_gcd_ev n d (by omega) (by omega) (by omega) (by omega)) (Ev.now _)
      · rw[decide_eq_false h1,Bool.false_and]
        by_cases h3:d>0
        · rw[show ([n,d]:List Int).all (fun x=>decide (-1000000≤x∧x≤1000000))=false from by simp;omega]
          simp;exact Ev.now _
        · cases ([n,d]:List Int).all (fun x=>decide (-1000000≤x∧x≤1000000)) with
          |true=>simp only[if_true,if_neg h3];exact Ev.now _
          |false=>simp;exact Ev.now _
    · rw[show ([n,d]:List Int).all (fun x=>decide (-1000000≤x∧x≤1000000))=false from by simp;omega,decide_eq_false h2]
      simp;exact Ev.now _
theorem spec_l01Gcd_l (n:Nat):∀(a b:Int),b.natAbs<n→ -9223372036854775807≤a→a≤9223372036854775807→ -9223372036854775807≤b→b≤9223372036854775807→Ev (fun k=>spec_l01Gcd.l0 k a b) (Int.gcd a b:Int):=by
  induction n with
  |zero=>intro a b h;omega
  |succ n ih=>
   intro a b hn ha1 ha2 hb1 hb2
   by_cases hb:b=0
   · subst hb
     refine Ev.step (f:=fun _=>some (mx a (wrap64 (-a)))) (fun k=>by simp only[spec_l01Gcd.l0,if_true]) ?_
     rw[mx_abs a ha1 ha2,Int.gcd_zero_right];exact Ev.now _
   · have hlt: (Int.tmod a b).natAbs<b.natAbs:=by rw[Int.natAbs_tmod];exact Nat.mod_lt _ (by omega)
     refine Ev.step (f:=fun k=>spec_l01Gcd.l0 k b (Int.tmod a b)) (fun k=>by simp only[spec_l01Gcd.l0];rw[if_neg hb]) ?_
     rw[←gcd_step a b hb]
     exact ih _ _ (by omega) hb1 hb2 (by omega) (by omega)
theorem spec_l01Gcd_ev (a b:Int) (ha1: -9223372036854775807≤a) (ha2:a≤9223372036854775807) (hb1: -9223372036854775807≤b) (hb2:b≤9223372036854775807):Ev (fun k=>spec_l01Gcd.f k a b) (Int.gcd a b:Int):=by
  unfold spec_l01Gcd.f
  exact spec_l01Gcd_l (b.natAbs+1) a b (by omega) ha1 ha2 hb1 hb2
def endN (n d:Int):Int×Int:=if d=0 then(1,0) else(Int.tdiv n ((Int.gcd n d:Int)*(if d<0 then -1 else 1)),Int.tdiv d ((Int.gcd n d:Int)*(if d<0 then -1 else 1)))
def endX (n d:Int):Int×Int×Bool:=((endN n d).1,(endN n d).2,if d=0 then true else endB (endN n d).1 (endN n d).2)
theorem gcd_sc {n d:Int} (m:Int): (Int.gcd (m*n) (m*d):Int)=(m.natAbs:Int)*(Int.gcd n d:Int):=by
  rw[Int.gcd_mul_left,Int.natCast_mul]
theorem endN_scale {m n d:Int} (hm:m≠0):endN (m*n) (m*d)=endN n d:=by
  unfold endN
  by_cases h0:d=0
  · rw[if_pos (by rw[h0,Int.mul_zero]),if_pos h0]
  · rw[if_neg (Int.mul_ne_zero hm h0),if_neg h0,gcd_sc]
    have hs: (m.natAbs:Int)*(Int.gcd n d:Int)*(if m*d<0 then -1 else 1)=m*((Int.gcd n d:Int)*(if d<0 then -1 else 1)):=by
      rcases Int.lt_trichotomy m 0 with h|h|h
      · have e: (m.natAbs:Int)= -m:=by omega
        rcases Int.lt_trichotomy d 0 with h2|h2|h2
        · have:=Int.mul_pos_of_neg_of_neg h h2
          rw[if_neg (by omega),if_pos h2,e];grind
        · exact absurd h2 h0
        · have:=Int.mul_neg_of_neg_of_pos h h2
          rw[if_pos this,if_neg (by omega),e];grind
      · exact absurd h hm
      · have e: (m.natAbs:Int)=m:=by omega
        rcases Int.lt_trichotomy d 0 with h2|h2|h2
        · have:=Int.mul_neg_of_pos_of_neg h h2
          rw[if_pos this,if_pos h2,e];grind
        · exact absurd h2 h0
        · have:=Int.mul_pos h h2
          rw[if_neg (by omega),if_neg (by omega),e];grind
    have hdv:∀x,(Int.gcd n d:Int)∣x→(Int.gcd n d:Int)*(if d<0 then -1 else 1)∣x:=fun x hx=>by
      split
      · rw[Int.mul_neg,Int.mul_one];exact Int.neg_dvd.2 hx
      · rw[Int.mul_one];exact hx
    rw[hs,tdiv_mul_same hm (hdv _ (Int.gcd_dvd_left n d)),tdiv_mul_same hm (hdv _ (Int.gcd_dvd_right n d))]
theorem endN_ok {n d:Int} (h0:d≠0):0<(endN n d).2∧Int.gcd (endN n d).1 (endN n d).2=1:=by
  unfold endN
  rw[if_neg h0]
  have hg: (Int.gcd n d:Int)≠0:=by
    intro e
    have:=(Int.gcd_eq_zero_iff.1 (by omega:Int.gcd n d=0)).2
    exact h0 this
  have gp:0<(Int.gcd n d:Int):=by omega
  obtain⟨a,ha⟩:=Int.gcd_dvd_left n d
  obtain⟨b,hb⟩:=Int.gcd_dvd_right n d
  have hc:Int.gcd a b=1:=by
    have e: (Int.gcd n d:Int)=(Int.gcd n d:Int)*(Int.gcd a b:Int):=by
      have:=gcd_sc (n:=a) (d:=b) (Int.gcd n d:Int)
      rw[←ha,←hb] at this
      simpa only[Int.natAbs_natCast] using this
    have e2: (Int.gcd n d:Int)*1=(Int.gcd n d:Int)*(Int.gcd a b:Int):=by rw[Int.mul_one];exact e
    have:=Int.eq_of_mul_eq_mul_left hg e2
    omega
  by_cases hd:d<0
  · rw[if_pos hd]
    have e1:Int.tdiv n ((Int.gcd n d:Int)* -1)= -a:=by
      conv=>lhs;lhs;rw[ha]
      rw[show (Int.gcd n d:Int)*a=(Int.gcd n d:Int)* -1* -a by grind]
      exact Int.mul_tdiv_cancel_left _ (by omega)
    have e2:Int.tdiv d ((Int.gcd n d:Int)* -1)= -b:=by
      conv=>lhs;lhs;rw[hb]
      rw[show (Int.gcd n d:Int)*b=(Int.gcd n d:Int)* -1* -b by grind]
      exact Int.mul_tdiv_cancel_left _ (by omega)
    rw[e1,e2]
    refine⟨?_,by rw[Int.gcd_neg,Int.neg_gcd];exact hc⟩
    rcases Int.lt_trichotomy b 0 with hb2|hb2|hb2
    · omega
    · rw[hb2,Int.mul_zero] at hb;omega
    · have:=Int.mul_pos gp hb2;omega
  · rw[if_neg hd,Int.mul_one]
    have e1:Int.tdiv n (Int.gcd n d:Int)=a:=by
      conv=>lhs;lhs;rw[ha]
      exact Int.mul_tdiv_cancel_left _ hg
    have e2:Int.tdiv d (Int.gcd n d:Int)=b:=by
      conv=>lhs;lhs;rw[hb]
      exact Int.mul_tdiv_cancel_left _ hg
    rw[e1,e2]
    refine⟨?_,hc⟩
    rcases Int.lt_trichotomy b 0 with hb2|hb2|hb2
    · have:=Int.mul_neg_of_pos_of_neg gp hb2;omega
    · rw[hb2,Int.mul_zero] at hb;omega
    · exact hb2
theorem endN_bd {n d M:Int} (hn: -M≤n∧n≤M) (hd: -M≤d∧d≤M) (hM:1≤M): (-M≤(endN n d).1∧(endN n d).1≤M)∧ -M≤(endN n d).2∧(endN n d).2≤M:=by
  unfold endN
  by_cases h0:d=0
  · rw[if_pos h0];simp only;omega
  · rw[if_neg h0]
    have:=tdiv_bd ((Int.gcd n d:Int)*(if d<0 then -1 else 1)) hn
    have:=tdiv_bd ((Int.gcd n d:Int)*(if d<0 then -1 else 1)) hd
    simp only;omega
theorem endX_ev {n d:Int} (hn: -1152921504606846976≤n∧n≤1152921504606846976) (hd: -1152921504606846976≤d∧d≤1152921504606846976):Ev (fun k=>impl_endAt.f k n d) (endX n d)∧Ev (fun k=>spec_l01EndOf.f k n d) (endX n d):=by
  by_cases h0:d=0
  · subst h0
    have e:endX n 0=(1,0,true):=by simp[endX,endN]
    rw[e]
    exact⟨by unfold impl_endAt.f;simp only[if_true];exact Ev.now _,by unfold spec_l01EndOf.f;simp only[if_true];exact Ev.now _⟩
  have g1:=impl_gcd_ev n d (by omega) (by omega) (by omega) (by omega)
  have g2:=spec_l01Gcd_ev n d (by omega) (by omega) (by omega) (by omega)
  have gb: (Int.gcd n d:Int)≤1152921504606846976:=by
    have h1:Int.gcd n d≤d.natAbs:=Nat.gcd_le_right _ (by omega)
    omega
  have g0: (Int.gcd n d:Int)≠0:=by
    intro e
    exact h0 (Int.gcd_eq_zero_iff.1 (by omega:Int.gcd n d=0)).2
  obtain⟨hpos,hcop⟩:=endN_ok (n:=n) h0
  have hbd:=endN_bd hn hd (by omega)
  have hs:∃s:Int,s=(if d<0 then wrap64 (-(Int.gcd n d:Int)) else(Int.gcd n d:Int))∧s≠0∧wrap64 (Int.tdiv n s)=(endN n d).1∧wrap64 (Int.tdiv d s)=(endN n d).2:=by
    refine⟨_,rfl,?_⟩
    have e: (if d<0 then wrap64 (-(Int.gcd n d:Int)) else(Int.gcd n d:Int))=(Int.gcd n d:Int)*(if d<0 then -1 else 1):=by
      split
      · rw[wid (by omega) (by omega)];omega
      · omega
    rw[e]
    have e1:Int.tdiv n ((Int.gcd n d:Int)*(if d<0 then -1 else 1))=(endN n d).1:=by unfold endN;rw[if_neg h0]
    have e2:Int.tdiv d ((Int.gcd n d:Int)*(if d<0 then -1 else 1))=(endN n d).2:=by unfold endN;rw[if_neg h0]
    refine⟨by split<;>omega,?_,?_⟩
    · rw[e1];exact wid (by omega) (by omega)
    · rw[e2];exact wid (by omega) (by omega)
  obtain⟨s,s1,s2,s3,s4⟩:=hs
  have ex:endX n d=((endN n d).1,(endN n d).2,endB (endN n d).1 (endN n d).2):=by unfold endX;rw[if_neg h0]
  have ie:=impl_IsEnd_ev (endN n d).1 (endN n d).2
  have eb:endB (endN n d).1 (endN n d).2=decide ((endN n d).2≤1000000∧mx (endN n d).1 (wrap64 (-(endN n d).1))≤1000000):=by
    unfold endB
    rw[if_neg (by omega),wid (n:= -(endN n d).1) (by omega) (by omega),hcop]
    have:mx (endN n d).1 (-(endN n d).1)≤1000000↔ -1000000≤(endN n d).1∧(endN n d).1≤1000000:=by
      unfold mx;split<;>omega
    rw[Bool.eq_iff_iff]
    simp only[Bool.and_eq_true,decide_eq_true_eq,this]
    constructor
    · rintro⟨h1,h2,_⟩;exact⟨h1.2,h2⟩
    · rintro⟨h1,h2⟩;exact⟨⟨by omega,h1⟩,h2,rfl⟩
  constructor
  · unfold impl_endAt.f
    simp only[if_neg h0]
    refine Ev.bind g1 ?_
    rw[ex]
    by_cases hneg:d<0
    · rw[if_pos hneg] at s1
      simp only[if_pos hneg,←s1,if_neg s2,s3,s4]
      exact Ev.bind ie (Ev.now _)
    · rw[if_neg hneg] at s1
      simp only[if_neg hneg,←s1,if_neg s2,s3,s4]
      exact Ev.bind ie (Ev.now _)
  · unfold spec_l01EndOf.f
    simp only[if_neg h0]
    refine Ev.bind g2 ?_
    rw[ex,eb]
    by_cases hneg:d<0
    · rw[if_pos hneg] at s1
      simp only[if_pos hneg,←s1,if_neg s2,s3,s4]
      by_cases hd1: (endN n d).2≤1000000
      · simp only[if_pos hd1]
        have:decide ((endN n d).2≤1000000∧mx (endN n d).1 (wrap64 (-(endN n d).1))≤1000000)=decide (mx (endN n d).1 (wrap64 (-(endN n d).1))≤1000000):=by simp[hd1]
        rw[this];exact Ev.now _
      · simp only[if_neg hd1]
        have:decide ((endN n d).2≤1000000∧mx (endN n d).1 (wrap64 (-(endN n d).1))≤1000000)=false:=by simp[hd1]
        rw[this];exact Ev.now _
    · rw[if_neg hneg] at s1
      simp only[if_neg hneg,←s1,if_neg s2,s3,s4]
      by_cases hd1: (endN n d).2≤1000000
      · simp only[if_pos hd1]
        have:decide ((endN n d).2≤1000000∧mx (endN n d).1 (wrap64 (-(endN n d).1))≤1000000)=decide (mx (endN n d).1 (wrap64 (-(endN n d).1))≤1000000):=by simp[hd1]
        rw[this];exact Ev.now _
      · simp only[if_neg hd1]
        have:decide ((endN n d).2≤1000000∧mx (endN n d).1 (wrap64 (-(endN n d).1))≤1000000)=false:=by simp[hd1]
        rw[this];exact Ev.now _
theorem mov_bd {a b n d:Int} (ha: -1000≤a∧a≤1000) (hb: -1000≤b∧b≤1000) (hn: -1000000≤n∧n≤1000000) (hd: -1000000≤d∧d≤1000000): -2000000000≤a*n+b*d∧a*n+b*d≤2000000000∧wrap64 (wrap64 (a*n)+wrap64 (b*d))=a*n+b*d:=by
  have h1: (a*n).natAbs≤1000*1000000:=by rw[Int.natAbs_mul];exact Nat.mul_le_mul (by omega) (by omega)
  have h2: (b*d).natAbs≤1000*1000000:=by rw[Int.natAbs_mul];exact Nat.mul_le_mul (by omega) (by omega)
  refine⟨by omega,by omega,?_⟩
  rw[wid (n:=a*n) (by omega) (by omega),wid (n:=b*d) (by omega) (by omega),wid (by omega) (by omega)]
def movE (g:M4) (n d:Int):Int×Int×Bool:=endX (g.a*n+g.b*d) (g.c*n+g.d*d)
theorem movE_ev {g:M4} {n d:Int} (hg:g.ok=true) (he:endB n d=true):Ev (fun k=>impl_moveEnd.f k g.a g.b g.c g.d n d) (movE g n d)∧Ev (fun k=>spec_l04End.f k g.a g.b g.c g.d n d) (movE g n d):=by
  obtain⟨e1,e2,e3⟩:=end_bd he
  obtain⟨f1,f2,f3,f4⟩:=M4.fit_bd (M4.ok_fit hg)
  obtain⟨a1,a2,a3⟩:=mov_bd f1 f2 e1 ⟨by omega,e3⟩
  obtain⟨b1,b2,b3⟩:=mov_bd f3 f4 e1 ⟨by omega,e3⟩
  obtain⟨x1,x2⟩:=endX_ev (n:=g.a*n+g.b*d) (d:=g.c*n+g.d*d) (by omega) (by omega)
  unfold impl_moveEnd.f spec_l04End.f
  rw[a3,b3]
  exact⟨Ev.bind x1 (Ev.now _),Ev.bind x2 (Ev.now _)⟩
theorem endX_ok {n d:Int} (h: (endX n d).2.2=true):endB (endX n d).1 (endX n d).2.1=true:=by
  by_cases h0:d=0
  · subst h0
    have e:endX n 0=(1,0,true):=by simp[endX,endN]
    rw[e];rfl
  · unfold endX at h⊢
    simp only[if_neg h0] at h⊢
    exact h
theorem endX_scale {m n d:Int} (hm:m≠0):endX (m*n) (m*d)=endX n d:=by
  unfold endX
  rw[endN_scale hm]
  by_cases h0:d=0
  · rw[if_pos h0,if_pos (by rw[h0,Int.mul_zero])]
  · rw[if_neg h0,if_neg (Int.mul_ne_zero hm h0)]
theorem movE_smul {g:M4} {m n d:Int} (hm:m≠0):movE (g.smul m) n d=movE g n d:=by
  unfold movE M4.smul
  rw[show m*g.a*n+m*g.b*d=m*(g.a*n+g.b*d) by grind,show m*g.c*n+m*g.d*d=m*(g.c*n+g.d*d) by grind]
  exact endX_scale hm
section
variable {p T P L a b c d y z:Int}
theorem move_out (hp:primeB p=true) (hP:P≠0) (hdet:a*d - b*c≠0) (hb:c*T+d*P≠0) (hno:c≠0→(val p (c*T+d*P):Int) - val p P<(val p c:Int)+L) (hyz:z=0→y≠0):
    (z≠0∧inB p T P L y z)↔(c*y+d*z≠0∧inB p (a*T+b*P) (c*T+d*P) ((val p (a*d - b*c):Int)+L - 2*((val p (c*T+d*P):Int) - val p P)) (a*y+b*z) (c*y+d*z)):=by
  have hp2:=prime_lo hp
  have id1: (a*T+b*P)*(c*y+d*z) - (a*y+b*z)*(c*T+d*P)=(a*d - b*c)*(T*z - y*P):=by grind
  have id2:P*(c*y+d*z)=z*(c*T+d*P) - c*(T*z - y*P):=by grind
  unfold inB
  rw[id1]
  by_cases hz:z=0
  · subst hz
    refine⟨fun h=>absurd rfl h.1,fun h=>?_⟩
    exfalso
    obtain⟨h1,h2⟩:=h
    have hy:=hyz rfl
    rw[show c*y+d*0=c*y by omega] at h1 h2
    have hc:c≠0:=fun e=>h1 (by rw[e,Int.zero_mul])
    rw[show T*0 - y*P= -(y*P) by omega,(val_mul hp hc hy).1] at h2
    have hyP:=Int.mul_ne_zero hy hP
    rw[vge_mul (t:=L+2*(val p P:Int) - (val p (c*T+d*P):Int)+((val p c:Int)+val p y)) hp hdet (by omega),vge_val hp2 (by omega),val_neg hp2 hyP,(val_mul hp hy hP).1] at h2
    have:=hno hc
    omega
  generalize hB:c*T+d*P=B at*
  generalize hZ:c*y+d*z=Z at*
  generalize hN:T*z - y*P=N at*
  rw[vge_mul (t:=L+2*(val p P:Int) - (val p B:Int)+(val p Z:Int)) hp hdet (by omega)]
  have zB:=Int.mul_ne_zero hz hb
  have vzB:=(val_mul hp hz hb).1
  by_cases hZ0:Z=0
  · refine⟨fun h=>?_,fun h=>absurd hZ0 h.1⟩
    exfalso
    obtain⟨_,h2⟩:=h
    rw[hZ0,Int.mul_zero] at id2
    have e:z*B=c*N:=by omega
    have hcN:c*N≠0:=by rw[←e];exact zB
    have hc:c≠0:=fun e=>hcN (by rw[e,Int.zero_mul])
    have hN0:N≠0:=fun e=>hcN (by rw[e,Int.mul_zero])
    have v1:=(val_mul hp hc hN0).1
    rw[←e,vzB] at v1
    rw[vge_val hp2 hN0] at h2
    have:=hno hc
    omega
  have vPZ:=(val_mul hp hP hZ0).1
  by_cases hN0:N=0
  · rw[hN0]
    exact⟨fun _=>⟨hZ0,vge_zero _ _⟩,fun _=>⟨hz,vge_zero _ _⟩⟩
  rw[vge_val hp2 hN0,vge_val hp2 hN0]
  by_cases hc:c=0
  · rw[hc,Int.zero_mul,Int.sub_zero] at id2
    rw[id2,vzB] at vPZ
    constructor
    · intro h;exact⟨hZ0,by omega⟩
    · intro h;exact⟨hz,by omega⟩
  · have hcN:=Int.mul_ne_zero hc hN0
    have v1:=(val_mul hp hc hN0).1
    have hs:z*B - c*N≠0:=by rw[←id2];exact Int.mul_ne_zero hP hZ0
    obtain⟨u1,u2,u3⟩:=ultra hp2 zB hcN hs
    rw[←id2,vPZ,vzB,v1] at u1 u2 u3
    have hh:=hno hc
    have key:L+(val p P:Int)+(val p z:Int)≤(val p N:Int)↔L+2*(val p P:Int) - (val p B:Int)+(val p Z:Int)≤(val p N:Int):=by
      clear id1 id2 hno hyz zB hs hcN
      rcases Nat.lt_trichotomy (val p z+val p B) (val p c+val p N) with h|h|h
      · have:=u1 h;omega
      · have:=u3 h;omega
      · have:=u2 h;omega
    exact⟨fun h=>⟨hZ0,key.1 h.2⟩,fun h=>⟨hz,key.2 h.2⟩⟩
theorem move_in (hp:primeB p=true) (hP:P≠0) (hdet:a*d - b*c≠0) (hc:c≠0) (hin:c*T+d*P=0∨(val p (c*T+d*P):Int) - val p P≥(val p c:Int)+L) (hyz:z=0→y≠0):
    (z≠0∧inB p T P L y z)↔¬(c*y+d*z≠0∧inB p a c ((val p (a*d - b*c):Int) - 2*(val p c:Int) - L+1) (a*y+b*z) (c*y+d*z)):=by
  have hp2:=prime_lo hp
  have id1:a*(c*y+d*z) - (a*y+b*z)*c=(a*d - b*c)*z:=by grind
  have id2:P*(c*y+d*z)=z*(c*T+d*P) - c*(T*z - y*P):=by grind
  unfold inB
  rw[id1,vge_mul (t:=(val p (c*y+d*z):Int) - (val p c:Int) - L+1) hp hdet (by omega)]
  by_cases hz:z=0
  · subst hz
    refine⟨fun h=>absurd rfl h.1,fun h=>?_⟩
    exfalso
    refine h ⟨?_,vge_zero _ _⟩
    rw[Int.mul_zero,Int.add_zero]
    exact Int.mul_ne_zero hc (hyz rfl)
  generalize hB:c*T+d*P=B at*
  generalize hZ:c*y+d*z=Z at*
  generalize hN:T*z - y*P=N at*
  rw[vge_val hp2 hz]
  by_cases hZ0:Z=0
  · refine⟨fun _ h=>h.1 hZ0,fun _=>⟨hz,?_⟩⟩
    rw[hZ0,Int.mul_zero] at id2
    have e:z*B=c*N:=by omega
    by_cases hN0:N=0
    · rw[hN0];exact vge_zero _ _
    · have hcN:=Int.mul_ne_zero hc hN0
      have hB0:B≠0:=fun e'=>hcN (by rw[←e,e',Int.mul_zero])
      have v1:=(val_mul hp hc hN0).1
      rw[←e,(val_mul hp hz hB0).1] at v1
      rw[vge_val hp2 hN0]
      rcases hin with h|h
      · exact absurd h hB0
      · omega
  have vPZ:=(val_mul hp hP hZ0).1
  have key:vge p N (L+(val p P:Int)+(val p z:Int))↔(val p z:Int)+(val p c:Int)+L≤(val p Z:Int):=by
    by_cases hN0:N=0
    · rw[hN0,Int.mul_zero,Int.sub_zero] at id2
      have hB0:B≠0:=fun e'=>Int.mul_ne_zero hP hZ0 (by rw[id2,e',Int.mul_zero])
      rw[id2,(val_mul hp hz hB0).1] at vPZ
      rw[hN0]
      refine⟨fun _=>?_,fun _=>vge_zero _ _⟩
      rcases hin with h|h
      · exact absurd h hB0
      · omega
    rw[vge_val hp2 hN0]
    have hcN:=Int.mul_ne_zero hc hN0
    have v1:=(val_mul hp hc hN0).1
    by_cases hB0:B=0
    · rw[hB0,Int.mul_zero,Int.zero_sub] at id2
      rw[id2,val_neg hp2 hcN,v1] at vPZ
      omega
    · have zB:=Int.mul_ne_zero hz hB0
      have vzB:=(val_mul hp hz hB0).1
      have hs:z*B - c*N≠0:=by rw[←id2];exact Int.mul_ne_zero hP hZ0
      obtain⟨u1,u2,u3⟩:=ultra hp2 zB hcN hs
      rw[←id2,vPZ,vzB,v1] at u1 u2 u3
      have hh: (val p B:Int) - val p P≥(val p c:Int)+L:=by
        rcases hin with h|h
        · exact absurd h hB0
        · exact h
      clear id1 id2 hin hyz zB hs hcN
      rcases Nat.lt_trichotomy (val p z+val p B) (val p c+val p N) with h|h|h
      · have:=u1 h;omega
      · have:=u3 h;omega
      · have:=u2 h;omega
  rw[key]
  constructor
  · intro h h2;have:=h.2;have:=h2.2;omega
  · intro h
    refine⟨hz,?_⟩
    by_cases h3: (val p z:Int)+(val p c:Int)+L≤(val p Z:Int)
    · exact h3
    · exact absurd ⟨hZ0,by omega⟩ h
end
theorem inv_ex {p d:Int} (L:Int) (hp:primeB p=true) (hd:d≠0):∃w,(-6≤L∧L≤6)→isInv (uOf p d) (p^(L+6).toNat) w:=by
  have hp2:=prime_lo hp
  by_cases hL: -6≤L∧L≤6
  · have m1:=ipow_pos (p:=p) (by omega) (L+6).toNat
    have m2:=pow_13 hp (L+6).toNat (by omega)
    obtain⟨w,_,iw⟩:=impl_inverse_ev m1 (by omega) (gcd_unit hp (uOf_spec hp2 hd).2 (L+6).toNat)
    exact⟨w,fun _=>iw⟩
  · exact⟨0,fun h=>absurd h hL⟩
theorem endN_mul {n d:Int} (hd:d≠0):∃m,m≠0∧n=m*(endN n d).1∧d=m*(endN n d).2:=by
  have hg: (Int.gcd n d:Int)≠0:=by
    intro h
    have:=(Int.gcd_eq_zero_iff.1 (by omega:Int.gcd n d=0)).2
    exact hd this
  refine⟨(Int.gcd n d:Int)*(if d<0 then -1 else 1),?_,?_,?_⟩
  · split<;>omega
  · unfold endN
    rw[if_neg hd]
    refine(Int.mul_tdiv_cancel' ?_).symm
    split
    · rw[show (Int.gcd n d:Int)* -1= -(Int.gcd n d:Int) by omega];exact Int.neg_dvd.2 (Int.gcd_dvd_left ..)
    · rw[Int.mul_one];exact Int.gcd_dvd_left ..
  · unfold endN
    rw[if_neg hd]
    refine(Int.mul_tdiv_cancel' ?_).symm
    split
    · rw[show (Int.gcd n d:Int)* -1= -(Int.gcd n d:Int) by omega];exact Int.neg_dvd.2 (Int.gcd_dvd_right ..)
    · rw[Int.mul_one];exact Int.gcd_dvd_right ..
theorem held_end {p n d L w y z:Int} (hp:primeB p=true) (hd:d≠0) (hw: (-6≤L∧L≤6)→isInv (uOf p d) (p^(L+6).toNat) w) (hok: (atF p L n d w).2.2.2=true):
    heldB p (atF p L n d w).1 (atF p L n d w).2.1 (atF p L n d w).2.2.1 (endX y z).1 (endX y z).2.1=true↔z≠0∧inB p n d L y z:=by
  rw[atF_held hp hd hw hok]
  unfold endX
  by_cases hz:z=0
  · simp[hz,endN]
  · obtain⟨m,hm,e1,e2⟩:=endN_mul (n:=y) hz
    have h2: (endN y z).2≠0:=fun e=>hz (by rw[e2,e,Int.mul_zero])
    simp only
    have hs:=inB_scale (n:=n) (d:=d) (L:=L) (y:=(endN y z).1) hp hm h2
    rw[←e1,←e2] at hs
    rw[hs]
    exact⟨fun h=>⟨hz,h.2⟩,fun h=>⟨h2,h.2⟩⟩
theorem side_moved {p L T D a b c d y z:Int} {o:Bool} {r:Int×Int×Int×Bool×Bool} (h:ballB p L T D=true) (hg:matB a b c d=true) (hr:Ev (fun k=>spec_l09Move.f k p a b c d L T D o) r) (hok:r.2.2.2.2=true) (hyz:z=0→y≠0):
    (heldB p L T D y z !=o)=(heldB p r.1 r.2.1 r.2.2.1 (endX (a*y+b*z) (c*y+d*z)).1 (endX (a*y+b*z) (c*y+d*z)).2.1!=r.2.2.2.1):=by
  obtain⟨hp,hL,hD,_⟩:=ball_parts h
  have hp2:=prime_lo hp
  have hok': (M4.mk a b c d).ok=true:=hg
  have hdet:a*d - b*c≠0:=M4.ok_det hok'
  have hP:p^D.toNat≠0:=Int.pow_ne_zero (by omega)
  have hvP: (val p (p^D.toNat):Int)=D:=by rw[val_pow hp2];omega
  obtain⟨f1,f2⟩:=spec_move_form (o:=o) h hg
  have hI:=held_inB (y:=y) (z:=z) h
  by_cases hcase:c≠0∧(c*T+d*p^D.toNat=0∨(val p (c*T+d*p^D.toNat):Int) - D≥(val p c:Int)+L)
  · obtain⟨w,hw⟩:=inv_ex ((val p (a*d - b*c):Int) - 2*(val p c:Int) - L+1) hp hcase.1
    have hr2:=Ev.det hr (f1 hcase w _ rfl hw)
    subst hr2
    simp only at hok⊢
    have hM:=held_end (n:=a) (y:=a*y+b*z) (z:=c*y+d*z) hp hcase.1 hw hok
    have hG:=move_in (T:=T) (P:=p^D.toNat) (L:=L) hp hP hdet hcase.1 (by rw[hvP];exact hcase.2) hyz
    rw[←hI,←hM] at hG
    revert hG
    generalize heldB p L T D y z=u
    generalize heldB p _ _ _ _ _=v
    cases u<;>cases v<;>cases o<;>simp
  · obtain⟨hb,f3⟩:=f2 hcase
    obtain⟨w,hw⟩:=inv_ex ((val p (a*d - b*c):Int)+L - 2*((val p (c*T+d*p^D.toNat):Int) - D)) hp hb
    have hr2:=Ev.det hr (f3 w _ rfl hw)
    subst hr2
    simp only at hok⊢
    have hM:=held_end (n:=a*T+b*p^D.toNat) (y:=a*y+b*z) (z:=c*y+d*z) hp hb hw hok
    have hG:=move_out (T:=T) (P:=p^D.toNat) (L:=L) hp hP hdet hb (by
      intro hc;rw[hvP]
      by_cases h1: (val p (c*T+d*p^D.toNat):Int) - D≥(val p c:Int)+L
      · exact absurd ⟨hc,.inr h1⟩ hcase
      · omega) hyz
    rw[hvP,←hI,←hM] at hG
    revert hG
    generalize heldB p L T D y z=u
    generalize heldB p _ _ _ _ _=v
    cases u<;>cases v<;>cases o<;>simp
def m4 (x:S47):M4:=⟨x.f0.f0,x.f0.f1,x.f1.f0,x.f1.f1⟩
theorem impl_areMatrices_ev (l:List S47) (hl:l.length≤4611686018427387904):Ev (fun k=>impl_areMatrices.f k l) (l.all (fun x=>(m4 x).ok)):=by
  unfold impl_areMatrices.f
  have hr:∀(i:Nat) (k:Nat),i<l.length→impl_areMatrices.l0 (k+1) l l.length i=(impl_IsMatrix.f k (l.getD i z47).f0.f0 (l.getD i z47).f0.f1 (l.getD i z47).f1.f0 (l.getD i z47).f1.f1).bind fun t=>if t=true then impl_areMatrices.l0 k l l.length ((i:Int)+1) else some false:=by
    intro i k hi
    simp only[impl_areMatrices.l0]
    rw[if_pos (by omega),if_pos (by omega),if_pos (by omega),wid (by omega) (by omega)];rfl
  have:=all_ev' (fun k i=>impl_areMatrices.l0 k l l.length i) l.length (fun i=>(m4 (l.getD i z47)).ok) true false (by
    intro i r hi hb hr'
    refine Ev.step (hr i · hi) (Ev.bind (impl_IsMatrix_ev _ _ _ _) ?_)
    have hb':matB (l.getD i z47).f0.f0 (l.getD i z47).f0.f1 (l.getD i z47).f1.f0 (l.getD i z47).f1.f1=true:=hb
    rw[hb'];simpa using hr') (by
    intro i hi hb
    refine Ev.step (hr i · hi) (Ev.bind (impl_IsMatrix_ev _ _ _ _) ?_)
    have hb':matB (l.getD i z47).f0.f0 (l.getD i z47).f0.f1 (l.getD i z47).f1.f0 (l.getD i z47).f1.f1=false:=hb
    rw[hb'];simp;exact Ev.now _) (Ev.step (f:=fun _=>some true) (fun k=>by simp only[impl_areMatrices.l0];rw[if_neg (by omega)]) (Ev.now _))
  rw[all_range_getD l z47 (fun x=>(m4 x).ok),ite_tf] at this
  exact this
theorem spec_l01Prime_eq (p:Int):spec_l01Prime.f p=some (primeB p):=by
  unfold spec_l01Prime.f primeB
  by_cases h2:p=2
  · simp[h2]
  · by_cases h3:p=3
    · simp[h3]
    · by_cases h5:p=5
      · simp[h5]
      · rw[if_neg h2,if_neg h3,if_neg h5,beq_eq_false_iff_ne.2 h2,beq_eq_false_iff_ne.2 h3,beq_eq_false_iff_ne.2 h5];rfl
theorem spec_l01Is_ev (p L T D:Int):Ev (fun k=>spec_l01Is.f k p L T D) (ballB p L T D):=by
  have hno:Ev (fun k=>spec_l01Is.j0 k p true L T D) false:=Ev.step (f:=fun _=>some false) (fun k=>by simp only[spec_l01Is.j0,if_true]) (Ev.now _)
  unfold spec_l01Is.f
  refine Ev.bindv (spec_l01Prime_eq p) ?_
  unfold ballB
  cases hp:primeB p with
  |false=>simpa using hno
  |true=>
   have hp2:=prime_lo hp
   simp only[if_true,Bool.true_and]
   refine Ev.bindv (In_eq L (-6) 6) ?_
   by_cases hL: -6≤L∧L≤6
   · rw[decide_eq_true hL];simp only[if_true,Bool.true_and]
     refine Ev.bindv (In_eq D 0 6) ?_
     by_cases hD:0≤D∧D≤6
     · rw[decide_eq_true hD];simp only[Bool.not_true,Bool.true_and]
       have hn:=wid (n:=L+D) (by omega) (by omega)
       by_cases h0:L+D≤0
       · rw[if_pos h0]
         refine Ev.step (f:=fun _=>some (T==0&&D==0)) (fun k=>?_) (Ev.now _)
         simp only[spec_l01Is.j0]
         rw[if_neg (by decide),hn,if_pos h0]
         by_cases hT:T=0
         · simp[hT]
         · simp[hT]
       · rw[if_neg h0]
         refine Ev.step (f:=fun k=>(spec_l01Power.f k p (L+D)).bind fun t=>(spec_l01In.f T 0 (wrap64 (t - 1))).bind fun t2=>if t2=true then(if D=0 then some true else if p=0 then none else some (Int.tmod T p !=0)) else some false) (fun k=>by simp only[spec_l01Is.j0];rw[if_neg (by decide),hn,if_neg h0]) ?_
         refine Ev.bind (spec_l01Power_ev p (L+D) (by omega)) ?_
         rw[powW_prime hp _ (by omega)]
         have hpp:=ipow_pos (p:=p) (by omega) (L+D).toNat
         have hpt:=pow_le_top hp (L+D).toNat (by omega)
         rw[wid (n:=p^(L+D).toNat - 1) (by omega) (by omega)]
         refine Ev.bindv (In_eq _ _ _) ?_
         rw[show decide (0≤T∧T≤p^(L+D).toNat - 1)=decide (0≤T∧T<p^(L+D).toNat) from decide_eq_decide.2 (by omega)]
         cases decide (0≤T∧T<p^(L+D).toNat) with
         |false=>simp only[Bool.false_eq_true,if_false,Bool.false_and];exact Ev.now _
         |true=>
          simp only[if_true,Bool.true_and]
          by_cases hd:D=0
          · simp only[hd,if_true];simp;exact Ev.now _
          · rw[if_neg hd,if_neg (by omega),show (D==0)=false from beq_eq_false_iff_ne.2 hd,Bool.false_or]
            exact Ev.now _
     · rw[decide_eq_false hD];simpa using hno
   · rw[decide_eq_false hL];simpa using hno
def sideCodeB (p:Int) (l:List S32):Bool:=primeB p&&l.all (fun b=>ballB p b.f0.f0 b.f0.f1 b.f0.f2)
theorem spec_l09Code_ev (p:Int) (l:List S32) (hl:l.length≤4611686018427387904):Ev (fun k=>spec_l09Code.f k p l) (if sideCodeB p l then 0 else 1):=by
  unfold spec_l09Code.f sideCodeB
  refine Ev.bindv (spec_l01Prime_eq p) ?_
  cases hp:primeB p with
  |false=>simp;exact Ev.now _
  |true=>
   simp only[if_true,Bool.true_and]
   rw[←all_range_getD l z32]
   refine all_ev' (fun k i=>spec_l09Code.l0 k p l i) l.length (fun i=>ballB p (l.getD i z32).f0.f0 (l.getD i z32).f0.f1 (l.getD i z32).f0.f2) 0 1 ?_ ?_ ?_
   · intro i r hi hb hr
     refine Ev.step (f:=fun k=>(spec_l01Is.f k p (l.getD i z32).f0.f0 (l.getD i z32).f0.f1 (l.getD i z32).f0.f2).bind fun t=>if t=true then spec_l09Code.l0 k p l ((i:Int)+1) else some 1) (fun k=>?_) ?_
     · simp only[spec_l09Code.l0]
       rw[if_pos (by omega),if_pos (by omega),wid (by omega) (by omega)];rfl
     · refine Ev.bind (spec_l01Is_ev _ _ _ _) ?_
       rw[hb];simpa using hr
   · intro i hi hb
     refine Ev.step (f:=fun k=>(spec_l01Is.f k p (l.getD i z32).f0.f0 (l.getD i z32).f0.f1 (l.getD i z32).f0.f2).bind fun t=>if t=true then spec_l09Code.l0 k p l ((i:Int)+1) else some 1) (fun k=>?_) ?_
     · simp only[spec_l09Code.l0]
       rw[if_pos (by omega),if_pos (by omega),wid (by omega) (by omega)];rfl
     · refine Ev.bind (spec_l01Is_ev _ _ _ _) ?_
       rw[hb];simp;exact Ev.now _
   · exact Ev.step (f:=fun _=>some 0) (fun k=>by simp only[spec_l09Code.l0];rw[if_neg (by omega)]) (Ev.now _)
theorem impl_isPrime_eq (p:Int):impl_isPrime.f p=some (primeB p):=by
  unfold impl_isPrime.f primeB
  by_cases h2:p=2
  · simp[h2]
  · by_cases h3:p=3
    · simp[h3]
    · by_cases h5:p=5
      · simp[h5]
      · rw[if_neg h2,if_neg h3,if_neg h5,beq_eq_false_iff_ne.2 h2,beq_eq_false_iff_ne.2 h3,beq_eq_false_iff_ne.2 h5];rfl
theorem impl_IsBall_ev (p L T D:Int):Ev (fun k=>impl_IsBall.f k p L T D) (ballB p L T D):=by
  have hno:Ev (fun k=>impl_IsBall.j0 k p true L T D) false:=Ev.step (f:=fun _=>some false) (fun k=>by simp only[impl_IsBall.j0,if_true]) (Ev.now _)
  unfold impl_IsBall.f
  refine Ev.bindv (impl_isPrime_eq p) ?_
  unfold ballB
  cases hp:primeB p with
  |false=>simpa using hno
  |true=>
   have hp2:=prime_lo hp
   simp only[if_true,Bool.true_and]
   refine Ev.bindv (impl_isLevel_eq L) ?_
   by_cases hL: -6≤L∧L≤6
   · rw[decide_eq_true hL];simp only[if_true,Bool.true_and]
     by_cases hD0:D<0
     · rw[decide_eq_false (show ¬(0≤D∧D≤6) by omega)];simp only[if_pos hD0,Bool.false_and];exact hno
     simp only[if_neg hD0]
     by_cases hD:0≤D∧D≤6
     · rw[decide_eq_true hD,decide_eq_false (show ¬D>6 by omega)];simp only[Bool.true_and]
       have hn:=wid (n:=L+D) (by omega) (by omega)
       by_cases h0:L+D≤0
       · rw[if_pos h0]
         refine Ev.step (f:=fun _=>some (T==0&&D==0)) (fun k=>?_) (Ev.now _)
         simp only[impl_IsBall.j0]
         rw[if_neg (by decide),hn,if_pos h0]
         by_cases hT:T=0
         · simp[hT]
         · simp[hT]
       · rw[if_neg h0]
         by_cases hT0:T≥0
         · refine Ev.step (f:=fun k=>(impl_power.f k p (L+D)).bind fun t=>if T<t then(if D=0 then some true else if p=0 then none else some (Int.tmod T p !=0)) else some false) (fun k=>by simp only[impl_IsBall.j0];rw[if_neg (by decide),hn,if_neg h0,if_pos hT0]) ?_
           refine Ev.bind (impl_power_ev p (L+D) (by omega)) ?_
           rw[powW_prime hp _ (by omega)]
           by_cases hT1:T<p^(L+D).toNat
           · rw[if_pos hT1,decide_eq_true (show 0≤T∧T<p^(L+D).toNat from ⟨hT0,hT1⟩),Bool.true_and]
             by_cases hd:D=0
             · simp only[hd,if_true];simp;exact Ev.now _
             · rw[if_neg hd,if_neg (by omega),show (D==0)=false from beq_eq_false_iff_ne.2 hd,Bool.false_or]
               exact Ev.now _
           · rw[if_neg hT1,decide_eq_false (show ¬(0≤T∧T<p^(L+D).toNat) from fun h=>hT1 h.2),Bool.false_and]
             exact Ev.now _
         · rw[decide_eq_false (show ¬(0≤T∧T<p^(L+D).toNat) from fun h=>hT0 h.1),Bool.false_and]
           refine Ev.step (f:=fun _=>some false) (fun k=>?_) (Ev.now _)
           simp only[impl_IsBall.j0]
           rw[if_neg (by decide),hn,if_neg h0,if_neg hT0]
     · rw[decide_eq_false hD,decide_eq_true (show D>6 by omega)];simpa using hno
   · rw[decide_eq_false hL];simpa using hno
theorem impl_areSides_ev (p:Int) (l:List S32) (hl:l.length≤4611686018427387904):Ev (fun k=>impl_areSides.f k p l) (primeB p&&l.all (fun b=>ballB p b.f0.f0 b.f0.f1 b.f0.f2)):=by
  unfold impl_areSides.f
  have hr:∀(i:Nat) (k:Nat),i<l.length→impl_areSides.l0 (k+1) p l l.length i=(impl_IsBall.f k p (l.getD i z32).f0.f0 (l.getD i z32).f0.f1 (l.getD i z32).f0.f2).bind fun t=>if t=true then impl_areSides.l0 k p l l.length ((i:Int)+1) else some false:=by
    intro i k hi
    simp only[impl_areSides.l0]
    rw[if_pos (by omega),if_pos (by omega),if_pos (by omega),wid (by omega) (by omega)];rfl
  have:=all_ev' (fun k i=>impl_areSides.l0 k p l l.length i) l.length (fun i=>ballB p (l.getD i z32).f0.f0 (l.getD i z32).f0.f1 (l.getD i z32).f0.f2) (primeB p) false (by
    intro i r hi hb hr'
    refine Ev.step (hr i · hi) (Ev.bind (impl_IsBall_ev _ _ _ _) ?_)
    rw[hb];simpa using hr') (by
    intro i hi hb
    refine Ev.step (hr i · hi) (Ev.bind (impl_IsBall_ev _ _ _ _) ?_)
    rw[hb];simp;exact Ev.now _) (by
    refine Ev.step (f:=fun _=>(impl_isPrime.f p).bind fun t=>some t) (fun k=>by simp only[impl_areSides.l0];rw[if_neg (by omega)]) ?_
    exact Ev.bindv (impl_isPrime_eq p) (Ev.now _))
  rw[all_range_getD l z32 (fun b=>ballB p b.f0.f0 b.f0.f1 b.f0.f2)] at this
  rw[show (primeB p&&l.all (fun b=>ballB p b.f0.f0 b.f0.f1 b.f0.f2))=(if l.all (fun b=>ballB p b.f0.f0 b.f0.f1 b.f0.f2)=true then primeB p else false) from by cases l.all (fun b=>ballB p b.f0.f0 b.f0.f1 b.f0.f2)<;>simp]
  exact this
def nS (l:List S32) (i:Nat):S32:=l.getD i z32
def bS (p:Int) (s:S32):Prop:=ballB p s.f0.f0 s.f0.f1 s.f0.f2=true
theorem rdS (l:List S32) (i:Nat):rd_T32 l (i:Int)=nS l i:=rfl
theorem nS_ok {p:Int} {l:List S32} (h:l.all (fun b=>ballB p b.f0.f0 b.f0.f1 b.f0.f2)=true) {i:Nat} (hi:i<l.length):bS p (nS l i):=by
  unfold nS
  rw[List.getD_eq_getElem?_getD,List.getElem?_eq_getElem hi]
  exact List.all_eq_true.1 h _ (List.getElem_mem hi)
def apW (p:Int) (s:List S32) (a b:Nat):Bool:=apartW p (nS s a).f0.f0 (nS s a).f0.f1 (nS s a).f0.f2 (nS s a).f1 (nS s b).f0.f0 (nS s b).f0.f1 (nS s b).f0.f2 (nS s b).f1
theorem nS_take (l:List S32) {i j:Nat} (h:j<i):nS (l.take i) j=nS l j:=by
  unfold nS
  rw[List.getD_eq_getElem?_getD,List.getD_eq_getElem?_getD,List.getElem?_take,if_pos h]
def nM (l:List S47) (i:Nat):S47:=l.getD i z47
theorem rdM (l:List S47) (i:Nat):rd_T47 l (i:Int)=nM l i:=rfl
theorem nM_ok {l:List S47} (h:l.all (fun x=>(m4 x).ok)=true) {i:Nat} (hi:i<l.length):matB (nM l i).f0.f0 (nM l i).f0.f1 (nM l i).f1.f0 (nM l i).f1.f1=true:=by
  unfold nM
  rw[List.getD_eq_getElem?_getD,List.getElem?_eq_getElem hi]
  exact List.all_eq_true.1 h _ (List.getElem_mem hi)
section
variable {p:Int} {g:List S47} {s:List S32} (hs:s.all (fun b=>ballB p b.f0.f0 b.f0.f1 b.f0.f2)=true) (hg:g.all (fun x=>(m4 x).ok)=true) (h4:g.length≤4) (h2:s.length=2*g.length)
include hs hg h4 h2 in
theorem free_l2 (d:Nat):∀i:Nat,i+d=g.length→∃r:Bool×Int,Ev (fun k=>impl_isFree.l2 k p s g g.length i) r∧Ev (fun k=>spec_l09Free.l2 k p g s i) r∧(r.2=0∨r.2=3):=by
  induction d with
  |zero=>
   intro i hi
   refine⟨(true,0),Ev.up ?_,Ev.up ?_,.inl rfl⟩
   · simp only[impl_isFree.l2,if_neg (show ¬(i:Int)<(g.length:Int) by omega)];exact Ev.now _
   · simp only[spec_l09Free.l2,if_neg (show ¬(i:Int)<(g.length:Int) by omega)];exact Ev.now _
  |succ d ih=>
   intro i hi
   have e2:wrap64 (2*(i:Int))=((2*i:Nat):Int):=by rw[wid (by omega) (by omega)];omega
   have e3:wrap64 (((2*i:Nat):Int)+1)=((2*i+1:Nat):Int):=by rw[wid (by omega) (by omega)];omega
   have e1:wrap64 ((i:Int)+1)=((i+1:Nat):Int):=by rw[wid (by omega) (by omega)];omega
   have hb:=nS_ok hs (i:=2*i) (by omega)
   have hm:=nM_ok hg (i:=i) (by omega)
   obtain⟨r,r1,r2,_⟩:=moveSide_both (o:=!(nS s (2*i)).f1) hb hm
   obtain⟨q,q1,q2,q3⟩:=ih (i+1) (by omega)
   refine⟨if r.2.2.2.2=true then(if (((!(r.1==(nS s (2*i+1)).f0.f0)||(!(r.2.1==(nS s (2*i+1)).f0.f1)||(!(r.2.2.1==(nS s (2*i+1)).f0.f2)))))||(!(r.2.2.2.1==(nS s (2*i+1)).f1)))=true then(false,0) else q) else(false,3),Ev.up ?_,Ev.up ?_,?_⟩
   · simp only[impl_isFree.l2,if_pos (show (i:Int)<(g.length:Int) by omega),if_pos (show (0:Int)≤(i:Int) by omega),e2,e3,e1,if_pos (show (0:Int)≤((2*i:Nat):Int) by omega),if_pos (show ((2*i:Nat):Int)<(s.length:Int) by omega),if_pos (show (0:Int)≤((2*i+1:Nat):Int) by omega),if_pos (show ((2*i+1:Nat):Int)<(s.length:Int) by omega),rdS,rdM,impl_opposite.f,Option.bind_some]
     refine Ev.bind r1 ?_
     cases h5:r.2.2.2.2 with
     |false=>simp only[Bool.false_eq_true,if_false];exact Ev.now _
     |true=>
      simp only[if_true]
      split
      · exact Ev.now _
      · exact q1
   · simp only[spec_l09Free.l2,if_pos (show (i:Int)<(g.length:Int) by omega),if_pos (show (0:Int)≤(i:Int) by omega),e2,e3,e1,if_pos (show (0:Int)≤((2*i:Nat):Int) by omega),if_pos (show ((2*i:Nat):Int)<(s.length:Int) by omega),if_pos (show (0:Int)≤((2*i+1:Nat):Int) by omega),if_pos (show ((2*i+1:Nat):Int)<(s.length:Int) by omega),rdS,rdM]
     refine Ev.bind r2 ?_
     cases h5:r.2.2.2.2 with
     |false=>simp only[Bool.false_eq_true,if_false];exact Ev.now _
     |true=>
      simp only[if_true]
      split
      · exact Ev.now _
      · exact q2
   · by_cases c:r.2.2.2.2=true
     · rw[if_pos c]
       split
       · exact .inl rfl
       · exact q3
     · rw[if_neg c];exact .inr rfl
include hs h4 h2 in
theorem free_l1 (i:Nat) (hi:i<s.length) (r:Bool×Int) (hn1:Ev (fun k=>impl_isFree.l0 k p g s s s.length ((i+1:Nat):Int)) r) (hn2:Ev (fun k=>spec_l09Free.l0 k p g s ((i+1:Nat):Int)) r) (hn3:r.2=0∨r.2=3) (hn4:r.1=true→∀a b,i+1≤a→a<s.length→b<a→apW p s a b=true) (d:Nat):∀j:Nat,j+d=i→∃r:Bool×Int,
    Ev (fun k=>impl_isFree.l1 k p g s s s.length i (s.take i) i j (nS s i).f0.f0 (nS s i).f0.f1 (nS s i).f0.f2 (nS s i).f1) r∧Ev (fun k=>spec_l09Free.l1 k p g s i j) r∧(r.2=0∨r.2=3)∧(r.1=true→(∀b,j≤b→b<i→apW p s i b=true)∧∀a b,i+1≤a→a<s.length→b<a→apW p s a b=true):=by
  induction d with
  |zero=>
   intro j hj
   have e1:wrap64 ((i:Int)+1)=((i+1:Nat):Int):=by rw[wid (by omega) (by omega)];omega
   refine⟨r,Ev.up ?_,Ev.up ?_,hn3,fun h=>⟨fun b h1 h2=>by omega,hn4 h⟩⟩
   · simp only[impl_isFree.l1,if_neg (show ¬(j:Int)<(i:Int) by omega),e1];exact hn1
   · simp only[spec_l09Free.l1,if_neg (show ¬(j:Int)<(i:Int) by omega),e1];exact hn2
  |succ d ih=>
   intro j hj
   have e1:wrap64 ((j:Int)+1)=((j+1:Nat):Int):=by rw[wid (by omega) (by omega)];omega
   obtain⟨q,q1,q2,q3,q4⟩:=ih (j+1) (by omega)
   have bi:=nS_ok hs hi
   have bj:=nS_ok hs (i:=j) (by omega)
   have a1:=impl_apartSides_ev (o:=(nS s i).f1) (o':=(nS s j).f1) bi bj
   have a2:=spec_l09Apart_ev (o:=(nS s i).f1) (o':=(nS s j).f1) bi bj
   have ht:apW p s i j=apartW p (nS s i).f0.f0 (nS s i).f0.f1 (nS s i).f0.f2 (nS s i).f1 (nS s j).f0.f0 (nS s j).f0.f1 (nS s j).f0.f2 (nS s j).f1:=rfl
   generalize apartW p (nS s i).f0.f0 (nS s i).f0.f1 (nS s i).f0.f2 (nS s i).f1 (nS s j).f0.f0 (nS s j).f0.f1 (nS s j).f0.f2 (nS s j).f1=t at*
   refine⟨if t=true then q else(false,0),Ev.up ?_,Ev.up ?_,by split;exact q3;exact .inl rfl,fun h=>?_⟩
   rotate_left 2
   · by_cases c:t=true
     · rw[if_pos c] at h
       refine⟨fun b h1 h2=>?_,(q4 h).2⟩
       rcases Nat.lt_or_ge j b with h3|h3
       · exact(q4 h).1 b h3 h2
       · rw[show b=j by omega,ht];exact c
     · rw[if_neg c] at h;cases h
   · simp only[impl_isFree.l1,if_pos (show (j:Int)<(i:Int) by omega),if_pos (show (0:Int)≤(j:Int) by omega),if_pos (show (j:Int)<((s.take i).length:Int) by rw[List.length_take];omega),e1,rdS,nS_take s (show j<i by omega)]
     refine Ev.bind a1 ?_
     split
     · exact q1
     · exact Ev.now _
   · simp only[spec_l09Free.l1,if_pos (show (j:Int)<(i:Int) by omega),if_pos (show (0:Int)≤(j:Int) by omega),if_pos (show (0:Int)≤(i:Int) by omega),if_pos (show (j:Int)<(s.length:Int) by omega),if_pos (show (i:Int)<(s.length:Int) by omega),e1,rdS]
     refine Ev.bind a2 ?_
     split
     · exact q2
     · exact Ev.now _
include hs hg h4 h2 in
theorem free_l0 (d:Nat):∀i:Nat,i+d=s.length→∃r:Bool×Int,Ev (fun k=>impl_isFree.l0 k p g s s s.length i) r∧Ev (fun k=>spec_l09Free.l0 k p g s i) r∧(r.2=0∨r.2=3)∧(r.1=true→∀a b,i≤a→a<s.length→b<a→apW p s a b=true):=by
  induction d with
  |zero=>
   intro i hi
   obtain⟨r,r1,r2,r3⟩:=free_l2 hs hg h4 h2 g.length 0 (by omega)
   refine⟨r,Ev.up ?_,Ev.up ?_,r3,fun _ a b h1 h2=>by omega⟩
   · simp only[impl_isFree.l0,if_neg (show ¬(i:Int)<(s.length:Int) by omega)];exact r1
   · simp only[spec_l09Free.l0,if_neg (show ¬(i:Int)<(s.length:Int) by omega)];exact r2
  |succ d ih=>
   intro i hi
   obtain⟨r,r1,r2,r3,r4⟩:=ih (i+1) (by omega)
   obtain⟨q,q1,q2,q3,q4⟩:=free_l1 hs h4 h2 i (by omega) r r1 r2 r3 r4 i 0 (by omega)
   refine⟨q,Ev.up ?_,Ev.up ?_,q3,fun h a b h1 h2 h3=>?_⟩
   rotate_left 2
   · rcases Nat.lt_or_ge i a with h5|h5
     · exact(q4 h).2 a b h5 h2 h3
     · obtain rfl:a=i:=by omega
       exact(q4 h).1 b (by omega) h3
   · simp only[impl_isFree.l0,if_pos (show (i:Int)<(s.length:Int) by omega),if_pos (show (0:Int)≤(i:Int) by omega),if_pos (show (i:Int)≤(s.length:Int) by omega),Option.bind_some,Int.toNat_natCast,rdS,List.length_take,Nat.min_eq_left (show i≤s.length by omega)]
     exact q1
   · simp only[spec_l09Free.l0,if_pos (show (i:Int)<(s.length:Int) by omega)]
     exact q2
include hs hg h4 h2 in
theorem free_both:∃r:Bool×Int,Ev (fun k=>impl_isFree.f k p g s) r∧Ev (fun k=>spec_l09Free.f k p g s) r∧(r.2=0∨r.2=3)∧(r.1=true→∀a b,0≤a→a<s.length→b<a→apW p s a b=true):=by
  unfold impl_isFree.f spec_l09Free.f
  exact free_l0 hs hg h4 h2 s.length 0 (by omega)
end
def lenB (g:List S47) (s:List S32):Bool:=decide ((1≤g.length∧g.length≤4)∧s.length=2*g.length)
def freeCodeW (p:Int) (g:List S47) (s:List S32):Int:=if sideCodeB p s&&g.all (fun x=>(m4 x).ok) then(if lenB g s then 0 else 2) else 1
theorem spec_l09List_ev {p:Int} {g:List S47} {s:List S32} (hg:g.length≤4611686018427387904) (hl:s.length≤4611686018427387904):Ev (fun k=>spec_l09List.f k p g s) (freeCodeW p g s):=by
  unfold spec_l09List.f freeCodeW
  refine Ev.bind (spec_l09Code_ev p s hl) ?_
  cases hs:sideCodeB p s with
  |false=>simp;exact Ev.now _
  |true=>
   simp only[if_true,Bool.true_and]
   have fin:Ev (fun k=>spec_l09List.l0 k g s g.length) (if lenB g s then 0 else 2):=by
      refine Ev.up ?_
      simp only[spec_l09List.l0,if_neg (show ¬(g.length:Int)<(g.length:Int) by omega)]
      unfold lenB
      by_cases c1: (g.length:Int)<1
      · simp only[if_pos c1];rw[decide_eq_false (by omega)];exact Ev.now _
      · simp only[if_neg c1]
        by_cases c2: (g.length:Int)>4
        · simp only[if_pos c2];rw[decide_eq_false (by omega)];exact Ev.now _
        · simp only[if_neg c2]
          rw[wid (n:=2*(g.length:Int)) (by omega) (by omega)]
          by_cases c3: (s.length:Int)=2*(g.length:Int)
          · simp only[if_pos c3];rw[decide_eq_true (by omega)];exact Ev.now _
          · simp only[if_neg c3];rw[decide_eq_false (by omega)];exact Ev.now _
   have hr:∀(i:Nat) (k:Nat),i<g.length→spec_l09List.l0 (k+1) g s i=(spec_l04Is.f k (nM g i).f0.f0 (nM g i).f0.f1 (nM g i).f1.f0 (nM g i).f1.f1).bind fun t=>if t=true then spec_l09List.l0 k g s ((i:Int)+1) else some 1:=by
      intro i k hi
      simp only[spec_l09List.l0]
      rw[if_pos (by omega),if_pos (by omega),wid (by omega) (by omega)];rfl
   have:=all_ev' (fun k i=>spec_l09List.l0 k g s i) g.length (fun i=>(m4 (g.getD i z47)).ok) (if lenB g s then 0 else 2) 1 (by
      intro i r hi hb hr'
      refine Ev.step (hr i · hi) (Ev.bind (spec_l04Is_ev _ _ _ _) ?_)
      have hb':matB (nM g i).f0.f0 (nM g i).f0.f1 (nM g i).f1.f0 (nM g i).f1.f1=true:=hb
      rw[hb'];simpa using hr') (by
      intro i hi hb
      refine Ev.step (hr i · hi) (Ev.bind (spec_l04Is_ev _ _ _ _) ?_)
      have hb':matB (nM g i).f0.f0 (nM g i).f0.f1 (nM g i).f1.f0 (nM g i).f1.f1=false:=hb
      rw[hb'];simp;exact Ev.now _) fin
   rw[all_range_getD g z47 (fun x=>(m4 x).ok)] at this
   exact this
theorem freeCode_both {p:Int} {g:List S47} {s:List S32} (hg:g.length≤4611686018427387904) (hl:s.length≤4611686018427387904):
    ∃r,Ev (fun k=>impl_freeCode.f k p g s) (if freeCodeW p g s=0 then r else(false,freeCodeW p g s))∧(freeCodeW p g s=0→Ev (fun k=>spec_l09Free.f k p g s) r∧(r.2=0∨r.2=3)∧(r.1=true→∀a b,0≤a→a<s.length→b<a→apW p s a b=true)):=by
  have hS:=impl_areSides_ev p s hl
  have hM:=impl_areMatrices_ev g hg
  have hj:∀b:Bool,b=true→Ev (fun k=>impl_freeCode.j0 k p g s b) (false,1):=fun b hb=>Ev.up (by simp only[impl_freeCode.j0,hb,if_true];exact Ev.now _)
  unfold freeCodeW
  have hS': (primeB p&&s.all (fun b=>ballB p b.f0.f0 b.f0.f1 b.f0.f2))=sideCodeB p s:=rfl
  rw[hS'] at hS
  cases hs:sideCodeB p s with
  |false=>
   refine⟨(false,0),?_,by simp⟩
   unfold impl_freeCode.f
   refine Ev.bind hS ?_
   rw[hs]
   simp only[Bool.false_eq_true,if_false,Bool.false_and]
   simpa using hj true rfl
  |true=>
   cases hm:g.all (fun x=>(m4 x).ok) with
   |false=>
    refine⟨(false,0),?_,by simp⟩
    unfold impl_freeCode.f
    refine Ev.bind hS ?_
    rw[hs]
    simp only[if_true]
    refine Ev.bind hM ?_
    rw[hm]
    simpa using hj true rfl
   |true=>
    simp only[Bool.and_self,if_true]
    have start:∀r,Ev (fun k=>if (g.length:Int)<1 then some (false,2) else if (g.length:Int)>4 then some (false,2) else if (s.length:Int)=wrap64 (2*(g.length:Int)) then(impl_isFree.f k p g s).bind fun t=>some (t.1,t.2) else some (false,2)) r→Ev (fun k=>impl_freeCode.f k p g s) r:=by
        intro r hr
        unfold impl_freeCode.f
        refine Ev.bind hS ?_
        rw[hs]
        simp only[if_true]
        refine Ev.bind hM ?_
        rw[hm]
        refine Ev.up ?_
        simp only[impl_freeCode.j0,Bool.not_true,Bool.false_eq_true,if_false]
        exact hr
    cases hb:lenB g s with
    |false=>
     refine⟨(false,0),start _ ?_,by simp⟩
     simp only[Bool.false_eq_true,if_false]
     unfold lenB at hb
     rw[decide_eq_false_iff_not] at hb
     by_cases c1: (g.length:Int)<1
     · simp only[if_pos c1];exact Ev.now _
     · simp only[if_neg c1]
       by_cases c2: (g.length:Int)>4
       · simp only[if_pos c2];exact Ev.now _
       · simp only[if_neg c2]
         rw[wid (n:=2*(g.length:Int)) (by omega) (by omega)]
         simp only[if_neg (show ¬(s.length:Int)=2*(g.length:Int) by omega)];exact Ev.now _
    |true=>
     unfold lenB at hb
     rw[decide_eq_true_eq] at hb
     have hs':=hs
     unfold sideCodeB at hs'
     rw[Bool.and_eq_true] at hs'
     obtain⟨r,r1,r2⟩:=free_both hs'.2 hm hb.1.2 hb.2
     refine⟨r,start _ ?_,fun _=>r2⟩
     simp only[if_true,if_neg (show ¬(g.length:Int)<1 by omega),if_neg (show ¬(g.length:Int)>4 by omega)]
     rw[wid (n:=2*(g.length:Int)) (by omega) (by omega)]
     simp only[if_pos (show (s.length:Int)=2*(g.length:Int) by omega)]
     exact Ev.bind r1 (Ev.now _)
theorem impl_reduced_l {a b c d y:Int} (ha:bd62 a) (hb:bd62 b) (hc:bd62 c) (hd:bd62 d) (hy:y≠0):
    Ev (fun k=>impl_reduced.l0 k y 0 a b c d) (Int.tdiv a y,Int.tdiv b y,Int.tdiv c y,Int.tdiv d y,matB (Int.tdiv a y) (Int.tdiv b y) (Int.tdiv c y) (Int.tdiv d y)):=by
  have w0:wrap64 1=1:=wid (by omega) (by omega)
  have w1:wrap64 2=2:=wid (by omega) (by omega)
  have wx:∀x,bd62 x→wrap64 (Int.tdiv x y)=Int.tdiv x y:=fun x hx=>by have:=tdiv_bd y hx;exact wid (by omega) (by omega)
  refine Ev.step (f:=fun k=>impl_reduced.l1 k y 0 0 0 a b c d) (fun k=>by simp[impl_reduced.l0]) ?_
  refine Ev.step (f:=fun k=>impl_reduced.l1 k y 0 0 1 (Int.tdiv a y) b c d) (fun k=>by simp[impl_reduced.l1,hy,w0,wx a ha]) ?_
  refine Ev.step (f:=fun k=>impl_reduced.l1 k y 0 0 2 (Int.tdiv a y) (Int.tdiv b y) c d) (fun k=>by simp[impl_reduced.l1,hy,w1,wx b hb]) ?_
  refine Ev.step (f:=fun k=>impl_reduced.l0 k y 1 (Int.tdiv a y) (Int.tdiv b y) c d) (fun k=>by simp[impl_reduced.l1,w0]) ?_
  refine Ev.step (f:=fun k=>impl_reduced.l1 k y 1 1 0 (Int.tdiv a y) (Int.tdiv b y) c d) (fun k=>by simp[impl_reduced.l0]) ?_
  refine Ev.step (f:=fun k=>impl_reduced.l1 k y 1 1 1 (Int.tdiv a y) (Int.tdiv b y) (Int.tdiv c y) d) (fun k=>by simp[impl_reduced.l1,hy,w0,wx c hc]) ?_
  refine Ev.step (f:=fun k=>impl_reduced.l1 k y 1 1 2 (Int.tdiv a y) (Int.tdiv b y) (Int.tdiv c y) (Int.tdiv d y)) (fun k=>by simp[impl_reduced.l1,hy,w1,wx d hd]) ?_
  refine Ev.step (f:=fun k=>impl_reduced.l0 k y 2 (Int.tdiv a y) (Int.tdiv b y) (Int.tdiv c y) (Int.tdiv d y)) (fun k=>by simp[impl_reduced.l1,w1]) ?_
  refine Ev.step (f:=fun k=>(impl_IsMatrix.f k (Int.tdiv a y) (Int.tdiv b y) (Int.tdiv c y) (Int.tdiv d y)).bind fun t=>some (Int.tdiv a y,Int.tdiv b y,Int.tdiv c y,Int.tdiv d y,t)) (fun k=>by simp[impl_reduced.l0]) ?_
  exact Ev.bind (impl_IsMatrix_ev _ _ _ _) (Ev.now _)
theorem impl_reduced_ev {a b c d:Int} (ha:bd62 a) (hb:bd62 b) (hc:bd62 c) (hd:bd62 d) (hne:a≠0∨b≠0):
    Ev (fun k=>impl_reduced.f k a b c d) (rM a b c d a,rM a b c d b,rM a b c d c,rM a b c d d,matB (rM a b c d a) (rM a b c d b) (rM a b c d c) (rM a b c d d)):=by
  have k1:=gcd_le ha hb
  have k2:=gcd_le hc hd
  have k3:g4 a b c d≤4611686018427387904:=gcd_le (a:=Int.gcd a b) (b:=Int.gcd c d) (by omega) (by omega)
  have k0:=g4_nonneg a b c d
  have hy:=byM_ne c d hne
  have main:=impl_reduced_l ha hb hc hd hy
  unfold bd62 at ha hb hc hd
  unfold impl_reduced.f
  refine Ev.bind (impl_gcd_ev a b (by omega) (by omega) (by omega) (by omega)) (Ev.bind (impl_gcd_ev c d (by omega) (by omega) (by omega) (by omega)) (Ev.bind (impl_gcd_ev _ _ (by omega) (by omega) (by omega) (by omega)) ?_))
  have neg:sg a b= -1→Ev (fun k=>impl_reduced.j0 k (g4 a b c d) true a b c d) (rM a b c d a,rM a b c d b,rM a b c d c,rM a b c d d,matB (rM a b c d a) (rM a b c d b) (rM a b c d c) (rM a b c d d)):=by
    intro e
    refine Ev.step (f:=fun k=>impl_reduced.j1 k (wrap64 (-(g4 a b c d))) a b c d) (fun k=>by simp[impl_reduced.j0]) ?_
    refine Ev.step (f:=fun k=>impl_reduced.l0 k (wrap64 (-(g4 a b c d))) 0 a b c d) (fun k=>by simp[impl_reduced.j1]) ?_
    rw[wid (n:= -(g4 a b c d)) (by omega) (by omega),show -(g4 a b c d)=byM a b c d from by unfold byM;rw[e];omega]
    exact main
  have pos:sg a b=1→Ev (fun k=>impl_reduced.j0 k (g4 a b c d) false a b c d) (rM a b c d a,rM a b c d b,rM a b c d c,rM a b c d d,matB (rM a b c d a) (rM a b c d b) (rM a b c d c) (rM a b c d d)):=by
    intro e
    refine Ev.step (f:=fun k=>impl_reduced.j1 k (g4 a b c d) a b c d) (fun k=>by simp[impl_reduced.j0]) ?_
    refine Ev.step (f:=fun k=>impl_reduced.l0 k (g4 a b c d) 0 a b c d) (fun k=>by simp[impl_reduced.j1]) ?_
    rw[show g4 a b c d=byM a b c d from by unfold byM;rw[e];omega]
    exact main
  by_cases h1:a<0
  · simp only[if_pos h1];exact neg (by unfold sg;rw[if_pos (.inl h1)])
  · simp only[if_neg h1]
    by_cases h2:a=0
    · simp only[if_pos h2]
      by_cases h3:b<0
      · rw[decide_eq_true h3];exact neg (by unfold sg;rw[if_pos (.inr ⟨h2,h3⟩)])
      · rw[decide_eq_false h3];exact pos (by unfold sg;rw[if_neg (by omega)])
    · simp only[if_neg h2];exact pos (by unfold sg;rw[if_neg (by omega)])
theorem impl_reduce_ev {a b c d:Int} (ha:bd62 a) (hb:bd62 b) (hc:bd62 c) (hd:bd62 d) (hne:a≠0∨b≠0):
    Ev (fun k=>impl_reduce.f k a b c d) (rM a b c d a,rM a b c d b,rM a b c d c,rM a b c d d):=by
  unfold impl_reduce.f
  exact Ev.bind (impl_reduced_ev ha hb hc hd hne) (Ev.now _)
theorem wneg {x M:Int} (hM:M≤4611686018427387904) (h: -M≤x∧x≤M):wrap64 (-x)= -x:=wid (by omega) (by omega)
theorem impl_inverted_ev {g:M4} (hg:g.ok=true):Ev (fun k=>impl_inverted.f k g.a g.b g.c g.d) (g.adj.red.a,g.adj.red.b,g.adj.red.c,g.adj.red.d):=by
  obtain⟨g1,g2,g3,g4⟩:=M4.fit_bd (M4.ok_fit hg)
  unfold impl_inverted.f
  rw[wneg (by omega) g2,wneg (by omega) g3]
  have:=impl_reduce_ev (a:=g.d) (b:= -g.b) (c:= -g.c) (d:=g.a) (by unfold bd62;omega) (by unfold bd62;omega) (by unfold bd62;omega) (by unfold bd62;omega) (M4.row_ne (g:=g.adj) (by rw[M4.adj_det];exact M4.ok_det hg))
  exact Ev.bind this (Ev.now _)
theorem rd_set_self (l:List Int) (i:Nat) (v:Int) (h:i<l.length):rd (l.set i v) (i:Int)=v:=by
  rw[rd_nat _ i (by rw[List.length_set];exact h),List.getElem_set_self]
theorem spec_l04Reduce_l1s (l:List Int) (g s:Int) (f:Bool) (i:Nat) (hi:i<4) (hl:l.length=4) (hg:g≠0) (v:Int) (hv:wrap64 ((wrap64 (Int.tdiv (rd l i) g))*s)=v) (k:Nat):
    spec_l04Reduce.l1 (k+1) l g s f i=spec_l04Reduce.l1 k (l.set i v) g s (f&&entB v) ((i:Int)+1):=by
  have hI:∀x:Int,spec_l01In.f x (-1000) 1000=some (entB x):=fun x=>In_eq x _ _
  simp only[spec_l04Reduce.l1]
  rw[if_pos (by omega),if_pos (by omega),if_pos (by omega),if_neg hg,hv]
  simp only[Option.bind_some,Int.toNat_natCast]
  rw[rd_set_self l i v (by omega),hI,wid (n:=(i:Int)+1) (by omega) (by omega)]
  cases f
  · simp
  · simp
def s1 (x:Int):Int:=if x=0 then 0 else if x<0 then -1 else 1
theorem tdiv_abs {x:Int} (h:x≠0):Int.tdiv x (x.natAbs:Int)=s1 x:=by
  unfold s1
  rw[if_neg h]
  by_cases hx:x<0
  · rw[if_pos hx,show (x.natAbs:Int)= -x from by omega,Int.tdiv_neg,Int.tdiv_self h]
  · rw[if_neg hx,show (x.natAbs:Int)=x from by omega,Int.tdiv_self h]
theorem spec_l04Reduce_l0s (l:List Int) (g s:Int) (i:Nat) (hi:i<4) (hl:l.length=4) (hg:0≤g∧g≤4611686018427387904) (hx:bd62 (rd l i)) {r:Int×Int×Int×Int×Bool}
    (h:Ev (fun k=>spec_l04Reduce.l0 k l (Int.gcd g (rd l i):Int) (if s=0 then s1 (rd l i) else s) ((i:Int)+1)) r):Ev (fun k=>spec_l04Reduce.l0 k l g s i) r:=by
  unfold bd62 at hx
  have hm:=mx_abs (rd l i) (by omega) (by omega)
  refine Ev.step (f:=fun k=>(spec_l01Gcd.f k g ((rd l i).natAbs:Int)).bind fun t=>if s=0 then(if rd l i=0 then spec_l04Reduce.l0 k l t s ((i:Int)+1) else if ((rd l i).natAbs:Int)=0 then none else spec_l04Reduce.l0 k l t (wrap64 (Int.tdiv (rd l i) ((rd l i).natAbs:Int))) ((i:Int)+1)) else spec_l04Reduce.l0 k l t s ((i:Int)+1)) (fun k=>?_) ?_
  · simp only[spec_l04Reduce.l0]
    rw[if_pos (by omega),if_pos (by omega),if_pos (by omega),hm,wid (n:=(i:Int)+1) (by omega) (by omega)]
  · refine Ev.bind (spec_l01Gcd_ev _ _ (by omega) (by omega) (by omega) (by omega)) ?_
    rw[show (Int.gcd g ((rd l i).natAbs:Int):Int)=(Int.gcd g (rd l i):Int) from by unfold Int.gcd;rw[Int.natAbs_natCast]]
    by_cases hs:s=0
    · rw[if_pos hs] at h
      simp only[if_pos hs]
      by_cases h0:rd l i=0
      · simp only[if_pos h0]
        rw[show s1 (rd l i)=s from by unfold s1;rw[if_pos h0,hs]] at h
        exact h
      · simp only[if_neg h0,if_neg (show ¬((rd l i).natAbs:Int)=0 by omega)]
        rw[tdiv_abs h0,wid (n:=s1 (rd l i)) (by unfold s1;split<;>(try split)<;>omega) (by unfold s1;split<;>(try split)<;>omega)]
        exact h
    · rw[if_neg hs] at h
      simp only[if_neg hs]
      exact h
theorem spec_l04Reduce_ev {a b c d:Int} (ha:bd62 a) (hb:bd62 b) (hc:bd62 c) (hd:bd62 d) (hne:a≠0∨b≠0):
    Ev (fun k=>spec_l04Reduce.f k a b c d) (rM a b c d a,rM a b c d b,rM a b c d c,rM a b c d d,fitM a b c d):=by
  have k1:=gcd_le ha hb
  have k2:=gcd_le hc hd
  have k3:g4 a b c d≤4611686018427387904:=gcd_le (a:=Int.gcd a b) (b:=Int.gcd c d) (by omega) (by omega)
  have k0:=g4_nonneg a b c d
  have hg:=g4_ne c d hne
  have hsg:=sg_or a b
  have q1: (Int.gcd (a.natAbs:Int) b:Int)=(Int.gcd a b:Int):=by unfold Int.gcd;rw[Int.natAbs_natCast]
  have q3:=gcd_le (a:=(Int.gcd a b:Int)) (b:=c) (M:=4611686018427387904) (by omega) hc
  have q4: (Int.gcd (Int.gcd (Int.gcd a b:Int) c:Int) d:Int)=g4 a b c d:=by unfold g4;rw[Int.gcd_assoc]
  have fin:Ev (fun k=>spec_l04Reduce.l0 k [a,b,c,d] (g4 a b c d) (sg a b) 4) (rM a b c d a,rM a b c d b,rM a b c d c,rM a b c d d,fitM a b c d):=by
    have vx:∀x,bd62 x→wrap64 ((wrap64 (Int.tdiv x (g4 a b c d)))*sg a b)=rM a b c d x:=by
      intro x hx
      have:=tdiv_bd (g4 a b c d) hx
      unfold rM byM
      rw[wid (n:=Int.tdiv x (g4 a b c d)) (by omega) (by omega)]
      rcases hsg with e|e<;>rw[e]
      · rw[Int.mul_one,Int.mul_one,wid (by omega) (by omega)]
      · rw[Int.mul_neg_one,Int.mul_neg_one,Int.tdiv_neg,wid (by omega) (by omega)]
    refine Ev.step (f:=fun k=>spec_l04Reduce.l1 k [a,b,c,d] (g4 a b c d) (sg a b) true (0:Nat)) (fun k=>?_) ?_
    · simp only[spec_l04Reduce.l0]
      rw[if_neg (by decide),mx_abs _ (by omega) (by omega),show ((g4 a b c d).natAbs:Int)=g4 a b c d from by omega];rfl
    refine Ev.step (fun k=>spec_l04Reduce_l1s [a,b,c,d] _ _ true 0 (by decide) rfl hg _ (vx a ha) k) ?_
    refine Ev.step (fun k=>spec_l04Reduce_l1s [rM a b c d a,b,c,d] _ _ _ 1 (by decide) rfl hg _ (vx b hb) k) ?_
    refine Ev.step (fun k=>spec_l04Reduce_l1s [rM a b c d a,rM a b c d b,c,d] _ _ _ 2 (by decide) rfl hg _ (vx c hc) k) ?_
    refine Ev.step (fun k=>spec_l04Reduce_l1s [rM a b c d a,rM a b c d b,rM a b c d c,d] _ _ _ 3 (by decide) rfl hg _ (vx d hd) k) ?_
    refine Ev.step (f:=fun _=>some (rM a b c d a,rM a b c d b,rM a b c d c,rM a b c d d,fitM a b c d)) (fun k=>?_) (Ev.now _)
    simp only[spec_l04Reduce.l1]
    rw[if_neg (by decide),if_pos (by simp),if_pos (by simp),if_pos (by simp),if_pos (by simp)]
    unfold fitM
    simp only[Bool.true_and,Bool.and_assoc]
    rfl
  unfold spec_l04Reduce.f
  unfold bd62 at ha hb hc hd
  refine spec_l04Reduce_l0s [a,b,c,d] 0 0 0 (by decide) rfl (by omega) ha ?_
  show Ev (fun k=>spec_l04Reduce.l0 k [a,b,c,d] (Int.gcd 0 a:Int) (if (0:Int)=0 then s1 a else 0) ((1:Nat):Int)) _
  rw[Int.gcd_zero_left,if_pos rfl]
  refine spec_l04Reduce_l0s [a,b,c,d] _ _ 1 (by decide) rfl (by omega) hb ?_
  show Ev (fun k=>spec_l04Reduce.l0 k [a,b,c,d] (Int.gcd (a.natAbs:Int) b:Int) (if s1 a=0 then s1 b else s1 a) ((2:Nat):Int)) _
  rw[q1,show (if s1 a=0 then s1 b else s1 a)=sg a b from by unfold s1 sg;split<;>split<;>(try split)<;>(try split)<;>omega]
  refine spec_l04Reduce_l0s [a,b,c,d] _ _ 2 (by decide) rfl (by omega) hc ?_
  show Ev (fun k=>spec_l04Reduce.l0 k [a,b,c,d] (Int.gcd (Int.gcd a b:Int) c:Int) (if sg a b=0 then s1 c else sg a b) ((3:Nat):Int)) _
  rw[if_neg (by omega)]
  refine spec_l04Reduce_l0s [a,b,c,d] _ _ 3 (by decide) rfl (by omega) hd ?_
  show Ev (fun k=>spec_l04Reduce.l0 k [a,b,c,d] (Int.gcd (Int.gcd (Int.gcd a b:Int) c:Int) d:Int) (if sg a b=0 then s1 d else sg a b) ((4:Nat):Int)) _
  rw[if_neg (by omega),q4]
  exact fin
theorem wneg' {x M:Int} (hM:M≤4611686018427387904) (h: -M≤x∧x≤M):wrap64 (-x)= -x:=wid (by omega) (by omega)
theorem spec_l04Inverse_ev {g:M4} (hg:g.ok=true):Ev (fun k=>spec_l04Inverse.f k g.a g.b g.c g.d) (g.adj.red.a,g.adj.red.b,g.adj.red.c,g.adj.red.d):=by
  obtain⟨g1,g2,g3,g4⟩:=M4.fit_bd (M4.ok_fit hg)
  unfold spec_l04Inverse.f
  rw[wneg' (by omega) g2,wneg' (by omega) g3]
  have:=spec_l04Reduce_ev (a:=g.d) (b:= -g.b) (c:= -g.c) (d:=g.a) (by unfold bd62;omega) (by unfold bd62;omega) (by unfold bd62;omega) (by unfold bd62;omega) (M4.row_ne (g:=g.adj) (by rw[M4.adj_det];exact M4.ok_det hg))
  exact Ev.bind this (Ev.now _)
def letterB (a x:Int):Bool:=!(x==0)&&(decide (-a≤x)&&decide (x≤a))
def wordB (a:Int) (l:List Int):Bool:=decide (1≤a∧a≤4∧l.length≤12)&&l.all (letterB a)
theorem spec_word_l (a:Int) (l:List Int) (h1:1≤a) (h2:a≤4) (hl:l.length≤35184372088832):Ev (fun k=>spec_l09Word.l0 k a l 0) (if l.all (letterB a) then true else false):=by
  rw[←all_range_rd]
  have stepj:∀(i:Nat) (r:Bool),i<l.length→letterB a (rd l (i:Int))=true→Ev (fun k=>spec_l09Word.l0 k a l ((i:Int)+1)) r→Ev (fun k=>spec_l09Word.l0 k a l i) r:=by
    intro i r hi hp hr
    refine Ev.step (f:=fun k=>spec_l09Word.l0 k a l ((i:Int)+1)) (fun k=>?_) hr
    simp only[letterB,Bool.and_eq_true,Bool.not_eq_true',beq_eq_false_iff_ne,decide_eq_true_eq] at hp
    simp only[spec_l09Word.l0]
    rw[if_pos (by omega),if_pos (by omega),if_neg hp.1,In_eq,wid (by omega) (by omega),decide_eq_true hp.2]
    simp only[Option.bind_some,if_true]
    rw[wid (by omega) (by omega)]
  refine all_ev (fun k i=>spec_l09Word.l0 k a l i) l.length (fun i=>letterB a (rd l (i:Int))) true false (fun i hi hp=>stepj i true hi hp) (fun i hi hp=>stepj i false hi hp) ?_ ?_
  · intro i hi hp
    refine Ev.step (f:=fun _=>some false) (fun k=>?_) (Ev.now _)
    simp only[spec_l09Word.l0]
    rw[if_pos (by omega),if_pos (by omega)]
    by_cases e:rd l (i:Int)=0
    · rw[if_pos e]
    · rw[if_neg e,In_eq,wid (by omega) (by omega),decide_eq_false]
      · simp
      · intro h
        simp only[letterB,Bool.and_eq_false_iff,Bool.not_eq_false',beq_iff_eq,decide_eq_false_iff_not] at hp
        omega
  · exact Ev.step (f:=fun _=>some true) (fun k=>by simp only[spec_l09Word.l0];rw[if_neg (by omega)]) (Ev.now _)
theorem spec_word (a:Int) (l:List Int) (hl:l.length≤35184372088832):Ev (fun k=>spec_l09Word.f k a l) (wordB a l):=by
  have hno:Ev (fun k=>spec_l09Word.j0 k a l true) false:=Ev.step (f:=fun _=>some false) (fun k=>by simp only[spec_l09Word.j0];rw[if_pos trivial]) (Ev.now _)
  unfold spec_l09Word.f
  refine Ev.bindv (In_eq _ _ _) ?_
  by_cases h:1≤a∧a≤4
  · rw[decide_eq_true h]
    simp only[if_true]
    by_cases h12:l.length≤12
    · rw[show decide ((l.length:Int)>12)=false from decide_eq_false (by omega)]
      unfold wordB
      rw[decide_eq_true (⟨h.1,h.2,h12⟩:1≤a∧a≤4∧l.length≤12),Bool.true_and]
      refine Ev.step (f:=fun k=>spec_l09Word.l0 k a l 0) (fun k=>by simp only[spec_l09Word.j0];rw[if_neg (by decide)]) ?_
      have h:=spec_word_l a l h.1 h.2 hl
      rwa [show (if l.all (letterB a)=true then true else false)=l.all (letterB a) from by cases l.all (letterB a)<;>rfl] at h
    · rw[show decide ((l.length:Int)>12)=true from decide_eq_true (by omega)]
      unfold wordB
      rw[decide_eq_false (fun h=>h12 h.2.2),Bool.false_and]
      exact hno
  · rw[decide_eq_false h]
    simp only[Bool.false_eq_true,if_false]
    unfold wordB
    rw[decide_eq_false (fun h2=>h ⟨h2.1,h2.2.1⟩),Bool.false_and]
    exact hno
theorem within_one (a x:Int) (h1:1≤a) (h2:a≤4):Ev (fun k=>impl_within.f k a [x]) (decide (-a≤x)&&decide (x≤a)):=by
  unfold impl_within.f
  have e0:rd [x] 0=x:=rfl
  have w:wrap64 (-a)= -a:=wid (by omega) (by omega)
  by_cases hlo:x< -a
  · refine Ev.step (f:=fun _=>some false) (fun k=>?_) ?_
    · simp only[impl_within.l0,List.length_singleton,e0,w]
      rw[if_pos (by decide),if_pos (by decide),if_pos (by decide),if_pos hlo]
    · rw[decide_eq_false (by omega),Bool.false_and];exact Ev.now _
  · by_cases hhi:x>a
    · refine Ev.step (f:=fun _=>some false) (fun k=>?_) ?_
      · simp only[impl_within.l0,List.length_singleton,e0,w]
        rw[if_pos (by decide),if_pos (by decide),if_pos (by decide),if_neg hlo,if_pos hhi]
      · rw[decide_eq_false (show ¬x≤a by omega),Bool.and_false];exact Ev.now _
    · refine Ev.step (f:=fun k=>impl_within.l0 k a [x] 1 1) (fun k=>?_) ?_
      · simp only[impl_within.l0,List.length_singleton,e0,w]
        rw[if_pos (by decide),if_pos (by decide),if_pos (by decide),if_neg hlo,if_neg hhi,wid (by decide) (by decide)];rfl
      · rw[decide_eq_true (show -a≤x by omega),decide_eq_true (show x≤a by omega)]
        exact Ev.step (f:=fun _=>some true) (fun k=>by simp only[impl_within.l0];rw[if_neg (by decide)]) (Ev.now _)
theorem impl_word_l (a:Int) (l:List Int) (h1:1≤a) (h2:a≤4) (hl:l.length≤35184372088832):Ev (fun k=>impl_isWord.l0 k a l l (l.length:Int) 0) (if l.all (letterB a) then decide ((l.length:Int)≤12) else false):=by
  rw[←all_range_rd]
  have stepj:∀(i:Nat) (r:Bool),i<l.length→letterB a (rd l (i:Int))=true→Ev (fun k=>impl_isWord.l0 k a l l (l.length:Int) ((i:Int)+1)) r→Ev (fun k=>impl_isWord.l0 k a l l (l.length:Int) i) r:=by
    intro i r hi hp hr
    have hp2:=hp
    simp only[letterB,Bool.and_eq_true,Bool.not_eq_true',beq_eq_false_iff_ne,decide_eq_true_eq] at hp
    refine Ev.step (f:=fun k=>(impl_within.f k a [rd l (i:Int)]).bind fun t=>if t=true then impl_isWord.l0 k a l l (l.length:Int) ((i:Int)+1) else some false) (fun k=>?_) ?_
    · simp only[impl_isWord.l0]
      rw[if_pos (by omega),if_pos (by omega),if_pos (by omega),if_neg hp.1,show wrap64 ((i:Int)+1)=(i:Int)+1 from wid (by omega) (by omega)]
    · refine Ev.bind (within_one a _ h1 h2) ?_
      rw[decide_eq_true hp.2.1,decide_eq_true hp.2.2]
      simpa using hr
  refine all_ev (fun k i=>impl_isWord.l0 k a l l (l.length:Int) i) l.length (fun i=>letterB a (rd l (i:Int))) (decide ((l.length:Int)≤12)) false (fun i hi hp=>stepj i _ hi hp) (fun i hi hp=>stepj i _ hi hp) ?_ ?_
  · intro i hi hp
    by_cases e:rd l (i:Int)=0
    · refine Ev.step (f:=fun _=>some false) (fun k=>?_) (Ev.now _)
      simp only[impl_isWord.l0]
      rw[if_pos (by omega),if_pos (by omega),if_pos (by omega),if_pos e]
    · refine Ev.step (f:=fun k=>(impl_within.f k a [rd l (i:Int)]).bind fun t=>if t=true then impl_isWord.l0 k a l l (l.length:Int) ((i:Int)+1) else some false) (fun k=>?_) ?_
      · simp only[impl_isWord.l0]
        rw[if_pos (by omega),if_pos (by omega),if_pos (by omega),if_neg e,show wrap64 ((i:Int)+1)=(i:Int)+1 from wid (by omega) (by omega)]
      · refine Ev.bind (within_one a _ h1 h2) ?_
        rw[show (decide (-a≤rd l (i:Int))&&decide (rd l (i:Int)≤a))=false from by
          simp only[letterB,Bool.and_eq_false_iff,Bool.not_eq_false',beq_iff_eq] at hp
          rcases hp with hp|hp
          · exact absurd hp e
          · rcases hp with hp|hp<;>simp only[hp,Bool.false_and,Bool.and_false]]
        simp only[Bool.false_eq_true,if_false]
        exact Ev.now _
  · exact Ev.step (f:=fun _=>some (decide ((l.length:Int)≤12))) (fun k=>by simp only[impl_isWord.l0];rw[if_neg (by omega)]) (Ev.now _)
def letW2 (l:List S47) (n:Int):M4:=if n<0 then(m4 (l.getD (-n - 1).toNat z47)).adj.red else(m4 (l.getD (n - 1).toNat z47)).red
def letS2 (l:List S47) (n:Int):M4:=if n<0 then(m4 (l.getD (-n - 1).toNat z47)).adj.red else m4 (l.getD (n - 1).toNat z47)
theorem adj_ok2 {g:M4} (h:g.ok=true):g.adj.ok=true:=by
  rw[M4.ok_of (by rw[M4.adj_det];exact M4.ok_det h)]
  obtain⟨g1,g2,g3,g4⟩:=M4.fit_bd (M4.ok_fit h)
  unfold M4.fit M4.adj
  simp only[ent_of (show -1000≤g.d∧g.d≤1000 from g4),ent_of (show -1000≤ -g.b∧ -g.b≤1000 by omega),ent_of (show -1000≤ -g.c∧ -g.c≤1000 by omega),ent_of g1,Bool.and_self]
theorem getD_ok2 {l:List S47} (h:∀x∈l,(m4 x).ok=true) (i:Nat) (hi:i<l.length): (m4 (l.getD i z47)).ok=true:=by
  rw[List.getD_eq_getElem?_getD,List.getElem?_eq_getElem hi]
  exact h _ (List.getElem_mem hi)
section
variable (l:List S47) (h4:l.length≤4) (hok:∀x∈l,(m4 x).ok=true)
include h4 hok in
theorem let_ok {n:Int} (hn:letterB (l.length:Int) n=true): (letW2 l n).ok=true∧(letS2 l n).ok=true∧∀A:M4,A.ok=true→(A.mul (letS2 l n)).red=(A.mul (letW2 l n)).red:=by
  simp only[letterB,Bool.and_eq_true,Bool.not_eq_true',beq_eq_false_iff_ne,decide_eq_true_eq] at hn
  unfold letW2 letS2
  by_cases h:n<0
  · simp only[if_pos h]
    have:=M4.red_ok (adj_ok2 (getD_ok2 hok (-n - 1).toNat (by omega)))
    exact⟨this,this,fun _ _=>trivial⟩
  · simp only[if_neg h]
    have:=getD_ok2 hok (n - 1).toNat (by omega)
    exact⟨M4.red_ok this,this,fun A hA=>(M4.red_mul_red (M4.ok_det hA) (M4.ok_det this)).symm⟩
include h4 hok in
theorem impl_letter_ev {n:Int} (hn:letterB (l.length:Int) n=true):Ev (fun k=>impl_letterMatrix.f k l n) ((letW2 l n).a,(letW2 l n).b,(letW2 l n).c,(letW2 l n).d):=by
  simp only[letterB,Bool.and_eq_true,Bool.not_eq_true',beq_eq_false_iff_ne,decide_eq_true_eq] at hn
  unfold impl_letterMatrix.f letW2
  by_cases h:n<0
  · simp only[if_pos h]
    rw[wid (n:= -n) (by omega) (by omega),wid (n:= -n - 1) (by omega) (by omega)]
    simp only[if_pos (show 0≤ -n - 1 by omega),if_pos (show -n - 1<(l.length:Int) by omega)]
    exact Ev.bind (impl_inverted_ev (getD_ok2 hok (-n - 1).toNat (by omega))) (Ev.now _)
  · simp only[if_neg h]
    rw[wid (n:=n - 1) (by omega) (by omega)]
    simp only[if_pos (show 0≤n - 1 by omega),if_pos (show n - 1<(l.length:Int) by omega)]
    have hg:=getD_ok2 hok (n - 1).toNat (by omega)
    obtain⟨g1,g2,g3,g4⟩:=M4.fit_bd (M4.ok_fit hg)
    have:=impl_reduce_ev (a:=(m4 (l.getD (n - 1).toNat z47)).a) (b:=(m4 (l.getD (n - 1).toNat z47)).b) (c:=(m4 (l.getD (n - 1).toNat z47)).c) (d:=(m4 (l.getD (n - 1).toNat z47)).d) (by unfold bd62;omega) (by unfold bd62;omega) (by unfold bd62;omega) (by unfold bd62;omega) (M4.row_ne (M4.ok_det hg))
    exact Ev.bind this (Ev.now _)
include h4 hok in
theorem spec_letter_ev {n:Int} (hn:letterB (l.length:Int) n=true):Ev (fun k=>spec_l09Letter.f k l n) ((letS2 l n).a,(letS2 l n).b,(letS2 l n).c,(letS2 l n).d):=by
  simp only[letterB,Bool.and_eq_true,Bool.not_eq_true',beq_eq_false_iff_ne,decide_eq_true_eq] at hn
  unfold spec_l09Letter.f letS2
  by_cases h:n<0
  · simp only[if_pos h,if_neg (show ¬n>0 by omega)]
    rw[wid (n:= -n) (by omega) (by omega),wid (n:= -n - 1) (by omega) (by omega)]
    simp only[if_pos (show 0≤ -n - 1 by omega),if_pos (show -n - 1<(l.length:Int) by omega)]
    exact Ev.bind (spec_l04Inverse_ev (getD_ok2 hok (-n - 1).toNat (by omega))) (Ev.now _)
  · simp only[if_neg h,if_pos (show n>0 by omega)]
    rw[wid (n:=n - 1) (by omega) (by omega)]
    simp only[if_pos (show 0≤n - 1 by omega),if_pos (show n - 1<(l.length:Int) by omega)]
    exact Ev.now _
end
theorem word_parts {a:Int} {w:List Int} (h:wordB a w=true): (1≤a∧a≤4)∧w.length≤12∧∀i,i<w.length→letterB a (rd w (i:Int))=true:=by
  unfold wordB at h
  rw[Bool.and_eq_true,decide_eq_true_eq,List.all_eq_true] at h
  exact⟨⟨h.1.1,h.1.2.1⟩,h.1.2.2,fun i hi=>by rw[rd_nat w i hi];exact h.2 _ (List.getElem_mem hi)⟩
theorem impl_word_ev (a:Int) (w:List Int) (h1:1≤a) (h2:a≤4) (hl:w.length≤35184372088832):Ev (fun k=>impl_isWord.f k a w) (wordB a w):=by
  unfold impl_isWord.f
  have:=impl_word_l a w h1 h2 hl
  refine cast (congrArg _ ?_) this
  unfold wordB
  cases w.all (letterB a) with
  |false=>simp
  |true=>simp only[if_true,Bool.and_true];exact decide_eq_decide.2 (by omega)
def memS (p:Int) (x:S32) (y z:Int):Bool:=heldB p x.f0.f0 x.f0.f1 x.f0.f2 y z !=x.f1
def aY (g:M4) (y z:Int):Int:=g.a*y+g.b*z
def aZ (g:M4) (y z:Int):Int:=g.c*y+g.d*z
theorem held_mul {p L T D m y z:Int} (h:ballB p L T D=true) (hm:m≠0):heldB p L T D (m*y) (m*z)=heldB p L T D y z:=by
  rw[Bool.eq_iff_iff,held_inB h,held_inB h]
  constructor
  · rintro⟨h1,h2⟩
    have hz:z≠0:=fun e=>h1 (by rw[e,Int.mul_zero])
    exact⟨hz,(inB_scale (ball_parts h).1 hm hz).1 h2⟩
  · rintro⟨h1,h2⟩
    exact⟨Int.mul_ne_zero hm h1,(inB_scale (ball_parts h).1 hm h1).2 h2⟩
theorem held_endX {p L T D y z:Int} (h:ballB p L T D=true):heldB p L T D (endX y z).1 (endX y z).2.1=heldB p L T D y z:=by
  unfold endX
  by_cases hz:z=0
  · simp[hz,endN,heldB]
  · obtain⟨m,hm,e1,e2⟩:=endN_mul (n:=y) hz
    have:=held_mul (y:=(endN y z).1) (z:=(endN y z).2) h hm
    rw[←e1,←e2] at this
    exact this.symm
theorem held_res {p L T D:Int} (h:ballB p L T D=true) (n:Int):heldB p L T D n (p^6)=true↔p^(L+6).toNat∣n - markOf p T D:=by
  have hp2:=prime_lo (ball_parts h).1
  have hP:p^6≠0:=Int.pow_ne_zero (by omega)
  rw[held_dvd h,val_pow hp2,Int.pow_add,show n*p^6 - markOf p T D*p^6=(n - markOf p T D)*p^6 by grind]
  exact⟨fun hh=>(Int.mul_dvd_mul_iff_right hP).1 hh.2,fun hh=>⟨hP,(Int.mul_dvd_mul_iff_right hP).2 hh⟩⟩
theorem not_inner {p L T D L' T' D':Int} (h:ballB p L T D=true) (h':ballB p L' T' D'=true) (hn:holdsB p L T D L' T' D'=false):∃n,heldB p L' T' D' n (p^6)=true∧heldB p L T D n (p^6)=false:=by
  have hp2:=prime_lo (ball_parts h).1
  obtain⟨_,hL,_⟩:=ball_parts h
  obtain⟨_,hL',_⟩:=ball_parts h'
  have own:heldB p L' T' D' (markOf p T' D') (p^6)=true:=(held_res h' _).2 (by rw[Int.sub_self];exact Int.dvd_zero _)
  cases hc:heldB p L T D (markOf p T' D') (p^6) with
  |false=>exact⟨_,own,hc⟩
  |true=>
   have d1:=(held_res h _).1 hc
   have hlt:L'<L:=by
      rcases Int.lt_or_le L' L with h1|h1
      · exact h1
      · rw[held_two h h' h1 hc own] at hn;cases hn
   refine⟨markOf p T' D'+p^(L'+6).toNat,(held_res h' _).2 (by rw[show markOf p T' D'+p^(L'+6).toNat - markOf p T' D'=p^(L'+6).toNat by omega];exact Int.dvd_refl _),?_⟩
   cases hd:heldB p L T D (markOf p T' D'+p^(L'+6).toNat) (p^6) with
   |false=>rfl
   |true=>
    have d2:=(held_res h _).1 hd
    have d3:=Int.dvd_sub d2 d1
    rw[show markOf p T' D'+p^(L'+6).toNat - markOf p T D - (markOf p T' D' - markOf p T D)=p^(L'+6).toNat by omega,val_dvd hp2 (Int.pow_ne_zero (by omega)),val_pow hp2] at d3
    omega
theorem apart_of {p L T D L' T' D':Int} {o o':Bool} (h:ballB p L T D=true) (h':ballB p L' T' D'=true)
    (hno:∀y z,(z=0→y≠0)→(heldB p L T D y z !=o)=true→(heldB p L' T' D' y z !=o')=true→False):apartW p L T D o L' T' D' o'=true:=by
  have hp2:=prime_lo (ball_parts h).1
  have hP:p^6≠0:=Int.pow_ne_zero (by omega)
  have own:heldB p L' T' D' (markOf p T' D') (p^6)=true:=(held_res h' _).2 (by rw[Int.sub_self];exact Int.dvd_zero _)
  have own0:heldB p L T D (markOf p T D) (p^6)=true:=(held_res h _).2 (by rw[Int.sub_self];exact Int.dvd_zero _)
  have inner:∀{L T D L' T' D':Int},ballB p L T D=true→ballB p L' T' D'=true→holdsB p L T D L' T' D'=true→heldB p L T D (markOf p T' D') (p^6)=true:=by
    intro L T D L' T' D' h h' hh
    rw[holds_dvd] at hh
    exact(held_res h _).2 hh.2
  unfold apartW
  cases o<;>cases o'
  · simp only[Bool.false_and,Bool.false_eq_true,if_false,Bool.and_eq_true,Bool.not_eq_true']
    refine⟨?_,?_⟩
    · cases hh:holdsB p L T D L' T' D' with
      |false=>rfl
      |true=>exact absurd (hno _ _ (fun e=>absurd e hP) (by rw[inner h h' hh];rfl) (by rw[own];rfl)) (fun h=>h.elim)
    · cases hh:holdsB p L' T' D' L T D with
      |false=>rfl
      |true=>exact absurd (hno _ _ (fun e=>absurd e hP) (by rw[own0];rfl) (by rw[inner h' h hh];rfl)) (fun h=>h.elim)
  · simp only[Bool.false_and,Bool.false_eq_true,if_false,if_true]
    cases hh:holdsB p L' T' D' L T D with
    |true=>rfl
    |false=>
     obtain⟨n,n1,n2⟩:=not_inner h' h hh
     exact(hno _ _ (fun e=>absurd e hP) (by rw[n1];rfl) (by rw[n2];rfl)).elim
  · simp only[Bool.and_false,Bool.false_eq_true,if_false,if_true]
    cases hh:holdsB p L T D L' T' D' with
    |true=>rfl
    |false=>
     obtain⟨n,n1,n2⟩:=not_inner h h' hh
     exact(hno _ _ (fun e=>absurd e hP) (by rw[n2];rfl) (by rw[n1];rfl)).elim
  · exact(hno 1 0 (fun _=>by decide) (by simp[heldB]) (by simp[heldB])).elim
theorem a_smul (m:Int) (g:M4) (y z:Int):aY (g.smul m) y z=m*aY g y z∧aZ (g.smul m) y z=m*aZ g y z:=by
  constructor<;>simp only[aY,aZ,M4.smul]<;>grind
theorem a_mul (g h:M4) (y z:Int):aY (g.mul h) y z=aY g (aY h y z) (aZ h y z)∧aZ (g.mul h) y z=aZ g (aY h y z) (aZ h y z):=by
  constructor<;>simp only[aY,aZ,M4.mul]<;>grind
theorem a_scale (g:M4) (m y z:Int):aY g (m*y) (m*z)=m*aY g y z∧aZ g (m*y) (m*z)=m*aZ g y z:=by
  constructor<;>simp only[aY,aZ]<;>grind
theorem a_adj (g:M4) (y z:Int):aY g (aY g.adj y z) (aZ g.adj y z)=g.det*y∧aZ g (aY g.adj y z) (aZ g.adj y z)=g.det*z:=by
  constructor<;>simp only[aY,aZ,M4.adj,M4.det]<;>grind
theorem adj_a (g:M4) (y z:Int):aY g.adj (aY g y z) (aZ g y z)=g.det*y∧aZ g.adj (aY g y z) (aZ g y z)=g.det*z:=by
  constructor<;>simp only[aY,aZ,M4.adj,M4.det]<;>grind
theorem a_ne {g:M4} {y z:Int} (hg:g.det≠0) (h:z=0→y≠0):aZ g y z=0→aY g y z≠0:=by
  intro h1 h2
  have e:=adj_a g y z
  rw[h1,h2] at e
  have e1:g.det*y=0:=by rw[←e.1];simp[aY]
  have e2:g.det*z=0:=by rw[←e.2];simp[aZ]
  exact h ((Int.mul_eq_zero.1 e2).resolve_left hg) ((Int.mul_eq_zero.1 e1).resolve_left hg)
theorem adj_det (g:M4):g.adj.det=g.det:=by simp only[M4.adj,M4.det];grind
theorem mem_mul {p m y z:Int} {x:S32} (h:bS p x) (hm:m≠0):memS p x (m*y) (m*z)=memS p x y z:=by
  unfold memS;rw[held_mul h hm]
theorem mem_moved {p:Int} {g:M4} {x:S32} {r:Int×Int×Int×Bool×Bool} (h:bS p x) (hg:g.ok=true) (hr:Ev (fun k=>spec_l09Move.f k p g.a g.b g.c g.d x.f0.f0 x.f0.f1 x.f0.f2 x.f1) r) (hok:r.2.2.2.2=true)
    (hb:ballB p r.1 r.2.1 r.2.2.1=true) {y z:Int} (hyz:z=0→y≠0):memS p x y z=memS p ⟨⟨r.1,r.2.1,r.2.2.1⟩,r.2.2.2.1⟩ (aY g y z) (aZ g y z):=by
  have:=side_moved (y:=y) (z:=z) h hg hr hok hyz
  rw[held_endX hb] at this
  exact this
def FreeM (p:Int) (g:List S47) (s:List S32):Prop:=∀i,i<g.length→∀y z,(z=0→y≠0)→memS p (nS s (2*i)) y z=!memS p (nS s (2*i+1)) (aY (m4 (nM g i)) y z) (aZ (m4 (nM g i)) y z)
def idxL (n:Int):Nat:=if n<0 then(2*(-n - 1)).toNat else(2*n - 1).toNat
section
variable {p:Int} {g:List S47} {s:List S32} (hok:∀x∈g,(m4 x).ok=true) (hball:s.all (fun b=>ballB p b.f0.f0 b.f0.f1 b.f0.f2)=true) (hsl:s.length=2*g.length)
include hok hball hsl
theorem idx_lt {n:Int} (hn:letterB (g.length:Int) n=true):idxL n<s.length:=by
  simp only[letterB,Bool.and_eq_true,Bool.not_eq_true',beq_eq_false_iff_ne,decide_eq_true_eq] at hn
  unfold idxL
  split<;>omega
theorem letter_mem (hf:FreeM p g s) {n:Int} (hn:letterB (g.length:Int) n=true) {y z:Int} (hyz:z=0→y≠0):
    memS p (nS s (idxL n)) (aY (letS2 g n) y z) (aZ (letS2 g n) y z)=!memS p (nS s (idxL (-n))) y z:=by
  have hlt:=idx_lt hok hball hsl hn
  have hn':=hn
  simp only[letterB,Bool.and_eq_true,Bool.not_eq_true',beq_eq_false_iff_ne,decide_eq_true_eq] at hn'
  obtain⟨h0,h1,h2⟩:=hn'
  by_cases c:n<0
  · have e1:idxL n=2*(-n - 1).toNat:=by unfold idxL;rw[if_pos c];omega
    have e2:idxL (-n)=2*(-n - 1).toNat+1:=by unfold idxL;rw[if_neg (by omega)];omega
    have hi: (-n - 1).toNat<g.length:=by omega
    have e3:letS2 g n=(m4 (nM g (-n - 1).toNat)).adj.red:=by unfold letS2;rw[if_pos c];rfl
    rw[e1,e2,e3]
    have hd: (m4 (nM g (-n - 1).toNat)).ok=true:=getD_ok2 hok _ hi
    have hdet:=M4.ok_det hd
    have hadj: (m4 (nM g (-n - 1).toNat)).adj.det≠0:=by rw[adj_det];exact hdet
    generalize hG:m4 (nM g (-n - 1).toNat)=G at*
    have hs:=M4.smul_red G.adj
    have hby:=M4.by_ne hadj
    have q:=a_smul G.adj.by_ G.adj.red y z
    rw[hs] at q
    have hv:aZ G.adj y z=0→aY G.adj y z≠0:=a_ne hadj hyz
    have b1:bS p (nS s (2*(-n - 1).toNat)):=nS_ok hball (by omega)
    have b2:bS p (nS s (2*(-n - 1).toNat+1)):=nS_ok hball (by omega)
    have k:=hf (-n - 1).toNat hi _ _ hv
    rw[hG,(a_adj G y z).1,(a_adj G y z).2,mem_mul b2 hdet,q.1,q.2,mem_mul b1 hby] at k
    exact k
  · have e1:idxL n=2*(n - 1).toNat+1:=by unfold idxL;rw[if_neg c];omega
    have e2:idxL (-n)=2*(n - 1).toNat:=by unfold idxL;rw[if_pos (by omega)];omega
    have hi: (n - 1).toNat<g.length:=by omega
    have e3:letS2 g n=m4 (nM g (n - 1).toNat):=by unfold letS2;rw[if_neg c];rfl
    rw[e1,e2,e3]
    have k:=hf (n - 1).toNat hi y z hyz
    rw[k,Bool.not_not]
end
def Mv (p:Int) (g:List S47) (s:List S32) (j:Nat):Prop:=∀y z,(z=0→y≠0)→memS p (nS s (2*j)) y z=!memS p (nS s (2*j+1)) (aY (m4 (nM g j)) y z) (aZ (m4 (nM g j)) y z)
section
variable {p:Int} {g:List S47} {s:List S32} (hs:s.all (fun b=>ballB p b.f0.f0 b.f0.f1 b.f0.f2)=true) (hg:g.all (fun x=>(m4 x).ok)=true) (h4:g.length≤4) (h2:s.length=2*g.length)
include hs hg h4 h2 in
theorem fr_l2 (d:Nat):∀i:Nat,i+d=g.length→∃r:Bool×Int,Ev (fun k=>spec_l09Free.l2 k p g s i) r∧(r.1=true→∀j,i≤j→j<g.length→Mv p g s j):=by
  induction d with
  |zero=>
   intro i hi
   refine⟨(true,0),Ev.up ?_,fun _ j h1 h2=>by omega⟩
   simp only[spec_l09Free.l2,if_neg (show ¬(i:Int)<(g.length:Int) by omega)];exact Ev.now _
  |succ d ih=>
   intro i hi
   have e2:wrap64 (2*(i:Int))=((2*i:Nat):Int):=by rw[wid (by omega) (by omega)];omega
   have e3:wrap64 (((2*i:Nat):Int)+1)=((2*i+1:Nat):Int):=by rw[wid (by omega) (by omega)];omega
   have e1:wrap64 ((i:Int)+1)=((i+1:Nat):Int):=by rw[wid (by omega) (by omega)];omega
   have hb:=nS_ok hs (i:=2*i) (by omega)
   have hm:=nM_ok hg (i:=i) (by omega)
   obtain⟨r,_,r2,r3⟩:=moveSide_both (o:=!(nS s (2*i)).f1) hb hm
   obtain⟨q,q2,q3⟩:=ih (i+1) (by omega)
   refine⟨if r.2.2.2.2=true then(if (((!(r.1==(nS s (2*i+1)).f0.f0)||(!(r.2.1==(nS s (2*i+1)).f0.f1)||(!(r.2.2.1==(nS s (2*i+1)).f0.f2)))))||(!(r.2.2.2.1==(nS s (2*i+1)).f1)))=true then(false,0) else q) else(false,3),Ev.up ?_,?_⟩
   · simp only[spec_l09Free.l2,if_pos (show (i:Int)<(g.length:Int) by omega),if_pos (show (0:Int)≤(i:Int) by omega),e2,e3,e1,if_pos (show (0:Int)≤((2*i:Nat):Int) by omega),if_pos (show ((2*i:Nat):Int)<(s.length:Int) by omega),if_pos (show (0:Int)≤((2*i+1:Nat):Int) by omega),if_pos (show ((2*i+1:Nat):Int)<(s.length:Int) by omega),rdS,rdM]
     refine Ev.bind r2 ?_
     cases h5:r.2.2.2.2 with
     |false=>simp only[Bool.false_eq_true,if_false];exact Ev.now _
     |true=>
      simp only[if_true]
      split
      · exact Ev.now _
      · exact q2
   · intro h j hj1 hj2
     by_cases c:r.2.2.2.2=true
     · rw[if_pos c] at h
       split at h
       · cases h
       · rename_i hne
         rcases Nat.lt_or_ge i j with h6|h6
         · exact q3 h j h6 hj2
         · obtain rfl:j=i:=by omega
           simp only[Bool.or_eq_true,Bool.not_eq_true',beq_eq_false_iff_ne,not_or,Decidable.not_not] at hne
           obtain⟨⟨n1,n2,n3⟩,n4⟩:=hne
           intro y z hyz
           have hx:bS p ⟨(nS s (2*j)).f0,!(nS s (2*j)).f1⟩:=hb
           have:=mem_moved (g:=m4 (nM g j)) (x:=⟨(nS s (2*j)).f0,!(nS s (2*j)).f1⟩) hx hm r2 c (r3 c) hyz
           rw[n1,n2,n3,n4] at this
           have e:memS p ⟨(nS s (2*j)).f0,!(nS s (2*j)).f1⟩ y z=!memS p (nS s (2*j)) y z:=by
              unfold memS;simp only;cases heldB p _ _ _ y z<;>cases (nS s (2*j)).f1<;>rfl
           rw[e] at this
           have e2:memS p (nS s (2*j)) y z=!(!memS p (nS s (2*j)) y z):=by rw[Bool.not_not]
           rw[e2,this]
     · rw[if_neg c] at h;cases h
include hs h4 h2 in
theorem fr_l1 {X:Prop} (i:Nat) (hi:i<s.length) (r:Bool×Int) (hn2:Ev (fun k=>spec_l09Free.l0 k p g s ((i+1:Nat):Int)) r) (hn4:r.1=true→X) (d:Nat):∀j:Nat,j+d=i→∃r:Bool×Int,
    Ev (fun k=>spec_l09Free.l1 k p g s i j) r∧(r.1=true→X):=by
  induction d with
  |zero=>
   intro j hj
   have e1:wrap64 ((i:Int)+1)=((i+1:Nat):Int):=by rw[wid (by omega) (by omega)];omega
   refine⟨r,Ev.up ?_,hn4⟩
   simp only[spec_l09Free.l1,if_neg (show ¬(j:Int)<(i:Int) by omega),e1];exact hn2
  |succ d ih=>
   intro j hj
   have e1:wrap64 ((j:Int)+1)=((j+1:Nat):Int):=by rw[wid (by omega) (by omega)];omega
   obtain⟨q,q2,q4⟩:=ih (j+1) (by omega)
   have bi:=nS_ok hs hi
   have bj:=nS_ok hs (i:=j) (by omega)
   have a2:=spec_l09Apart_ev (o:=(nS s i).f1) (o':=(nS s j).f1) bi bj
   generalize apartW p (nS s i).f0.f0 (nS s i).f0.f1 (nS s i).f0.f2 (nS s i).f1 (nS s j).f0.f0 (nS s j).f0.f1 (nS s j).f0.f2 (nS s j).f1=t at*
   refine⟨if t=true then q else(false,0),Ev.up ?_,fun h=>?_⟩
   rotate_left 1
   · by_cases c:t=true
     · rw[if_pos c] at h;exact q4 h
     · rw[if_neg c] at h;cases h
   · simp only[spec_l09Free.l1,if_pos (show (j:Int)<(i:Int) by omega),if_pos (show (0:Int)≤(j:Int) by omega),if_pos (show (0:Int)≤(i:Int) by omega),if_pos (show (j:Int)<(s.length:Int) by omega),if_pos (show (i:Int)<(s.length:Int) by omega),e1,rdS]
     refine Ev.bind a2 ?_
     split
     · exact q2
     · exact Ev.now _
include hs hg h4 h2 in
theorem fr_l0 (d:Nat):∀i:Nat,i+d=s.length→∃r:Bool×Int,Ev (fun k=>spec_l09Free.l0 k p g s i) r∧(r.1=true→FreeM p g s):=by
  induction d with
  |zero=>
   intro i hi
   obtain⟨r,r2,r3⟩:=fr_l2 hs hg h4 h2 g.length 0 (by omega)
   refine⟨r,Ev.up ?_,fun h j hj=>r3 h j (by omega) hj⟩
   simp only[spec_l09Free.l0,if_neg (show ¬(i:Int)<(s.length:Int) by omega)];exact r2
  |succ d ih=>
   intro i hi
   obtain⟨r,r2,r4⟩:=ih (i+1) (by omega)
   obtain⟨q,q2,q4⟩:=fr_l1 hs h4 h2 i (by omega) r r2 r4 i 0 (by omega)
   refine⟨q,Ev.up ?_,q4⟩
   simp only[spec_l09Free.l0,if_pos (show (i:Int)<(s.length:Int) by omega)]
   exact q2
include hs hg h4 h2 in
theorem fr_free {r:Bool×Int} (h:Ev (fun k=>spec_l09Free.f k p g s) r) (ht:r.1=true):FreeM p g s:=by
  obtain⟨q,q1,q2⟩:=fr_l0 hs hg h4 h2 s.length 0 (by omega)
  have h':Ev (fun k=>spec_l09Free.l0 k p g s 0) r:=h
  obtain rfl:=Ev.det h' q1
  exact q2 ht
end
theorem short_same:∀(k:Nat) (l:List Int) (i:Int),spec_l09Short.l0 k l i=impl_isShort.l0 k l i:=by
  intro k
  induction k with
  |zero=>intro l i;rfl
  |succ k ih=>intro l i;simp only[spec_l09Short.l0,impl_isShort.l0,ih]
theorem short_l (l:List Int) (hl:l.length≤35184372088832) (d:Nat):∀i:Int,1≤i→(l.length:Int) - i≤d→∃r,Ev (fun k=>impl_isShort.l0 k l i) r:=by
  induction d with
  |zero=>intro i h1 hi;exact⟨true,Ev.step (f:=fun _=>some true) (fun k=>by simp only[impl_isShort.l0];rw[if_neg (by omega)]) (Ev.now _)⟩
  |succ d ih=>
   intro i h1 hi
   by_cases h:i<(l.length:Int)
   · by_cases e:rd l i=wrap64 (-(rd l (wrap64 (i - 1))))
     · exact⟨false,Ev.step (f:=fun _=>some false) (fun k=>by
          simp only[impl_isShort.l0]
          rw[if_pos h,if_pos (by omega),if_pos (by rw[wid (by omega) (by omega)];omega),if_pos (by rw[wid (by omega) (by omega)];omega),if_pos e]) (Ev.now _)⟩
     · obtain⟨r,hr⟩:=ih (i+1) (by omega) (by omega)
       refine⟨r,Ev.step (f:=fun k=>impl_isShort.l0 k l (i+1)) (fun k=>?_) hr⟩
       simp only[impl_isShort.l0]
       rw[if_pos h,if_pos (by omega),if_pos (by rw[wid (by omega) (by omega)];omega),if_pos (by rw[wid (by omega) (by omega)];omega),if_neg e,show wrap64 (i+1)=i+1 from wid (by omega) (by omega)]
   · exact⟨true,Ev.step (f:=fun _=>some true) (fun k=>by simp only[impl_isShort.l0];rw[if_neg h]) (Ev.now _)⟩
theorem spec_l04Times_l (a b c d e f g h:Int) (r:Int×Int×Int×Int×Bool) (hr:Ev (fun k=>spec_l04Reduce.f k (mulW a b e g) (mulW a b f h) (mulW c d e g) (mulW c d f h)) r):Ev (fun k=>spec_l04Times.f k a b c d e f g h) r:=by
  have w0:wrap64 1=1:=wid (by omega) (by omega)
  have w1:wrap64 2=2:=wid (by omega) (by omega)
  unfold spec_l04Times.f
  refine Ev.step (f:=fun k=>spec_l04Times.l1 k 0 0 a b c d e f g h 0 0 0 0) (fun k=>by simp[spec_l04Times.l0]) ?_
  refine Ev.step (f:=fun k=>spec_l04Times.l1 k 0 1 a b c d e f g h (mulW a b e g) 0 0 0) (fun k=>by simp[spec_l04Times.l1,w0,mulW]) ?_
  refine Ev.step (f:=fun k=>spec_l04Times.l1 k 0 2 a b c d e f g h (mulW a b e g) (mulW a b f h) 0 0) (fun k=>by simp[spec_l04Times.l1,w1,mulW]) ?_
  refine Ev.step (f:=fun k=>spec_l04Times.l0 k 1 a b c d e f g h (mulW a b e g) (mulW a b f h) 0 0) (fun k=>by simp[spec_l04Times.l1,w0]) ?_
  refine Ev.step (f:=fun k=>spec_l04Times.l1 k 1 0 a b c d e f g h (mulW a b e g) (mulW a b f h) 0 0) (fun k=>by simp[spec_l04Times.l0]) ?_
  refine Ev.step (f:=fun k=>spec_l04Times.l1 k 1 1 a b c d e f g h (mulW a b e g) (mulW a b f h) (mulW c d e g) 0) (fun k=>by simp[spec_l04Times.l1,w0,mulW]) ?_
  refine Ev.step (f:=fun k=>spec_l04Times.l1 k 1 2 a b c d e f g h (mulW a b e g) (mulW a b f h) (mulW c d e g) (mulW c d f h)) (fun k=>by simp[spec_l04Times.l1,w1,mulW]) ?_
  refine Ev.step (f:=fun k=>spec_l04Times.l0 k 2 a b c d e f g h (mulW a b e g) (mulW a b f h) (mulW c d e g) (mulW c d f h)) (fun k=>by simp[spec_l04Times.l1,w1]) ?_
  refine Ev.step (f:=fun k=>(spec_l04Reduce.f k (mulW a b e g) (mulW a b f h) (mulW c d e g) (mulW c d f h)).bind fun t=>some (t.1,t.2.1,t.2.2.1,t.2.2.2.1,t.2.2.2.2)) (fun k=>by simp[spec_l04Times.l0]) ?_
  exact Ev.bind hr (Ev.now _)
theorem spec_l04Times_ev {g h:M4} (hg:g.ok=true) (hh:h.ok=true):Ev (fun k=>spec_l04Times.f k g.a g.b g.c g.d h.a h.b h.c h.d) ((g.mul h).red.a,(g.mul h).red.b,(g.mul h).red.c,(g.mul h).red.d,(g.mul h).red.ok):=by
  obtain⟨g1,g2,g3,g4⟩:=M4.fit_bd (M4.ok_fit hg)
  obtain⟨h1,h2,h3,h4⟩:=M4.fit_bd (M4.ok_fit hh)
  have hdet: (g.mul h).det≠0:=by rw[M4.det_mul];exact Int.mul_ne_zero (M4.ok_det hg) (M4.ok_det hh)
  have m0: (0:Int)≤1000:=by omega
  refine spec_l04Times_l _ _ _ _ _ _ _ _ _ ?_
  rw[mulW_eq m0 (by omega) g1 g2 h1 h3,mulW_eq m0 (by omega) g1 g2 h2 h4,mulW_eq m0 (by omega) g3 g4 h1 h3,mulW_eq m0 (by omega) g3 g4 h2 h4]
  have bd:∀{x y u v:Int},(-1000≤x∧x≤1000)→(-1000≤y∧y≤1000)→(-1000≤u∧u≤1000)→(-1000≤v∧v≤1000)→bd62 (x*u+y*v):=by
    intro x y u v hx hy hu hv
    obtain⟨a1,a2⟩:=mul_bd hx.1 hx.2 hu.1 hu.2 m0 m0
    obtain⟨b1,b2⟩:=mul_bd hy.1 hy.2 hv.1 hv.2 m0 m0
    unfold bd62;omega
  have:=spec_l04Reduce_ev (bd g1 g2 h1 h3) (bd g1 g2 h2 h4) (bd g3 g4 h1 h3) (bd g3 g4 h2 h4) (M4.row_ne hdet)
  rw[M4.ok_of (M4.red_det hdet)]
  exact this
theorem impl_product_l (a b c d e f g h:Int) (r:Int×Int×Int×Int×Bool) (hr:Ev (fun k=>impl_reduced.f k (mulW a b e g) (mulW a b f h) (mulW c d e g) (mulW c d f h)) r):Ev (fun k=>impl_product.f k a b c d e f g h) r:=by
  have w0:wrap64 1=1:=wid (by omega) (by omega)
  have w1:wrap64 2=2:=wid (by omega) (by omega)
  unfold impl_product.f
  refine Ev.step (f:=fun k=>impl_product.l1 k 0 0 0 a b c d e f g h 0 0 0 0) (fun k=>by simp[impl_product.l0]) ?_
  refine Ev.step (f:=fun k=>impl_product.l1 k 0 0 1 a b c d e f g h (mulW a b e g) 0 0 0) (fun k=>by simp[impl_product.l1,w0,mulW]) ?_
  refine Ev.step (f:=fun k=>impl_product.l1 k 0 0 2 a b c d e f g h (mulW a b e g) (mulW a b f h) 0 0) (fun k=>by simp[impl_product.l1,w1,mulW]) ?_
  refine Ev.step (f:=fun k=>impl_product.l0 k 1 a b c d e f g h (mulW a b e g) (mulW a b f h) 0 0) (fun k=>by simp[impl_product.l1,w0]) ?_
  refine Ev.step (f:=fun k=>impl_product.l1 k 1 1 0 a b c d e f g h (mulW a b e g) (mulW a b f h) 0 0) (fun k=>by simp[impl_product.l0]) ?_
  refine Ev.step (f:=fun k=>impl_product.l1 k 1 1 1 a b c d e f g h (mulW a b e g) (mulW a b f h) (mulW c d e g) 0) (fun k=>by simp[impl_product.l1,w0,mulW]) ?_
  refine Ev.step (f:=fun k=>impl_product.l1 k 1 1 2 a b c d e f g h (mulW a b e g) (mulW a b f h) (mulW c d e g) (mulW c d f h)) (fun k=>by simp[impl_product.l1,w1,mulW]) ?_
  refine Ev.step (f:=fun k=>impl_product.l0 k 2 a b c d e f g h (mulW a b e g) (mulW a b f h) (mulW c d e g) (mulW c d f h)) (fun k=>by simp[impl_product.l1,w1]) ?_
  refine Ev.step (f:=fun k=>(impl_reduced.f k (mulW a b e g) (mulW a b f h) (mulW c d e g) (mulW c d f h)).bind fun t=>some (t.1,t.2.1,t.2.2.1,t.2.2.2.1,t.2.2.2.2)) (fun k=>by simp[impl_product.l0]) ?_
  exact Ev.bind hr (Ev.now _)
theorem impl_product_ev {g h:M4} (hg:g.ok=true) (hh:h.ok=true):Ev (fun k=>impl_product.f k g.a g.b g.c g.d h.a h.b h.c h.d) ((g.mul h).red.a,(g.mul h).red.b,(g.mul h).red.c,(g.mul h).red.d,(g.mul h).red.ok):=by
  obtain⟨g1,g2,g3,g4⟩:=M4.fit_bd (M4.ok_fit hg)
  obtain⟨h1,h2,h3,h4⟩:=M4.fit_bd (M4.ok_fit hh)
  have hdet: (g.mul h).det≠0:=by rw[M4.det_mul];exact Int.mul_ne_zero (M4.ok_det hg) (M4.ok_det hh)
  have m0: (0:Int)≤1000:=by omega
  refine impl_product_l _ _ _ _ _ _ _ _ _ ?_
  rw[mulW_eq m0 (by omega) g1 g2 h1 h3,mulW_eq m0 (by omega) g1 g2 h2 h4,mulW_eq m0 (by omega) g3 g4 h1 h3,mulW_eq m0 (by omega) g3 g4 h2 h4]
  have bd:∀{x y u v:Int},(-1000≤x∧x≤1000)→(-1000≤y∧y≤1000)→(-1000≤u∧u≤1000)→(-1000≤v∧v≤1000)→bd62 (x*u+y*v):=by
    intro x y u v hx hy hu hv
    obtain⟨a1,a2⟩:=mul_bd hx.1 hx.2 hu.1 hu.2 m0 m0
    obtain⟨b1,b2⟩:=mul_bd hy.1 hy.2 hv.1 hv.2 m0 m0
    unfold bd62;omega
  have:=impl_reduced_ev (bd g1 g2 h1 h3) (bd g1 g2 h2 h4) (bd g3 g4 h1 h3) (bd g3 g4 h2 h4) (M4.row_ne hdet)
  exact this
theorem one_ok:M4.one.ok=true:=by decide
theorem M4.smul_mul (m:Int) (g h:M4): (g.smul m).mul h=(g.mul h).smul m:=by
  apply M4.ext'<;>simp only[M4.mul,M4.smul,Int.mul_add,Int.mul_assoc]
theorem M4.mul_assoc (g h x:M4): (g.mul h).mul x=g.mul (h.mul x):=by
  apply M4.ext'<;>simp only[M4.mul]<;>grind
theorem M4.one_det:M4.one.det≠0:=by decide
theorem let_move {p L T D:Int} {o:Bool} {l:List S47} {n:Int} (h:ballB p L T D=true) (hok:∀x∈l,(m4 x).ok=true) (hn:letterB (l.length:Int) n=true):∃r:Int×Int×Int×Bool×Bool,
    Ev (fun k=>impl_moveSide.f k p (letW2 l n).a (letW2 l n).b (letW2 l n).c (letW2 l n).d L T D o) r∧Ev (fun k=>spec_l09Move.f k p (letS2 l n).a (letS2 l n).b (letS2 l n).c (letS2 l n).d L T D o) r∧(r.2.2.2.2=true→ballB p r.1 r.2.1 r.2.2.1=true):=by
  simp only[letterB,Bool.and_eq_true,Bool.not_eq_true',beq_eq_false_iff_ne,decide_eq_true_eq] at hn
  unfold letW2 letS2
  by_cases c:n<0
  · simp only[if_pos c]
    exact moveSide_both h (M4.red_ok (adj_ok2 (getD_ok2 hok (-n - 1).toNat (by omega))))
  · simp only[if_neg c]
    have hx:=getD_ok2 hok (n - 1).toNat (by omega)
    generalize m4 (l.getD (n - 1).toNat z47)=g at hx
    have e:=M4.smul_red g
    have:=moveSide_scale (o:=o) (m:=g.by_) h (M4.red_ok hx) (M4.by_ne (M4.ok_det hx)) (by rw[e];exact hx)
    rw[show g.by_*g.red.a=g.a from congrArg M4.a e,show g.by_*g.red.b=g.b from congrArg M4.b e,show g.by_*g.red.c=g.c from congrArg M4.c e,show g.by_*g.red.d=g.d from congrArg M4.d e] at this
    exact this
theorem side_both {s:List S32} {m:Nat} {n:Int} (hn:letterB (m:Int) n=true) (h4:m≤4) (hs:s.length=2*m):∃i,i<s.length∧i=idxL n∧impl_letterSide.f s n=some ((nS s i).f0.f0,(nS s i).f0.f1,(nS s i).f0.f2,(nS s i).f1)∧spec_l09Of.f s n=some ((nS s i).f0.f0,(nS s i).f0.f1,(nS s i).f0.f2,(nS s i).f1):=by
  simp only[letterB,Bool.and_eq_true,Bool.not_eq_true',beq_eq_false_iff_ne,decide_eq_true_eq] at hn
  by_cases c:n<0
  · refine⟨(2*(-n - 1)).toNat,by omega,by unfold idxL;rw[if_pos c],?_,?_⟩
    · unfold impl_letterSide.f
      have e:wrap64 (2*wrap64 (wrap64 (-n) - 1))=(((2*(-n - 1)).toNat:Nat):Int):=by rw[wid (n:= -n) (by omega) (by omega),wid (n:= -n - 1) (by omega) (by omega),wid (by omega) (by omega)];omega
      rw[if_pos c,e,if_pos (by omega),if_pos (by omega)]
      simp only[rdS]
    · unfold spec_l09Of.f
      have e:wrap64 (wrap64 (-2*n) - 2)=(((2*(-n - 1)).toNat:Nat):Int):=by rw[wid (n:= -2*n) (by omega) (by omega),wid (by omega) (by omega)];omega
      rw[if_neg (by omega),e,if_pos (by omega),if_pos (by omega)]
      simp only[rdS]
  · refine⟨(2*n - 1).toNat,by omega,by unfold idxL;rw[if_neg c],?_,?_⟩
    · unfold impl_letterSide.f
      have e:wrap64 (wrap64 (2*wrap64 (n - 1))+1)=(((2*n - 1).toNat:Nat):Int):=by rw[wid (n:=n - 1) (by omega) (by omega),wid (n:=2*(n - 1)) (by omega) (by omega),wid (by omega) (by omega)];omega
      rw[if_neg c,e,if_pos (by omega),if_pos (by omega)]
      simp only[rdS]
    · unfold spec_l09Of.f
      have e:wrap64 (wrap64 (2*n) - 1)=(((2*n - 1).toNat:Nat):Int):=by rw[wid (n:=2*n) (by omega) (by omega),wid (by omega) (by omega)];omega
      rw[if_pos (by omega),e,if_pos (by omega),if_pos (by omega)]
      simp only[rdS]
def wordP (g:List S47) (w:List Int):Nat→M4
  |0=>M4.one
  |n+1=>(wordP g w n).mul (letS2 g (rd w (n:Int)))
theorem wordP_det {g:List S47} {w:List Int} (h4:g.length≤4) (hok:∀x∈g,(m4 x).ok=true) (n:Nat) (hw:∀i,i<n→letterB (g.length:Int) (rd w (i:Int))=true): (wordP g w n).det≠0:=by
  induction n with
  |zero=>exact M4.one_det
  |succ n ih=>
   have h1:=ih fun i hi=>hw i (by omega)
   have h2:=M4.ok_det (let_ok g h4 hok (hw n (by omega))).2.1
   simp only[wordP]
   have: ((wordP g w n).mul (letS2 g (rd w (n:Int)))).det=(wordP g w n).det*(letS2 g (rd w (n:Int))).det:=by simp only[M4.det,M4.mul];grind
   rw[this]
   exact Int.mul_ne_zero h1 h2
theorem wordP_congr {g:List S47} {w v:List Int} (n:Nat) (h:∀i,i<n→rd w (i:Int)=rd v (i:Int)):wordP g w n=wordP g v n:=by
  induction n with
  |zero=>rfl
  |succ n ih=>simp only[wordP];rw[ih fun i hi=>h i (by omega),h n (by omega)]
theorem word_loop {p:Int} {g:List S47} {w:List Int} (h4:g.length≤4) (hok:∀x∈g,(m4 x).ok=true) (hw12:w.length≤12) (hw:∀i,i<w.length→letterB (g.length:Int) (rd w (i:Int))=true) (n:Nat):∀(L T D:Int) (o:Bool),n<w.length→ballB p L T D=true→∃r:Int×Int×Int×Bool×Int,
    Ev (fun k=>impl_SideOfWord.l0 k p g w ((n:Int) - 1) L T D o) r∧Ev (fun k=>spec_SideOfWord.l0 k p g w ((n:Int) - 1) L T D o) r∧
      (r.2.2.2.2=0→ballB p r.1 r.2.1 r.2.2.1=true∧∀y z,(z=0→y≠0)→memS p ⟨⟨L,T,D⟩,o⟩ y z=memS p ⟨⟨r.1,r.2.1,r.2.2.1⟩,r.2.2.2.1⟩ (aY (wordP g w n) y z) (aZ (wordP g w n) y z)):=by
  induction n with
  |zero=>
   intro L T D o _ hb
   refine⟨(L,T,D,o,0),Ev.up ?_,Ev.up ?_,fun _=>⟨hb,fun y z _=>?_⟩⟩
   · simp only[impl_SideOfWord.l0,if_neg (show ¬((0:Nat):Int) - 1≥0 by omega)];exact Ev.now _
   · simp only[spec_SideOfWord.l0,if_neg (show ¬((0:Nat):Int) - 1≥0 by omega)];exact Ev.now _
   · simp only[wordP,aY,aZ,M4.one,Int.one_mul,Int.zero_mul,Int.add_zero,Int.zero_add]
  |succ n ih=>
   intro L T D o hn hb
   have hl:=hw n (by omega)
   obtain⟨r,r1,r2,r3⟩:=let_move (o:=o) hb hok hl
   have e: ((n+1:Nat):Int) - 1=(n:Int):=by omega
   rw[e]
   cases c:r.2.2.2.2 with
   |true=>
    obtain⟨q,q1,q2,q3⟩:=ih r.1 r.2.1 r.2.2.1 r.2.2.2.1 (by omega) (r3 c)
    refine⟨q,Ev.up ?_,Ev.up ?_,fun hq=>⟨(q3 hq).1,fun y z hyz=>?_⟩⟩
    · simp only[impl_SideOfWord.l0,if_pos (show (n:Int)≥0 by omega),if_pos (show (0:Int)≤(n:Int) by omega),if_pos (show (n:Int)<(w.length:Int) by omega)]
      refine Ev.bind (impl_letter_ev g h4 hok hl) (Ev.bind r1 ?_)
      rw[c,wid (n:=(n:Int) - 1) (by omega) (by omega)]
      simp only[if_true]
      exact q1
    · simp only[spec_SideOfWord.l0,if_pos (show (n:Int)≥0 by omega),if_pos (show (0:Int)≤(n:Int) by omega),if_pos (show (n:Int)<(w.length:Int) by omega)]
      refine Ev.bind (spec_letter_ev g h4 hok hl) (Ev.bind r2 ?_)
      rw[c,wid (n:=(n:Int) - 1) (by omega) (by omega)]
      simp only[if_true]
      exact q2
    · have hok2:=(let_ok g h4 hok hl).2.1
      have m1:=mem_moved (g:=letS2 g (rd w (n:Int))) (x:=⟨⟨L,T,D⟩,o⟩) hb hok2 r2 c (r3 c) hyz
      have m2:=(q3 hq).2 _ _ (a_ne (M4.ok_det hok2) hyz)
      rw[m1,m2]
      simp only[wordP]
      rw[(a_mul _ _ y z).1,(a_mul _ _ y z).2]
   |false=>
    refine⟨(0,0,0,false,3),Ev.up ?_,Ev.up ?_,fun h=>absurd h (by decide)⟩
    · simp only[impl_SideOfWord.l0,if_pos (show (n:Int)≥0 by omega),if_pos (show (0:Int)≤(n:Int) by omega),if_pos (show (n:Int)<(w.length:Int) by omega)]
      refine Ev.bind (impl_letter_ev g h4 hok hl) (Ev.bind r1 ?_)
      rw[c]
      simp only[Bool.false_eq_true,if_false]
      exact Ev.now _
    · simp only[spec_SideOfWord.l0,if_pos (show (n:Int)≥0 by omega),if_pos (show (0:Int)≤(n:Int) by omega),if_pos (show (n:Int)<(w.length:Int) by omega)]
      refine Ev.bind (spec_letter_ev g h4 hok hl) (Ev.bind r2 ?_)
      rw[c]
      simp only[Bool.false_eq_true,if_false]
      exact Ev.now _
def shortP (w:List Int):Prop:=∀i:Nat,1≤i→i<w.length→rd w (i:Int)≠ -rd w ((i - 1:Nat):Int)
theorem short_val (w:List Int) (hw:w.length≤12) (hl:∀i,i<w.length→ -4≤rd w (i:Int)∧rd w (i:Int)≤4) (d:Nat):∀i:Nat,1≤i→w.length≤i+d→∃r,Ev (fun k=>impl_isShort.l0 k w i) r∧(r=true↔∀j:Nat,i≤j→j<w.length→rd w (j:Int)≠ -rd w ((j - 1:Nat):Int)):=by
  induction d with
  |zero=>
   intro i h1 h2
   refine⟨true,Ev.up ?_,⟨fun _ j h3 h4=>by omega,fun _=>rfl⟩⟩
   simp only[impl_isShort.l0,if_neg (show ¬(i:Int)<(w.length:Int) by omega)];exact Ev.now _
  |succ d ih=>
   intro i h1 h2
   by_cases hlt:i<w.length
   · obtain⟨r,r1,r2⟩:=ih (i+1) (by omega) (by omega)
     have e1:wrap64 ((i:Int)+1)=((i+1:Nat):Int):=by rw[wid (by omega) (by omega)];omega
     have e2:wrap64 ((i:Int) - 1)=((i - 1:Nat):Int):=by rw[wid (by omega) (by omega)];omega
     have l1:=hl (i - 1) (by omega)
     have e3:wrap64 (-(rd w ((i - 1:Nat):Int)))= -(rd w ((i - 1:Nat):Int)):=wid (by omega) (by omega)
     by_cases hc:rd w (i:Int)= -rd w ((i - 1:Nat):Int)
     · refine⟨false,Ev.up ?_,⟨fun h=>(by cases h),fun h=>absurd hc (h i (Nat.le_refl _) hlt)⟩⟩
       simp only[impl_isShort.l0,if_pos (show (i:Int)<(w.length:Int) by omega),if_pos (show (0:Int)≤(i:Int) by omega),e2,if_pos (show (0:Int)≤((i - 1:Nat):Int) by omega),if_pos (show ((i - 1:Nat):Int)<(w.length:Int) by omega),e3,if_pos hc]
       exact Ev.now _
     · refine⟨r,Ev.up ?_,?_⟩
       · simp only[impl_isShort.l0,if_pos (show (i:Int)<(w.length:Int) by omega),if_pos (show (0:Int)≤(i:Int) by omega),e2,if_pos (show (0:Int)≤((i - 1:Nat):Int) by omega),if_pos (show ((i - 1:Nat):Int)<(w.length:Int) by omega),e3,if_neg hc,e1]
         exact r1
       · rw[r2]
         refine⟨fun h j h3 h4=>?_,fun h j h3 h4=>h j (by omega) h4⟩
         rcases Nat.lt_or_ge i j with h5|h5
         · exact h j h5 h4
         · obtain rfl:j=i:=by omega
           exact hc
   · refine⟨true,Ev.up ?_,⟨fun _ j h3 h4=>by omega,fun _=>rfl⟩⟩
     simp only[impl_isShort.l0,if_neg (show ¬(i:Int)<(w.length:Int) by omega)];exact Ev.now _
structure InfoW (p:Int) (g:List S47) (s:List S32) (w:List Int) (r:Int×Int×Int×Bool×Int):Prop where
  code:freeCodeW p g s=0
  free:FreeM p g s
  apart:∀a b,0≤a→a<s.length→b<a→apW p s a b=true
  word:wordB (g.length:Int) w=true
  short:shortP w
  pos:w.length≠0
  ball:ballB p r.1 r.2.1 r.2.2.1=true
  mem:∀y z,(z=0→y≠0)→memS p (nS s (idxL (rd w ((w.length - 1:Nat):Int)))) y z=memS p ⟨⟨r.1,r.2.1,r.2.2.1⟩,r.2.2.2.1⟩ (aY (wordP g w (w.length - 1)) y z) (aZ (wordP g w (w.length - 1)) y z)
theorem code_parts {p:Int} {g:List S47} {s:List S32} (h:freeCodeW p g s=0):s.all (fun b=>ballB p b.f0.f0 b.f0.f1 b.f0.f2)=true∧(∀x∈g,(m4 x).ok=true)∧(1≤g.length∧g.length≤4)∧s.length=2*g.length:=by
  unfold freeCodeW at h
  by_cases h1: (sideCodeB p s&&g.all (fun x=>(m4 x).ok))=true
  · rw[if_pos h1] at h
    rw[Bool.and_eq_true] at h1
    have h2:=h1.1
    unfold sideCodeB at h2
    rw[Bool.and_eq_true] at h2
    by_cases h3:lenB g s=true
    · unfold lenB at h3
      rw[decide_eq_true_eq] at h3
      exact⟨h2.2,List.all_eq_true.1 h1.2,h3.1,h3.2⟩
    · rw[if_neg h3] at h;omega
  · rw[if_neg h1] at h;omega
end Go.Proofs.YtanckmepopmjkabGreat.Pure
