/- FnParts: for every list of bytes, what is drawn of it meets the law: both texts answer alike, matrices of normal words make of the whole ball where they lead, unit parts are unit matrices, products of both parts are the matrix, and positions are distances; no condition beyond the row's. -/
import Derived.Test.YtblmdppbbdbbjabGreatQPx108
import Derived.Test.YtblmdppbbdbbjabGreatWSized
namespace Go.Proofs.YtblmdppbbdbbjabGreat.PrintWords
open Go.ChangeShapes Go.WideShapes
/-- The name by which the printed row calls the word. -/
theorem sized_ints {H:Type} {enc:TypeId×Value→H} {P:Program} {W:World} {base:Nat} {spare:Nat→Bool} {held:Bool} {t e:TypeId} {k:IntKind} {a:Option Addr} {len cap:Nat} {d:DataW H} {ps:List MemPlace} {ts:List TypeId} {ds:List (DataW H)} {j:Nat}
    (hsz: (DataW.weightsEach P ts ds).all (·≤reachBytes)=true) (ht:ts[j]? =some t) (hd:ds[j]? =some d) (hu:P.underlying t=some (.slice e)) (he:P.underlying e=some (.int k)) (hc:P.cellsOf e=1) {B:Nat} (hB:P.bytesOf e=B)
    (h:DataW.Trod enc P W base spare held t (.slice a len cap) d ps):len*B≤140737488351232:=
  Go.Proofs.YtblmdppbbdbbjabGreatW.PrintWords.sized_ints hsz ht hd hu he hc hB h
end Go.Proofs.YtblmdppbbdbbjabGreat.PrintWords
namespace Go.Proofs.YtblmdppbbdbbjabGreat.Pure
open Go.RowKit Go.Proofs.YtblmdppbbdbbjabGreat.QP Go.Proofs.YtblmdppbbdbbjabGreatW.PrintWords Go.Proofs.YtblmdppbbdbbjabGreatW.PrintLast
set_option linter.unusedVariables false
set_option linter.unusedSimpArgs false
set_option linter.unusedSectionVars false
theorem wid {n:Int} (h0: -9223372036854775808≤n:=by omega) (h1:n≤9223372036854775807:=by omega):wrap64 n=n:=by unfold wrap64;omega
theorem Ev.val {α:Type} {o:Option α} {r:α} (h:o=some r):Ev (fun _=>o) r:=⟨0,fun _ _=>h⟩
theorem Ev.bindv {α β:Type} {o:Option α} {f:Nat→α→Option β} {a:α} {r:β} (h:o=some a) (k:Ev (fun n=>f n a) r):Ev (fun n=>o.bind (f n)) r:=by
  subst h;exact k
def powW (p:Int):Nat→Int→Int
  |0,acc=>acc
  |n+1,acc=>powW p n (wrap64 (acc*p))
def primeB (p:Int):Bool:=p==2||(p==3||(p==5||p==7))
theorem prime_cases {p:Int} (h:primeB p=true):p=2∨p=3∨p=5∨p=7:=by
  simpa [primeB] using h
theorem prime_lo {p:Int} (h:primeB p=true):2≤p:=by rcases prime_cases h with h|h|h|h<;>omega
theorem prime_hi {p:Int} (h:primeB p=true):p≤7:=by rcases prime_cases h with h|h|h|h<;>omega
theorem ipow_pos {p:Int} (hp:1≤p) (n:Nat): (1:Int)≤p^n:=by
  have:=Int.pow_pos (n:=p) (m:=n) (by omega)
  omega
theorem ipow_mono {p:Int} (hp:1≤p) {m n:Nat} (h:m≤n):p^m≤p^n:=by
  obtain⟨d,rfl⟩:∃d,n=m+d:=⟨n - m,by omega⟩
  rw[Int.pow_add]
  have h1:=ipow_pos hp m
  have h2:=ipow_pos hp d
  have:=Int.mul_le_mul_of_nonneg_left h2 (show 0≤p^m by omega)
  rwa [Int.mul_one] at this
theorem powW_fit (p:Int) (hp:1≤p) (n:Nat):∀(acc:Int),0≤acc→acc*p^n≤9223372036854775807→powW p n acc=acc*p^n:=by
  induction n with
  |zero=>intro acc _ _;simp[powW]
  |succ n ih=>
   intro acc h0 h
   have hpn: (1:Int)≤p^n:=ipow_pos hp n
   have e:acc*p^(n+1)=acc*p*p^n:=by rw[Int.pow_succ,Int.mul_comm (p^n) p,←Int.mul_assoc]
   have h1:0≤acc*p:=Int.mul_nonneg h0 (by omega)
   have h2:acc*p≤acc*p*p^n:=by
      have:=Int.mul_le_mul_of_nonneg_left hpn h1
      rwa [Int.mul_one] at this
   simp only[powW]
   rw[wid (by omega) (by omega),ih _ h1 (by omega),e]
theorem pow_le_top {p:Int} (h:primeB p=true) (n:Nat) (hn:n≤22):p^n≤9223372036854775807:=by
  have hp:=prime_lo h
  have h1:p^n≤p^22:=ipow_mono (by omega) hn
  have h2:p^22≤9223372036854775807:=by
    rcases prime_cases h with rfl|rfl|rfl|rfl<;>decide
  omega
theorem powW_prime {p:Int} (h:primeB p=true) (n:Nat) (hn:n≤22):powW p n 1=p^n:=by
  have hp:=prime_lo h
  rw[powW_fit p (by omega) n 1 (by omega) (by rw[Int.one_mul];exact pow_le_top h n hn),Int.one_mul]
def ballB (p L T D:Int):Bool:=
  primeB p&&(decide (-6≤L∧L≤6)&&(decide (0≤D∧D≤6)&&(if L+D≤0 then T==0&&D==0 else decide (0≤T∧T<p^(L+D).toNat)&&(D==0||!(Int.tmod T p==0)))))
def valF (p:Int):Nat→Int→Nat
  |0,_=>0
  |f+1,n=>if n%p=0 then valF p f (n / p)+1 else 0
def val (p n:Int):Nat:=valF p n.natAbs n
theorem valF_spec {p:Int} (hp:2≤p) (f:Nat):∀n:Int,n≠0→n.natAbs≤f→∃u,n=p^(valF p f n)*u∧¬p∣u:=by
  induction f with
  |zero=>intro n h0 hf;omega
  |succ f ih=>
   intro n h0 hf
   unfold valF
   by_cases h:n%p=0
   · rw[if_pos h]
     obtain⟨q,hq⟩:=Int.dvd_of_emod_eq_zero h
     have hq0:q≠0:=by intro e;subst e;simp at hq;exact h0 hq
     have hdiv:n / p=q:=by rw[hq];exact Int.mul_ediv_cancel_left q (by omega)
     rw[hdiv]
     have hlt:q.natAbs≤f:=by
        have:n.natAbs=p.natAbs*q.natAbs:=by rw[hq,Int.natAbs_mul]
        have h2:2*q.natAbs≤p.natAbs*q.natAbs:=Nat.mul_le_mul_right _ (by omega)
        omega
     obtain⟨u,hu,hn⟩:=ih q hq0 hlt
     refine⟨u,?_,hn⟩
     conv=>lhs;rw[hq,hu]
     rw[Int.pow_succ',Int.mul_assoc]
   · rw[if_neg h]
     exact⟨n,by simp,fun hd=>h (Int.emod_eq_zero_of_dvd hd)⟩
theorem val_spec {p n:Int} (hp:2≤p) (h:n≠0):∃u,n=p^(val p n)*u∧¬p∣u:=valF_spec hp _ n h (Nat.le_refl _)
theorem pow_unique {p u u':Int} (hp:2≤p) (hu:¬p∣u) (hu':¬p∣u'):∀(v v':Nat),p^v*u=p^v'*u'→v=v':=by
  have key:∀(v d:Nat) (x x':Int),¬p∣x→p^v*x=p^(v+(d+1))*x'→False:=by
    intro v d x x' hx h
    rw[Int.pow_add,Int.mul_assoc] at h
    have h2:x=p^(d+1)*x':=Int.eq_of_mul_eq_mul_left (Int.pow_ne_zero (by omega)) h
    apply hx
    rw[h2,Int.pow_succ',Int.mul_assoc]
    exact Int.dvd_mul_right _ _
  intro v v' h
  rcases Nat.lt_trichotomy v v' with h1|h1|h1
  · obtain⟨d,rfl⟩:∃d,v'=v+(d+1):=⟨v' - v - 1,by omega⟩
    exact(key v d u u' hu h).elim
  · exact h1
  · obtain⟨d,rfl⟩:∃d,v=v'+(d+1):=⟨v - v' - 1,by omega⟩
    exact(key v' d u' u hu' h.symm).elim
theorem val_eq {p n u:Int} {v:Nat} (hp:2≤p) (h:n=p^v*u) (hu:¬p∣u):val p n=v:=by
  have hn:n≠0:=by
    intro e;rw[e] at h
    rcases Int.mul_eq_zero.1 h.symm with h|h
    · exact Int.pow_ne_zero (by omega) h
    · exact hu (by rw[h];exact Int.dvd_zero p)
  obtain⟨u',h',hu'⟩:=val_spec hp hn
  exact pow_unique hp hu' hu _ _ (h'.symm.trans h)
theorem val_pow_mul {p e:Int} (j:Nat) (hp:2≤p) (he:e≠0):val p (p^j*e)=j+val p e:=by
  obtain⟨u,h,hu⟩:=val_spec hp he
  refine val_eq hp (u:=u) ?_ hu
  conv=>lhs;rw[h]
  rw[Int.pow_add,Int.mul_assoc]
theorem val_dvd {p n:Int} (hp:2≤p) (h:n≠0) (j:Nat):p^j∣n↔j≤val p n:=by
  obtain⟨u,hu,hn⟩:=val_spec hp h
  constructor
  · rintro⟨q,hq⟩
    rcases Nat.lt_or_ge (val p n) j with h1|h1
    · exfalso
      obtain⟨d,hd⟩:∃d,j=val p n+(d+1):=⟨j - val p n - 1,by omega⟩
      have h2:p^(val p n)*u=p^(val p n)*(p^(d+1)*q):=by
        have e:n=p^(val p n)*(p^(d+1)*q):=by rw[←Int.mul_assoc,←Int.pow_add,←hd];exact hq
        exact hu.symm.trans e
      have h3:=Int.eq_of_mul_eq_mul_left (Int.pow_ne_zero (by omega)) h2
      apply hn
      rw[h3,Int.pow_succ',Int.mul_assoc]
      exact Int.dvd_mul_right _ _
    · exact h1
  · intro h1
    obtain⟨d,hd⟩:∃d,val p n=j+d:=⟨val p n - j,by omega⟩
    refine⟨p^d*u,?_⟩
    conv=>lhs;rw[hu,hd,Int.pow_add,Int.mul_assoc]
theorem val_le_of_lt {p n:Int} (hp:2≤p) (h:n≠0) (j:Nat) (hlt:n.natAbs<2^j):val p n<j:=by
  rcases Nat.lt_or_ge (val p n) j with h1|h1
  · exact h1
  · exfalso
    obtain⟨q,hq⟩:=(val_dvd hp h j).2 h1
    have hq0:q≠0:=by intro e;subst e;simp at hq;exact h hq
    have:n.natAbs=p.natAbs^j*q.natAbs:=by rw[hq,Int.natAbs_mul,Int.natAbs_pow]
    have h2:2^j≤p.natAbs^j:=Nat.pow_le_pow_left (by omega) j
    have h3:p.natAbs^j*1≤p.natAbs^j*q.natAbs:=Nat.mul_le_mul_left _ (by omega)
    omega
theorem tdiv_bdv {x M:Int} (g:Int) (hx: -M≤x∧x≤M): -M≤Int.tdiv x g∧Int.tdiv x g≤M:=by
  have:=Int.natAbs_tdiv_le_natAbs x g
  omega
theorem pow_13 {p:Int} (hp:primeB p=true) (n:Nat) (h:n≤12):p^n≤13841287201:=by
  have hp2:=prime_lo hp
  have h1:p^n≤p^12:=ipow_mono (by omega) h
  have h2:p^12≤13841287201:=by rcases prime_cases hp with rfl|rfl|rfl|rfl<;>decide
  omega
theorem pow_6 {p:Int} (hp:primeB p=true) (n:Nat) (h:n≤6):p^n≤117649:=by
  have hp2:=prime_lo hp
  have h1:p^n≤p^6:=ipow_mono (by omega) h
  have h2:p^6≤117649:=by rcases prime_cases hp with rfl|rfl|rfl|rfl<;>decide
  omega
def markOf (p T D:Int):Int:=T*p^(6 - D).toNat
def ofM (p L X:Int):Int×Int×Int:=
  let x:=X%p^(L+6).toNat
  let dn:Int:=if x=0 then 0 else if (val p x:Int)<6 then 6 - val p x else 0
  (L,x / p^(6 - dn).toNat,dn)
theorem ofM_of {p L X T D:Int} (hp:2≤p) (hx:X%p^(L+6).toNat=T*p^(6 - D).toNat) (hD:0≤D∧D≤6) (hu:D=0∨¬p∣T):ofM p L X=(L,T,D):=by
  unfold ofM
  simp only[hx]
  have hpow:∀j:Nat,p^j≠0:=fun j=>Int.pow_ne_zero (by omega)
  by_cases h0:T*p^(6 - D).toNat=0
  · have hT:T=0:=by
      rcases Int.mul_eq_zero.1 h0 with h|h
      · exact h
      · exact absurd h (hpow _)
    have hD0:D=0:=by
      rcases hu with h|h
      · exact h
      · exact absurd (by rw[hT];exact Int.dvd_zero p) h
    subst hT;subst hD0
    simp
  · rw[if_neg h0]
    have hT:T≠0:=by intro e;rw[e] at h0;simp at h0
    have hv:val p (T*p^(6 - D).toNat)=(6 - D).toNat+val p T:=by rw[Int.mul_comm];exact val_pow_mul _ hp hT
    have hdn: (if ((val p (T*p^(6 - D).toNat):Nat):Int)<6 then 6 - ((val p (T*p^(6 - D).toNat):Nat):Int) else 0)=D:=by
      rw[hv]
      rcases hu with h|h
      · rw[if_neg (by omega)];exact h.symm
      · have:val p T=0:=val_eq hp (u:=T) (by simp) h
        rw[this]
        by_cases hd:D=0
        · rw[if_neg (by omega)];exact hd.symm
        · rw[if_pos (by omega)];omega
    rw[hdn,Int.mul_ediv_cancel _ (hpow _)]
theorem ofM_mod (p L X:Int):ofM p L (X%p^(L+6).toNat)=ofM p L X:=by unfold ofM;simp only[Int.emod_emod]
theorem ofM_back {p L X:Int} (hp:2≤p): (ofM p L X).2.1*p^(6 - (ofM p L X).2.2).toNat=X%p^(L+6).toNat∧(0≤(ofM p L X).2.2∧(ofM p L X).2.2≤6)∧((ofM p L X).2.2=0∨¬p∣(ofM p L X).2.1):=by
  unfold ofM
  simp only
  generalize hx:X%p^(L+6).toNat=x
  by_cases h0:x=0
  · rw[if_pos h0];simp[h0]
  · rw[if_neg h0]
    obtain⟨u,hu,hn⟩:=val_spec hp h0
    have hpow:∀j:Nat,p^j≠0:=fun j=>Int.pow_ne_zero (by omega)
    by_cases hv: ((val p x:Nat):Int)<6
    · rw[if_pos hv]
      have e: (6 - (6 - ((val p x:Nat):Int))).toNat=val p x:=by omega
      rw[e]
      have hq:x / p^val p x=u:=by
        conv=>lhs;lhs;rw[hu]
        exact Int.mul_ediv_cancel_left _ (hpow _)
      rw[hq]
      refine⟨?_,by omega,.inr hn⟩
      rw[Int.mul_comm];exact hu.symm
    · rw[if_neg hv]
      refine⟨?_,by omega,.inl rfl⟩
      have hd:p^(6 - (0:Int)).toNat∣x:=(val_dvd hp h0 _).2 (by omega)
      exact Int.ediv_mul_cancel hd
theorem ofM_inj {p L X Y:Int} (hp:2≤p):ofM p L X=ofM p L Y↔X%p^(L+6).toNat=Y%p^(L+6).toNat:=by
  constructor
  · intro h
    rw[←(ofM_back (X:=X) hp).1,←(ofM_back (X:=Y) hp).1,h]
  · intro h
    rw[←ofM_mod p L X,h,ofM_mod]
theorem ball_parts {p L T D:Int} (h:ballB p L T D=true):primeB p=true∧(-6≤L∧L≤6)∧(0≤D∧D≤6)∧(L+D≤0→T=0∧D=0)∧(0<L+D→(0≤T∧T<p^(L+D).toNat)∧(D=0∨¬p∣T)):=by
  unfold ballB at h
  simp only[Bool.and_eq_true,decide_eq_true_eq] at h
  obtain⟨h1,h2,h3,h4⟩:=h
  refine⟨h1,h2,h3,?_,?_⟩
  · intro hn;rw[if_pos hn] at h4;simpa using h4
  · intro hn
    rw[if_neg (by omega)] at h4
    simp only[Bool.and_eq_true,decide_eq_true_eq,Bool.or_eq_true,beq_iff_eq,Bool.not_eq_true',beq_eq_false_iff_ne] at h4
    refine⟨h4.1,?_⟩
    rcases h4.2 with h5|h5
    · exact .inl h5
    · exact .inr (fun hd=>h5 (Int.tmod_eq_zero_of_dvd hd))
theorem mark_lt {p L T D:Int} (h:ballB p L T D=true):0≤markOf p T D∧markOf p T D<p^(L+6).toNat:=by
  obtain⟨hp,hL,hD,h0,h1⟩:=ball_parts h
  have hp2:=prime_lo hp
  unfold markOf
  by_cases hn:L+D≤0
  · rw[(h0 hn).1]
    have:=ipow_pos (p:=p) (by omega) (L+6).toNat
    omega
  · obtain⟨⟨a,b⟩,_⟩:=h1 (by omega)
    have hq:=ipow_pos (p:=p) (by omega) (6 - D).toNat
    refine⟨Int.mul_nonneg a (by omega),?_⟩
    have e:p^(L+6).toNat=p^(L+D).toNat*p^(6 - D).toNat:=by rw[←Int.pow_add];congr 1;omega
    rw[e]
    exact Int.mul_lt_mul_of_pos_right b (by omega)
theorem mark_mod {p L T D:Int} (h:ballB p L T D=true):markOf p T D%p^(L+6).toNat=markOf p T D:=Int.emod_eq_of_lt (mark_lt h).1 (mark_lt h).2
theorem ball_unit {p L T D:Int} (h:ballB p L T D=true):D=0∨¬p∣T:=by
  obtain⟨_,_,_,h0,h1⟩:=ball_parts h
  by_cases hn:L+D≤0
  · exact .inl (h0 hn).2
  · exact(h1 (by omega)).2
theorem ofM_mark {p L T D:Int} (h:ballB p L T D=true):ofM p L (markOf p T D)=(L,T,D):=
  ofM_of (prime_lo (ball_parts h).1) (mark_mod h) (ball_parts h).2.2.1 (ball_unit h)
theorem ofM_ball {p L X:Int} (hp:primeB p=true) (hL: -6≤L∧L≤6):ballB p L (ofM p L X).2.1 (ofM p L X).2.2=true:=by
  have hp2:=prime_lo hp
  obtain⟨hx,hD,hu⟩:=ofM_back (p:=p) (L:=L) (X:=X) hp2
  have hpos:=ipow_pos (p:=p) (by omega) (L+6).toNat
  have hx0:=Int.emod_nonneg X (show p^(L+6).toNat≠0 by omega)
  have hx1:=Int.emod_lt_of_pos X (show 0<p^(L+6).toNat by omega)
  generalize (ofM p L X).2.1=T at*
  generalize (ofM p L X).2.2=D at*
  have hq:=ipow_pos (p:=p) (by omega) (6 - D).toNat
  rw[←hx] at hx0 hx1
  have hT0:0≤T:=by
    rcases Int.lt_or_le T 0 with h|h
    · have:=Int.mul_neg_of_neg_of_pos h (show 0<p^(6 - D).toNat by omega);omega
    · exact h
  unfold ballB
  rw[hp,decide_eq_true hL,decide_eq_true hD,Bool.true_and,Bool.true_and,Bool.true_and]
  by_cases hn:L+D≤0
  · rw[if_pos hn]
    have hT:T=0:=by
      rcases Int.lt_or_eq_of_le hT0 with h|h
      · exfalso
        have e:p^(6 - D).toNat=p^(L+6).toNat*p^(-(L+D)).toNat:=by rw[←Int.pow_add];congr 1;omega
        have h2:=ipow_pos (p:=p) (by omega) (-(L+D)).toNat
        have h3:p^(L+6).toNat*1≤p^(L+6).toNat*p^(-(L+D)).toNat:=Int.mul_le_mul_of_nonneg_left (by omega) (by omega)
        have h4:1*p^(6 - D).toNat≤T*p^(6 - D).toNat:=Int.mul_le_mul_of_nonneg_right (by omega) (by omega)
        omega
      · exact h.symm
    have hD0:D=0:=by
      rcases hu with h|h
      · exact h
      · exact absurd (by rw[hT];exact Int.dvd_zero p) h
    simp[hT,hD0]
  · rw[if_neg hn]
    have hlt:T<p^(L+D).toNat:=by
      have e:p^(L+6).toNat=p^(L+D).toNat*p^(6 - D).toNat:=by rw[←Int.pow_add];congr 1;omega
      rw[e] at hx1
      exact Int.lt_of_mul_lt_mul_right hx1 (by omega)
    rw[decide_eq_true (show 0≤T∧T<p^(L+D).toNat from ⟨hT0,hlt⟩),Bool.true_and]
    rcases hu with h|h
    · simp[h]
    · have: (Int.tmod T p==0)=false:=beq_eq_false_iff_ne.2 (fun e=>h (Int.dvd_of_tmod_eq_zero e))
      simp[this]
theorem ball_num {p L T D:Int} (h:ballB p L T D=true):0≤T∧T≤13841287201:=by
  obtain⟨hp,hL,hD,h0,h1⟩:=ball_parts h
  have hp2:=prime_lo hp
  by_cases hn:L+D≤0
  · rw[(h0 hn).1];omega
  · have:=(h1 (by omega)).1
    have:=pow_13 hp (L+D).toNat (by omega)
    omega
def nearW (p T D n d:Int):Int:=n*p^D.toNat - T*d
def heldB (p L T D n d:Int):Bool:=if d=0 then false else if nearW p T D n d=0 then true else decide (L≤(val p (nearW p T D n d):Int) - val p d - D)
theorem near_mark {p L T D:Int} (n d:Int) (h:ballB p L T D=true):n*p^6 - markOf p T D*d=p^(6 - D).toNat*nearW p T D n d:=by
  obtain⟨_,_,hD,_⟩:=ball_parts h
  unfold nearW markOf
  have e:p^6=p^D.toNat*p^(6 - D).toNat:=by rw[←Int.pow_add];congr 1;omega
  rw[e,Int.mul_sub]
  simp only[Int.mul_assoc,Int.mul_comm,Int.mul_left_comm]
theorem impl_power_l (p N:Int) (hN:N≤9223372036854775807) (n:Nat):∀(acc i:Int),0≤i→(i+n=N∨(n=0∧N≤i))→Ev (fun k=>impl_power.l0 k p acc N i) (powW p n acc):=by
  induction n with
  |zero=>
   intro acc i hi hx
   exact Ev.step (f:=fun _=>some acc) (fun k=>by simp only[impl_power.l0];rw[if_neg (by omega)]) (Ev.now _)
  |succ n ih=>
   intro acc i hi hx
   exact Ev.step (f:=fun k=>impl_power.l0 k p (wrap64 (acc*p)) N (i+1)) (fun k=>by
      simp only[impl_power.l0];rw[if_pos (by omega),show wrap64 (i+1)=i+1 from wid (by omega) (by omega)]) (ih _ (i+1) (by omega) (by omega))
theorem impl_power_ev (p x:Int) (h:x≤9223372036854775807):Ev (fun k=>impl_power.f k p x) (powW p x.toNat 1):=by
  refine Ev.congr (f:=fun k=>impl_power.l0 k p 1 x 0) (fun k=>rfl) (impl_power_l p x h x.toNat 1 0 (by omega) (by omega))
theorem impl_mark_ev {p L T D:Int} (h:ballB p L T D=true):Ev (fun k=>impl_mark.f k p L T D) (markOf p T D):=by
  obtain⟨hp,hL,hD,_,_⟩:=ball_parts h
  have hp2:=prime_lo hp
  obtain⟨m0,m1⟩:=mark_lt h
  have m2:=pow_13 hp (L+6).toNat (by omega)
  unfold impl_mark.f
  rw[wid (n:=6 - D) (by omega) (by omega)]
  refine Ev.bind (impl_power_ev p _ (by omega)) ?_
  rw[powW_prime hp _ (by omega),show T*p^(6 - D).toNat=markOf p T D from rfl,wid (by omega) (by omega)]
  exact Ev.now _
theorem spec_l01Power_l (p:Int) (n:Nat):∀(x acc:Int),(n:Int)≤9223372036854775807→(x=n∨(n=0∧x≤0))→Ev (fun k=>spec_l01Power.l0 k p x acc) (powW p n acc):=by
  induction n with
  |zero=>
   intro x acc _ hx
   exact Ev.step (f:=fun _=>some acc) (fun k=>by simp only[spec_l01Power.l0];rw[if_neg (by omega)]) (Ev.now _)
  |succ n ih=>
   intro x acc hn hx
   have hx':x=n+1:=by omega
   exact Ev.step (f:=fun k=>spec_l01Power.l0 k p n (wrap64 (acc*p))) (fun k=>by
      simp only[spec_l01Power.l0];rw[if_pos (by omega),show wrap64 (x - 1)=(n:Int) from by rw[hx',wid (by omega) (by omega)];omega]) (ih n _ (by omega) (.inl rfl))
theorem spec_l01Power_ev (p x:Int) (h:x≤9223372036854775807):Ev (fun k=>spec_l01Power.f k p x) (powW p x.toNat 1):=by
  refine Ev.congr (f:=fun k=>spec_l01Power.l0 k p x 1) (fun k=>rfl) (spec_l01Power_l p x.toNat x 1 (by omega) (by omega))
theorem spec_l01Val_l (p:Int) (hp:2≤p) (v:Nat):∀(n u acc:Int),n=p^v*u→¬p∣u→n≠0→ -4611686018427387904≤n→n≤4611686018427387904→0≤acc→acc+v≤4611686018427387904→Ev (fun k=>spec_l01Val.l0 k p n acc) (acc+v):=by
  induction v with
  |zero=>
   intro n u acc h hu h0 h1 h2 h3 h4
   refine Ev.step (f:=fun _=>some acc) (fun k=>?_) (by simp;exact Ev.now _)
   simp only[spec_l01Val.l0]
   rw[if_neg (by omega),if_neg]
   intro e
   rw[h] at e
   exact hu (by simpa using Int.dvd_of_tmod_eq_zero e)
  |succ v ih=>
   intro n u acc h hu h0 h1 h2 h3 h4
   have hn:n=p*(p^v*u):=by rw[h,Int.pow_succ',Int.mul_assoc]
   have hm:Int.tmod n p=0:=by rw[hn];exact Int.mul_tmod_right p _
   have hd:Int.tdiv n p=p^v*u:=by rw[hn];exact Int.mul_tdiv_cancel_left _ (by omega)
   have hb:=tdiv_bdv p (show -4611686018427387904≤n∧n≤4611686018427387904 from ⟨h1,h2⟩)
   have hne:p^v*u≠0:=by intro e;rw[e] at hn;simp at hn;exact h0 hn
   refine Ev.step (f:=fun k=>spec_l01Val.l0 k p (p^v*u) (acc+1)) (fun k=>?_) ?_
   · simp only[spec_l01Val.l0]
     rw[if_neg (by omega),if_pos hm,hd]
     rw[hd] at hb
     rw[wid (n:=p^v*u) (by omega) (by omega),wid (n:=acc+1) (by omega) (by omega)]
   · rw[hd] at hb
     have:=ih (p^v*u) u (acc+1) rfl hu hne hb.1 hb.2 (by omega) (by omega)
     rw[show acc+((v+1:Nat):Int)=acc+1+(v:Int) from by omega]
     exact this
theorem spec_l01Val_ev {p n:Int} (hp:2≤p) (h0:n≠0) (h1: -4611686018427387904≤n:=by omega) (h2:n≤4611686018427387904:=by omega):Ev (fun k=>spec_l01Val.f k p n) (val p n:Int):=by
  obtain⟨u,h,hu⟩:=val_spec hp h0
  have hv:=val_le_of_lt hp h0 63 (by omega)
  have:=spec_l01Val_l p hp (val p n) n u 0 h hu h0 h1 h2 (by omega) (by omega)
  rw[Int.zero_add] at this
  unfold spec_l01Val.f
  exact this
theorem tmod_cast {a m:Int} (h:0≤a):Int.tmod a m=a%m:=Int.tmod_eq_emod_of_nonneg h
theorem tdiv_cast {a m:Int} (h:0≤a):Int.tdiv a m=a / m:=Int.tdiv_eq_ediv_of_nonneg h
theorem tmod_lt' {a m:Int} (hm:0<m): -m<Int.tmod a m∧Int.tmod a m<m:=by
  have h1:=Int.natAbs_tmod a m
  have h2:=Nat.mod_lt a.natAbs (show 0<m.natAbs by omega)
  omega
theorem emod_mul_emod' (a b m:Int):a%m*b%m=a*b%m:=by rw[Int.mul_emod (a%m) b m,Int.emod_emod,←Int.mul_emod]
theorem modW {a m:Int} (hm:1≤m) (hm2:m≤2305843009213693952):Int.tmod (wrap64 (Int.tmod a m+m)) m=a%m:=by
  obtain⟨h1,h2⟩:=tmod_lt' (a:=a) (show 0<m by omega)
  rw[wid (by omega) (by omega),tmod_cast (by omega),Int.add_emod_right]
  have e:=Int.tmod_add_mul_tdiv a m
  conv=>rhs;rw[←e,Int.add_mul_emod_self_left]
theorem spec_l01MulMod_eq {a b m:Int} (hm:1≤m) (hm2:m≤100000000000):spec_l01MulMod.f a b m=some (a*b%m):=by
  unfold spec_l01MulMod.f
  rw[if_neg (by omega),modW hm (by omega),modW hm (by omega)]
  have a0:=Int.emod_nonneg a (show m≠0 by omega)
  have a1:=Int.emod_lt_of_pos a (show 0<m by omega)
  have b0:=Int.emod_nonneg b (show m≠0 by omega)
  have b1:=Int.emod_lt_of_pos b (show 0<m by omega)
  have hab:a*b%m=(a%m)*(b%m)%m:=Int.mul_emod a b m
  rw[hab]
  generalize a%m=x at*
  generalize b%m=y at*
  rw[tdiv_cast b0,tmod_cast b0]
  have q0:0≤y / 1000000:=by omega
  have q1:y / 1000000≤100000:=by omega
  have r0:0≤y%1000000:=by omega
  have r1:y%1000000≤1000000:=by omega
  have p0:0≤x*(y / 1000000):=Int.mul_nonneg a0 q0
  have p1:x*(y / 1000000)≤100000000000*100000:=Int.mul_le_mul (by omega) q1 q0 (by omega)
  have s0:0≤x*(y%1000000):=Int.mul_nonneg a0 r0
  have s1:x*(y%1000000)≤100000000000*1000000:=Int.mul_le_mul (by omega) r1 r0 (by omega)
  rw[wid (n:=y / 1000000) (by omega) (by omega),wid (n:=x*(y / 1000000)) (by omega) (by omega),wid (n:=x*(y%1000000)) (by omega) (by omega),tmod_cast p0,tmod_cast s0]
  have t0:=Int.emod_nonneg (x*(y / 1000000)) (show m≠0 by omega)
  have t1:=Int.emod_lt_of_pos (x*(y / 1000000)) (show 0<m by omega)
  rw[wid (n:=x*(y / 1000000)%m*1000000) (by omega) (by omega),tmod_cast (a:=x*(y / 1000000)%m*1000000) (by omega)]
  have u0:=Int.emod_nonneg (x*(y / 1000000)%m*1000000) (show m≠0 by omega)
  have u1:=Int.emod_lt_of_pos (x*(y / 1000000)%m*1000000) (show 0<m by omega)
  have v0:=Int.emod_nonneg (x*(y%1000000)) (show m≠0 by omega)
  have v1:=Int.emod_lt_of_pos (x*(y%1000000)) (show 0<m by omega)
  rw[wid (n:=x*(y / 1000000)%m*1000000%m+x*(y%1000000)%m) (by omega) (by omega),tmod_cast (a:=x*(y / 1000000)%m*1000000%m+x*(y%1000000)%m) (by omega)]
  congr 1
  have e1:x*(y / 1000000)%m*1000000%m=x*(y / 1000000)*1000000%m:=by rw[emod_mul_emod']
  rw[e1,←Int.add_emod]
  congr 1
  rw[Int.mul_assoc,←Int.mul_add]
  congr 1
  omega
theorem spec_l01InvMod_one {m:Int} (hm:2≤m) (hm2:m≤100000000000):Ev (fun k=>spec_l01InvMod.f k 1 m) 1:=by
  have h1:Int.tmod (wrap64 (Int.tmod 1 m+m)) m=1:=by rw[modW (by omega) (by omega)];exact Int.emod_eq_of_lt (by omega) (by omega)
  refine Ev.congr (f:=fun k=>spec_l01InvMod.l0 k m 1 m 1 0) (fun k=>by unfold spec_l01InvMod.f;rw[if_neg (by omega),h1]) ?_
  have q0:Int.tdiv 1 m=0:=by rw[tdiv_cast (by omega)];exact Int.ediv_eq_zero_of_lt (by omega) (by omega)
  have q1:Int.tdiv m 1=m:=Int.tdiv_one m
  have z0:wrap64 0=0:=wid (by omega) (by omega)
  have z1:wrap64 1=1:=wid (by omega) (by omega)
  refine Ev.step (f:=fun k=>spec_l01InvMod.l0 k m m 1 0 1) (fun k=>?_) ?_
  · simp only[spec_l01InvMod.l0]
    rw[if_neg (by omega),q0,z0,Int.zero_mul,z0,Int.sub_zero,z1,Int.mul_zero,z0,Int.sub_zero,z1]
  refine Ev.step (f:=fun k=>spec_l01InvMod.l0 k m 1 0 1 (-m)) (fun k=>?_) ?_
  · simp only[spec_l01InvMod.l0]
    rw[if_neg (by omega),q1,wid (n:=m) (by omega) (by omega),Int.mul_one,wid (n:=m) (by omega) (by omega),Int.sub_self,z0,Int.zero_sub,wid (n:= -m) (by omega) (by omega)]
  refine Ev.step (f:=fun _=>some 1) (fun k=>?_) (Ev.now _)
  simp only[spec_l01InvMod.l0]
  rw[if_pos trivial,if_neg (by omega),h1]
theorem In_eq (a b c:Int):spec_l01In.f a b c=some (decide (b≤a∧a≤c)):=by
  unfold spec_l01In.f
  by_cases h:a≥b
  · rw[if_pos h];congr 1;exact decide_eq_decide.2 ⟨fun h2=>⟨h,h2⟩,fun h2=>h2.2⟩
  · rw[if_neg h];congr 1;exact(decide_eq_false (fun h2=>h h2.1)).symm
theorem mx_abs (a:Int) (h: -9223372036854775807≤a) (h2:a≤9223372036854775807):mx a (wrap64 (-a))=(a.natAbs:Int):=by
  rw[wid (by omega) (by omega)];unfold mx;split<;>omega
theorem mx_eq (a b:Int):mx a b=if a<b then b else a:=rfl
theorem spec_l01Of_pow {p num L:Int} (D:Nat) (hp:primeB p=true) (hD:D≤6) (h1: -1152921504606846976≤num) (h2:num≤1152921504606846976) (hL: -6≤L∧L≤6):
    Ev (fun k=>spec_l01Of.f k p num (p^D) L) ((ofM p L (num*p^(6 - D))).1,(ofM p L (num*p^(6 - D))).2.1,(ofM p L (num*p^(6 - D))).2.2,true):=by
  have hp2:=prime_lo hp
  have hpow:∀j:Nat,p^j≠0:=fun j=>Int.pow_ne_zero (by omega)
  have hpD:=pow_13 hp D (by omega)
  have hpD1:=ipow_pos (p:=p) (by omega) D
  unfold spec_l01Of.f
  refine Ev.bindv (In_eq _ _ _) ?_
  rw[decide_eq_true hL]
  simp only[if_true]
  by_cases h0:num=0
  · simp only[if_pos h0]
    have e:ofM p L (num*p^(6 - D))=(L,0,0):=by
      rw[h0,Int.zero_mul];exact ofM_of hp2 (by simp) (by omega) (.inl rfl)
    rw[e];exact Ev.now _
  simp only[if_neg h0]
  have hvD:val p (p^D)=D:=val_eq hp2 (u:=1) (by simp) (fun h=>by have:=Int.le_of_dvd (by omega) h;omega)
  have hv60:=val_le_of_lt hp2 h0 61 (by omega)
  refine Ev.bind (spec_l01Val_ev hp2 h0 (by omega) (by omega)) (Ev.bind (spec_l01Val_ev hp2 (hpow D) (by omega) (by omega)) ?_)
  rw[hvD]
  obtain⟨u,hu,hn⟩:=val_spec hp2 h0
  generalize hv:val p num=v at*
  rw[wid (n:=(v:Int) - (D:Int)) (by omega) (by omega),wid (n:=(D:Int) - (v:Int)) (by omega) (by omega)]
  have hX:num*p^(6 - D)=p^(v+(6 - D))*u:=by
    rw[hu,Int.pow_add,Int.mul_assoc,Int.mul_assoc,Int.mul_comm u]
  by_cases hle:L≤(v:Int) - (D:Int)
  · simp only[if_pos hle]
    have e:ofM p L (num*p^(6 - D))=(L,0,0):=by
      refine ofM_of hp2 ?_ (by omega) (.inl rfl)
      rw[hX,Int.zero_mul,show v+(6 - D)=(L+6).toNat+(v+(6 - D) - (L+6).toNat) from by omega,Int.pow_add,Int.mul_assoc]
      exact Int.mul_emod_right _ _
    rw[e];exact Ev.now _
  simp only[if_neg hle]
  obtain⟨dn,hdn⟩:∃dn:Nat,(dn:Int)=mx ((D:Int) - (v:Int)) 0:=⟨D - v,by rw[mx_eq];split<;>omega⟩
  have hdn2: (dn:Int)=if (D:Int) - v<0 then 0 else(D:Int) - v:=by rw[hdn,mx_eq]
  rw[←hdn]
  have hdn6:dn≤D:=by split at hdn2<;>omega
  have hmp:1≤L+dn:=by split at hdn2<;>omega
  have hmp2: (L+dn).toNat≤12:=by omega
  simp only[if_neg (show ¬(dn:Int)>6 by omega)]
  rw[wid (n:=L+(dn:Int)) (by omega) (by omega)]
  refine Ev.bind (spec_l01Power_ev p (L+dn) (by omega)) ?_
  rw[powW_prime hp _ (by omega)]
  have hu0:u≠0:=by intro e;rw[e] at hn;exact hn (Int.dvd_zero p)
  have hpv1:=ipow_pos (p:=p) (by omega) v
  have hpv:p^v≤1152921504606846976:=by
    have:num.natAbs=(p^v).natAbs*u.natAbs:=by rw[←Int.natAbs_mul,←hu]
    have h3: (p^v).natAbs*1≤(p^v).natAbs*u.natAbs:=Nat.mul_le_mul_left _ (by omega)
    omega
  have hub: -1152921504606846976≤u∧u≤1152921504606846976:=by
    have:num.natAbs=(p^v).natAbs*u.natAbs:=by rw[←Int.natAbs_mul,←hu]
    have h3:1*u.natAbs≤(p^v).natAbs*u.natAbs:=Nat.mul_le_mul_right _ (by omega)
    omega
  have pv:powW p v 1=p^v:=by rw[powW_fit p (by omega) v 1 (by omega) (by omega),Int.one_mul]
  refine Ev.bind (spec_l01Power_ev p v (by omega)) ?_
  rw[Int.toNat_natCast,pv]
  simp only[if_neg (hpow v)]
  refine Ev.bind (spec_l01Power_ev p D (by omega)) ?_
  rw[Int.toNat_natCast,powW_prime hp D (by omega)]
  simp only[if_neg (hpow D)]
  rw[Int.tdiv_self (hpow D),show wrap64 1=1 from wid (by omega) (by omega)]
  have hm1:p^(L+(dn:Int)).toNat≤13841287201:=pow_13 hp _ hmp2
  have hm0:2≤p^(L+(dn:Int)).toNat:=by
    have:=ipow_mono (p:=p) (by omega) (show 1≤(L+(dn:Int)).toNat by omega)
    rw[Int.pow_one] at this;omega
  refine Ev.bind (spec_l01InvMod_one hm0 (by omega)) ?_
  have hq:Int.tdiv num (p^v)=u:=by
    conv=>lhs;lhs;rw[hu]
    exact Int.mul_tdiv_cancel_left _ (hpow v)
  rw[hq,wid (n:=u) (by omega) (by omega)]
  refine Ev.bindv (spec_l01MulMod_eq (by omega) (by omega)) ?_
  rw[Int.mul_one]
  obtain⟨e,he⟩:∃e:Nat,(e:Int)=mx ((v:Int) - (D:Int)) 0:=⟨v - D,by rw[mx_eq];split<;>omega⟩
  have he2: (e:Int)=if (v:Int) - D<0 then 0 else(v:Int) - D:=by rw[he,mx_eq]
  rw[←he]
  have hev:e≤v:=by split at he2<;>omega
  have hpe:p^e≤p^v:=ipow_mono (by omega) hev
  refine Ev.bind (spec_l01Power_ev p e (by omega)) ?_
  rw[Int.toNat_natCast,powW_fit p (by omega) e 1 (by omega) (by omega),Int.one_mul]
  refine Ev.bindv (spec_l01MulMod_eq (by omega) (by omega)) ?_
  have hT:u%p^(L+(dn:Int)).toNat*p^e%p^(L+(dn:Int)).toNat=u*p^e%p^(L+(dn:Int)).toNat:=by rw[emod_mul_emod']
  rw[hT]
  have hexp:v+(6 - D)=(6 - (dn:Int)).toNat+e:=by split at hdn2<;>split at he2<;>omega
  have hexp2: (L+6).toNat=(6 - (dn:Int)).toNat+(L+(dn:Int)).toNat:=by omega
  have key:ofM p L (num*p^(6 - D))=(L,u*p^e%p^(L+(dn:Int)).toNat,(dn:Int)):=by
    refine ofM_of hp2 ?_ (by omega) ?_
    · rw[hX,hexp,hexp2,Int.pow_add,Int.pow_add,Int.mul_assoc,Int.mul_emod_mul_of_pos _ _ (Int.lt_of_lt_of_le (by omega) (ipow_pos (p:=p) (by omega) _)),Int.mul_comm (p^e) u,Int.mul_comm]
    · by_cases hz:dn=0
      · left;omega
      · right
        have e0:e=0:=by split at hdn2<;>split at he2<;>omega
        rw[e0,Int.pow_zero,Int.mul_one]
        intro hd
        apply hn
        have hpm:p∣p^(L+(dn:Int)).toNat:=by
          obtain⟨j,hj⟩:∃j,(L+(dn:Int)).toNat=j+1:=⟨(L+(dn:Int)).toNat - 1,by omega⟩
          rw[hj,Int.pow_succ'];exact Int.dvd_mul_right _ _
        have:=Int.dvd_add hd (Int.dvd_trans hpm (Int.dvd_mul_right (p^(L+(dn:Int)).toNat) (u / p^(L+(dn:Int)).toNat)))
        rwa [Int.emod_add_mul_ediv] at this
  rw[key]
  exact Ev.now _
theorem spec_l01Of_out {p num den L:Int} (hL:¬(-6≤L∧L≤6)):Ev (fun k=>spec_l01Of.f k p num den L) (0,0,0,false):=by
  unfold spec_l01Of.f
  refine Ev.bindv (In_eq _ _ _) ?_
  rw[decide_eq_false hL]
  simp only[Bool.false_eq_true,if_false]
  exact Ev.now _
theorem Ev.up {α:Type} {g:Nat→Option α} {r:α} (h:Ev (fun k=>g (k+1)) r):Ev g r:=Ev.step (f:=fun k=>g (k+1)) (fun _=>rfl) h
theorem gcd_step (a b:Int) (h:b≠0):Int.gcd b (Int.tmod a b)=Int.gcd a b:=by
  unfold Int.gcd
  rw[Int.natAbs_tmod,Nat.gcd_comm a.natAbs b.natAbs]
  conv=>rhs;rw[Nat.gcd_rec]
  rw[Nat.gcd_comm]
def isInv (d m w:Int):Prop:=0≤w∧w<m∧∃k,w*d+k*m=1
structure Eu (d m a b x y:Int):Prop where
  e1:∃k,a=x*d+k*m
  e2:∃k,b=y*d+k*m
  e3:0≤a
  e4:0≤b
  e5:Int.gcd a b=1
  e6: (0≤x∧y≤0∧x*b - y*a=m)∨(x≤0∧0≤y∧y*a - x*b=m)
theorem eu_init {d m:Int} (hm:1≤m) (h:Int.gcd d m=1):Eu d m (d%m) m 1 0:=by
  refine⟨⟨-(d / m),?_⟩,⟨1,by omega⟩,Int.emod_nonneg d (by omega),by omega,?_,.inl ⟨by omega,by omega,by omega⟩⟩
  · have:=Int.emod_add_mul_ediv d m
    rw[Int.neg_mul,Int.mul_comm (d / m)];omega
  · have e:d%m=d+m*(-(d / m)):=by have:=Int.emod_add_mul_ediv d m;rw[Int.mul_neg];omega
    rw[e,Int.gcd_add_mul_left_left];exact h
theorem eu_bd {d m a b x y:Int} (I:Eu d m a b x y) (hm:1≤m): (b≠0→ -m≤x∧x≤m)∧(a≠0→ -m≤y∧y≤m):=by
  obtain⟨e1,e2,e3,e4,e5,e6⟩:=I
  have s:∀z c:Int,0≤z→1≤c→z≤z*c:=fun z c hz hc=>by
    have:=Int.mul_le_mul_of_nonneg_left hc hz;omega
  rcases e6 with ⟨h1,h2,h3⟩|⟨h1,h2,h3⟩
  · have p1:=Int.mul_nonneg h1 e4
    have p2:=Int.mul_nonneg (show 0≤ -y by omega) e3
    rw[Int.neg_mul] at p2
    refine⟨fun hb=>?_,fun ha=>?_⟩
    · have:=s x b h1 (by omega);omega
    · have:=s (-y) a (by omega) (by omega);rw[Int.neg_mul] at this;omega
  · have p1:=Int.mul_nonneg h2 e3
    have p2:=Int.mul_nonneg (show 0≤ -x by omega) e4
    rw[Int.neg_mul] at p2
    refine⟨fun hb=>?_,fun ha=>?_⟩
    · have:=s (-x) b (by omega) (by omega);rw[Int.neg_mul] at this;omega
    · have:=s y a h2 (by omega);omega
theorem eu_step {d m a b x y:Int} (I:Eu d m a b x y) (hb:b≠0):Eu d m b (a - a / b*b) y (x - a / b*y):=by
  obtain⟨⟨k1,e1⟩,⟨k2,e2⟩,e3,e4,e5,e6⟩:=I
  have hr:a - a / b*b=a%b:=by have:=Int.emod_add_mul_ediv a b;rw[Int.mul_comm] at this;omega
  have hq:=Int.ediv_nonneg e3 e4
  refine⟨⟨k2,e2⟩,⟨k1 - a / b*k2,?_⟩,e4,?_,?_,?_⟩
  · generalize a / b=q at*;subst e1;subst e2;grind
  · rw[hr];exact Int.emod_nonneg a hb
  · rw[hr,←tmod_cast e3,gcd_step a b hb];exact e5
  · generalize a / b=q at*
    rcases e6 with ⟨h1,h2,h3⟩|⟨h1,h2,h3⟩
    · have p:=Int.mul_nonneg hq (show 0≤ -y by omega)
      rw[Int.mul_neg] at p
      exact .inr ⟨h2,by omega,by grind⟩
    · have p:=Int.mul_nonneg hq h2
      exact .inl ⟨h2,by omega,by grind⟩
theorem eu_end {d m a x y:Int} (I:Eu d m a 0 x y) (hm:1≤m):isInv d m (x%m):=by
  obtain⟨⟨k1,e1⟩,e2,e3,e4,e5,e6⟩:=I
  have ha:a=1:=by rw[Int.gcd_zero_right] at e5;omega
  refine⟨Int.emod_nonneg x (by omega),Int.emod_lt_of_pos x (by omega),k1+x / m*d,?_⟩
  have:=Int.emod_add_mul_ediv x m
  generalize x / m=q at*
  generalize x%m=r at*
  subst this
  grind
theorem eu_loop (g:Nat→Int→Int→Int→Int→Option Int) {d m:Int} (hm:1≤m) (hm2:m≤100000000000)
    (hstep:∀k a b x y,b≠0→g (k+1) a b x y=g k b (wrap64 (a - wrap64 (wrap64 (Int.tdiv a b)*b))) y (wrap64 (x - wrap64 (wrap64 (Int.tdiv a b)*y))))
    (hend:∀k a x y,g (k+1) a 0 x y=some (x%m)) (n:Nat):∀a b x y,Eu d m a b x y→a≤m→b≤m→b<n→∃w,Ev (fun k=>g k a b x y) w∧isInv d m w:=by
  induction n with
  |zero=>intro a b x y I h1 h2 h3;have:=I.e4;omega
  |succ n ih=>
   intro a b x y I h1 h2 h3
   by_cases hb:b=0
   · subst hb
     exact⟨x%m,Ev.step (f:=fun _=>some (x%m)) (fun k=>hend k a x y) (Ev.now _),eu_end I hm⟩
   · have I':=eu_step I hb
     have hr:a - a / b*b=a%b:=by have:=Int.emod_add_mul_ediv a b;rw[Int.mul_comm] at this;omega
     have hlt:=Int.emod_lt_of_pos a (show 0<b by have:=I.e4;omega)
     have hge:=Int.emod_nonneg a hb
     have e3:=I.e3
     have e4:=I.e4
     obtain⟨w,hw,hi⟩:=ih _ _ _ _ I' h2 (by omega) (by omega)
     refine⟨w,?_,hi⟩
     have bx:=(eu_bd I hm).1 hb
     have by':=(eu_bd I' hm).2 hb
     have hq0:=Int.ediv_nonneg e3 e4
     have hq1:=Int.ediv_le_self b e3
     refine Ev.step (fun k=>hstep k a b x y hb) ?_
     have c1:wrap64 (Int.tdiv a b)=a / b:=by rw[tdiv_cast e3];exact wid (by omega) (by omega)
     have c2:wrap64 (a / b*b)=a / b*b:=wid (by omega) (by omega)
     have c3:wrap64 (a / b*y)=a / b*y:=wid (by omega) (by omega)
     rw[c1,c2,c3,wid (n:=a - a / b*b) (by omega) (by omega),wid (n:=x - a / b*y) (by omega) (by omega)]
     exact hw
theorem impl_isLevel_eq (L:Int):impl_isLevel.f L=some (decide (-6≤L∧L≤6)):=by
  unfold impl_isLevel.f
  by_cases h:L≥ -6
  · rw[if_pos h];congr 1;exact decide_eq_decide.2 ⟨fun h2=>⟨h,h2⟩,fun h2=>h2.2⟩
  · rw[if_neg h];congr 1;exact(decide_eq_false (fun h2=>h h2.1)).symm
theorem impl_valuation_l (p:Int) (hp:2≤p) (v:Nat):∀(n u acc:Int),n=p^v*u→¬p∣u→n≠0→ -4611686018427387904≤n→n≤4611686018427387904→0≤acc→acc+v≤4611686018427387904→Ev (fun k=>impl_valuation.l0 k p n acc) (acc+v):=by
  induction v with
  |zero=>
   intro n u acc h hu h0 h1 h2 h3 h4
   refine Ev.step (f:=fun _=>some acc) (fun k=>?_) (by simp;exact Ev.now _)
   simp only[impl_valuation.l0]
   rw[if_neg (by omega),if_neg]
   intro e
   rw[h] at e
   exact hu (by simpa using Int.dvd_of_tmod_eq_zero e)
  |succ v ih=>
   intro n u acc h hu h0 h1 h2 h3 h4
   have hn:n=p*(p^v*u):=by rw[h,Int.pow_succ',Int.mul_assoc]
   have hm:Int.tmod n p=0:=by rw[hn];exact Int.mul_tmod_right p _
   have hd:Int.tdiv n p=p^v*u:=by rw[hn];exact Int.mul_tdiv_cancel_left _ (by omega)
   have hb:=tdiv_bdv p (show -4611686018427387904≤n∧n≤4611686018427387904 from ⟨h1,h2⟩)
   have hne:p^v*u≠0:=by intro e;rw[e] at hn;simp at hn;exact h0 hn
   refine Ev.step (f:=fun k=>impl_valuation.l0 k p (p^v*u) (acc+1)) (fun k=>?_) ?_
   · simp only[impl_valuation.l0]
     rw[if_neg (by omega),if_pos hm,hd]
     rw[hd] at hb
     rw[wid (n:=p^v*u) (by omega) (by omega),wid (n:=acc+1) (by omega) (by omega)]
   · rw[hd] at hb
     have:=ih (p^v*u) u (acc+1) rfl hu hne hb.1 hb.2 (by omega) (by omega)
     rw[show acc+((v+1:Nat):Int)=acc+1+(v:Int) from by omega]
     exact this
def valW (p n:Int):Int:=if n=0 then 1000 else val p n
theorem impl_valuation_ev {p n:Int} (hp:2≤p) (h1: -4611686018427387904≤n:=by omega) (h2:n≤4611686018427387904:=by omega):Ev (fun k=>impl_valuation.f k p n) (valW p n):=by
  unfold impl_valuation.f valW
  by_cases h0:n=0
  · simp only[if_pos h0];exact Ev.now _
  · simp only[if_neg h0]
    obtain⟨u,h,hu⟩:=val_spec hp h0
    have hv:=val_le_of_lt hp h0 63 (by omega)
    have:=impl_valuation_l p hp (val p n) n u 0 h hu h0 h1 h2 (by omega) (by omega)
    rw[Int.zero_add] at this
    exact this
theorem impl_mod_eq {a m:Int} (hm:1≤m) (hm2:m≤2305843009213693952):impl_mod.f a m=some (a%m):=by
  unfold impl_mod.f
  rw[if_neg (by omega),modW hm hm2]
theorem impl_ofMark_ev {p L x:Int} (hp:primeB p=true) (hL: -6≤L∧L≤6):Ev (fun k=>impl_ofMark.f k p L x) ((ofM p L x).1,(ofM p L x).2.1,(ofM p L x).2.2,true):=by
  have hp2:=prime_lo hp
  unfold impl_ofMark.f
  refine Ev.bindv (impl_isLevel_eq L) ?_
  rw[decide_eq_true hL]
  simp only[if_true]
  rw[wid (n:=L+6) (by omega) (by omega)]
  refine Ev.bind (impl_power_ev p (L+6) (by omega)) ?_
  rw[powW_prime hp _ (by omega)]
  have m1:=ipow_pos (p:=p) (by omega) (L+6).toNat
  have m2:=pow_13 hp (L+6).toNat (by omega)
  refine Ev.bindv (impl_mod_eq m1 (by omega)) ?_
  have x0:=Int.emod_nonneg x (show p^(L+6).toNat≠0 by omega)
  have x1:=Int.emod_lt_of_pos x (show 0<p^(L+6).toNat by omega)
  refine Ev.bind (impl_valuation_ev hp2 (by omega) (by omega)) ?_
  have hv:valW p (x%p^(L+6).toNat)≤1000∧0≤valW p (x%p^(L+6).toNat):=by
    unfold valW
    split
    · omega
    · rename_i h0
      have:=val_le_of_lt hp2 h0 62 (by omega)
      omega
  have hdn:mx (wrap64 (6 - valW p (x%p^(L+6).toNat))) 0=(ofM p L x).2.2:=by
    rw[wid (n:=6 - valW p (x%p^(L+6).toNat)) (by omega) (by omega)]
    unfold ofM valW mx
    simp only
    by_cases h0:x%p^(L+6).toNat=0
    · rw[if_pos h0,if_pos h0];rfl
    · rw[if_neg h0,if_neg h0]
      by_cases h6: ((val p (x%p^(L+6).toNat):Nat):Int)<6
      · rw[if_neg (by omega),if_pos h6]
      · rw[if_neg h6];split<;>omega
  rw[hdn]
  obtain⟨_,hD,_⟩:=ofM_back (p:=p) (L:=L) (X:=x) hp2
  rw[wid (n:=6 - (ofM p L x).2.2) (by omega) (by omega)]
  refine Ev.bind (impl_power_ev p _ (by omega)) ?_
  rw[powW_prime hp _ (by omega)]
  have q1:=ipow_pos (p:=p) (by omega) (6 - (ofM p L x).2.2).toNat
  simp only[if_neg (show ¬p^(6 - (ofM p L x).2.2).toNat=0 by omega)]
  rw[tdiv_cast x0]
  have hT:x%p^(L+6).toNat / p^(6 - (ofM p L x).2.2).toNat=(ofM p L x).2.1:=rfl
  have d0:=Int.ediv_nonneg x0 (show 0≤p^(6 - (ofM p L x).2.2).toNat by omega)
  have d1:=Int.ediv_le_self (p^(6 - (ofM p L x).2.2).toNat) x0
  rw[wid (n:=x%p^(L+6).toNat / p^(6 - (ofM p L x).2.2).toNat) (by omega) (by omega),hT]
  exact Ev.now _
theorem impl_ofMark_out {p L x:Int} (hL:¬(-6≤L∧L≤6)):Ev (fun k=>impl_ofMark.f k p L x) (0,0,0,false):=by
  unfold impl_ofMark.f
  refine Ev.bindv (impl_isLevel_eq L) ?_
  rw[decide_eq_false hL]
  simp only[Bool.false_eq_true,if_false]
  exact Ev.now _
theorem impl_inverse_ev {d m:Int} (hm:1≤m) (hm2:m≤100000000000) (hg:Int.gcd d m=1):∃w,Ev (fun k=>impl_inverse.f k d m) w∧isInv d m w:=by
  have m1:=Int.emod_lt_of_pos d (show 0<m by omega)
  obtain⟨w,h,i⟩:=eu_loop (fun k a b x y=>impl_inverse.l0 k m a b x y) (d:=d) hm hm2
    (fun k a b x y hb=>by simp only[impl_inverse.l0];rw[if_neg hb])
    (fun k a x y=>by simp only[impl_inverse.l0,if_true];rw[impl_mod_eq hm (by omega)];rfl)
    (m.toNat+1) _ _ _ _ (eu_init hm hg) (by omega) (by omega) (by omega)
  refine⟨w,?_,i⟩
  unfold impl_inverse.f
  exact Ev.bindv (impl_mod_eq hm (by omega)) h
theorem spec_l01InvMod_ev {d m:Int} (hm:1≤m) (hm2:m≤100000000000) (hg:Int.gcd d m=1):∃w,Ev (fun k=>spec_l01InvMod.f k d m) w∧isInv d m w:=by
  have m1:=Int.emod_lt_of_pos d (show 0<m by omega)
  obtain⟨w,h,i⟩:=eu_loop (fun k a b x y=>spec_l01InvMod.l0 k m a b x y) (d:=d) hm hm2
    (fun k a b x y hb=>by simp only[spec_l01InvMod.l0];rw[if_neg hb])
    (fun k a x y=>by simp only[spec_l01InvMod.l0,if_true];rw[if_neg (by omega),modW hm (by omega)])
    (m.toNat+1) _ _ _ _ (eu_init hm hg) (by omega) (by omega) (by omega)
  refine⟨w,?_,i⟩
  refine Ev.congr (f:=fun k=>spec_l01InvMod.l0 k m (d%m) m 1 0) (fun k=>?_) h
  unfold spec_l01InvMod.f
  rw[if_neg (by omega),modW hm (by omega)]
theorem pd_fin:∀q:Fin 8,(q.val=2∨q.val=3∨q.val=5∨q.val=7)→∀g:Fin 8,g.val∣q.val→g.val=1∨g.val=q.val:=by decide
theorem gcd_unit {p u:Int} (hp:primeB p=true) (hu:¬p∣u) (K:Nat):Int.gcd u (p^K)=1:=by
  obtain⟨q,rfl⟩:∃q:Nat,p=(q:Int):=⟨p.toNat,by have:=prime_lo hp;omega⟩
  have hq:q=2∨q=3∨q=5∨q=7:=by have:=prime_cases hp;omega
  have h1:Nat.Coprime u.natAbs q:=by
    have hd:=Nat.gcd_dvd_right u.natAbs q
    have hle:=Nat.le_of_dvd (by omega) hd
    have:=pd_fin ⟨q,by omega⟩ hq ⟨Nat.gcd u.natAbs q,by omega⟩ hd
    rcases this with h|h
    · exact h
    · exfalso
      apply hu
      have h2:Nat.gcd u.natAbs q∣u.natAbs:=Nat.gcd_dvd_left _ _
      have h':Nat.gcd u.natAbs q=q:=h
      rw[h'] at h2
      exact Int.natAbs_dvd_natAbs.1 (by rw[Int.natAbs_natCast];exact h2)
  have h2:=Nat.Coprime.pow_right K h1
  show Nat.gcd u.natAbs ((q:Int)^K).natAbs=1
  rw[Int.natAbs_pow]
  exact h2
structure Kn (y1 y0 u v:Int):Prop where
  k1:2147483648≤y1
  k2:y1<4294967296
  k3:0≤y0
  k4:y0<4294967296
  k5:0≤u
  k6:u<y1*4294967296+y0
  k7:0≤v
  k8:v<4294967296
def knQ (y1 y0 u v:Int):Int:=(u*4294967296+v) / (y1*4294967296+y0)
theorem knQ_spec {y1 y0 u v:Int} (K:Kn y1 y0 u v):knQ y1 y0 u v*y1*4294967296+knQ y1 y0 u v*y0≤u*4294967296+v∧u*4294967296+v<knQ y1 y0 u v*y1*4294967296+knQ y1 y0 u v*y0+(y1*4294967296+y0)∧0≤knQ y1 y0 u v∧knQ y1 y0 u v<4294967296:=by
  obtain⟨k1,k2,k3,k4,k5,k6,k7,k8⟩:=K
  have h:=Int.emod_add_mul_ediv (u*4294967296+v) (y1*4294967296+y0)
  have h0:=Int.emod_nonneg (u*4294967296+v) (show y1*4294967296+y0≠0 by omega)
  have h1:=Int.emod_lt_of_pos (u*4294967296+v) (show 0<y1*4294967296+y0 by omega)
  have h2:=Int.ediv_nonneg (show 0≤u*4294967296+v by omega) (show 0≤y1*4294967296+y0 by omega)
  have h3: (u*4294967296+v) / (y1*4294967296+y0)<4294967296:=Int.ediv_lt_of_lt_mul (by omega) (by omega)
  unfold knQ
  generalize (u*4294967296+v) / (y1*4294967296+y0)=Q at*
  have e: (y1*4294967296+y0)*Q=Q*y1*4294967296+Q*y0:=by rw[Int.mul_comm,Int.mul_add,←Int.mul_assoc]
  rw[e] at h
  refine⟨by omega,by omega,h2,h3⟩
structure KnI (y1 y0 u v q r:Int):Prop where
  i1:q*y1+r=u
  i2:0≤r
  i3:r<4294967296
  i4:knQ y1 y0 u v≤q
  i5:q≤4294967297
theorem kn_mul {y1 y0 a b:Int} (h:a≤b) (h1:0≤y1) (h0:0≤y0):a*y1≤b*y1∧a*y0≤b*y0:=⟨Int.mul_le_mul_of_nonneg_right h h1,Int.mul_le_mul_of_nonneg_right h h0⟩
theorem kn_init {y1 y0 u v:Int} (K:Kn y1 y0 u v):KnI y1 y0 u v (u / y1) (u - u / y1*y1):=by
  obtain⟨q1,q2,q3,q4⟩:=knQ_spec K
  obtain⟨k1,k2,k3,k4,k5,k6,k7,k8⟩:=K
  have h:=Int.emod_add_mul_ediv u y1
  have h0:=Int.emod_nonneg u (show y1≠0 by omega)
  have h1:=Int.emod_lt_of_pos u (show 0<y1 by omega)
  have hz:=Int.mul_nonneg q3 k3
  have e:y1*(u / y1)=u / y1*y1:=Int.mul_comm _ _
  rw[e] at h
  refine⟨by omega,by omega,by omega,Int.le_ediv_of_mul_le (by omega) (by omega),?_⟩
  have:u / y1<4294967298:=Int.ediv_lt_of_lt_mul (by omega) (by omega)
  omega
theorem kn_stop {y1 y0 u v q r:Int} (K:Kn y1 y0 u v) (I:KnI y1 y0 u v q r) (hc:q*y0≤4294967296*r+v):q=knQ y1 y0 u v:=by
  obtain⟨q1,q2,q3,q4⟩:=knQ_spec K
  obtain⟨k1,k2,k3,k4,k5,k6,k7,k8⟩:=K
  obtain⟨i1,i2,i3,i4,i5⟩:=I
  rcases Int.lt_or_le (knQ y1 y0 u v) q with h|h
  · exfalso
    obtain⟨m1,m2⟩:=kn_mul (show knQ y1 y0 u v+1≤q by omega) (show 0≤y1 by omega) k3
    rw[Int.add_mul,Int.one_mul] at m1 m2
    omega
  · omega
theorem kn_down {y1 y0 u v q r:Int} (K:Kn y1 y0 u v) (I:KnI y1 y0 u v q r) (hc:q≥4294967296∨q*y0>4294967296*r+v):knQ y1 y0 u v≤q - 1∧(q - 1)*y1+(r+y1)=u:=by
  obtain⟨q1,q2,q3,q4⟩:=knQ_spec K
  obtain⟨k1,k2,k3,k4,k5,k6,k7,k8⟩:=K
  obtain⟨i1,i2,i3,i4,i5⟩:=I
  rw[Int.sub_mul,Int.one_mul]
  refine⟨?_,by omega⟩
  rcases hc with hc|hc
  · omega
  · rcases Int.lt_or_le (knQ y1 y0 u v) q with h|h
    · omega
    · exfalso
      obtain⟨m1,m2⟩:=kn_mul h (show 0≤y1 by omega) k3
      omega
theorem kn_break {y1 y0 u v q r:Int} (K:Kn y1 y0 u v) (I:KnI y1 y0 u v q r) (hc:q≥4294967296∨q*y0>4294967296*r+v) (hr:r+y1≥4294967296):q - 1=knQ y1 y0 u v:=by
  obtain⟨d1,d2⟩:=kn_down K I hc
  obtain⟨q1,q2,q3,q4⟩:=knQ_spec K
  obtain⟨k1,k2,k3,k4,k5,k6,k7,k8⟩:=K
  obtain⟨i1,i2,i3,i4,i5⟩:=I
  obtain⟨-,m2⟩:=kn_mul (show q - 1≤4294967296 by omega) (show 0≤y1 by omega) k3
  rcases Int.lt_or_le (knQ y1 y0 u v) (q - 1) with h|h
  · exfalso
    obtain⟨n1,n2⟩:=kn_mul (show knQ y1 y0 u v+1≤q - 1 by omega) (show 0≤y1 by omega) k3
    rw[Int.add_mul,Int.one_mul] at n1 n2
    omega
  · omega
theorem kn_next {y1 y0 u v q r:Int} (K:Kn y1 y0 u v) (I:KnI y1 y0 u v q r) (hc:q≥4294967296∨q*y0>4294967296*r+v) (hr:¬r+y1≥4294967296):KnI y1 y0 u v (q - 1) (r+y1):=by
  obtain⟨d1,d2⟩:=kn_down K I hc
  obtain⟨k1,k2,k3,k4,k5,k6,k7,k8⟩:=K
  obtain⟨i1,i2,i3,i4,i5⟩:=I
  exact⟨d2,by omega,by omega,d1,by omega⟩
theorem kn_size {y1 y0 u v q r:Int} (K:Kn y1 y0 u v) (I:KnI y1 y0 u v q r):0≤q∧0≤4294967296*r+v∧4294967296*r+v<18446744073709551616∧0≤q*y0∧(q<4294967296→q*y0<18446744073709551616):=by
  obtain⟨q1,q2,q3,q4⟩:=knQ_spec K
  obtain⟨k1,k2,k3,k4,k5,k6,k7,k8⟩:=K
  obtain⟨i1,i2,i3,i4,i5⟩:=I
  refine⟨by omega,by omega,by omega,Int.mul_nonneg (by omega) k3,fun h=>?_⟩
  have:=Int.mul_le_mul_of_nonneg_right (show q≤4294967296 by omega) k3
  omega
theorem kn_rem {y1 y0 u v:Int}:u*4294967296+v - knQ y1 y0 u v*(y1*4294967296+y0)=(u*4294967296+v)%(y1*4294967296+y0):=by
  have h:=Int.emod_add_mul_ediv (u*4294967296+v) (y1*4294967296+y0)
  unfold knQ
  rw[Int.mul_comm (y1*4294967296+y0)] at h
  omega
theorem wu {n:Int} (h0:0≤n) (h1:n<18446744073709551616):IntKind.u64.wrap n=n:=by rw[IntKind.wrap_u64];omega
theorem len8_fin:∀n:Fin 256,n.val≠0→∃l:Fin 9,bt (⟨#[0,1,2,2,3,3,3,3,4,4,4,4,4,4,4,4,5,5,5,5,5,5,5,5,5,5,5,5,5,5,5,5,6,6,6,6,6,6,6,6,6,6,6,6,6,6,6,6,6,6,6,6,6,6,6,6,6,6,6,6,6,6,6,6,7,7,7,7,7,7,7,7,7,7,7,7,7,7,7,7,7,7,7,7,7,7,7,7,7,7,7,7,7,7,7,7,7,7,7,7,7,7,7,7,7,7,7,7,7,7,7,7,7,7,7,7,7,7,7,7,7,7,7,7,7,7,7,7,8,8,8,8,8,8,8,8,8,8,8,8,8,8,8,8,8,8,8,8,8,8,8,8,8,8,8,8,8,8,8,8,8,8,8,8,8,8,8,8,8,8,8,8,8,8,8,8,8,8,8,8,8,8,8,8,8,8,8,8,8,8,8,8,8,8,8,8,8,8,8,8,8,8,8,8,8,8,8,8,8,8,8,8,8,8,8,8,8,8,8,8,8,8,8,8,8,8,8,8,8,8,8,8,8,8,8,8,8,8,8,8,8,8,8,8,8,8,8,8,8,8,8,8,8,8,8,8]⟩:ByteArray) ((n.val:Nat):Int)=(l.val:Int)∧1≤l.val∧2^(l.val - 1)≤n.val∧n.val<2^l.val:=by decide+kernel
theorem len8_t (n:Int) (h0:1≤n) (h1:n<256):∃l:Nat,bt (⟨#[0,1,2,2,3,3,3,3,4,4,4,4,4,4,4,4,5,5,5,5,5,5,5,5,5,5,5,5,5,5,5,5,6,6,6,6,6,6,6,6,6,6,6,6,6,6,6,6,6,6,6,6,6,6,6,6,6,6,6,6,6,6,6,6,7,7,7,7,7,7,7,7,7,7,7,7,7,7,7,7,7,7,7,7,7,7,7,7,7,7,7,7,7,7,7,7,7,7,7,7,7,7,7,7,7,7,7,7,7,7,7,7,7,7,7,7,7,7,7,7,7,7,7,7,7,7,7,7,8,8,8,8,8,8,8,8,8,8,8,8,8,8,8,8,8,8,8,8,8,8,8,8,8,8,8,8,8,8,8,8,8,8,8,8,8,8,8,8,8,8,8,8,8,8,8,8,8,8,8,8,8,8,8,8,8,8,8,8,8,8,8,8,8,8,8,8,8,8,8,8,8,8,8,8,8,8,8,8,8,8,8,8,8,8,8,8,8,8,8,8,8,8,8,8,8,8,8,8,8,8,8,8,8,8,8,8,8,8,8,8,8,8,8,8,8,8,8,8,8,8,8,8,8,8,8,8]⟩:ByteArray) n=(l:Int)∧1≤l∧l≤8∧(2:Int)^(l - 1)≤n∧n<(2:Int)^l:=by
  obtain⟨m,rfl⟩:∃m:Nat,n=(m:Int):=⟨n.toNat,by omega⟩
  obtain⟨l,hl,a,b,c⟩:=len8_fin ⟨m,by omega⟩ (by show m≠0;omega)
  refine⟨l.val,hl,a,by omega,?_,?_⟩
  · have: ((2^(l.val - 1):Nat):Int)≤(m:Int):=by exact_mod_cast b
    rwa [Int.natCast_pow] at this
  · have: (m:Int)<((2^l.val:Nat):Int):=by exact_mod_cast c
    rwa [Int.natCast_pow] at this
def isLen (y:Int) (L:Nat):Prop:=1≤L∧(2:Int)^(L - 1)≤y∧y<(2:Int)^L
theorem len_up {y C:Int} (c:Nat) (hC:C=2^c) {l:Nat} (h:isLen (y / C) l):isLen y (c+l):=by
  obtain⟨h1,h2,h3⟩:=h
  have hc: (0:Int)<2^c:=Int.pow_pos (by omega)
  subst hC
  refine⟨by omega,?_,?_⟩
  · rw[show c+l - 1=(l - 1)+c from by omega,Int.pow_add]
    exact Int.mul_le_of_le_ediv hc h2
  · rw[Nat.add_comm,Int.pow_add]
    exact Int.lt_mul_of_ediv_lt hc h3
theorem Len64_j {x c:Int} (h0:1≤x) (h1:x<4294967296) (hc:0≤c∧c≤32):∃l:Nat,Ev (fun k=>bits_Len64.j0 k x c) (c+l)∧isLen x l∧l≤32:=by
  by_cases a:x≥65536
  · by_cases b:x / 65536≥256
    · obtain⟨l,hl,p1,p2,p3,p4⟩:=len8_t (x / 65536 / 256%256) (by omega) (by omega)
      rw[Int.emod_eq_of_lt (show 0≤x / 65536 / 256 by omega) (by omega)] at p3 p4
      refine⟨16+(8+l),?_,len_up 16 rfl (len_up 8 rfl ⟨p1,p3,p4⟩),by omega⟩
      refine Ev.step (f:=fun _=>some (c+((16+(8+l):Nat):Int))) (fun k=>?_) (Ev.now _)
      rw[bits_Len64.j0.eq_2]
      rw[if_pos a,if_pos b,if_pos (by omega),if_pos (by omega),hl,wid (n:=(l:Int)) (by omega) (by omega),wid (n:=c+16) (by omega) (by omega),wid (n:=c+16+8) (by omega) (by omega),wid (n:=c+16+8+(l:Int)) (by omega) (by omega)]
      exact congrArg some (by clear hl;omega)
    · obtain⟨l,hl,p1,p2,p3,p4⟩:=len8_t (x / 65536%256) (by omega) (by omega)
      rw[Int.emod_eq_of_lt (show 0≤x / 65536 by omega) (by omega)] at p3 p4
      refine⟨16+l,?_,len_up 16 rfl ⟨p1,p3,p4⟩,by omega⟩
      refine Ev.step (f:=fun _=>some (c+((16+l:Nat):Int))) (fun k=>?_) (Ev.now _)
      rw[bits_Len64.j0.eq_2]
      rw[if_pos a,if_neg b,if_pos (by omega),if_pos (by omega),hl,wid (n:=(l:Int)) (by omega) (by omega),wid (n:=c+16) (by omega) (by omega),wid (n:=c+16+(l:Int)) (by omega) (by omega)]
      exact congrArg some (by clear hl;omega)
  · by_cases b:x≥256
    · obtain⟨l,hl,p1,p2,p3,p4⟩:=len8_t (x / 256%256) (by omega) (by omega)
      rw[Int.emod_eq_of_lt (show 0≤x / 256 by omega) (by omega)] at p3 p4
      refine⟨8+l,?_,len_up 8 rfl ⟨p1,p3,p4⟩,by omega⟩
      refine Ev.step (f:=fun _=>some (c+((8+l:Nat):Int))) (fun k=>?_) (Ev.now _)
      rw[bits_Len64.j0.eq_2]
      rw[if_neg a,if_pos b,if_pos (by omega),if_pos (by omega),hl,wid (n:=(l:Int)) (by omega) (by omega),wid (n:=c+8) (by omega) (by omega),wid (n:=c+8+(l:Int)) (by omega) (by omega)]
      exact congrArg some (by clear hl;omega)
    · obtain⟨l,hl,p1,p2,p3,p4⟩:=len8_t (x%256) (by omega) (by omega)
      rw[Int.emod_eq_of_lt (show 0≤x by omega) (by omega)] at p3 p4
      refine⟨l,?_,⟨p1,p3,p4⟩,by omega⟩
      refine Ev.step (f:=fun _=>some (c+(l:Int))) (fun k=>?_) (Ev.now _)
      rw[bits_Len64.j0.eq_2]
      rw[if_neg a,if_neg b,if_pos (by omega),if_pos (by omega),hl,wid (n:=(l:Int)) (by omega) (by omega),wid (n:=c+(l:Int)) (by omega) (by omega)]
theorem Len64_ev {y:Int} (h0:1≤y) (h1:y<18446744073709551616):∃L:Nat,Ev (fun k=>bits_Len64.f k y) (L:Int)∧isLen y L∧L≤64:=by
  unfold bits_Len64.f
  by_cases a:y≥4294967296
  · obtain⟨l,e,i,b⟩:=Len64_j (x:=y / 4294967296) (c:=32) (by omega) (by omega) (by omega)
    refine⟨32+l,?_,len_up 32 rfl i,by omega⟩
    simp only[if_pos a]
    exact e
  · obtain⟨l,e,i,b⟩:=Len64_j (x:=y) (c:=0) (by omega) (by omega) (by omega)
    refine⟨l,?_,i,by omega⟩
    simp only[if_neg a]
    rw[Int.zero_add] at e
    exact e
theorem LeadingZeros64_ev {y:Int} (h0:1≤y) (h1:y<18446744073709551616):∃s:Nat,Ev (fun k=>bits_LeadingZeros64.f k y) (s:Int)∧s≤63∧9223372036854775808≤y*2^s∧y*2^s<18446744073709551616:=by
  obtain⟨L,e,⟨i1,i2,i3⟩,b⟩:=Len64_ev h0 h1
  have hs: (0:Int)<2^(64 - L):=Int.pow_pos (by omega)
  refine⟨64 - L,?_,by omega,?_,?_⟩
  · unfold bits_LeadingZeros64.f
    refine Ev.bind e ?_
    rw[wid (n:=64 - (L:Int)) (by omega) (by omega),show 64 - (L:Int)=((64 - L:Nat):Int) from by omega]
    exact Ev.now _
  · have:=Int.mul_le_mul_of_nonneg_right i2 (Int.le_of_lt hs)
    rw[←Int.pow_add,show L - 1+(64 - L)=63 from by omega] at this
    exact this
  · have:=Int.mul_lt_mul_of_pos_right i3 hs
    rw[←Int.pow_add,show L+(64 - L)=64 from by omega] at this
    exact this
theorem maskU {n:Int} (h0:0≤n) (h1:n<18446744073709551616):Go.bits .and .u64 n 4294967295=n%4294967296:=by
  obtain⟨m,rfl⟩:∃m:Nat,n=(m:Int):=⟨n.toNat,by omega⟩
  have h:=Go.bits_and_u64_nat m 4294967295 (by omega) (by omega)
  have e:m &&& 4294967295=m%4294967296:=Nat.and_two_pow_sub_one_eq_mod m 32
  rw[e] at h
  rw[show ((4294967295:Nat):Int)=4294967295 from rfl] at h
  rw[h];omega
theorem orU {a b:Int} (s:Nat) (ha:0≤a) (hb:0≤b) (hb1:b<2^s) (h1:a*2^s+b<18446744073709551616):Go.bits .or .u64 (a*2^s) b=a*2^s+b:=by
  obtain⟨m,rfl⟩:∃m:Nat,a=(m:Int):=⟨a.toNat,by omega⟩
  obtain⟨n,rfl⟩:∃n:Nat,b=(n:Int):=⟨b.toNat,by omega⟩
  have e0: (m:Int)*2^s=((2^s*m:Nat):Int):=by rw[Int.natCast_mul,Int.natCast_pow,Int.mul_comm];rfl
  rw[e0] at h1⊢
  have hn:n<2^s:=by have: (n:Int)<((2^s:Nat):Int):=by rw[Int.natCast_pow];exact hb1
                    omega
  rw[Go.bits_or_u64_nat _ _ (by omega) (by omega),←Nat.two_pow_add_eq_or_of_lt hn]
  omega
theorem shlU {x:Int} (s:Nat) (hs:s≤63):shl .u64 x (s:Int)=x*2^s%18446744073709551616:=by
  unfold shl
  rw[IntKind.wrap_u64,Int.toNat_natCast,Nat.min_eq_left (show s≤IntKind.u64.bits from by show s≤64;omega)]
theorem shrU {x:Int} (s:Nat) (hs:s≤64):shr .u64 x (s:Int)=x / 2^s:=by
  unfold shr
  rw[Int.toNat_natCast,Nat.min_eq_left (show s≤IntKind.u64.bits from hs)]
theorem Div64_l0 {y1 y0 u v y s w:Int} {r:Int×Int} (K:Kn y1 y0 u v) (hj:Ev (fun k=>bits_Div64.j2 k y s y1 y0 u v w (knQ y1 y0 u v)) r) (n:Nat):∀q h,(4294967296 - h).toNat<n→KnI y1 y0 u v q h→Ev (fun k=>bits_Div64.l0 k y s y1 y0 u v w q h) r:=by
  induction n with
  |zero=>intro q h hn;omega
  |succ n ih=>
   intro q h hn I
   obtain⟨s1,s2,s3,s4,s5⟩:=kn_size K I
   have j:∀b:Bool,(b=true↔(q≥4294967296∨q*y0>4294967296*h+v))→Ev (fun k=>bits_Div64.j1 k y s y1 y0 u v w q h b) r:=by
      intro b hb
      cases b with
      |true=>
       have hc:=hb.1 rfl
       obtain⟨d1,d2⟩:=kn_down K I hc
       have i2:=I.i2;have i3:=I.i3;have i5:=I.i5;have k1:=K.k1;have k2:=K.k2
       obtain⟨-, -,z1, -⟩:=knQ_spec K
       by_cases hr:h+y1≥4294967296
       · refine Ev.step (f:=fun k=>bits_Div64.j2 k y s y1 y0 u v w (knQ y1 y0 u v)) (fun k=>?_) hj
         rw[bits_Div64.j1,if_pos rfl,wu (n:=h+y1) (by omega) (by omega),if_pos hr,wu (n:=q - 1) (by omega) (by omega),kn_break K I hc hr]
       · refine Ev.step (f:=fun k=>bits_Div64.l0 k y s y1 y0 u v w (q - 1) (h+y1)) (fun k=>?_) (ih _ _ (by omega) (kn_next K I hc hr))
         rw[bits_Div64.j1,if_pos rfl,wu (n:=h+y1) (by omega) (by omega),if_neg hr,wu (n:=q - 1) (by omega) (by omega)]
      |false=>
       have hc:¬(q≥4294967296∨q*y0>4294967296*h+v):=fun h=>by have:=hb.2 h;simp at this
       refine Ev.step (f:=fun k=>bits_Div64.j2 k y s y1 y0 u v w (knQ y1 y0 u v)) (fun k=>?_) hj
       rw[bits_Div64.j1,if_neg (by simp),kn_stop K I (by omega)]
   by_cases hq:q≥4294967296
   · refine Ev.step (f:=fun k=>bits_Div64.j1 k y s y1 y0 u v w q h true) (fun k=>?_) (j true ⟨fun _=> .inl hq,fun _=>rfl⟩)
     rw[bits_Div64.l0,if_pos hq]
   · have s6:=s5 (by omega)
     have i2:=I.i2;have i3:=I.i3;have k7:=K.k7
     refine Ev.step (f:=fun k=>bits_Div64.j1 k y s y1 y0 u v w q h (decide (q*y0>4294967296*h+v))) (fun k=>?_) (j _ ⟨fun h=> .inr (of_decide_eq_true h),fun h=>decide_eq_true (h.resolve_left hq)⟩)
     rw[bits_Div64.l0,if_neg hq,wu (n:=q*y0) (by omega) (by omega),wu (n:=4294967296*h) (by omega) (by omega),wu (n:=4294967296*h+v) (by omega) (by omega)]
theorem Div64_l1 {y1 y0 u v y s q1:Int} (K:Kn y1 y0 u v) (hy:y=y1*4294967296+y0) (hs:0≤s) (n:Nat):∀q h,(4294967296 - h).toNat<n→KnI y1 y0 u v q h→Ev (fun k=>bits_Div64.l1 k y s y1 y0 v q1 h u q) (IntKind.u64.wrap (IntKind.u64.wrap (q1*4294967296)+knQ y1 y0 u v),shr .u64 ((u*4294967296+v)%y) s):=by
  induction n with
  |zero=>intro q h hn;omega
  |succ n ih=>
   intro q h hn I
   obtain⟨s1,s2,s3,s4,s5⟩:=kn_size K I
   have k1:=K.k1;have k2:=K.k2;have k3:=K.k3;have k4:=K.k4;have k5:=K.k5;have k7:=K.k7;have k8:=K.k8
   have fin:IntKind.u64.wrap (IntKind.u64.wrap (IntKind.u64.wrap (u*4294967296)+v) - IntKind.u64.wrap (knQ y1 y0 u v*y))=(u*4294967296+v)%y:=by
      have e:=kn_rem (y1:=y1) (y0:=y0) (u:=u) (v:=v)
      rw[←hy] at e
      have h0:=Int.emod_nonneg (u*4294967296+v) (show y≠0 by omega)
      have h1:=Int.emod_lt_of_pos (u*4294967296+v) (show 0<y by omega)
      simp only[IntKind.wrap_u64]
      omega
   have j:∀b:Bool,(b=true↔(q≥4294967296∨q*y0>4294967296*h+v))→Ev (fun k=>bits_Div64.j4 k y s y1 y0 v q1 h u q b) (IntKind.u64.wrap (IntKind.u64.wrap (q1*4294967296)+knQ y1 y0 u v),shr .u64 ((u*4294967296+v)%y) s):=by
      intro b hb
      cases b with
      |true=>
       have hc:=hb.1 rfl
       obtain⟨d1,d2⟩:=kn_down K I hc
       have i2:=I.i2;have i3:=I.i3;have i5:=I.i5
       obtain⟨-, -,z1, -⟩:=knQ_spec K
       by_cases hr:h+y1≥4294967296
       · refine Ev.step (f:=fun _=>some (IntKind.u64.wrap (IntKind.u64.wrap (q1*4294967296)+knQ y1 y0 u v),shr .u64 ((u*4294967296+v)%y) s)) (fun k=>?_) (Ev.now _)
         rw[bits_Div64.j4,if_pos rfl,wu (n:=h+y1) (by omega) (by omega),if_pos hr,if_pos hs,wu (n:=q - 1) (by omega) (by omega),kn_break K I hc hr,fin]
       · refine Ev.step (f:=fun k=>bits_Div64.l1 k y s y1 y0 v q1 (h+y1) u (q - 1)) (fun k=>?_) (ih _ _ (by omega) (kn_next K I hc hr))
         rw[bits_Div64.j4,if_pos rfl,wu (n:=h+y1) (by omega) (by omega),if_neg hr,wu (n:=q - 1) (by omega) (by omega)]
      |false=>
       have hc:¬(q≥4294967296∨q*y0>4294967296*h+v):=fun h=>by have:=hb.2 h;simp at this
       refine Ev.step (f:=fun _=>some (IntKind.u64.wrap (IntKind.u64.wrap (q1*4294967296)+knQ y1 y0 u v),shr .u64 ((u*4294967296+v)%y) s)) (fun k=>?_) (Ev.now _)
       rw[bits_Div64.j4,if_neg (by simp),if_pos hs,kn_stop K I (by omega),fin]
   by_cases hq:q≥4294967296
   · refine Ev.step (f:=fun k=>bits_Div64.j4 k y s y1 y0 v q1 h u q true) (fun k=>?_) (j true ⟨fun _=> .inl hq,fun _=>rfl⟩)
     rw[bits_Div64.l1,if_pos hq]
   · have s6:=s5 (by omega)
     have i2:=I.i2;have i3:=I.i3
     refine Ev.step (f:=fun k=>bits_Div64.j4 k y s y1 y0 v q1 h u q (decide (q*y0>4294967296*h+v))) (fun k=>?_) (j _ ⟨fun h=> .inr (of_decide_eq_true h),fun h=>decide_eq_true (h.resolve_left hq)⟩)
     rw[bits_Div64.l1,if_neg hq,wu (n:=q*y0) (by omega) (by omega),wu (n:=4294967296*h) (by omega) (by omega),wu (n:=4294967296*h+v) (by omega) (by omega)]
theorem Div64_ev {hi lo y:Int} (h0:0≤hi) (h1:hi<y) (h2:y<18446744073709551616) (l0:0≤lo) (l1:lo<18446744073709551616):∃q,Ev (fun k=>bits_Div64.f k hi lo y) (q,(hi*18446744073709551616+lo)%y):=by
  unfold bits_Div64.f
  simp only[if_neg (show ¬y=0 by omega),if_neg (show ¬y≤hi by omega)]
  by_cases hz:hi=0
  · subst hz
    simp only[if_true]
    rw[tmod_cast l0,Int.zero_mul,Int.zero_add]
    exact⟨_,Ev.now _⟩
  · simp only[if_neg hz]
    obtain⟨s,es,s63,n0,n1⟩:=LeadingZeros64_ev (y:=y) (by omega) h2
    have hS: (0:Int)<2^s:=Int.pow_pos (by omega)
    have hT: (0:Int)<2^(64 - s):=Int.pow_pos (by omega)
    have hST: (2:Int)^s*2^(64 - s)=18446744073709551616:=by rw[←Int.pow_add,show s+(64 - s)=64 from by omega];rfl
    have a1: (hi+1)*2^s≤y*2^s:=Int.mul_le_mul_of_nonneg_right (by omega) (Int.le_of_lt hS)
    have a0:0≤hi*2^s:=Int.mul_nonneg h0 (Int.le_of_lt hS)
    have b0:0≤lo / 2^(64 - s):=Int.ediv_nonneg l0 (Int.le_of_lt hT)
    have b1:lo / 2^(64 - s)<2^s:=Int.ediv_lt_of_lt_mul hT (by rw[hST];exact l1)
    rw[Int.add_mul,Int.one_mul] at a1
    have es1:shl .u64 y (s:Int)=y*2^s:=by rw[shlU s s63];exact Int.emod_eq_of_lt (by omega) n1
    have es2:shl .u64 hi (s:Int)=hi*2^s:=by rw[shlU s s63];exact Int.emod_eq_of_lt (by omega) (by omega)
    have es3:shr .u64 lo (64 - (s:Int))=lo / 2^(64 - s):=by rw[show 64 - (s:Int)=((64 - s:Nat):Int) from by omega,shrU (64 - s) (by omega)]
    have lo':hi*2^s+lo / 2^(64 - s)<y*2^s:=by omega
    have split: (hi*2^s+lo / 2^(64 - s))*18446744073709551616+shl .u64 lo (s:Int)=(hi*18446744073709551616+lo)*2^s:=by
      rw[shlU s s63]
      have e1:lo=2^(64 - s)*(lo / 2^(64 - s))+lo%2^(64 - s):=(Int.mul_ediv_add_emod lo _).symm
      have m0:=Int.emod_nonneg lo (show (2:Int)^(64 - s)≠0 by omega)
      have m1:=Int.emod_lt_of_pos lo hT
      have e2:lo*2^s=18446744073709551616*(lo / 2^(64 - s))+lo%2^(64 - s)*2^s:=by
        conv=>lhs;rw[e1]
        rw[←hST];grind
      have p0:0≤lo%2^(64 - s)*2^s:=Int.mul_nonneg m0 (Int.le_of_lt hS)
      have p1:lo%2^(64 - s)*2^s<18446744073709551616:=by
        have:=Int.mul_lt_mul_of_pos_right m1 hS
        rwa [Int.mul_comm (2^(64 - s)),hST] at this
      have e3: (hi*18446744073709551616+lo)*2^s=hi*2^s*18446744073709551616+lo*2^s:=by grind
      rw[e3,e2]
      omega
    have v0:0≤shl .u64 lo (s:Int)∧shl .u64 lo (s:Int)<18446744073709551616:=by rw[shlU s s63];omega
    generalize hY:y*2^s=Y at*
    generalize hU:hi*2^s+lo / 2^(64 - s)=U at*
    generalize hV:shl .u64 lo (s:Int)=V at*
    have or':Go.bits .or .u64 (hi*2^s) (lo / 2^(64 - s))=U:=by rw[orU s h0 b0 b1 (by omega),hU]
    have K1:Kn (Y / 4294967296) (Y%4294967296) U (V / 4294967296):=⟨by omega,by omega,by omega,by omega,by omega,by omega,by omega,by omega⟩
    have yy:Y / 4294967296*4294967296+Y%4294967296=Y:=by omega
    have I1:=kn_init K1
    generalize hu': (U*4294967296+V / 4294967296)%Y=U' at*
    have u0:0≤U'∧U'<Y:=by rw[←hu'];exact⟨Int.emod_nonneg _ (by omega),Int.emod_lt_of_pos _ (by omega)⟩
    have K2:Kn (Y / 4294967296) (Y%4294967296) U' (V%4294967296):=⟨by omega,by omega,by omega,by omega,by omega,by omega,by omega,by omega⟩
    have I2:=kn_init K2
    have ls:∀{a b:Int},0≤a→0≤b→0≤Int.ediv a b∧Int.ediv a b≤a:=fun ha hb=>⟨Int.ediv_nonneg ha hb,Int.ediv_le_self _ ha⟩
    have final:shr .u64 ((U'*4294967296+V%4294967296)%Y) (s:Int)=(hi*18446744073709551616+lo)%y:=by
      rw[shrU s (by omega),←hu']
      have e: (((U*4294967296+V / 4294967296)%Y)*4294967296+V%4294967296)%Y=((hi*18446744073709551616+lo)%y)*2^s:=by
        rw[Int.add_emod,emod_mul_emod',←Int.add_emod,←hY,show (U*4294967296+V / 4294967296)*4294967296+V%4294967296=(hi*18446744073709551616+lo)*2^s from by omega,Int.mul_comm _ (2^s),Int.mul_comm y,Int.mul_emod_mul_of_pos _ _ hS,Int.mul_comm]
      rw[e]
      exact Int.mul_ediv_cancel _ (by omega)
    have D1:=ls (show 0≤U by omega) (show 0≤Y / 4294967296 by omega)
    have D2:=ls u0.1 (show 0≤Y / 4294967296 by omega)
    refine⟨IntKind.u64.wrap (IntKind.u64.wrap (knQ (Y / 4294967296) (Y%4294967296) U (V / 4294967296)*4294967296)+knQ (Y / 4294967296) (Y%4294967296) U' (V%4294967296)),Ev.bind es ?_⟩
    rw[wu (n:=(s:Int)) (by omega) (by omega)]
    simp only[if_pos (show (0:Int)≤(s:Int) by omega)]
    rw[wu (n:=64 - (s:Int)) (by omega) (by omega)]
    simp only[if_pos (show (0:Int)≤64 - (s:Int) by omega),es1,es2,es3,hV,or']
    rw[maskU (by omega) (by omega),maskU v0.1 v0.2]
    simp only[if_neg (show ¬Y / 4294967296=0 by omega)]
    rw[tdiv_cast (show 0≤U by omega)]
    have r1:=I1.i2;have r2:=I1.i3;have r3:=I2.i2;have r4:=I2.i3;have r5:=I1.i1;have r6:=I2.i1
    have D1a:0≤U / (Y / 4294967296):=D1.1
    have D1b:U / (Y / 4294967296)≤U:=D1.2
    have D2a:0≤U' / (Y / 4294967296):=D2.1
    have D2b:U' / (Y / 4294967296)≤U':=D2.2
    have M1:=Int.mul_nonneg D1a (show 0≤Y / 4294967296 by omega)
    have M2:=Int.mul_nonneg D2a (show 0≤Y / 4294967296 by omega)
    rw[wu (n:=U / (Y / 4294967296)) (by omega) (by omega),wu (n:=U / (Y / 4294967296)*(Y / 4294967296)) (by omega) (by omega),wu (n:=U - U / (Y / 4294967296)*(Y / 4294967296)) (by omega) (by omega)]
    rw[←final]
    refine Div64_l0 K1 ?_ _ _ _ (Nat.lt_succ_self _) I1
    refine Ev.step (f:=fun k=>bits_Div64.l1 k Y s (Y / 4294967296) (Y%4294967296) (V%4294967296) (knQ (Y / 4294967296) (Y%4294967296) U (V / 4294967296)) (U' - U' / (Y / 4294967296)*(Y / 4294967296)) U' (U' / (Y / 4294967296))) (fun k=>?_) (Div64_l1 K2 yy.symm (by omega) _ _ _ (Nat.lt_succ_self _) I2)
    have e:=kn_rem (y1:=Y / 4294967296) (y0:=Y%4294967296) (u:=U) (v:=V / 4294967296)
    rw[yy,hu'] at e
    have fin:IntKind.u64.wrap (IntKind.u64.wrap (IntKind.u64.wrap (U*4294967296)+V / 4294967296) - IntKind.u64.wrap (knQ (Y / 4294967296) (Y%4294967296) U (V / 4294967296)*Y))=U':=by
      simp only[IntKind.wrap_u64]
      omega
    rw[bits_Div64.j2,if_neg (show ¬Y / 4294967296=0 by omega),fin,tdiv_cast u0.1,wu (n:=U' / (Y / 4294967296)) (by omega) (by omega),wu (n:=U' / (Y / 4294967296)*(Y / 4294967296)) (by omega) (by omega),wu (n:=U' - U' / (Y / 4294967296)*(Y / 4294967296)) (by omega) (by omega)]
theorem Mul64_eq {a b:Int} (a0:0≤a) (a1:a<18446744073709551616) (b0:0≤b) (b1:b<18446744073709551616):bits_Mul64.f a b=some (a*b / 18446744073709551616,a*b%18446744073709551616):=by
  unfold bits_Mul64.f
  rw[maskU a0 a1,maskU b0 b1]
  have hz:∀{x y:Int},0≤x→x≤4294967295→0≤y→y≤4294967295→0≤x*y∧x*y≤18446744065119617025:=fun hx hx2 hy hy2=>⟨Int.mul_nonneg hx hy,Int.mul_le_mul hx2 hy2 hy (by omega)⟩
  obtain⟨x1,hx1⟩:∃x,x=a / 4294967296:=⟨_,rfl⟩
  obtain⟨x0,hx0⟩:∃x,x=a%4294967296:=⟨_,rfl⟩
  obtain⟨y1,hy1⟩:∃x,x=b / 4294967296:=⟨_,rfl⟩
  obtain⟨y0,hy0⟩:∃x,x=b%4294967296:=⟨_,rfl⟩
  have ha:a=x1*4294967296+x0:=by omega
  have hb:b=y1*4294967296+y0:=by omega
  have e:a*b=x1*y1*18446744073709551616+x1*y0*4294967296+x0*y1*4294967296+x0*y0:=by rw[ha,hb];grind
  rw[←hx1,←hx0,←hy1,←hy0]
  have p11:=hz (x:=x1) (y:=y1) (by omega) (by omega) (by omega) (by omega)
  have p10:=hz (x:=x1) (y:=y0) (by omega) (by omega) (by omega) (by omega)
  have p01:=hz (x:=x0) (y:=y1) (by omega) (by omega) (by omega) (by omega)
  have p00:=hz (x:=x0) (y:=y0) (by omega) (by omega) (by omega) (by omega)
  rw[e]
  clear e ha hb hx1 hx0 hy1 hy0
  generalize x1*y1=A at*
  generalize x1*y0=B at*
  generalize x0*y1=C at*
  generalize x0*y0=D at*
  rw[wu (n:=A) (by omega) (by omega),wu (n:=B) (by omega) (by omega),wu (n:=C) (by omega) (by omega),wu (n:=D) (by omega) (by omega)]
  rw[wu (n:=B+D / 4294967296) (by omega) (by omega),maskU (n:=B+D / 4294967296) (by omega) (by omega)]
  simp only[IntKind.wrap_u64]
  congr 1
  refine Prod.ext ?_ ?_<;>simp only<;>omega
theorem impl_times_ev {a b m:Int} (hm:1≤m) (hm2:m≤2305843009213693952):Ev (fun k=>impl_times.f k a b m) (a*b%m):=by
  unfold impl_times.f
  refine Ev.bindv (impl_mod_eq hm hm2) (Ev.bindv (impl_mod_eq hm hm2) ?_)
  have a0:=Int.emod_nonneg a (show m≠0 by omega)
  have a1:=Int.emod_lt_of_pos a (show 0<m by omega)
  have b0:=Int.emod_nonneg b (show m≠0 by omega)
  have b1:=Int.emod_lt_of_pos b (show 0<m by omega)
  rw[wu (n:=a%m) (by omega) (by omega),wu (n:=b%m) (by omega) (by omega),wu (n:=m) (by omega) (by omega)]
  refine Ev.bindv (Mul64_eq (by omega) (by omega) (by omega) (by omega)) ?_
  simp only[if_neg (show ¬m=0 by omega)]
  have p0:0≤a%m*(b%m):=Int.mul_nonneg a0 b0
  have h0:0≤a%m*(b%m) / 18446744073709551616:=by omega
  rw[tmod_cast h0]
  obtain⟨q,hq⟩:=Div64_ev (hi:=a%m*(b%m) / 18446744073709551616%m) (lo:=a%m*(b%m)%18446744073709551616) (y:=m) (Int.emod_nonneg _ (by omega)) (Int.emod_lt_of_pos _ (by omega)) (by omega) (by omega) (by omega)
  refine Ev.bind hq ?_
  have e: (a%m*(b%m) / 18446744073709551616%m*18446744073709551616+a%m*(b%m)%18446744073709551616)%m=a*b%m:=by
    rw[Int.add_emod,emod_mul_emod',←Int.add_emod,show a%m*(b%m) / 18446744073709551616*18446744073709551616+a%m*(b%m)%18446744073709551616=a%m*(b%m) from by omega,←Int.mul_emod]
  rw[e]
  have c0:=Int.emod_nonneg (a*b) (show m≠0 by omega)
  have c1:=Int.emod_lt_of_pos (a*b) (show 0<m by omega)
  rw[wid (n:=a*b%m) (by omega) (by omega)]
  exact Ev.now _
theorem mx_eq' (a b:Int):mx a b=if a<b then b else a:=rfl
def uOf (p n:Int):Int:=n / p^val p n
theorem uOf_spec {p n:Int} (hp:2≤p) (h:n≠0):n=p^val p n*uOf p n∧¬p∣uOf p n:=by
  obtain⟨u,hu,hn⟩:=val_spec hp h
  have e:uOf p n=u:=by
    unfold uOf
    conv=>lhs;lhs;rw[hu]
    exact Int.mul_ediv_cancel_left u (Int.pow_ne_zero (by omega))
  rw[e];exact⟨hu,hn⟩
theorem uOf_bd {p n M:Int} (hp:2≤p) (h:n≠0) (hM: -M≤n∧n≤M): (-M≤uOf p n∧uOf p n≤M)∧1≤p^val p n∧p^val p n≤M:=by
  obtain⟨hu,hn⟩:=uOf_spec hp h
  have hu0:uOf p n≠0:=by intro e;rw[e] at hn;exact hn (Int.dvd_zero p)
  have h1:=ipow_pos (p:=p) (by omega) (val p n)
  have e:n.natAbs=(p^val p n).natAbs*(uOf p n).natAbs:=by rw[←Int.natAbs_mul,←hu]
  have h3: (p^val p n).natAbs*1≤(p^val p n).natAbs*(uOf p n).natAbs:=Nat.mul_le_mul_left _ (by omega)
  have h4:1*(uOf p n).natAbs≤(p^val p n).natAbs*(uOf p n).natAbs:=Nat.mul_le_mul_right _ (by omega)
  omega
theorem uOf_scale {p n:Int} (j:Nat) (hp:2≤p) (h:n≠0):uOf p (p^j*n)=uOf p n:=by
  unfold uOf
  rw[val_pow_mul j hp h,Int.pow_add,Int.mul_ediv_mul_of_pos _ _ (Int.pow_pos (by omega))]
def atF (p L n d w:Int):Int×Int×Int×Bool:=
  if ¬(-6≤L∧L≤6) then(0,0,0,false)
  else if n=0∨L≤(val p n:Int) - val p d then(L,0,0,true)
  else if (val p n:Int) - val p d< -6 then(0,0,0,false)
  else((ofM p L (uOf p n*w*p^((val p n:Int) - val p d+6).toNat)).1,(ofM p L (uOf p n*w*p^((val p n:Int) - val p d+6).toNat)).2.1,(ofM p L (uOf p n*w*p^((val p n:Int) - val p d+6).toNat)).2.2,true)
theorem atF_scale {p L n d w:Int} (j:Nat) (hp:2≤p) (hd:d≠0):atF p L (p^j*n) (p^j*d) w=atF p L n d w:=by
  unfold atF
  by_cases h0:n=0
  · subst h0
    simp
  · have:p^j*n≠0:=Int.mul_ne_zero (Int.pow_ne_zero (by omega)) h0
    rw[val_pow_mul j hp h0,val_pow_mul j hp hd,uOf_scale j hp h0]
    have e: ((j+val p n:Nat):Int) - ((j+val p d:Nat):Int)=(val p n:Int) - val p d:=by omega
    rw[e]
    simp only[this,h0]
theorem atF_ball {p L n d w:Int} (hp:primeB p=true) (h: (atF p L n d w).2.2.2=true):ballB p (atF p L n d w).1 (atF p L n d w).2.1 (atF p L n d w).2.2.1=true:=by
  revert h
  unfold atF
  by_cases hL: -6≤L∧L≤6
  · rw[if_neg (by simpa using hL)]
    by_cases h1:n=0∨L≤(val p n:Int) - val p d
    · rw[if_pos h1];intro _
      have:=ofM_ball (X:=0) hp hL
      have e:ofM p L 0=(L,0,0):=ofM_of (prime_lo hp) (by simp) (by omega) (.inl rfl)
      rw[e] at this;exact this
    · rw[if_neg h1]
      by_cases h2: (val p n:Int) - val p d< -6
      · rw[if_pos h2];intro h;simp at h
      · rw[if_neg h2];intro _;exact ofM_ball hp hL
  · rw[if_pos hL];intro h;simp at h
theorem impl_unit_ev {p n:Int} (hp:primeB p=true) (h:n≠0) (h1: -1152921504606846976≤n) (h2:n≤1152921504606846976):Ev (fun k=>impl_unit.f k p n) (uOf p n):=by
  have hp2:=prime_lo hp
  obtain⟨b1,b2,b3⟩:=uOf_bd hp2 h ⟨h1,h2⟩
  obtain⟨hu,hn⟩:=uOf_spec hp2 h
  unfold impl_unit.f
  refine Ev.bind (impl_valuation_ev hp2 (by omega) (by omega)) ?_
  have hv:valW p n=(val p n:Int):=by unfold valW;rw[if_neg h]
  rw[hv]
  have hv61:=val_le_of_lt hp2 h 61 (by omega)
  refine Ev.bind (impl_power_ev p _ (by omega)) ?_
  rw[Int.toNat_natCast,powW_fit p (by omega) _ 1 (by omega) (by omega),Int.one_mul]
  simp only[if_neg (show ¬p^val p n=0 by omega)]
  have e:Int.tdiv n (p^val p n)=uOf p n:=by
    conv=>lhs;lhs;rw[hu]
    exact Int.mul_tdiv_cancel_left _ (by omega)
  rw[e,wid (n:=uOf p n) (by omega) (by omega)]
  exact Ev.now _
theorem impl_ballAt_ev {p n d L:Int} (hp:primeB p=true) (hd:d≠0) (n1: -1152921504606846976≤n) (n2:n≤1152921504606846976) (d1: -1152921504606846976≤d) (d2:d≤1152921504606846976):
    ∃w,((-6≤L∧L≤6)→isInv (uOf p d) (p^(L+6).toNat) w)∧Ev (fun k=>impl_ballAt.f k p n d L) (atF p L n d w):=by
  have hp2:=prime_lo hp
  unfold impl_ballAt.f
  by_cases hL: -6≤L∧L≤6
  · have m1:=ipow_pos (p:=p) (by omega) (L+6).toNat
    have m2:=pow_13 hp (L+6).toNat (by omega)
    obtain⟨w,hw,iw⟩:=impl_inverse_ev m1 (by omega) (gcd_unit hp (uOf_spec hp2 hd).2 (L+6).toNat)
    refine⟨w,fun _=>iw,?_⟩
    refine Ev.bindv (impl_isLevel_eq L) ?_
    rw[decide_eq_true hL]
    simp only[if_true]
    refine Ev.bind (impl_valuation_ev hp2 (by omega) (by omega)) (Ev.bind (impl_valuation_ev hp2 (by omega) (by omega)) ?_)
    have hvd:valW p d=(val p d:Int):=by unfold valW;rw[if_neg hd]
    rw[hvd]
    unfold atF
    rw[if_neg (by simpa using hL)]
    by_cases h0:n=0
    · simp only[if_pos h0]
      rw[if_pos (.inl h0)]
      exact Ev.step (f:=fun _=>some (L,0,0,true)) (fun k=>by simp only[impl_ballAt.j0,if_true]) (Ev.now _)
    · simp only[if_neg h0]
      have hvn:valW p n=(val p n:Int):=by unfold valW;rw[if_neg h0]
      have v1:=val_le_of_lt hp2 h0 61 (by omega)
      have v2:=val_le_of_lt hp2 hd 61 (by omega)
      rw[hvn,wid (n:=(val p n:Int) - val p d) (by omega) (by omega)]
      by_cases hle:L≤(val p n:Int) - val p d
      · rw[if_pos (.inr hle),decide_eq_true (show (val p n:Int) - val p d≥L from hle)]
        exact Ev.step (f:=fun _=>some (L,0,0,true)) (fun k=>by simp only[impl_ballAt.j0,if_true]) (Ev.now _)
      · rw[if_neg (by omega),decide_eq_false (show ¬(val p n:Int) - val p d≥L from hle)]
        by_cases h6: (val p n:Int) - val p d< -6
        · rw[if_pos h6]
          exact Ev.step (f:=fun _=>some (0,0,0,false)) (fun k=>by simp only[impl_ballAt.j0,Bool.false_eq_true,if_false];rw[if_pos h6]) (Ev.now _)
        · rw[if_neg h6]
          generalize hv: (val p n:Int) - val p d=v at*
          refine Ev.up ?_
          simp only[impl_ballAt.j0,Bool.false_eq_true,if_false,if_neg h6]
          rw[wid (n:=L+6) (by omega) (by omega),wid (n:=v+6) (by omega) (by omega)]
          refine Ev.bind (impl_power_ev p (L+6) (by omega)) ?_
          rw[powW_prime hp _ (by omega)]
          refine Ev.bind (impl_unit_ev hp h0 n1 n2) (Ev.bind (impl_unit_ev hp hd d1 d2) (Ev.bind hw ?_))
          refine Ev.bind (impl_times_ev m1 (by omega)) (Ev.bind (impl_power_ev p (v+6) (by omega)) ?_)
          rw[powW_prime hp _ (by omega)]
          refine Ev.bind (impl_times_ev m1 (by omega)) (Ev.bind (impl_ofMark_ev hp hL) ?_)
          rw[emod_mul_emod',ofM_mod]
          exact Ev.now _
  · refine⟨0,fun h=>absurd h hL,?_⟩
    refine Ev.bindv (impl_isLevel_eq L) ?_
    rw[decide_eq_false hL]
    simp only[Bool.false_eq_true,if_false]
    unfold atF
    rw[if_pos hL]
    exact Ev.now _
theorem spec_l01Of_ev {p n d L w:Int} (hp:primeB p=true) (hd:d≠0) (n1: -1152921504606846976≤n) (n2:n≤1152921504606846976) (d1: -1152921504606846976≤d) (d2:d≤1152921504606846976)
    (hw: (-6≤L∧L≤6)→isInv (uOf p d) (p^(L+6).toNat) w):Ev (fun k=>spec_l01Of.f k p n d L) (atF p L n d w):=by
  have hp2:=prime_lo hp
  have hpow:∀j:Nat,p^j≠0:=fun j=>Int.pow_ne_zero (by omega)
  unfold spec_l01Of.f
  refine Ev.bindv (In_eq _ _ _) ?_
  unfold atF
  by_cases hL: -6≤L∧L≤6
  · rw[decide_eq_true hL,if_neg (by simpa using hL)]
    simp only[if_true]
    by_cases h0:n=0
    · simp only[if_pos h0]
      rw[if_pos (.inl h0)];exact Ev.now _
    simp only[if_neg h0]
    refine Ev.bind (spec_l01Val_ev hp2 h0 (by omega) (by omega)) (Ev.bind (spec_l01Val_ev hp2 hd (by omega) (by omega)) ?_)
    have v1:=val_le_of_lt hp2 h0 61 (by omega)
    have v2:=val_le_of_lt hp2 hd 61 (by omega)
    obtain⟨bu,pu1,pu2⟩:=uOf_bd hp2 h0 (M:=1152921504606846976) ⟨n1,n2⟩
    obtain⟨bd,pd1,pd2⟩:=uOf_bd hp2 hd (M:=1152921504606846976) ⟨d1,d2⟩
    obtain⟨eu,nu⟩:=uOf_spec hp2 h0
    obtain⟨ed,nd⟩:=uOf_spec hp2 hd
    have q1:Int.tdiv n (p^val p n)=uOf p n:=by
      conv=>lhs;lhs;rw[eu]
      exact Int.mul_tdiv_cancel_left _ (hpow _)
    have q2:Int.tdiv d (p^val p d)=uOf p d:=by
      conv=>lhs;lhs;rw[ed]
      exact Int.mul_tdiv_cancel_left _ (hpow _)
    have r1:powW p (val p n) 1=p^val p n:=by rw[powW_fit p (by omega) _ 1 (by omega) (by omega),Int.one_mul]
    have r2:powW p (val p d) 1=p^val p d:=by rw[powW_fit p (by omega) _ 1 (by omega) (by omega),Int.one_mul]
    generalize hva:val p n=a at*
    generalize hvb:val p d=b at*
    rw[wid (n:=(a:Int) - (b:Int)) (by omega) (by omega),wid (n:=(b:Int) - (a:Int)) (by omega) (by omega)]
    by_cases hle:L≤(a:Int) - (b:Int)
    · simp only[if_pos hle]
      rw[if_pos (.inr hle)];exact Ev.now _
    simp only[if_neg hle]
    rw[if_neg (by omega)]
    obtain⟨dn,hdn⟩:∃dn:Nat,(dn:Int)=mx ((b:Int) - (a:Int)) 0:=⟨b - a,by rw[mx_eq'];split<;>omega⟩
    have hdn2: (dn:Int)=if (b:Int) - a<0 then 0 else(b:Int) - a:=by rw[hdn,mx_eq']
    obtain⟨e,he⟩:∃e:Nat,(e:Int)=mx ((a:Int) - (b:Int)) 0:=⟨a - b,by rw[mx_eq'];split<;>omega⟩
    have he2: (e:Int)=if (a:Int) - b<0 then 0 else(a:Int) - b:=by rw[he,mx_eq']
    rw[←hdn,←he]
    by_cases h6: (a:Int) - b< -6
    · rw[if_pos h6]
      simp only[if_pos (show (dn:Int)>6 by split at hdn2<;>omega)]
      exact Ev.now _
    rw[if_neg h6]
    have hdn6:dn≤6:=by split at hdn2<;>omega
    simp only[if_neg (show ¬(dn:Int)>6 by omega)]
    have hmp:1≤L+dn:=by split at hdn2<;>omega
    rw[wid (n:=L+(dn:Int)) (by omega) (by omega)]
    refine Ev.bind (spec_l01Power_ev p (L+dn) (by omega)) ?_
    rw[powW_prime hp _ (by omega)]
    refine Ev.bind (spec_l01Power_ev p a (by omega)) ?_
    rw[Int.toNat_natCast,r1]
    simp only[if_neg (hpow a)]
    refine Ev.bind (spec_l01Power_ev p b (by omega)) ?_
    rw[Int.toNat_natCast,r2]
    simp only[if_neg (hpow b)]
    rw[q1,q2,wid (n:=uOf p n) (by omega) (by omega),wid (n:=uOf p d) (by omega) (by omega)]
    have m1:=ipow_pos (p:=p) (by omega) (L+(dn:Int)).toNat
    have m2:=pow_13 hp (L+(dn:Int)).toNat (by omega)
    obtain⟨w',ew',iw'⟩:=spec_l01InvMod_ev m1 (by omega) (gcd_unit hp nd (L+(dn:Int)).toNat)
    refine Ev.bind ew' ?_
    refine Ev.bindv (spec_l01MulMod_eq m1 (by omega)) ?_
    have he6: (e:Int)≤6:=by split at he2<;>omega
    refine Ev.bind (spec_l01Power_ev p e (by omega)) ?_
    rw[Int.toNat_natCast,powW_prime hp e (by omega)]
    refine Ev.bindv (spec_l01MulMod_eq m1 (by omega)) ?_
    rw[emod_mul_emod']
    have hexp: ((a:Int) - b+6).toNat=(6 - (dn:Int)).toNat+e:=by split at hdn2<;>split at he2<;>omega
    have hexp2: (L+6).toNat=(6 - (dn:Int)).toNat+(L+(dn:Int)).toNat:=by omega
    have hq:=ipow_pos (p:=p) (by omega) (6 - (dn:Int)).toNat
    have hww: (uOf p n*w*p^e)%p^(L+(dn:Int)).toNat=(uOf p n*w'*p^e)%p^(L+(dn:Int)).toNat:=by
      obtain⟨_,_,k,hk⟩:=hw hL
      obtain⟨_,_,k',hk'⟩:=iw'
      rw[hexp2,Int.pow_add] at hk
      apply Int.emod_eq_emod_iff_emod_sub_eq_zero.2
      apply Int.emod_eq_zero_of_dvd
      generalize p^(L+(dn:Int)).toNat=M at*
      generalize p^(6 - (dn:Int)).toNat=N at*
      generalize p^e=E at*
      generalize uOf p n=U at*
      generalize uOf p d=D at*
      exact⟨U*E*(w*k' - w'*(k*N)),by grind⟩
    have key:ofM p L (uOf p n*w*p^((a:Int) - b+6).toNat)=(L,uOf p n*w'*p^e%p^(L+(dn:Int)).toNat,(dn:Int)):=by
      refine ofM_of hp2 ?_ (by omega) ?_
      · rw[hexp,hexp2,Int.pow_add,Int.pow_add,Int.mul_comm (p^(6 - (dn:Int)).toNat) (p^e),←Int.mul_assoc,Int.mul_comm _ (p^(6 - (dn:Int)).toNat),Int.mul_emod_mul_of_pos _ _ (by omega),hww,Int.mul_comm]
      · by_cases hz:dn=0
        · left;omega
        · right
          have e0:e=0:=by split at hdn2<;>split at he2<;>omega
          rw[e0,Int.pow_zero,Int.mul_one]
          intro hdv
          have hpm:p∣p^(L+(dn:Int)).toNat:=by
            obtain⟨j,hj⟩:∃j,(L+(dn:Int)).toNat=j+1:=⟨(L+(dn:Int)).toNat - 1,by omega⟩
            rw[hj,Int.pow_succ'];exact Int.dvd_mul_right _ _
          have h3:=Int.dvd_add hdv (Int.dvd_trans hpm (Int.dvd_mul_right (p^(L+(dn:Int)).toNat) (uOf p n*w' / p^(L+(dn:Int)).toNat)))
          rw[Int.emod_add_mul_ediv] at h3
          obtain⟨_,_,k',hk'⟩:=iw'
          have h4:p∣uOf p n*w'*uOf p d:=Int.dvd_trans h3 (Int.dvd_mul_right _ _)
          have h5:uOf p n=uOf p n*w'*uOf p d+uOf p n*k'*p^(L+(dn:Int)).toNat:=by
            generalize p^(L+(dn:Int)).toNat=M at*
            generalize uOf p n=U at*
            generalize uOf p d=D at*
            grind
          apply nu
          rw[h5]
          exact Int.dvd_add h4 (Int.dvd_trans hpm (Int.dvd_mul_left _ _))
    rw[key]
    exact Ev.now _
  · rw[decide_eq_false hL,if_pos hL]
    simp only[Bool.false_eq_true,if_false]
    exact Ev.now _
def entB (x:Int):Bool:=decide (-1000≤x∧x≤1000)
def matB (a b c d:Int):Bool:=(entB a&&(entB b&&(entB c&&entB d)))&&!(a*d - b*c==0)
theorem ent_lo {x:Int} (h:entB x=true): -1000≤x:=by unfold entB at h;simp at h;omega
theorem ent_hi {x:Int} (h:entB x=true):x≤1000:=by unfold entB at h;simp at h;omega
theorem mul_bd {x y m n:Int} (hx: -m≤x) (hx2:x≤m) (hy: -n≤y) (hy2:y≤n) (hm:0≤m) (hn:0≤n): -(m*n)≤x*y∧x*y≤m*n:=by
  have h1:=Int.mul_nonneg (show 0≤m - x by omega) (show 0≤n - y by omega)
  have h2:=Int.mul_nonneg (show 0≤m+x by omega) (show 0≤n+y by omega)
  have h3:=Int.mul_nonneg (show 0≤m - x by omega) (show 0≤n+y by omega)
  have h4:=Int.mul_nonneg (show 0≤m+x by omega) (show 0≤n - y by omega)
  simp only[Int.sub_mul,Int.mul_sub,Int.add_mul,Int.mul_add] at h1 h2 h3 h4
  constructor<;>omega
theorem det_bd {a b c d m:Int} (hm:0≤m) (ha: -m≤a∧a≤m) (hb: -m≤b∧b≤m) (hc: -m≤c∧c≤m) (hd: -m≤d∧d≤m): (-(m*m)≤a*d∧a*d≤m*m)∧(-(m*m)≤b*c∧b*c≤m*m):=
  ⟨mul_bd ha.1 ha.2 hd.1 hd.2 hm hm,mul_bd hb.1 hb.2 hc.1 hc.2 hm hm⟩
theorem rd_nat (l:List Int) (j:Nat) (h:j<l.length):rd l (j:Int)=l[j]:=by
  unfold rd;rw[Int.toNat_natCast,List.getD_eq_getElem?_getD,List.getElem?_eq_getElem h];rfl
theorem all_ev {β:Type} (g:Nat→Int→Option β) (n:Nat) (p:Nat→Bool) (yes no:β)
    (hstep:∀(i:Nat),i<n→p i=true→Ev (fun k=>g k ((i:Int)+1)) yes→Ev (fun k=>g k i) yes)
    (hstepno:∀(i:Nat),i<n→p i=true→Ev (fun k=>g k ((i:Int)+1)) no→Ev (fun k=>g k i) no)
    (hno:∀(i:Nat),i<n→p i=false→Ev (fun k=>g k i) no)
    (hend:Ev (fun k=>g k n) yes):Ev (fun k=>g k 0) (if (List.range n).all p then yes else no):=by
  have key:∀(d i:Nat),i+d=n→Ev (fun k=>g k i) (if (List.range' i d).all p then yes else no):=by
    intro d
    induction d with
    |zero=>intro i hi;have:i=n:=by omega
           subst this;simpa using hend
    |succ d ih=>
     intro i hi
     have h:=ih (i+1) (by omega)
     rw[List.range'_succ,List.all_cons]
     cases e:p i with
     |false=>simpa using hno i (by omega) e
     |true=>
      rw[Bool.true_and]
      have e1: (((i+1:Nat):Int))=(i:Int)+1:=by omega
      rw[e1] at h
      cases e2: (List.range' (i+1) d).all p with
      |true=>rw[e2] at h;exact hstep i (by omega) e h
      |false=>rw[e2] at h;exact hstepno i (by omega) e h
  have:=key n 0 (by omega)
  rw[←List.range_eq_range'] at this
  exact this
theorem all_range_rd (l:List Int) (q:Int→Bool): (List.range l.length).all (fun i=>q (rd l (i:Int)))=l.all q:=by
  rw[Bool.eq_iff_iff]
  simp only[List.all_eq_true,List.mem_range]
  constructor
  · intro h x hx
    obtain⟨i,hi,rfl⟩:=List.mem_iff_getElem.1 hx
    have:=h i hi
    rwa [rd_nat l i hi] at this
  · intro h i hi
    rw[rd_nat l i hi]
    exact h _ (List.getElem_mem hi)
theorem all_range_getD {α:Type} (l:List α) (d:α) (q:α→Bool): (List.range l.length).all (fun i=>q (l.getD i d))=l.all q:=by
  rw[Bool.eq_iff_iff]
  simp only[List.all_eq_true,List.mem_range]
  constructor
  · intro h x hx
    obtain⟨i,hi,rfl⟩:=List.mem_iff_getElem.1 hx
    have:=h i hi
    rwa [List.getD_eq_getElem?_getD,List.getElem?_eq_getElem hi] at this
  · intro h i hi
    rw[List.getD_eq_getElem?_getD,List.getElem?_eq_getElem hi]
    exact h _ (List.getElem_mem hi)
theorem all_ev' {β:Type} (g:Nat→Int→Option β) (n:Nat) (p:Nat→Bool) (yes no:β)
    (hstep:∀(i:Nat) (r:β),i<n→p i=true→Ev (fun k=>g k ((i:Int)+1)) r→Ev (fun k=>g k i) r)
    (hno:∀(i:Nat),i<n→p i=false→Ev (fun k=>g k i) no)
    (hend:Ev (fun k=>g k n) yes):Ev (fun k=>g k 0) (if (List.range n).all p then yes else no):=
  all_ev g n p yes no (fun i hi hp h=>hstep i yes hi hp h) (fun i hi hp h=>hstep i no hi hp h) hno hend
theorem ite_tf (b:Bool): (if b then true else false)=b:=by cases b<;>rfl
theorem impl_within_ev (m:Int) (l:List Int) (hm:0≤m) (hm2:m≤4611686018427387904) (hl:l.length≤4611686018427387904):Ev (fun k=>impl_within.f k m l) (l.all (fun x=>decide (-m≤x∧x≤m))):=by
  unfold impl_within.f
  rw[←ite_tf (l.all _),←all_range_rd]
  have w:wrap64 (-m)= -m:=wid (by omega) (by omega)
  refine all_ev' (fun k i=>impl_within.l0 k m l l.length i) l.length (fun i=>decide (-m≤rd l (i:Int)∧rd l (i:Int)≤m)) true false ?_ ?_ ?_
  · intro i r hi hp hr
    have hp:=of_decide_eq_true hp
    refine Ev.step (f:=fun k=>impl_within.l0 k m l l.length ((i:Int)+1)) (fun k=>?_) hr
    simp only[impl_within.l0]
    rw[if_pos (by omega),if_pos (by omega),if_pos (by omega),w,if_neg (by omega),if_neg (by omega),wid (by omega) (by omega)]
  · intro i hi hp
    have hp:=of_decide_eq_false hp
    refine Ev.step (f:=fun _=>some false) (fun k=>?_) (Ev.now _)
    simp only[impl_within.l0]
    rw[if_pos (by omega),if_pos (by omega),if_pos (by omega),w]
    by_cases h:rd l (i:Int)< -m
    · rw[if_pos h]
    · rw[if_neg h,if_pos (by omega)]
  · exact Ev.step (f:=fun _=>some true) (fun k=>by simp only[impl_within.l0];rw[if_neg (by omega)]) (Ev.now _)
theorem impl_determinant_eq {a b c d m:Int} (hm:0≤m) (hm2:m≤2000000000) (ha: -m≤a∧a≤m) (hb: -m≤b∧b≤m) (hc: -m≤c∧c≤m) (hd: -m≤d∧d≤m):impl_determinant.f a b c d=some (a*d - b*c):=by
  have hmm:m*m≤4000000000000000000:=by have:=Int.mul_le_mul hm2 hm2 hm (by omega);omega
  obtain⟨h1,h2⟩:=det_bd hm ha hb hc hd
  unfold impl_determinant.f
  rw[wid (n:=a*d) (by omega) (by omega),wid (n:=b*c) (by omega) (by omega),wid (by omega) (by omega)]
theorem impl_IsMatrix_ev (a b c d:Int):Ev (fun k=>impl_IsMatrix.f k a b c d) (matB a b c d):=by
  unfold impl_IsMatrix.f matB
  refine Ev.bind (impl_within_ev 1000 [a,b,c,d] (by omega) (by omega) (by simp)) ?_
  rw[show ([a,b,c,d]:List Int).all (fun x=>decide (-1000≤x∧x≤1000))=(entB a&&(entB b&&(entB c&&entB d))) from by simp[entB]]
  cases h: (entB a&&(entB b&&(entB c&&entB d))) with
  |false=>simp only[Bool.false_eq_true,if_false,Bool.false_and];exact Ev.now _
  |true=>
   simp only[Bool.and_eq_true] at h
   simp only[if_true,Bool.true_and]
   refine Ev.bindv (impl_determinant_eq (m:=1000) (by omega) (by omega) ⟨ent_lo h.1,ent_hi h.1⟩ ⟨ent_lo h.2.1,ent_hi h.2.1⟩ ⟨ent_lo h.2.2.1,ent_hi h.2.2.1⟩ ⟨ent_lo h.2.2.2,ent_hi h.2.2.2⟩) ?_
   exact Ev.now _
theorem spec_l04Det_eq {a b c d m:Int} (hm:0≤m) (hm2:m≤2000000000) (ha: -m≤a∧a≤m) (hb: -m≤b∧b≤m) (hc: -m≤c∧c≤m) (hd: -m≤d∧d≤m):spec_l04Det.f a b c d=some (a*d - b*c):=by
  have hmm:m*m≤4000000000000000000:=by have:=Int.mul_le_mul hm2 hm2 hm (by omega);omega
  obtain⟨h1,h2⟩:=det_bd hm ha hb hc hd
  unfold spec_l04Det.f
  rw[wid (n:=a*d) (by omega) (by omega),wid (n:=b*c) (by omega) (by omega),wid (by omega) (by omega)]
theorem spec_l04Is_ev (a b c d:Int):Ev (fun k=>spec_l04Is.f k a b c d) (matB a b c d):=by
  have w0:wrap64 1=1:=wid (by omega) (by omega)
  have w1:wrap64 2=2:=wid (by omega) (by omega)
  have hI:∀x:Int,spec_l01In.f x (-1000) 1000=some (entB x):=fun x=>In_eq x _ _
  unfold spec_l04Is.f matB
  refine Ev.step (f:=fun k=>spec_l04Is.l1 k 0 0 a b c d) (fun k=>by simp only[spec_l04Is.l0];rw[if_pos (by decide)]) ?_
  have no:Ev (fun _:Nat=>(some false:Option Bool)) false:=Ev.now _
  cases ha:entB a with
  |false=>exact Ev.step (f:=fun _=>some false) (fun k=>by simp[spec_l04Is.l1,hI,ha]) no
  |true=>
  refine Ev.step (f:=fun k=>spec_l04Is.l1 k 0 1 a b c d) (fun k=>by simp[spec_l04Is.l1,hI,ha,w0]) ?_
  cases hb:entB b with
  |false=>exact Ev.step (f:=fun _=>some false) (fun k=>by simp[spec_l04Is.l1,hI,hb]) no
  |true=>
  refine Ev.step (f:=fun k=>spec_l04Is.l1 k 0 2 a b c d) (fun k=>by simp[spec_l04Is.l1,hI,hb,w1]) ?_
  refine Ev.step (f:=fun k=>spec_l04Is.l0 k 1 a b c d) (fun k=>by simp[spec_l04Is.l1,w0]) ?_
  refine Ev.step (f:=fun k=>spec_l04Is.l1 k 1 0 a b c d) (fun k=>by simp only[spec_l04Is.l0];rw[if_pos (by decide)]) ?_
  cases hc:entB c with
  |false=>exact Ev.step (f:=fun _=>some false) (fun k=>by simp[spec_l04Is.l1,hI,hc]) no
  |true=>
  refine Ev.step (f:=fun k=>spec_l04Is.l1 k 1 1 a b c d) (fun k=>by simp[spec_l04Is.l1,hI,hc,w0]) ?_
  cases hd:entB d with
  |false=>exact Ev.step (f:=fun _=>some false) (fun k=>by simp[spec_l04Is.l1,hI,hd]) no
  |true=>
  refine Ev.step (f:=fun k=>spec_l04Is.l1 k 1 2 a b c d) (fun k=>by simp[spec_l04Is.l1,hI,hd,w1]) ?_
  refine Ev.step (f:=fun k=>spec_l04Is.l0 k 2 a b c d) (fun k=>by simp[spec_l04Is.l1,w1]) ?_
  refine Ev.step (f:=fun _=>(spec_l04Det.f a b c d).bind fun t=>some (t !=0)) (fun k=>by simp only[spec_l04Is.l0];rw[if_neg (by decide)]) ?_
  refine Ev.bindv (spec_l04Det_eq (m:=1000) (by omega) (by omega) ⟨ent_lo ha,ent_hi ha⟩ ⟨ent_lo hb,ent_hi hb⟩ ⟨ent_lo hc,ent_hi hc⟩ ⟨ent_lo hd,ent_hi hd⟩) ?_
  simp only[Bool.true_and]
  exact Ev.now _
def bd62 (x:Int):Prop:= -4611686018427387904≤x∧x≤4611686018427387904
def g4 (a b c d:Int):Int:=(Int.gcd (Int.gcd a b:Int) (Int.gcd c d:Int):Int)
def sg (a b:Int):Int:=if a<0∨(a=0∧b<0) then -1 else 1
def byM (a b c d:Int):Int:=g4 a b c d*sg a b
theorem sg_or (a b:Int):sg a b=1∨sg a b= -1:=by unfold sg;split<;>simp
theorem g4_nonneg (a b c d:Int):0≤g4 a b c d:=by unfold g4;omega
theorem g4_dvd (a b c d:Int):g4 a b c d∣a∧g4 a b c d∣b∧g4 a b c d∣c∧g4 a b c d∣d:=by
  unfold g4
  have h1:=Int.gcd_dvd_left (Int.gcd a b:Int) (Int.gcd c d:Int)
  have h2:=Int.gcd_dvd_right (Int.gcd a b:Int) (Int.gcd c d:Int)
  exact⟨Int.dvd_trans h1 (Int.gcd_dvd_left a b),Int.dvd_trans h1 (Int.gcd_dvd_right a b),Int.dvd_trans h2 (Int.gcd_dvd_left c d),Int.dvd_trans h2 (Int.gcd_dvd_right c d)⟩
theorem g4_ne {a b:Int} (c d:Int) (h:a≠0∨b≠0):g4 a b c d≠0:=by
  intro e
  obtain⟨h1,h2,_⟩:=g4_dvd a b c d
  rw[e] at h1 h2
  rcases h with h|h
  · exact h (Int.zero_dvd.1 h1)
  · exact h (Int.zero_dvd.1 h2)
theorem byM_ne {a b:Int} (c d:Int) (h:a≠0∨b≠0):byM a b c d≠0:=by
  have:=g4_ne c d h
  unfold byM
  rcases sg_or a b with e|e<;>rw[e]<;>omega
theorem byM_dvd (a b c d:Int):byM a b c d∣a∧byM a b c d∣b∧byM a b c d∣c∧byM a b c d∣d:=by
  have h:=g4_dvd a b c d
  unfold byM
  rcases sg_or a b with e|e<;>rw[e]
  · simpa using h
  · simpa using h
theorem gcd_le {a b M:Int} (ha: -M≤a∧a≤M) (hb: -M≤b∧b≤M): (Int.gcd a b:Int)≤M:=by
  by_cases h:a=0
  · subst h;rw[Int.gcd_zero_left];omega
  · have:Int.gcd a b≤a.natAbs:=Nat.gcd_le_left _ (by omega)
    omega
theorem tdiv_bd {x M:Int} (g:Int) (hx: -M≤x∧x≤M): -M≤Int.tdiv x g∧Int.tdiv x g≤M:=by
  have:=Int.natAbs_tdiv_le_natAbs x g
  omega
theorem redDet {a b c d:Int} (h:a*d - b*c≠0):Int.tdiv a (byM a b c d)*Int.tdiv d (byM a b c d) - Int.tdiv b (byM a b c d)*Int.tdiv c (byM a b c d)≠0:=by
  obtain⟨h1,h2,h3,h4⟩:=byM_dvd a b c d
  generalize byM a b c d=m at*
  have e1:=Int.tdiv_mul_cancel h1
  have e2:=Int.tdiv_mul_cancel h2
  have e3:=Int.tdiv_mul_cancel h3
  have e4:=Int.tdiv_mul_cancel h4
  generalize Int.tdiv a m=a' at*
  generalize Int.tdiv b m=b' at*
  generalize Int.tdiv c m=c' at*
  generalize Int.tdiv d m=d' at*
  intro e
  apply h
  rw[←e1,←e2,←e3,←e4]
  have:a'*m*(d'*m) - b'*m*(c'*m)=(a'*d' - b'*c')*(m*m):=by
    rw[Int.sub_mul];simp only[Int.mul_assoc,Int.mul_comm,Int.mul_left_comm]
  rw[this,e,Int.zero_mul]
def rM (a b c d x:Int):Int:=Int.tdiv x (byM a b c d)
def fitM (a b c d:Int):Bool:=entB (rM a b c d a)&&(entB (rM a b c d b)&&(entB (rM a b c d c)&&entB (rM a b c d d)))
theorem matB_red {a b c d:Int} (h:a*d - b*c≠0):matB (rM a b c d a) (rM a b c d b) (rM a b c d c) (rM a b c d d)=fitM a b c d:=by
  unfold matB fitM rM
  rw[beq_eq_false_iff_ne.2 (redDet h),Bool.not_false,Bool.and_true]
theorem rowNe {a b c d:Int} (h:a*d - b*c≠0):a≠0∨b≠0:=by
  by_cases ha:a=0
  · right;intro hb;apply h;rw[ha,hb];simp
  · left;exact ha
theorem gcd_mul (m a b:Int): (Int.gcd (m*a) (m*b):Int)=(m.natAbs:Int)*(Int.gcd a b:Int):=by
  rw[Int.gcd_mul_left];simp
theorem g4_mul (m a b c d:Int):g4 (m*a) (m*b) (m*c) (m*d)=(m.natAbs:Int)*g4 a b c d:=by
  unfold g4
  rw[gcd_mul,gcd_mul,gcd_mul,Int.natAbs_natCast]
theorem sg_mul {m a b:Int} (hm:m≠0) (h:a≠0∨b≠0):sg (m*a) (m*b)=(if m<0 then -1 else 1)*sg a b:=by
  have key:∀x:Int,(m*x<0↔if m<0 then 0<x else x<0):=by
    intro x
    by_cases hn:m<0
    · rw[if_pos hn]
      constructor
      · intro h1
        rcases Int.lt_trichotomy x 0 with h2|h2|h2
        · have:=Int.mul_pos_of_neg_of_neg hn h2;omega
        · subst h2;simp at h1
        · exact h2
      · intro h1;exact Int.mul_neg_of_neg_of_pos hn h1
    · rw[if_neg hn]
      have hp:0<m:=by omega
      constructor
      · intro h1
        rcases Int.lt_trichotomy x 0 with h2|h2|h2
        · exact h2
        · subst h2;simp at h1
        · have:=Int.mul_pos hp h2;omega
      · intro h1;exact Int.mul_neg_of_pos_of_neg hp h1
  have z:m*a=0↔a=0:=by
    rw[Int.mul_eq_zero]
    constructor
    · intro h
      rcases h with h|h
      · exact absurd h hm
      · exact h
    · intro h;exact .inr h
  have ka:=key a
  have kb:=key b
  unfold sg
  by_cases hn:m<0
  · rw[if_pos hn] at ka kb
    rw[if_pos hn]
    by_cases h1:a<0
    · rw[if_neg (by rw[ka,kb,z];omega),if_pos (.inl h1)];rfl
    · by_cases h2:a=0
      · by_cases h3:b<0
        · rw[if_neg (by rw[ka,kb,z];omega),if_pos (.inr ⟨h2,h3⟩)];rfl
        · rw[if_pos (by rw[ka,kb,z];omega),if_neg (by omega)];rfl
      · rw[if_pos (by rw[ka,kb,z];omega),if_neg (by omega)];rfl
  · rw[if_neg hn] at ka kb
    rw[if_neg hn,Int.one_mul]
    by_cases h1:a<0∨(a=0∧b<0)
    · rw[if_pos h1,if_pos (by rw[ka,kb,z];exact h1)]
    · rw[if_neg h1,if_neg (by rw[ka,kb,z];exact h1)]
theorem byM_mul {m a b:Int} (c d:Int) (hm:m≠0) (h:a≠0∨b≠0):byM (m*a) (m*b) (m*c) (m*d)=m*byM a b c d:=by
  unfold byM
  rw[g4_mul,sg_mul hm h]
  by_cases hn:m<0
  · rw[if_pos hn,show (m.natAbs:Int)= -m from by omega]
    simp only[Int.neg_mul,Int.mul_neg,Int.one_mul,Int.neg_neg,Int.mul_assoc]
  · rw[if_neg hn,show (m.natAbs:Int)=m from by omega,Int.one_mul,Int.mul_assoc]
theorem tdiv_mul_same {m x y:Int} (hm:m≠0) (h:y∣x):Int.tdiv (m*x) (m*y)=Int.tdiv x y:=by
  obtain⟨q,rfl⟩:=h
  by_cases hy:y=0
  · subst hy;simp
  · rw[←Int.mul_assoc,Int.mul_tdiv_cancel_left _ (Int.mul_ne_zero hm hy),Int.mul_tdiv_cancel_left _ hy]
theorem rM_mul {m a b:Int} (c d:Int) (hm:m≠0) (h:a≠0∨b≠0):rM (m*a) (m*b) (m*c) (m*d) (m*a)=rM a b c d a∧rM (m*a) (m*b) (m*c) (m*d) (m*b)=rM a b c d b∧rM (m*a) (m*b) (m*c) (m*d) (m*c)=rM a b c d c∧rM (m*a) (m*b) (m*c) (m*d) (m*d)=rM a b c d d:=by
  obtain⟨h1,h2,h3,h4⟩:=byM_dvd a b c d
  unfold rM
  rw[byM_mul c d hm h]
  exact⟨tdiv_mul_same hm h1,tdiv_mul_same hm h2,tdiv_mul_same hm h3,tdiv_mul_same hm h4⟩
structure M4 where
  a:Int
  b:Int
  c:Int
  d:Int
def M4.det (g:M4):Int:=g.a*g.d - g.b*g.c
def M4.mul (g h:M4):M4:=⟨g.a*h.a+g.b*h.c,g.a*h.b+g.b*h.d,g.c*h.a+g.d*h.c,g.c*h.b+g.d*h.d⟩
def M4.by_ (g:M4):Int:=byM g.a g.b g.c g.d
def M4.red (g:M4):M4:=⟨Int.tdiv g.a g.by_,Int.tdiv g.b g.by_,Int.tdiv g.c g.by_,Int.tdiv g.d g.by_⟩
def M4.smul (m:Int) (g:M4):M4:=⟨m*g.a,m*g.b,m*g.c,m*g.d⟩
def M4.fit (g:M4):Bool:=entB g.a&&(entB g.b&&(entB g.c&&entB g.d))
def M4.ok (g:M4):Bool:=matB g.a g.b g.c g.d
def M4.one:M4:=⟨1,0,0,1⟩
def M4.adj (g:M4):M4:=⟨g.d, -g.b, -g.c,g.a⟩
theorem M4.ext' {g h:M4} (h1:g.a=h.a) (h2:g.b=h.b) (h3:g.c=h.c) (h4:g.d=h.d):g=h:=by cases g;cases h;simp_all
theorem M4.det_mul (g h:M4): (g.mul h).det=g.det*h.det:=by
  unfold M4.det M4.mul
  simp only[Int.sub_mul,Int.mul_sub,Int.add_mul,Int.mul_add,Int.mul_assoc,Int.mul_comm,Int.mul_left_comm]
  omega
theorem M4.mul_smul (m:Int) (g h:M4):g.mul (h.smul m)=(g.mul h).smul m:=by
  apply M4.ext'<;>simp only[M4.mul,M4.smul,Int.mul_add,Int.mul_left_comm]
theorem M4.adj_smul (m:Int) (g:M4): (g.smul m).adj=g.adj.smul m:=by
  apply M4.ext'<;>simp only[M4.adj,M4.smul,Int.mul_neg]
theorem M4.adj_det (g:M4):g.adj.det=g.det:=by unfold M4.adj M4.det;simp only[Int.neg_mul_neg,Int.mul_comm]
theorem M4.row_ne {g:M4} (h:g.det≠0):g.a≠0∨g.b≠0:=rowNe h
theorem M4.by_ne {g:M4} (h:g.det≠0):g.by_≠0:=byM_ne _ _ (M4.row_ne h)
theorem M4.red_det {g:M4} (h:g.det≠0):g.red.det≠0:=redDet h
theorem M4.smul_red (g:M4):g.red.smul g.by_=g:=by
  obtain⟨h1,h2,h3,h4⟩:=byM_dvd g.a g.b g.c g.d
  apply M4.ext'
  · exact Int.mul_tdiv_cancel' h1
  · exact Int.mul_tdiv_cancel' h2
  · exact Int.mul_tdiv_cancel' h3
  · exact Int.mul_tdiv_cancel' h4
theorem M4.red_smul {m:Int} {g:M4} (hm:m≠0) (h:g.det≠0): (g.smul m).red=g.red:=by
  obtain⟨h1,h2,h3,h4⟩:=rM_mul (m:=m) g.c g.d hm (M4.row_ne h)
  exact M4.ext' h1 h2 h3 h4
theorem M4.red_mul_red {g h:M4} (hg:g.det≠0) (hh:h.det≠0): (g.mul h.red).red=(g.mul h).red:=by
  conv=>rhs;rw[←M4.smul_red h,M4.mul_smul]
  rw[M4.red_smul (M4.by_ne hh)]
  rw[M4.det_mul];exact Int.mul_ne_zero hg (M4.red_det hh)
theorem M4.red_adj_red {g:M4} (hg:g.det≠0):g.red.adj.red=g.adj.red:=by
  conv=>rhs;rw[←M4.smul_red g,M4.adj_smul]
  rw[M4.red_smul (M4.by_ne hg)]
  rw[M4.adj_det];exact M4.red_det hg
theorem M4.ok_det {g:M4} (h:g.ok=true):g.det≠0:=by
  unfold M4.ok matB at h;rw[Bool.and_eq_true] at h
  have:=h.2
  unfold M4.det
  intro e;rw[e] at this;simp at this
theorem M4.ok_fit {g:M4} (h:g.ok=true):g.fit=true:=by
  unfold M4.ok matB at h;rw[Bool.and_eq_true] at h;exact h.1
theorem M4.ok_of {g:M4} (h:g.det≠0):g.ok=g.fit:=by
  unfold M4.ok matB M4.fit
  rw[show (g.a*g.d - g.b*g.c==0)=false from beq_eq_false_iff_ne.2 h];simp
theorem M4.fit_bd {g:M4} (h:g.fit=true): (-1000≤g.a∧g.a≤1000)∧(-1000≤g.b∧g.b≤1000)∧(-1000≤g.c∧g.c≤1000)∧(-1000≤g.d∧g.d≤1000):=by
  unfold M4.fit at h;simp only[Bool.and_eq_true] at h
  exact⟨⟨ent_lo h.1,ent_hi h.1⟩,⟨ent_lo h.2.1,ent_hi h.2.1⟩,⟨ent_lo h.2.2.1,ent_hi h.2.2.1⟩,⟨ent_lo h.2.2.2,ent_hi h.2.2.2⟩⟩
theorem ent_of {x:Int} (h: -1000≤x∧x≤1000):entB x=true:=decide_eq_true h
theorem M4.red_fit {g:M4} (h:g.fit=true):g.red.fit=true:=by
  obtain⟨h1,h2,h3,h4⟩:=M4.fit_bd h
  unfold M4.fit M4.red
  simp only[ent_of (tdiv_bd _ h1),ent_of (tdiv_bd _ h2),ent_of (tdiv_bd _ h3),ent_of (tdiv_bd _ h4),Bool.and_self]
theorem M4.red_ok {g:M4} (h:g.ok=true):g.red.ok=true:=by
  rw[M4.ok_of (M4.red_det (M4.ok_det h))];exact M4.red_fit (M4.ok_fit h)
theorem M4.one_mul (g:M4):M4.one.mul g=g:=by apply M4.ext'<;>simp[M4.mul,M4.one]
def mulW (x y u v:Int):Int:=wrap64 (wrap64 (x*u)+wrap64 (y*v))
theorem mulW_eq {x y u v M:Int} (hM:0≤M) (hM2:M≤1000000000) (hx: -M≤x∧x≤M) (hy: -M≤y∧y≤M) (hu: -M≤u∧u≤M) (hv: -M≤v∧v≤M):mulW x y u v=x*u+y*v:=by
  have hmm:M*M≤1000000000000000000:=by have:=Int.mul_le_mul hM2 hM2 hM (by omega);omega
  obtain⟨a1,a2⟩:=mul_bd hx.1 hx.2 hu.1 hu.2 hM hM
  obtain⟨b1,b2⟩:=mul_bd hy.1 hy.2 hv.1 hv.2 hM hM
  unfold mulW
  rw[wid (n:=x*u) (by omega) (by omega),wid (n:=y*v) (by omega) (by omega),wid (by omega) (by omega)]
theorem cop2 {p:Int} (hp:primeB p=true) {g:Int} (h:¬p∣g):Int.gcd g p=1:=by
  have h1: (Int.gcd g p:Int)∣g:=Int.gcd_dvd_left g p
  have h2: (Int.gcd g p:Int)∣p:=Int.gcd_dvd_right g p
  generalize Int.gcd g p=n at h1 h2
  rcases prime_cases hp with e|e|e|e<;>subst e
  · have h3:n∣2:=Int.natCast_dvd_natCast.1 h2
    have:∀n,n<3→n∣2→n=1∨n=2:=by decide
    rcases this n (by have:=Nat.le_of_dvd (by omega) h3;omega) h3 with h4|h4
    · exact h4
    · subst h4;exact absurd h1 h
  · have h3:n∣3:=Int.natCast_dvd_natCast.1 h2
    have:∀n,n<4→n∣3→n=1∨n=3:=by decide
    rcases this n (by have:=Nat.le_of_dvd (by omega) h3;omega) h3 with h4|h4
    · exact h4
    · subst h4;exact absurd h1 h
  · have h3:n∣5:=Int.natCast_dvd_natCast.1 h2
    have:∀n,n<6→n∣5→n=1∨n=5:=by decide
    rcases this n (by have:=Nat.le_of_dvd (by omega) h3;omega) h3 with h4|h4
    · exact h4
    · subst h4;exact absurd h1 h
  · have h3:n∣7:=Int.natCast_dvd_natCast.1 h2
    have:∀n,n<8→n∣7→n=1∨n=7:=by decide
    rcases this n (by have:=Nat.le_of_dvd (by omega) h3;omega) h3 with h4|h4
    · exact h4
    · subst h4;exact absurd h1 h
theorem Ev.det {α:Type} {g:Nat→Option α} {r s:α} (h:Ev g r) (h':Ev g s):r=s:=by
  obtain⟨K,hK⟩:=h
  obtain⟨K',hK'⟩:=h'
  have h1:=hK (K+K') (by omega)
  have h2:=hK' (K+K') (by omega)
  rw[h1] at h2
  injection h2
theorem val_mul {p a b:Int} (hp:primeB p=true) (ha:a≠0) (hb:b≠0):val p (a*b)=val p a+val p b∧uOf p (a*b)=uOf p a*uOf p b:=by
  have hp2:=prime_lo hp
  obtain⟨ea,na⟩:=uOf_spec hp2 ha
  obtain⟨eb,nb⟩:=uOf_spec hp2 hb
  have hn:¬p∣uOf p a*uOf p b:=fun hd=>nb (Int.natAbs_dvd_natAbs.1 (Nat.Coprime.dvd_of_dvd_mul_left (show Nat.Coprime (uOf p a).natAbs p.natAbs from cop2 hp na).symm (by rw[←Int.natAbs_mul];exact Int.natAbs_dvd_natAbs.2 hd)))
  have e:a*b=p^(val p a+val p b)*(uOf p a*uOf p b):=by
    rw[Int.pow_add]
    conv=>lhs;rw[ea,eb]
    grind
  have hv:=val_eq hp2 e hn
  refine⟨hv,?_⟩
  obtain⟨e2,_⟩:=uOf_spec hp2 (Int.mul_ne_zero ha hb)
  rw[hv] at e2
  have hq:p^(val p a+val p b)≠0:=Int.pow_ne_zero (by omega)
  exact Int.eq_of_mul_eq_mul_left hq (e2.symm.trans e)
theorem atF_gen {p L n d m w w':Int} (hp:primeB p=true) (hm:m≠0) (hd:d≠0) (hw: (-6≤L∧L≤6)→isInv (uOf p d) (p^(L+6).toNat) w) (hw': (-6≤L∧L≤6)→isInv (uOf p (m*d)) (p^(L+6).toNat) w'):atF p L (m*n) (m*d) w'=atF p L n d w:=by
  have hp2:=prime_lo hp
  unfold atF
  by_cases hL: -6≤L∧L≤6
  · simp only[if_neg (show ¬ ¬(-6≤L∧L≤6) from fun h=>h hL)]
    by_cases h0:n=0
    · subst h0
      simp only[Int.mul_zero,true_or,if_true]
    · obtain⟨vn,un⟩:=val_mul hp hm h0
      obtain⟨vd,ud⟩:=val_mul hp hm hd
      rw[vn,vd,un,show ((val p m+val p n:Nat):Int) - ((val p m+val p d:Nat):Int)=(val p n:Int) - val p d by omega]
      have hmn:m*n≠0:=Int.mul_ne_zero hm h0
      simp only[hmn,h0,false_or]
      have key:ofM p L (uOf p m*uOf p n*w'*p^((val p n:Int) - val p d+6).toNat)=ofM p L (uOf p n*w*p^((val p n:Int) - val p d+6).toNat):=by
        rw[ofM_inj hp2]
        obtain⟨_,_,k,hk⟩:=hw hL
        obtain⟨_,_,k',hk'⟩:=hw' hL
        rw[ud] at hk'
        generalize p^((val p n:Int) - val p d+6).toNat=P
        generalize p^(L+6).toNat=Q at hk hk'
        generalize uOf p m=um at hk'
        generalize uOf p n=un
        generalize uOf p d=ud at hk hk'
        have e:um*un*w'*P=un*w*P+Q*(un*P*(um*w'*k - w*k')):=by
          have e1:um*w'=um*w'*(w*ud+k*Q):=by rw[hk,Int.mul_one]
          have e2:um*w'*(w*ud+k*Q)=w*(w'*(um*ud))+um*w'*k*Q:=by grind
          have e3:w'*(um*ud)=1 - k'*Q:=by omega
          have e4:um*w'=w*(1 - k'*Q)+um*w'*k*Q:=by rw[←e3,←e2,←e1]
          have e5:um*un*w'*P=un*P*(um*w'):=by grind
          rw[e5,e4]
          grind
        rw[e,Int.add_mul_emod_self_left]
      rw[key]
  · simp only[if_pos hL]
theorem held_dvd {p L T D n d:Int} (h:ballB p L T D=true):heldB p L T D n d=true↔d≠0∧p^((L+6).toNat+val p d)∣n*p^6 - markOf p T D*d:=by
  obtain⟨hp,hL,hD,_⟩:=ball_parts h
  have hp2:=prime_lo hp
  rw[near_mark n d h]
  unfold heldB
  by_cases h0:d=0
  · rw[if_pos h0];simp[h0]
  rw[if_neg h0]
  by_cases hw:nearW p T D n d=0
  · rw[if_pos hw,hw,Int.mul_zero]
    exact⟨fun _=>⟨h0,Int.dvd_zero _⟩,fun _=>rfl⟩
  · rw[if_neg hw,decide_eq_true_eq,val_dvd hp2 (Int.mul_ne_zero (Int.pow_ne_zero (by omega)) hw),val_pow_mul _ hp2 hw]
    constructor
    · intro h1;exact⟨h0,by omega⟩
    · intro h1;have:=h1.2;omega
def vge (p N t:Int):Prop:=p^t.toNat∣N
theorem vge_val {p N t:Int} (hp:2≤p) (h:N≠0):vge p N t↔t≤(val p N:Int):=by
  unfold vge
  rw[val_dvd hp h]
  omega
theorem vge_zero (p t:Int):vge p 0 t:=Int.dvd_zero _
theorem vge_add {p a b t:Int} (ha:vge p a t) (hb:vge p b t):vge p (a+b) t:=Int.dvd_add ha hb
theorem vge_neg {p a t:Int}:vge p (-a) t↔vge p a t:=Int.dvd_neg
theorem vge_mul {p a b t s:Int} (hp:primeB p=true) (ha:a≠0) (hs:s=t+(val p a:Int)):vge p (a*b) s↔vge p b t:=by
  have hp2:=prime_lo hp
  by_cases hb:b=0
  · rw[hb,Int.mul_zero];exact⟨fun _=>vge_zero p t,fun _=>vge_zero p s⟩
  · rw[vge_val hp2 (Int.mul_ne_zero ha hb),vge_val hp2 hb,(val_mul hp ha hb).1]
    omega
theorem val_neg {p n:Int} (hp:2≤p) (h:n≠0):val p (-n)=val p n:=by
  have h1:=(val_dvd hp (show -n≠0 by omega) (val p n)).1 (Int.dvd_neg.2 ((val_dvd hp h _).2 (Nat.le_refl _)))
  have h2:=(val_dvd hp h (val p (-n))).1 (Int.dvd_neg.1 ((val_dvd hp (show -n≠0 by omega) _).2 (Nat.le_refl _)))
  omega
def inB (p n d L y z:Int):Prop:=vge p (n*z - y*d) (L+(val p d:Int)+(val p z:Int))
theorem inB_scale {p n d L m y z:Int} (hp:primeB p=true) (hm:m≠0) (hz:z≠0):inB p n d L (m*y) (m*z)↔inB p n d L y z:=by
  unfold inB
  rw[show n*(m*z) - m*y*d=m*(n*z - y*d) by grind,(val_mul hp hm hz).1]
  exact vge_mul hp hm (by omega)
theorem val_pow {p:Int} (hp:2≤p) (j:Nat):val p (p^j)=j:=by
  have h:=val_pow_mul (p:=p) (e:=1) j hp (by omega)
  rw[Int.mul_one] at h
  rw[h,val_eq (p:=p) (n:=1) (u:=1) (v:=0) hp (by simp) (by intro h;have:=Int.le_of_dvd (by omega) h;omega)]
  rfl
theorem held_inB {p L T D y z:Int} (h:ballB p L T D=true):heldB p L T D y z=true↔z≠0∧inB p T (p^D.toNat) L y z:=by
  obtain⟨hp,hL,hD,_⟩:=ball_parts h
  have hp2:=prime_lo hp
  unfold heldB inB
  rw[val_pow hp2]
  have e:T*z - y*p^D.toNat= -(nearW p T D y z):=by unfold nearW;omega
  rw[e,vge_neg]
  by_cases h0:z=0
  · rw[if_pos h0];simp[h0]
  rw[if_neg h0]
  by_cases hw:nearW p T D y z=0
  · rw[if_pos hw,hw];exact⟨fun _=>⟨h0,vge_zero _ _⟩,fun _=>rfl⟩
  · rw[if_neg hw,vge_val hp2 hw,decide_eq_true_eq]
    constructor
    · intro h1;exact⟨h0,by omega⟩
    · intro h1;have:=h1.2;omega
theorem atF_held {p L n d w y z:Int} (hp:primeB p=true) (hd:d≠0) (hw: (-6≤L∧L≤6)→isInv (uOf p d) (p^(L+6).toNat) w) (hok: (atF p L n d w).2.2.2=true):
    heldB p (atF p L n d w).1 (atF p L n d w).2.1 (atF p L n d w).2.2.1 y z=true↔z≠0∧inB p n d L y z:=by
  have hp2:=prime_lo hp
  have hball:=atF_ball hp hok
  have core: (atF p L n d w).1=L∧vge p (markOf p (atF p L n d w).2.1 (atF p L n d w).2.2.1*d - n*p^6) (L+6+(val p d:Int)):=by
    revert hok
    unfold atF
    by_cases hL: -6≤L∧L≤6
    · rw[if_neg (by simpa using hL)]
      by_cases h1:n=0∨L≤(val p n:Int) - val p d
      · rw[if_pos h1];intro _
        refine⟨rfl,?_⟩
        rw[show markOf p 0 0*d - n*p^6= -(p^6*n) by unfold markOf;grind,vge_neg]
        by_cases h0:n=0
        · rw[h0,Int.mul_zero];exact vge_zero _ _
        · refine(vge_mul (t:=L+(val p d:Int)) hp (Int.pow_ne_zero (by omega)) (by rw[val_pow hp2];omega)).2 ((vge_val hp2 h0).2 ?_)
          rcases h1 with h1|h1
          · exact absurd h1 h0
          · omega
      · rw[if_neg h1]
        by_cases h2: (val p n:Int) - val p d< -6
        · rw[if_pos h2];intro h;simp at h
        · rw[if_neg h2];intro _
          obtain⟨e,ev⟩:∃e:Nat,(e:Int)=(val p n:Int) - val p d+6:=⟨((val p n:Int) - val p d+6).toNat,by omega⟩
          have h0:n≠0:=fun h=>h1 (.inl h)
          have hq:=ofM_back (p:=p) (L:=L) (X:=uOf p n*w*p^((val p n:Int) - val p d+6).toNat) hp2
          refine⟨rfl,?_⟩
          simp only
          unfold markOf
          rw[hq.1]
          rw[←ev,Int.toNat_natCast]
          obtain⟨_,_,k',hk'⟩:=hw hL
          obtain⟨en,_⟩:=uOf_spec hp2 h0
          obtain⟨ed,_⟩:=uOf_spec hp2 hd
          generalize uOf p n=un at*
          generalize uOf p d=ud at*
          obtain⟨Q,hQ⟩:∃Q,Q=p^(L+6).toNat:=⟨_,rfl⟩
          rw[←hQ] at hk'⊢
          have hm:un*w*p^e%Q=un*w*p^e - Q*(un*w*p^e / Q):=Int.emod_def _ _
          rw[hm]
          generalize un*w*p^e / Q=k
          have hpp:p^e*p^val p d=p^val p n*p^6:=by rw[←Int.pow_add,←Int.pow_add];congr 1;omega
          unfold vge
          rw[show (L+6+(val p d:Int)).toNat=(L+6).toNat+val p d from by omega,Int.pow_add,←hQ]
          refine⟨-(un*p^e*k') - k*ud,?_⟩
          have e1:n*p^6=un*(p^e*p^val p d):=by
            rw[hpp]
            conv=>lhs;rw[en]
            grind
          have e2: (un*w*p^e - Q*k)*d=p^val p d*(un*p^e*(w*ud)) - Q*p^val p d*(k*ud):=by
            conv=>lhs;rw[ed]
            grind
          rw[e1,e2,show w*ud=1 - k'*Q by omega]
          grind
    · rw[if_pos hL];intro h;simp at h
  rw[held_dvd hball,core.1]
  obtain⟨_,hc⟩:=core
  obtain⟨_,hLr,_⟩:=ball_parts hball
  have hL6: -6≤L:=by
    revert hok;unfold atF
    by_cases hL: -6≤L∧L≤6
    · intro _;exact hL.1
    · rw[if_pos hL];intro h;simp at h
  generalize markOf p (atF p L n d w).2.1 (atF p L n d w).2.2.1=M at*
  refine and_congr_right fun hz=>?_
  rw[show (L+6).toNat+val p z=(L+6+(val p z:Int)).toNat by omega]
  show vge p (y*p^6 - M*z) (L+6+(val p z:Int))↔_
  rw[←vge_mul (a:=d) (s:=L+6+(val p z:Int)+(val p d:Int)) hp hd rfl]
  have hz2:vge p (z*(M*d - n*p^6)) (L+6+(val p z:Int)+(val p d:Int)):=(vge_mul hp hz (by omega)).2 hc
  have e3:d*(y*p^6 - M*z)= -(p^6*(n*z - y*d))+ -(z*(M*d - n*p^6)):=by grind
  have e4: -(p^6*(n*z - y*d))=d*(y*p^6 - M*z)+z*(M*d - n*p^6):=by grind
  have e5:vge p (d*(y*p^6 - M*z)) (L+6+(val p z:Int)+(val p d:Int))↔vge p (p^6*(n*z - y*d)) (L+6+(val p z:Int)+(val p d:Int)):=by
    rw[←vge_neg (a:=p^6*_)]
    constructor
    · intro h;rw[e4];exact vge_add h hz2
    · intro h;rw[e3];exact vge_add h (vge_neg.2 hz2)
  rw[e5]
  unfold inB
  exact vge_mul hp (Int.pow_ne_zero (by omega)) (by rw[val_pow hp2];omega)
theorem impl_gcd_l (n:Nat):∀(a b:Int),b.natAbs<n→ -9223372036854775807≤a→a≤9223372036854775807→ -9223372036854775807≤b→b≤9223372036854775807→Ev (fun k=>impl_gcd.l0 k a b) (Int.gcd a b:Int):=by
  induction n with
  |zero=>intro a b h;omega
  |succ n ih=>
   intro a b hn ha1 ha2 hb1 hb2
   by_cases hb:b=0
   · subst hb
     refine Ev.step (f:=fun _=>some (mx a (wrap64 (-a)))) (fun k=>by simp only[impl_gcd.l0,if_true]) ?_
     rw[mx_abs a ha1 ha2,Int.gcd_zero_right];exact Ev.now _
   · have hlt: (Int.tmod a b).natAbs<b.natAbs:=by rw[Int.natAbs_tmod];exact Nat.mod_lt _ (by omega)
     refine Ev.step (f:=fun k=>impl_gcd.l0 k b (Int.tmod a b)) (fun k=>by simp only[impl_gcd.l0];rw[if_neg hb]) ?_
     rw[←gcd_step a b hb]
     exact ih _ _ (by omega) hb1 hb2 (by omega) (by omega)
theorem impl_gcd_ev (a b:Int) (ha1: -9223372036854775807≤a) (ha2:a≤9223372036854775807) (hb1: -9223372036854775807≤b) (hb2:b≤9223372036854775807):Ev (fun k=>impl_gcd.f k a b) (Int.gcd a b:Int):=by
  unfold impl_gcd.f
  exact impl_gcd_l (b.natAbs+1) a b (by omega) ha1 ha2 hb1 hb2
theorem spec_l01Gcd_l (n:Nat):∀(a b:Int),b.natAbs<n→ -9223372036854775807≤a→a≤9223372036854775807→ -9223372036854775807≤b→b≤9223372036854775807→Ev (fun k=>spec_l01Gcd.l0 k a b) (Int.gcd a b:Int):=by
  induction n with
  |zero=>intro a b h;omega
  |succ n ih=>
   intro a b hn ha1 ha2 hb1 hb2
   by_cases hb:b=0
   · subst hb
     refine Ev.step (f:=fun _=>some (mx a (wrap64 (-a)))) (fun k=>by simp only[spec_l01Gcd.l0,if_true]) ?_
     rw[mx_abs a ha1 ha2,Int.gcd_zero_right];exact Ev.now _
   · have hlt: (Int.tmod a b).natAbs<b.natAbs:=by rw[Int.natAbs_tmod];exact Nat.mod_lt _ (by omega)
     refine Ev.step (f:=fun k=>spec_l01Gcd.l0 k b (Int.tmod a b)) (fun k=>by simp only[spec_l01Gcd.l0];rw[if_neg hb]) ?_
     rw[←gcd_step a b hb]
     exact ih _ _ (by omega) hb1 hb2 (by omega) (by omega)
theorem spec_l01Gcd_ev (a b:Int) (ha1: -9223372036854775807≤a) (ha2:a≤9223372036854775807) (hb1: -9223372036854775807≤b) (hb2:b≤9223372036854775807):Ev (fun k=>spec_l01Gcd.f k a b) (Int.gcd a b:Int):=by
  unfold spec_l01Gcd.f
  exact spec_l01Gcd_l (b.natAbs+1) a b (by omega) ha1 ha2 hb1 hb2
theorem inv_ex {p d:Int} (L:Int) (hp:primeB p=true) (hd:d≠0):∃w,(-6≤L∧L≤6)→isInv (uOf p d) (p^(L+6).toNat) w:=by
  have hp2:=prime_lo hp
  by_cases hL: -6≤L∧L≤6
  · have m1:=ipow_pos (p:=p) (by omega) (L+6).toNat
    have m2:=pow_13 hp (L+6).toNat (by omega)
    obtain⟨w,_,iw⟩:=impl_inverse_ev m1 (by omega) (gcd_unit hp (uOf_spec hp2 hd).2 (L+6).toNat)
    exact⟨w,fun _=>iw⟩
  · exact⟨0,fun h=>absurd h hL⟩
theorem rd_set_self (l:List Int) (i:Nat) (v:Int) (h:i<l.length):rd (l.set i v) (i:Int)=v:=by
  rw[rd_nat _ i (by rw[List.length_set];exact h),List.getElem_set_self]
theorem spec_l04Reduce_l1s (l:List Int) (g s:Int) (f:Bool) (i:Nat) (hi:i<4) (hl:l.length=4) (hg:g≠0) (v:Int) (hv:wrap64 ((wrap64 (Int.tdiv (rd l i) g))*s)=v) (k:Nat):
    spec_l04Reduce.l1 (k+1) l g s f i=spec_l04Reduce.l1 k (l.set i v) g s (f&&entB v) ((i:Int)+1):=by
  have hI:∀x:Int,spec_l01In.f x (-1000) 1000=some (entB x):=fun x=>In_eq x _ _
  simp only[spec_l04Reduce.l1]
  rw[if_pos (by omega),if_pos (by omega),if_pos (by omega),if_neg hg,hv]
  simp only[Option.bind_some,Int.toNat_natCast]
  rw[rd_set_self l i v (by omega),hI,wid (n:=(i:Int)+1) (by omega) (by omega)]
  cases f
  · simp
  · simp
def s1 (x:Int):Int:=if x=0 then 0 else if x<0 then -1 else 1
theorem tdiv_abs {x:Int} (h:x≠0):Int.tdiv x (x.natAbs:Int)=s1 x:=by
  unfold s1
  rw[if_neg h]
  by_cases hx:x<0
  · rw[if_pos hx,show (x.natAbs:Int)= -x from by omega,Int.tdiv_neg,Int.tdiv_self h]
  · rw[if_neg hx,show (x.natAbs:Int)=x from by omega,Int.tdiv_self h]
theorem spec_l04Reduce_l0s (l:List Int) (g s:Int) (i:Nat) (hi:i<4) (hl:l.length=4) (hg:0≤g∧g≤4611686018427387904) (hx:bd62 (rd l i)) {r:Int×Int×Int×Int×Bool}
    (h:Ev (fun k=>spec_l04Reduce.l0 k l (Int.gcd g (rd l i):Int) (if s=0 then s1 (rd l i) else s) ((i:Int)+1)) r):Ev (fun k=>spec_l04Reduce.l0 k l g s i) r:=by
  unfold bd62 at hx
  have hm:=mx_abs (rd l i) (by omega) (by omega)
  refine Ev.step (f:=fun k=>(spec_l01Gcd.f k g ((rd l i).natAbs:Int)).bind fun t=>if s=0 then(if rd l i=0 then spec_l04Reduce.l0 k l t s ((i:Int)+1) else if ((rd l i).natAbs:Int)=0 then none else spec_l04Reduce.l0 k l t (wrap64 (Int.tdiv (rd l i) ((rd l i).natAbs:Int))) ((i:Int)+1)) else spec_l04Reduce.l0 k l t s ((i:Int)+1)) (fun k=>?_) ?_
  · simp only[spec_l04Reduce.l0]
    rw[if_pos (by omega),if_pos (by omega),if_pos (by omega),hm,wid (n:=(i:Int)+1) (by omega) (by omega)]
  · refine Ev.bind (spec_l01Gcd_ev _ _ (by omega) (by omega) (by omega) (by omega)) ?_
    rw[show (Int.gcd g ((rd l i).natAbs:Int):Int)=(Int.gcd g (rd l i):Int) from by unfold Int.gcd;rw[Int.natAbs_natCast]]
    by_cases hs:s=0
    · rw[if_pos hs] at h
      simp only[if_pos hs]
      by_cases h0:rd l i=0
      · simp only[if_pos h0]
        rw[show s1 (rd l i)=s from by unfold s1;rw[if_pos h0,hs]] at h
        exact h
      · simp only[if_neg h0,if_neg (show ¬((rd l i).natAbs:Int)=0 by omega)]
        rw[tdiv_abs h0,wid (n:=s1 (rd l i)) (by unfold s1;split<;>(try split)<;>omega) (by unfold s1;split<;>(try split)<;>omega)]
        exact h
    · rw[if_neg hs] at h
      simp only[if_neg hs]
      exact h
theorem spec_l04Reduce_ev {a b c d:Int} (ha:bd62 a) (hb:bd62 b) (hc:bd62 c) (hd:bd62 d) (hne:a≠0∨b≠0):
    Ev (fun k=>spec_l04Reduce.f k a b c d) (rM a b c d a,rM a b c d b,rM a b c d c,rM a b c d d,fitM a b c d):=by
  have k1:=gcd_le ha hb
  have k2:=gcd_le hc hd
  have k3:g4 a b c d≤4611686018427387904:=gcd_le (a:=Int.gcd a b) (b:=Int.gcd c d) (by omega) (by omega)
  have k0:=g4_nonneg a b c d
  have hg:=g4_ne c d hne
  have hsg:=sg_or a b
  have q1: (Int.gcd (a.natAbs:Int) b:Int)=(Int.gcd a b:Int):=by unfold Int.gcd;rw[Int.natAbs_natCast]
  have q3:=gcd_le (a:=(Int.gcd a b:Int)) (b:=c) (M:=4611686018427387904) (by omega) hc
  have q4: (Int.gcd (Int.gcd (Int.gcd a b:Int) c:Int) d:Int)=g4 a b c d:=by unfold g4;rw[Int.gcd_assoc]
  have fin:Ev (fun k=>spec_l04Reduce.l0 k [a,b,c,d] (g4 a b c d) (sg a b) 4) (rM a b c d a,rM a b c d b,rM a b c d c,rM a b c d d,fitM a b c d):=by
    have vx:∀x,bd62 x→wrap64 ((wrap64 (Int.tdiv x (g4 a b c d)))*sg a b)=rM a b c d x:=by
      intro x hx
      have:=tdiv_bd (g4 a b c d) hx
      unfold rM byM
      rw[wid (n:=Int.tdiv x (g4 a b c d)) (by omega) (by omega)]
      rcases hsg with e|e<;>rw[e]
      · rw[Int.mul_one,Int.mul_one,wid (by omega) (by omega)]
      · rw[Int.mul_neg_one,Int.mul_neg_one,Int.tdiv_neg,wid (by omega) (by omega)]
    refine Ev.step (f:=fun k=>spec_l04Reduce.l1 k [a,b,c,d] (g4 a b c d) (sg a b) true (0:Nat)) (fun k=>?_) ?_
    · simp only[spec_l04Reduce.l0]
      rw[if_neg (by decide),mx_abs _ (by omega) (by omega),show ((g4 a b c d).natAbs:Int)=g4 a b c d from by omega];rfl
    refine Ev.step (fun k=>spec_l04Reduce_l1s [a,b,c,d] _ _ true 0 (by decide) rfl hg _ (vx a ha) k) ?_
    refine Ev.step (fun k=>spec_l04Reduce_l1s [rM a b c d a,b,c,d] _ _ _ 1 (by decide) rfl hg _ (vx b hb) k) ?_
    refine Ev.step (fun k=>spec_l04Reduce_l1s [rM a b c d a,rM a b c d b,c,d] _ _ _ 2 (by decide) rfl hg _ (vx c hc) k) ?_
    refine Ev.step (fun k=>spec_l04Reduce_l1s [rM a b c d a,rM a b c d b,rM a b c d c,d] _ _ _ 3 (by decide) rfl hg _ (vx d hd) k) ?_
    refine Ev.step (f:=fun _=>some (rM a b c d a,rM a b c d b,rM a b c d c,rM a b c d d,fitM a b c d)) (fun k=>?_) (Ev.now _)
    simp only[spec_l04Reduce.l1]
    rw[if_neg (by decide),if_pos (by simp),if_pos (by simp),if_pos (by simp),if_pos (by simp)]
    unfold fitM
    simp only[Bool.true_and,Bool.and_assoc]
    rfl
  unfold spec_l04Reduce.f
  unfold bd62 at ha hb hc hd
  refine spec_l04Reduce_l0s [a,b,c,d] 0 0 0 (by decide) rfl (by omega) ha ?_
  show Ev (fun k=>spec_l04Reduce.l0 k [a,b,c,d] (Int.gcd 0 a:Int) (if (0:Int)=0 then s1 a else 0) ((1:Nat):Int)) _
  rw[Int.gcd_zero_left,if_pos rfl]
  refine spec_l04Reduce_l0s [a,b,c,d] _ _ 1 (by decide) rfl (by omega) hb ?_
  show Ev (fun k=>spec_l04Reduce.l0 k [a,b,c,d] (Int.gcd (a.natAbs:Int) b:Int) (if s1 a=0 then s1 b else s1 a) ((2:Nat):Int)) _
  rw[q1,show (if s1 a=0 then s1 b else s1 a)=sg a b from by unfold s1 sg;split<;>split<;>(try split)<;>(try split)<;>omega]
  refine spec_l04Reduce_l0s [a,b,c,d] _ _ 2 (by decide) rfl (by omega) hc ?_
  show Ev (fun k=>spec_l04Reduce.l0 k [a,b,c,d] (Int.gcd (Int.gcd a b:Int) c:Int) (if sg a b=0 then s1 c else sg a b) ((3:Nat):Int)) _
  rw[if_neg (by omega)]
  refine spec_l04Reduce_l0s [a,b,c,d] _ _ 3 (by decide) rfl (by omega) hd ?_
  show Ev (fun k=>spec_l04Reduce.l0 k [a,b,c,d] (Int.gcd (Int.gcd (Int.gcd a b:Int) c:Int) d:Int) (if sg a b=0 then s1 d else sg a b) ((4:Nat):Int)) _
  rw[if_neg (by omega),q4]
  exact fin
theorem spec_l04Times_l (a b c d e f g h:Int) (r:Int×Int×Int×Int×Bool) (hr:Ev (fun k=>spec_l04Reduce.f k (mulW a b e g) (mulW a b f h) (mulW c d e g) (mulW c d f h)) r):Ev (fun k=>spec_l04Times.f k a b c d e f g h) r:=by
  have w0:wrap64 1=1:=wid (by omega) (by omega)
  have w1:wrap64 2=2:=wid (by omega) (by omega)
  unfold spec_l04Times.f
  refine Ev.step (f:=fun k=>spec_l04Times.l1 k 0 0 a b c d e f g h 0 0 0 0) (fun k=>by simp[spec_l04Times.l0]) ?_
  refine Ev.step (f:=fun k=>spec_l04Times.l1 k 0 1 a b c d e f g h (mulW a b e g) 0 0 0) (fun k=>by simp[spec_l04Times.l1,w0,mulW]) ?_
  refine Ev.step (f:=fun k=>spec_l04Times.l1 k 0 2 a b c d e f g h (mulW a b e g) (mulW a b f h) 0 0) (fun k=>by simp[spec_l04Times.l1,w1,mulW]) ?_
  refine Ev.step (f:=fun k=>spec_l04Times.l0 k 1 a b c d e f g h (mulW a b e g) (mulW a b f h) 0 0) (fun k=>by simp[spec_l04Times.l1,w0]) ?_
  refine Ev.step (f:=fun k=>spec_l04Times.l1 k 1 0 a b c d e f g h (mulW a b e g) (mulW a b f h) 0 0) (fun k=>by simp[spec_l04Times.l0]) ?_
  refine Ev.step (f:=fun k=>spec_l04Times.l1 k 1 1 a b c d e f g h (mulW a b e g) (mulW a b f h) (mulW c d e g) 0) (fun k=>by simp[spec_l04Times.l1,w0,mulW]) ?_
  refine Ev.step (f:=fun k=>spec_l04Times.l1 k 1 2 a b c d e f g h (mulW a b e g) (mulW a b f h) (mulW c d e g) (mulW c d f h)) (fun k=>by simp[spec_l04Times.l1,w1,mulW]) ?_
  refine Ev.step (f:=fun k=>spec_l04Times.l0 k 2 a b c d e f g h (mulW a b e g) (mulW a b f h) (mulW c d e g) (mulW c d f h)) (fun k=>by simp[spec_l04Times.l1,w1]) ?_
  refine Ev.step (f:=fun k=>(spec_l04Reduce.f k (mulW a b e g) (mulW a b f h) (mulW c d e g) (mulW c d f h)).bind fun t=>some (t.1,t.2.1,t.2.2.1,t.2.2.2.1,t.2.2.2.2)) (fun k=>by simp[spec_l04Times.l0]) ?_
  exact Ev.bind hr (Ev.now _)
theorem spec_l04Times_ev {g h:M4} (hg:g.ok=true) (hh:h.ok=true):Ev (fun k=>spec_l04Times.f k g.a g.b g.c g.d h.a h.b h.c h.d) ((g.mul h).red.a,(g.mul h).red.b,(g.mul h).red.c,(g.mul h).red.d,(g.mul h).red.ok):=by
  obtain⟨g1,g2,g3,g4⟩:=M4.fit_bd (M4.ok_fit hg)
  obtain⟨h1,h2,h3,h4⟩:=M4.fit_bd (M4.ok_fit hh)
  have hdet: (g.mul h).det≠0:=by rw[M4.det_mul];exact Int.mul_ne_zero (M4.ok_det hg) (M4.ok_det hh)
  have m0: (0:Int)≤1000:=by omega
  refine spec_l04Times_l _ _ _ _ _ _ _ _ _ ?_
  rw[mulW_eq m0 (by omega) g1 g2 h1 h3,mulW_eq m0 (by omega) g1 g2 h2 h4,mulW_eq m0 (by omega) g3 g4 h1 h3,mulW_eq m0 (by omega) g3 g4 h2 h4]
  have bd:∀{x y u v:Int},(-1000≤x∧x≤1000)→(-1000≤y∧y≤1000)→(-1000≤u∧u≤1000)→(-1000≤v∧v≤1000)→bd62 (x*u+y*v):=by
    intro x y u v hx hy hu hv
    obtain⟨a1,a2⟩:=mul_bd hx.1 hx.2 hu.1 hu.2 m0 m0
    obtain⟨b1,b2⟩:=mul_bd hy.1 hy.2 hv.1 hv.2 m0 m0
    unfold bd62;omega
  have:=spec_l04Reduce_ev (bd g1 g2 h1 h3) (bd g1 g2 h2 h4) (bd g3 g4 h1 h3) (bd g3 g4 h2 h4) (M4.row_ne hdet)
  rw[M4.ok_of (M4.red_det hdet)]
  exact this
theorem impl_reduced_l {a b c d y:Int} (ha:bd62 a) (hb:bd62 b) (hc:bd62 c) (hd:bd62 d) (hy:y≠0):
    Ev (fun k=>impl_reduced.l0 k y 0 a b c d) (Int.tdiv a y,Int.tdiv b y,Int.tdiv c y,Int.tdiv d y,matB (Int.tdiv a y) (Int.tdiv b y) (Int.tdiv c y) (Int.tdiv d y)):=by
  have w0:wrap64 1=1:=wid (by omega) (by omega)
  have w1:wrap64 2=2:=wid (by omega) (by omega)
  have wx:∀x,bd62 x→wrap64 (Int.tdiv x y)=Int.tdiv x y:=fun x hx=>by have:=tdiv_bd y hx;exact wid (by omega) (by omega)
  refine Ev.step (f:=fun k=>impl_reduced.l1 k y 0 0 0 a b c d) (fun k=>by simp[impl_reduced.l0]) ?_
  refine Ev.step (f:=fun k=>impl_reduced.l1 k y 0 0 1 (Int.tdiv a y) b c d) (fun k=>by simp[impl_reduced.l1,hy,w0,wx a ha]) ?_
  refine Ev.step (f:=fun k=>impl_reduced.l1 k y 0 0 2 (Int.tdiv a y) (Int.tdiv b y) c d) (fun k=>by simp[impl_reduced.l1,hy,w1,wx b hb]) ?_
  refine Ev.step (f:=fun k=>impl_reduced.l0 k y 1 (Int.tdiv a y) (Int.tdiv b y) c d) (fun k=>by simp[impl_reduced.l1,w0]) ?_
  refine Ev.step (f:=fun k=>impl_reduced.l1 k y 1 1 0 (Int.tdiv a y) (Int.tdiv b y) c d) (fun k=>by simp[impl_reduced.l0]) ?_
  refine Ev.step (f:=fun k=>impl_reduced.l1 k y 1 1 1 (Int.tdiv a y) (Int.tdiv b y) (Int.tdiv c y) d) (fun k=>by simp[impl_reduced.l1,hy,w0,wx c hc]) ?_
  refine Ev.step (f:=fun k=>impl_reduced.l1 k y 1 1 2 (Int.tdiv a y) (Int.tdiv b y) (Int.tdiv c y) (Int.tdiv d y)) (fun k=>by simp[impl_reduced.l1,hy,w1,wx d hd]) ?_
  refine Ev.step (f:=fun k=>impl_reduced.l0 k y 2 (Int.tdiv a y) (Int.tdiv b y) (Int.tdiv c y) (Int.tdiv d y)) (fun k=>by simp[impl_reduced.l1,w1]) ?_
  refine Ev.step (f:=fun k=>(impl_IsMatrix.f k (Int.tdiv a y) (Int.tdiv b y) (Int.tdiv c y) (Int.tdiv d y)).bind fun t=>some (Int.tdiv a y,Int.tdiv b y,Int.tdiv c y,Int.tdiv d y,t)) (fun k=>by simp[impl_reduced.l0]) ?_
  exact Ev.bind (impl_IsMatrix_ev _ _ _ _) (Ev.now _)
theorem impl_reduced_ev {a b c d:Int} (ha:bd62 a) (hb:bd62 b) (hc:bd62 c) (hd:bd62 d) (hne:a≠0∨b≠0):
    Ev (fun k=>impl_reduced.f k a b c d) (rM a b c d a,rM a b c d b,rM a b c d c,rM a b c d d,matB (rM a b c d a) (rM a b c d b) (rM a b c d c) (rM a b c d d)):=by
  have k1:=gcd_le ha hb
  have k2:=gcd_le hc hd
  have k3:g4 a b c d≤4611686018427387904:=gcd_le (a:=Int.gcd a b) (b:=Int.gcd c d) (by omega) (by omega)
  have k0:=g4_nonneg a b c d
  have hy:=byM_ne c d hne
  have main:=impl_reduced_l ha hb hc hd hy
  unfold bd62 at ha hb hc hd
  unfold impl_reduced.f
  refine Ev.bind (impl_gcd_ev a b (by omega) (by omega) (by omega) (by omega)) (Ev.bind (impl_gcd_ev c d (by omega) (by omega) (by omega) (by omega)) (Ev.bind (impl_gcd_ev _ _ (by omega) (by omega) (by omega) (by omega)) ?_))
  have neg:sg a b= -1→Ev (fun k=>impl_reduced.j0 k (g4 a b c d) true a b c d) (rM a b c d a,rM a b c d b,rM a b c d c,rM a b c d d,matB (rM a b c d a) (rM a b c d b) (rM a b c d c) (rM a b c d d)):=by
    intro e
    refine Ev.step (f:=fun k=>impl_reduced.j1 k (wrap64 (-(g4 a b c d))) a b c d) (fun k=>by simp[impl_reduced.j0]) ?_
    refine Ev.step (f:=fun k=>impl_reduced.l0 k (wrap64 (-(g4 a b c d))) 0 a b c d) (fun k=>by simp[impl_reduced.j1]) ?_
    rw[wid (n:= -(g4 a b c d)) (by omega) (by omega),show -(g4 a b c d)=byM a b c d from by unfold byM;rw[e];omega]
    exact main
  have pos:sg a b=1→Ev (fun k=>impl_reduced.j0 k (g4 a b c d) false a b c d) (rM a b c d a,rM a b c d b,rM a b c d c,rM a b c d d,matB (rM a b c d a) (rM a b c d b) (rM a b c d c) (rM a b c d d)):=by
    intro e
    refine Ev.step (f:=fun k=>impl_reduced.j1 k (g4 a b c d) a b c d) (fun k=>by simp[impl_reduced.j0]) ?_
    refine Ev.step (f:=fun k=>impl_reduced.l0 k (g4 a b c d) 0 a b c d) (fun k=>by simp[impl_reduced.j1]) ?_
    rw[show g4 a b c d=byM a b c d from by unfold byM;rw[e];omega]
    exact main
  by_cases h1:a<0
  · simp only[if_pos h1];exact neg (by unfold sg;rw[if_pos (.inl h1)])
  · simp only[if_neg h1]
    by_cases h2:a=0
    · simp only[if_pos h2]
      by_cases h3:b<0
      · rw[decide_eq_true h3];exact neg (by unfold sg;rw[if_pos (.inr ⟨h2,h3⟩)])
      · rw[decide_eq_false h3];exact pos (by unfold sg;rw[if_neg (by omega)])
    · simp only[if_neg h2];exact pos (by unfold sg;rw[if_neg (by omega)])
theorem impl_product_l (a b c d e f g h:Int) (r:Int×Int×Int×Int×Bool) (hr:Ev (fun k=>impl_reduced.f k (mulW a b e g) (mulW a b f h) (mulW c d e g) (mulW c d f h)) r):Ev (fun k=>impl_product.f k a b c d e f g h) r:=by
  have w0:wrap64 1=1:=wid (by omega) (by omega)
  have w1:wrap64 2=2:=wid (by omega) (by omega)
  unfold impl_product.f
  refine Ev.step (f:=fun k=>impl_product.l1 k 0 0 0 a b c d e f g h 0 0 0 0) (fun k=>by simp[impl_product.l0]) ?_
  refine Ev.step (f:=fun k=>impl_product.l1 k 0 0 1 a b c d e f g h (mulW a b e g) 0 0 0) (fun k=>by simp[impl_product.l1,w0,mulW]) ?_
  refine Ev.step (f:=fun k=>impl_product.l1 k 0 0 2 a b c d e f g h (mulW a b e g) (mulW a b f h) 0 0) (fun k=>by simp[impl_product.l1,w1,mulW]) ?_
  refine Ev.step (f:=fun k=>impl_product.l0 k 1 a b c d e f g h (mulW a b e g) (mulW a b f h) 0 0) (fun k=>by simp[impl_product.l1,w0]) ?_
  refine Ev.step (f:=fun k=>impl_product.l1 k 1 1 0 a b c d e f g h (mulW a b e g) (mulW a b f h) 0 0) (fun k=>by simp[impl_product.l0]) ?_
  refine Ev.step (f:=fun k=>impl_product.l1 k 1 1 1 a b c d e f g h (mulW a b e g) (mulW a b f h) (mulW c d e g) 0) (fun k=>by simp[impl_product.l1,w0,mulW]) ?_
  refine Ev.step (f:=fun k=>impl_product.l1 k 1 1 2 a b c d e f g h (mulW a b e g) (mulW a b f h) (mulW c d e g) (mulW c d f h)) (fun k=>by simp[impl_product.l1,w1,mulW]) ?_
  refine Ev.step (f:=fun k=>impl_product.l0 k 2 a b c d e f g h (mulW a b e g) (mulW a b f h) (mulW c d e g) (mulW c d f h)) (fun k=>by simp[impl_product.l1,w1]) ?_
  refine Ev.step (f:=fun k=>(impl_reduced.f k (mulW a b e g) (mulW a b f h) (mulW c d e g) (mulW c d f h)).bind fun t=>some (t.1,t.2.1,t.2.2.1,t.2.2.2.1,t.2.2.2.2)) (fun k=>by simp[impl_product.l0]) ?_
  exact Ev.bind hr (Ev.now _)
theorem impl_product_ev {g h:M4} (hg:g.ok=true) (hh:h.ok=true):Ev (fun k=>impl_product.f k g.a g.b g.c g.d h.a h.b h.c h.d) ((g.mul h).red.a,(g.mul h).red.b,(g.mul h).red.c,(g.mul h).red.d,(g.mul h).red.ok):=by
  obtain⟨g1,g2,g3,g4⟩:=M4.fit_bd (M4.ok_fit hg)
  obtain⟨h1,h2,h3,h4⟩:=M4.fit_bd (M4.ok_fit hh)
  have hdet: (g.mul h).det≠0:=by rw[M4.det_mul];exact Int.mul_ne_zero (M4.ok_det hg) (M4.ok_det hh)
  have m0: (0:Int)≤1000:=by omega
  refine impl_product_l _ _ _ _ _ _ _ _ _ ?_
  rw[mulW_eq m0 (by omega) g1 g2 h1 h3,mulW_eq m0 (by omega) g1 g2 h2 h4,mulW_eq m0 (by omega) g3 g4 h1 h3,mulW_eq m0 (by omega) g3 g4 h2 h4]
  have bd:∀{x y u v:Int},(-1000≤x∧x≤1000)→(-1000≤y∧y≤1000)→(-1000≤u∧u≤1000)→(-1000≤v∧v≤1000)→bd62 (x*u+y*v):=by
    intro x y u v hx hy hu hv
    obtain⟨a1,a2⟩:=mul_bd hx.1 hx.2 hu.1 hu.2 m0 m0
    obtain⟨b1,b2⟩:=mul_bd hy.1 hy.2 hv.1 hv.2 m0 m0
    unfold bd62;omega
  have:=impl_reduced_ev (bd g1 g2 h1 h3) (bd g1 g2 h2 h4) (bd g3 g4 h1 h3) (bd g3 g4 h2 h4) (M4.row_ne hdet)
  exact this
theorem impl_reduce_ev {a b c d:Int} (ha:bd62 a) (hb:bd62 b) (hc:bd62 c) (hd:bd62 d) (hne:a≠0∨b≠0):
    Ev (fun k=>impl_reduce.f k a b c d) (rM a b c d a,rM a b c d b,rM a b c d c,rM a b c d d):=by
  unfold impl_reduce.f
  exact Ev.bind (impl_reduced_ev ha hb hc hd hne) (Ev.now _)
theorem wneg {x M:Int} (hM:M≤4611686018427387904) (h: -M≤x∧x≤M):wrap64 (-x)= -x:=wid (by omega) (by omega)
theorem impl_inverted_ev {g:M4} (hg:g.ok=true):Ev (fun k=>impl_inverted.f k g.a g.b g.c g.d) (g.adj.red.a,g.adj.red.b,g.adj.red.c,g.adj.red.d):=by
  obtain⟨g1,g2,g3,g4⟩:=M4.fit_bd (M4.ok_fit hg)
  unfold impl_inverted.f
  rw[wneg (by omega) g2,wneg (by omega) g3]
  have:=impl_reduce_ev (a:=g.d) (b:= -g.b) (c:= -g.c) (d:=g.a) (by unfold bd62;omega) (by unfold bd62;omega) (by unfold bd62;omega) (by unfold bd62;omega) (M4.row_ne (g:=g.adj) (by rw[M4.adj_det];exact M4.ok_det hg))
  exact Ev.bind this (Ev.now _)
theorem wneg' {x M:Int} (hM:M≤4611686018427387904) (h: -M≤x∧x≤M):wrap64 (-x)= -x:=wid (by omega) (by omega)
theorem spec_l04Inverse_ev {g:M4} (hg:g.ok=true):Ev (fun k=>spec_l04Inverse.f k g.a g.b g.c g.d) (g.adj.red.a,g.adj.red.b,g.adj.red.c,g.adj.red.d):=by
  obtain⟨g1,g2,g3,g4⟩:=M4.fit_bd (M4.ok_fit hg)
  unfold spec_l04Inverse.f
  rw[wneg' (by omega) g2,wneg' (by omega) g3]
  have:=spec_l04Reduce_ev (a:=g.d) (b:= -g.b) (c:= -g.c) (d:=g.a) (by unfold bd62;omega) (by unfold bd62;omega) (by unfold bd62;omega) (by unfold bd62;omega) (M4.row_ne (g:=g.adj) (by rw[M4.adj_det];exact M4.ok_det hg))
  exact Ev.bind this (Ev.now _)
theorem M4.smul_mul (m:Int) (g h:M4): (g.smul m).mul h=(g.mul h).smul m:=by
  apply M4.ext'<;>simp only[M4.mul,M4.smul,Int.mul_add,Int.mul_assoc]
theorem M4.red_red {g:M4} (hg:g.det≠0):g.red.red=g.red:=by
  conv=>rhs;rw[←M4.smul_red g]
  rw[M4.red_smul (M4.by_ne hg) (M4.red_det hg)]
theorem M4.red_mul_left {g h:M4} (hg:g.det≠0) (hh:h.det≠0): (g.red.mul h).red=(g.mul h).red:=by
  conv=>rhs;rw[←M4.smul_red g,M4.smul_mul]
  rw[M4.red_smul (M4.by_ne hg)]
  rw[M4.det_mul];exact Int.mul_ne_zero (M4.red_det hg) hh
theorem M4.mul_assoc (g h x:M4): (g.mul h).mul x=g.mul (h.mul x):=by
  apply M4.ext'<;>simp only[M4.mul]<;>grind
theorem M4.mul_adj (g:M4):g.mul g.adj=M4.one.smul g.det:=by
  apply M4.ext'<;>simp only[M4.mul,M4.adj,M4.one,M4.smul,M4.det]<;>grind
theorem M4.one_red:M4.one.red=M4.one:=by
  apply M4.ext'<;>decide
def jnW (p L L' X Y:Int):Int:=mn (mn L L') (valW p (X - Y) - 6)
theorem valW_bd {p n:Int} (hp:2≤p) (h1: -4611686018427387904≤n) (h2:n≤4611686018427387904):0≤valW p n∧valW p n≤1000:=by
  unfold valW
  by_cases h:n=0
  · rw[if_pos h];omega
  · rw[if_neg h]
    have:=val_le_of_lt hp h 63 (by omega)
    omega
theorem mn_min (a b:Int):mn a b=min a b:=by unfold mn;split<;>omega
theorem mx_max2 (a b:Int):mx a b=max a b:=by unfold mx;split<;>omega
theorem mark_top {p L T D:Int} (h:ballB p L T D=true):0≤markOf p T D∧markOf p T D≤13841287201:=by
  obtain⟨hp,hL,_⟩:=ball_parts h
  obtain⟨m0,m1⟩:=mark_lt h
  have:=pow_13 hp (L+6).toNat (by omega)
  omega
section
variable {p L T D L' T' D':Int} (h:ballB p L T D=true) (h':ballB p L' T' D'=true)
include h h'
theorem impl_joinLevel_ev:Ev (fun k=>impl_joinLevel.f k p L T D L' T' D') (jnW p L L' (markOf p T D) (markOf p T' D')):=by
  have hp:=(ball_parts h).1
  have m:=mark_top h
  have m':=mark_top h'
  have hv:=valW_bd (p:=p) (n:=markOf p T D - markOf p T' D') (prime_lo hp) (by omega) (by omega)
  unfold impl_joinLevel.f jnW
  refine Ev.bind (impl_mark_ev h) (Ev.bind (impl_mark_ev h') ?_)
  rw[wid (n:=markOf p T D - markOf p T' D') (by omega) (by omega)]
  refine Ev.bind (impl_valuation_ev (prime_lo hp) (by omega) (by omega)) ?_
  rw[wid (n:=valW p (markOf p T D - markOf p T' D') - 6) (by omega) (by omega)]
  exact Ev.now _
theorem spec_l02Join_ev:Ev (fun k=>spec_l02Join.f k p L T D L' T' D') (jnW p L L' (markOf p T D) (markOf p T' D')):=by
  obtain⟨hp,hL,hD,_,_⟩:=ball_parts h
  obtain⟨_,hL',hD',_,_⟩:=ball_parts h'
  have hp2:=prime_lo hp
  have m:=mark_top h
  have m':=mark_top h'
  have t0:=ball_num h
  have t0':=ball_num h'
  have hv:=valW_bd (p:=p) (n:=markOf p T D - markOf p T' D') hp2 (by omega) (by omega)
  unfold spec_l02Join.f spec_l02Valuation.f
  rw[mx_max2]
  generalize hdn:max D D'=dn
  have hd1:D≤dn∧D'≤dn∧0≤dn∧dn≤6:=by omega
  rw[wid (n:=dn - D) (by omega) (by omega),wid (n:=dn - D') (by omega) (by omega)]
  have e:markOf p T D=T*p^(dn - D).toNat*p^(6 - dn).toNat:=by
    unfold markOf;rw[Int.mul_assoc,←Int.pow_add];congr 2;omega
  have e':markOf p T' D'=T'*p^(dn - D').toNat*p^(6 - dn).toNat:=by
    unfold markOf;rw[Int.mul_assoc,←Int.pow_add];congr 2;omega
  have q1:=ipow_pos (show 1≤p by omega) (6 - dn).toNat
  have q2:=ipow_pos (show 1≤p by omega) (dn - D).toNat
  have q3:=ipow_pos (show 1≤p by omega) (dn - D').toNat
  have w0:=Int.mul_nonneg t0.1 (show 0≤p^(dn - D).toNat by omega)
  have w0':=Int.mul_nonneg t0'.1 (show 0≤p^(dn - D').toNat by omega)
  have w1:T*p^(dn - D).toNat≤markOf p T D:=by
    rw[e]
    have:=Int.mul_nonneg w0 (show 0≤p^(6 - dn).toNat - 1 by omega)
    rw[Int.mul_sub] at this;omega
  have w1':T'*p^(dn - D').toNat≤markOf p T' D':=by
    rw[e']
    have:=Int.mul_nonneg w0' (show 0≤p^(6 - dn).toNat - 1 by omega)
    rw[Int.mul_sub] at this;omega
  have ed:markOf p T D - markOf p T' D'=p^(6 - dn).toNat*(T*p^(dn - D).toNat - T'*p^(dn - D').toNat):=by
    rw[e,e',Int.mul_sub,Int.mul_comm (p^(6 - dn).toNat),Int.mul_comm (p^(6 - dn).toNat)]
  refine Ev.bind (a:=if T*p^(dn - D).toNat - T'*p^(dn - D').toNat=0 then(0,false) else((val p (T*p^(dn - D).toNat - T'*p^(dn - D').toNat):Int) - dn,true)) ?_ ?_
  · refine Ev.bind (spec_l01Power_ev p _ (by omega)) (Ev.bind (spec_l01Power_ev p _ (by omega)) ?_)
    rw[powW_prime hp _ (by omega),powW_prime hp _ (by omega),wid (n:=T*p^(dn - D).toNat) (by omega) (by omega),wid (n:=T'*p^(dn - D').toNat) (by omega) (by omega),wid (n:=T*p^(dn - D).toNat - T'*p^(dn - D').toNat) (by omega) (by omega)]
    by_cases h0:T*p^(dn - D).toNat - T'*p^(dn - D').toNat=0
    · simp only[if_pos h0];exact Ev.now _
    · simp only[if_neg h0]
      refine Ev.bind (spec_l01Val_ev hp2 h0 (by omega) (by omega)) ?_
      have:=val_le_of_lt hp2 h0 63 (by omega)
      rw[wid (by omega) (by omega)]
      exact Ev.now _
  · unfold jnW
    by_cases h0:T*p^(dn - D).toNat - T'*p^(dn - D').toNat=0
    · simp only[if_pos h0,Bool.false_eq_true,if_false]
      have hz:markOf p T D - markOf p T' D'=0:=by rw[ed,h0,Int.mul_zero]
      rw[show mn (mn L L') (valW p (markOf p T D - markOf p T' D') - 6)=mn L L' from by
        unfold valW;rw[if_pos hz,mn_min,mn_min];omega]
      exact Ev.now _
    · simp only[if_neg h0,if_true]
      have hz:markOf p T D - markOf p T' D'≠0:=by
        rw[ed];exact Int.mul_ne_zero (by omega) h0
      have hv2:val p (markOf p T D - markOf p T' D')=(6 - dn).toNat+val p (T*p^(dn - D).toNat - T'*p^(dn - D').toNat):=by
        rw[ed];exact val_pow_mul _ hp2 h0
      rw[show valW p (markOf p T D - markOf p T' D') - 6=(val p (T*p^(dn - D).toNat - T'*p^(dn - D').toNat):Int) - dn from by
        unfold valW;rw[if_neg hz,hv2];omega]
      exact Ev.now _
theorem jnW_bd: -6≤jnW p L L' (markOf p T D) (markOf p T' D')∧jnW p L L' (markOf p T D) (markOf p T' D')≤L∧jnW p L L' (markOf p T D) (markOf p T' D')≤L':=by
  obtain⟨hp,hL,_⟩:=ball_parts h
  obtain⟨_,hL',_⟩:=ball_parts h'
  have m:=mark_top h
  have m':=mark_top h'
  have hv:=valW_bd (p:=p) (n:=markOf p T D - markOf p T' D') (prime_lo hp) (by omega) (by omega)
  unfold jnW
  rw[mn_min,mn_min]
  omega
theorem jnW_same:ofM p (jnW p L L' (markOf p T D) (markOf p T' D')) (markOf p T D)=ofM p (jnW p L L' (markOf p T D) (markOf p T' D')) (markOf p T' D'):=by
  have hb:=jnW_bd h h'
  obtain⟨hp,hL,_⟩:=ball_parts h
  have hp2:=prime_lo hp
  have m:=mark_top h
  have m':=mark_top h'
  have hj:jnW p L L' (markOf p T D) (markOf p T' D')+6≤valW p (markOf p T D - markOf p T' D'):=by
    unfold jnW;rw[mn_min,mn_min];omega
  generalize jnW p L L' (markOf p T D) (markOf p T' D')=J at hb hj⊢
  rw[ofM_inj hp2]
  by_cases hz:markOf p T D - markOf p T' D'=0
  · rw[show markOf p T D=markOf p T' D' by omega]
  · unfold valW at hj
    rw[if_neg hz] at hj
    exact Int.emod_eq_emod_iff_emod_sub_eq_zero.2 (Int.emod_eq_zero_of_dvd ((val_dvd hp2 hz _).2 (by omega)))
end
theorem impl_above_ev {p L T D K:Int} (h:ballB p L T D=true) (hK: -6≤K∧K≤6):Ev (fun k=>impl_above.f k p L T D K) ((ofM p K (markOf p T D)).1,(ofM p K (markOf p T D)).2.1,(ofM p K (markOf p T D)).2.2):=by
  unfold impl_above.f
  exact Ev.bind (impl_mark_ev h) (Ev.bind (impl_ofMark_ev (ball_parts h).1 hK) (Ev.now _))
theorem spec_l02Up_ev {p L T D K:Int} (h:ballB p L T D=true) (hK: -6≤K∧K≤6):Ev (fun k=>spec_l02Up.f k p L T D K) ((ofM p K (markOf p T D)).1,(ofM p K (markOf p T D)).2.1,(ofM p K (markOf p T D)).2.2,true):=by
  obtain⟨hp,hL,hD,_⟩:=ball_parts h
  have hT:=ball_num h
  unfold spec_l02Up.f
  refine Ev.bind (spec_l01Power_ev p D (by omega)) ?_
  rw[powW_prime hp _ (by omega)]
  have:=spec_l01Of_pow (num:=T) D.toNat hp (by omega) (by omega) (by omega) hK
  rw[show 6 - D.toNat=(6 - D).toNat from by omega] at this
  exact Ev.bind this (Ev.now _)
theorem mulS' {x y M N:Int} (hx: -M≤x∧x≤M) (hy: -N≤y∧y≤N) (hM:0≤M) (hN:0≤N): -(M*N)≤x*y∧x*y≤M*N:=mul_bd hx.1 hx.2 hy.1 hy.2 hM hN
theorem moveBall_both {p L T D:Int} {a b c d:Int} (h:ballB p L T D=true) (hg:matB a b c d=true):∃r:Int×Int×Int×Bool,
    Ev (fun k=>impl_moveBall.f k p a b c d L T D) r∧Ev (fun k=>spec_l04Move.f k p a b c d L T D) r∧(r.2.2.2=true→ballB p r.1 r.2.1 r.2.2.1=true):=by
  obtain⟨hp,hL,hD,_,_⟩:=ball_parts h
  have hp2:=prime_lo hp
  have hT:=ball_num h
  have hX:=mark_lt h
  have hX2:=pow_13 hp (L+6).toNat (by omega)
  have hsz0:=ipow_pos (p:=p) (by omega) (L+6).toNat
  have hok: (M4.mk a b c d).ok=true:=hg
  obtain⟨g1,g2,g3,g4⟩:=M4.fit_bd (M4.ok_fit hok)
  simp only at g1 g2 g3 g4
  have hdet:a*d - b*c≠0:=M4.ok_det hok
  obtain⟨db1,db2⟩:=det_bd (m:=1000) (by omega) g1 g2 g3 g4
  obtain⟨t,ht⟩:∃t:Nat,(t:Int)=mx D (-L):=⟨(mx D (-L)).toNat,by rw[mx_eq'];split<;>omega⟩
  have ht2: (t:Int)=if D< -L then -L else D:=by rw[ht,mx_eq']
  have t6:t≤6∧D≤t∧0≤L+t:=by split at ht2<;>omega
  have p6:=pow_6 hp 6 (by omega)
  have p60:=ipow_pos (p:=p) (by omega) 6
  have pt:=pow_6 hp t (by omega)
  have pt0:=ipow_pos (p:=p) (by omega) t
  have pL:=pow_13 hp (L+t).toNat (by omega)
  have pL0:=ipow_pos (p:=p) (by omega) (L+t).toNat
  have sc0:=ipow_pos (p:=p) (by omega) (6 - t)
  have hps:p^(6 - t)≠0:=by omega
  have eX:markOf p T D=p^(6 - t)*(T*p^((t:Int) - D).toNat):=by
    unfold markOf
    rw[show (6 - D).toNat=(6 - t)+((t:Int) - D).toNat from by omega,Int.pow_add];grind
  have e6:p^6=p^(6 - t)*p^t:=by rw[←Int.pow_add];congr 1;omega
  have eS:p^(L+6).toNat=p^(6 - t)*p^(L+t).toNat:=by rw[←Int.pow_add];congr 1;omega
  have pd0:=ipow_pos (p:=p) (by omega) ((t:Int) - D).toNat
  have pd1:=pow_6 hp ((t:Int) - D).toNat (by omega)
  obtain⟨Y,hY⟩:∃Y,Y=T*p^((t:Int) - D).toNat:=⟨_,rfl⟩
  have hY0:0≤Y:=by rw[hY];exact Int.mul_nonneg hT.1 (by omega)
  rw[←hY] at eX
  have hY1:Y≤markOf p T D:=by
    rw[eX]
    have:=Int.mul_le_mul_of_nonneg_right sc0 hY0
    omega
  have aP:=mulS' (M:=1000) (N:=13841287201) g1 (y:=p^(L+t).toNat) (by omega) (by omega) (by omega)
  have cP:=mulS' (M:=1000) (N:=13841287201) g3 (y:=p^(L+t).toNat) (by omega) (by omega) (by omega)
  have aY:=mulS' (M:=1000) (N:=13841287201) g1 (y:=Y) (by omega) (by omega) (by omega)
  have cY:=mulS' (M:=1000) (N:=13841287201) g3 (y:=Y) (by omega) (by omega) (by omega)
  have bt:=mulS' (M:=1000) (N:=117649) g2 (y:=p^t) (by omega) (by omega) (by omega)
  have dt:=mulS' (M:=1000) (N:=117649) g4 (y:=p^t) (by omega) (by omega) (by omega)
  have aS:=mulS' (M:=1000) (N:=13841287201) g1 (y:=p^(L+6).toNat) (by omega) (by omega) (by omega)
  have cS:=mulS' (M:=1000) (N:=13841287201) g3 (y:=p^(L+6).toNat) (by omega) (by omega) (by omega)
  have aX:=mulS' (M:=1000) (N:=13841287201) g1 (y:=markOf p T D) (by omega) (by omega) (by omega)
  have cX:=mulS' (M:=1000) (N:=13841287201) g3 (y:=markOf p T D) (by omega) (by omega) (by omega)
  have b6:=mulS' (M:=1000) (N:=117649) g2 (y:=p^6) (by omega) (by omega) (by omega)
  have d6:=mulS' (M:=1000) (N:=117649) g4 (y:=p^6) (by omega) (by omega) (by omega)
  have vdet:=val_le_of_lt hp2 hdet 22 (by omega)
  have core:∀n e N E:Int,e≠0→N=p^(6 - t)*n→E=p^(6 - t)*e→(-20000000000000≤n∧n≤20000000000000)→(-20000000000000≤e∧e≤20000000000000)→(-20000000000000≤N∧N≤20000000000000)→(-20000000000000≤E∧E≤20000000000000)→
      ∃r:Int×Int×Int×Bool,Ev (fun k=>impl_moveBall.j0 k p a b c d L T D N E) r∧Ev (fun k=>spec_l04Move.j1 k p t a b c d L T D n e) r∧(r.2.2.2=true→ballB p r.1 r.2.1 r.2.2.1=true):=by
    intro n e N E he hN hE bn be bN bE
    have hE0:E≠0:=by rw[hE];exact Int.mul_ne_zero hps he
    have ve:=val_le_of_lt hp2 he 50 (by omega)
    have vE: (val p E:Int)=(6 - t)+(val p e:Int):=by rw[hE,val_pow_mul _ hp2 he];omega
    obtain⟨lv,hlv⟩:∃lv,lv=(val p (a*d - b*c):Int)+L+2*(t:Int) - 2*(val p e:Int):=⟨_,rfl⟩
    obtain⟨w,hw,ew⟩:=impl_ballAt_ev (p:=p) (n:=N) (d:=E) (L:=lv) hp hE0 (by omega) (by omega) (by omega) (by omega)
    rw[hE,uOf_scale _ hp2 he] at hw
    have ew':=spec_l01Of_ev (p:=p) (n:=n) (d:=e) (L:=lv) (w:=w) hp he (by omega) (by omega) (by omega) (by omega) hw
    have hball:=atF_ball (p:=p) (L:=lv) (n:=n) (d:=e) (w:=w) hp
    have hs:atF p lv N E w=atF p lv n e w:=by rw[hN,hE];exact atF_scale _ hp2 he
    rw[hs] at ew
    refine⟨atF p lv n e w,Ev.up ?_,Ev.up ?_,hball⟩
    · simp only[impl_moveBall.j0]
      refine Ev.bindv (impl_determinant_eq (m:=1000) (by omega) (by omega) g1 g2 g3 g4) ?_
      refine Ev.bind (impl_valuation_ev hp2 (by omega) (by omega)) (Ev.bind (impl_valuation_ev hp2 (by omega) (by omega)) ?_)
      have v1:valW p (a*d - b*c)=(val p (a*d - b*c):Int):=by unfold valW;rw[if_neg hdet]
      have v2:valW p E=(6 - t)+(val p e:Int):=by unfold valW;rw[if_neg hE0,vE]
      rw[v1,v2,wid (n:=(val p (a*d - b*c):Int)+L) (by omega) (by omega),wid (n:=(val p (a*d - b*c):Int)+L+12) (by omega) (by omega),wid (n:=2*(6 - (t:Int)+(val p e:Int))) (by omega) (by omega),wid (n:=(val p (a*d - b*c):Int)+L+12 - 2*(6 - (t:Int)+(val p e:Int))) (by omega) (by omega),show (val p (a*d - b*c):Int)+L+12 - 2*(6 - (t:Int)+(val p e:Int))=lv from by omega]
      exact Ev.bind ew (Ev.now _)
    · simp only[spec_l04Move.j1]
      refine Ev.bindv (spec_l04Det_eq (m:=1000) (by omega) (by omega) g1 g2 g3 g4) ?_
      refine Ev.bind (spec_l01Val_ev hp2 hdet (by omega) (by omega)) (Ev.bind (spec_l01Val_ev hp2 he (by omega) (by omega)) ?_)
      rw[wid (n:=(val p (a*d - b*c):Int)+L) (by omega) (by omega),wid (n:=2*(t:Int)) (by omega) (by omega),wid (n:=(val p (a*d - b*c):Int)+L+2*(t:Int)) (by omega) (by omega),wid (n:=2*(val p e:Int)) (by omega) (by omega),wid (n:=(val p (a*d - b*c):Int)+L+2*(t:Int) - 2*(val p e:Int)) (by omega) (by omega),←hlv]
      exact Ev.bind ew' (Ev.now _)
  have eU0:a*p^(L+6).toNat=p^(6 - t)*(a*p^(L+t).toNat):=by rw[eS];grind
  have eU1:c*p^(L+6).toNat=p^(6 - t)*(c*p^(L+t).toNat):=by rw[eS];grind
  have eV0:a*markOf p T D+b*p^6=p^(6 - t)*(a*Y+b*p^t):=by rw[eX,e6];grind
  have eV1:c*markOf p T D+d*p^6=p^(6 - t)*(c*Y+d*p^t):=by rw[eX,e6];grind
  have coreU:c*p^(L+t).toNat≠0→_:=fun hu=>core (a*p^(L+t).toNat) (c*p^(L+t).toNat) (a*p^(L+6).toNat) (c*p^(L+6).toNat) hu eU0 eU1 (by omega) (by omega) (by omega) (by omega)
  have coreV:c*Y+d*p^t≠0→_:=fun hv=>core (a*Y+b*p^t) (c*Y+d*p^t) (a*markOf p T D+b*p^6) (c*markOf p T D+d*p^6) hv eV0 eV1 (by omega) (by omega) (by omega) (by omega)
  obtain⟨u1,hu1⟩:∃x,x=c*p^(L+t).toNat:=⟨_,rfl⟩
  obtain⟨v1,hv1⟩:∃x,x=c*Y+d*p^t:=⟨_,rfl⟩
  have impl_of:∀r,(valW p (c*markOf p T D+d*p^6)>valW p (c*p^(L+6).toNat)→Ev (fun k=>impl_moveBall.j0 k p a b c d L T D (a*p^(L+6).toNat) (c*p^(L+6).toNat)) r)→(¬valW p (c*markOf p T D+d*p^6)>valW p (c*p^(L+6).toNat)→Ev (fun k=>impl_moveBall.j0 k p a b c d L T D (a*markOf p T D+b*p^6) (c*markOf p T D+d*p^6)) r)→Ev (fun k=>impl_moveBall.f k p a b c d L T D) r:=by
    intro r hr1 hr2
    unfold impl_moveBall.f
    rw[wid (n:=L+6) (by omega) (by omega)]
    refine Ev.bind (impl_mark_ev h) (Ev.bind (impl_power_ev p 6 (by omega)) (Ev.bind (impl_power_ev p (L+6) (by omega)) ?_))
    rw[show (6:Int).toNat=6 from rfl,powW_prime hp 6 (by omega),powW_prime hp _ (by omega)]
    rw[wid (n:=a*markOf p T D) (by omega) (by omega),wid (n:=b*p^6) (by omega) (by omega),wid (n:=c*markOf p T D) (by omega) (by omega),wid (n:=d*p^6) (by omega) (by omega),wid (n:=a*markOf p T D+b*p^6) (by omega) (by omega),wid (n:=c*markOf p T D+d*p^6) (by omega) (by omega),wid (n:=a*p^(L+6).toNat) (by omega) (by omega),wid (n:=c*p^(L+6).toNat) (by omega) (by omega)]
    refine Ev.bind (impl_valuation_ev hp2 (by omega) (by omega)) (Ev.bind (impl_valuation_ev hp2 (by omega) (by omega)) ?_)
    by_cases hc:valW p (c*markOf p T D+d*p^6)>valW p (c*p^(L+6).toNat)
    · simp only[if_pos hc];exact hr1 hc
    · simp only[if_neg hc];exact hr2 hc
  have spec_of:∀r,Ev (fun k=>if v1=0 then spec_l04Move.j0 k p t true a b c d L T D (a*p^(L+t).toNat) u1 (a*Y+b*p^t) v1 else if u1=0 then spec_l04Move.j0 k p t false a b c d L T D (a*p^(L+t).toNat) u1 (a*Y+b*p^t) v1 else(spec_l01Val.f k p v1).bind fun x=>(spec_l01Val.f k p u1).bind fun y=>spec_l04Move.j0 k p t (decide (x>y)) a b c d L T D (a*p^(L+t).toNat) u1 (a*Y+b*p^t) v1) r→Ev (fun k=>spec_l04Move.f k p a b c d L T D) r:=by
    intro r hr
    unfold spec_l04Move.f
    rw[wid (n:= -L) (by omega) (by omega),←ht,wid (n:=L+(t:Int)) (by omega) (by omega),wid (n:=(t:Int) - D) (by omega) (by omega)]
    refine Ev.bind (spec_l01Power_ev p (L+t) (by omega)) (Ev.bind (spec_l01Power_ev p t (by omega)) (Ev.bind (spec_l01Power_ev p ((t:Int) - D) (by omega)) ?_))
    rw[powW_prime hp _ (by omega),Int.toNat_natCast,powW_prime hp t (by omega),powW_prime hp _ (by omega)]
    rw[←hY,wid (n:=Y) (by omega) (by omega),wid (n:=a*Y) (by omega) (by omega),wid (n:=b*p^t) (by omega) (by omega),wid (n:=c*Y) (by omega) (by omega),wid (n:=d*p^t) (by omega) (by omega),wid (n:=a*Y+b*p^t) (by omega) (by omega),wid (n:=c*Y+d*p^t) (by omega) (by omega),wid (n:=a*p^(L+t).toNat) (by omega) (by omega),wid (n:=c*p^(L+t).toNat) (by omega) (by omega),←hu1,←hv1]
    exact hr
  rw[←hu1] at coreU eU1 cP
  rw[←hv1] at coreV eV1
  rw[eU1,eV1] at impl_of
  rw[eU1] at coreU
  rw[eV1] at coreV
  have vu:∀x,x≠0→valW p (p^(6 - t)*x)=(6 - t)+(val p x:Int):=fun x hx=>by unfold valW;rw[if_neg (Int.mul_ne_zero hps hx),val_pow_mul _ hp2 hx];omega
  have v0:valW p (p^(6 - t)*0)=1000:=by unfold valW;rw[if_pos (Int.mul_zero _)]
  by_cases hv:v1=0
  · have hu:u1≠0:=by
      intro e
      rw[hu1] at e
      have hc:c=0:=by
        rcases Int.mul_eq_zero.1 e with e|e
        · exact e
        · omega
      rw[hv1,hc,Int.zero_mul,Int.zero_add] at hv
      have hd:d=0:=by
        rcases Int.mul_eq_zero.1 hv with e|e
        · exact e
        · omega
      apply hdet;rw[hc,hd];omega
    have vb:=val_le_of_lt hp2 hu 50 (by omega)
    obtain⟨r,r1,r2,r3⟩:=coreU hu
    refine⟨r,impl_of r (fun _=>r1) (fun hn=>absurd ?_ hn),spec_of r ?_,r3⟩
    · rw[hv,v0,vu u1 hu];omega
    · simp only[if_pos hv]
      refine Ev.up ?_
      simp only[spec_l04Move.j0,if_true]
      exact r2
  by_cases hu:u1=0
  · have vb:=val_le_of_lt hp2 hv 50 (by omega)
    obtain⟨r,r1,r2,r3⟩:=coreV hv
    refine⟨r,impl_of r (fun hn=>absurd hn ?_) (fun _=>r1),spec_of r ?_,r3⟩
    · rw[hu,v0,vu v1 hv];omega
    · simp only[if_neg hv,if_pos hu]
      refine Ev.up ?_
      simp only[spec_l04Move.j0,Bool.false_eq_true,if_false]
      exact r2
  have hx:=vu u1 hu
  have hy:=vu v1 hv
  have sv:=spec_l01Val_ev hp2 hv (by omega) (by omega)
  have su:=spec_l01Val_ev hp2 hu (by omega) (by omega)
  by_cases hc:val p v1>val p u1
  · obtain⟨r,r1,r2,r3⟩:=coreU hu
    refine⟨r,impl_of r (fun _=>r1) (fun hn=>absurd (by omega) hn),spec_of r ?_,r3⟩
    simp only[if_neg hv,if_neg hu]
    refine Ev.bind sv (Ev.bind su ?_)
    rw[decide_eq_true (show (val p v1:Int)>(val p u1:Int) by omega)]
    refine Ev.up ?_
    simp only[spec_l04Move.j0,if_true]
    exact r2
  · obtain⟨r,r1,r2,r3⟩:=coreV hv
    refine⟨r,impl_of r (fun hn=>absurd hn (by omega)) (fun _=>r1),spec_of r ?_,r3⟩
    simp only[if_neg hv,if_neg hu]
    refine Ev.bind sv (Ev.bind su ?_)
    rw[decide_eq_false (show ¬(val p v1:Int)>(val p u1:Int) by omega)]
    refine Ev.up ?_
    simp only[spec_l04Move.j0,Bool.false_eq_true,if_false]
    exact r2
theorem ball_whole {p:Int} (hp:primeB p=true):ballB p 0 0 0=true:=by
  unfold ballB;rw[hp];rfl
theorem triang_both {p a b c d:Int} (hp:primeB p=true) (hg:matB a b c d=true):∃(rb:Int×Int×Int×Bool) (r:Int×Int×Int×Int×Bool),
    (Ev (fun k=>impl_moveBall.f k p a b c d 0 0 0) rb∧Ev (fun k=>spec_l04Move.f k p a b c d 0 0 0) rb∧(rb.2.2.2=true→ballB p rb.1 rb.2.1 rb.2.2.1=true))∧
    Ev (fun k=>impl_triangular.f k p a b c d) r∧Ev (fun k=>spec_l10Triangular.f k p a b c d) r∧(r.2.2.2.2=true→matB r.1 r.2.1 r.2.2.1 r.2.2.2.1=true∧rb.2.2.2=true):=by
  obtain⟨⟨L,T,D,ok⟩,i1,s1,hb⟩:=moveBall_both (ball_whole hp) hg
  simp only at hb
  have hp2:=prime_lo hp
  cases ok with
  |false=>
   refine⟨(L,T,D,false),(0,0,0,0,false),⟨i1,s1,hb⟩,?_,?_,fun h=>by simp at h⟩
   · unfold impl_triangular.f
     refine Ev.bind i1 ?_
     simp only[Bool.false_eq_true,if_false];exact Ev.now _
   · unfold spec_l10Triangular.f
     refine Ev.bind s1 ?_
     simp only[Bool.false_eq_true,if_false];exact Ev.now _
  |true=>
   have hball:=hb rfl
   obtain⟨_,hL,hD,_,_⟩:=ball_parts hball
   have hT:=ball_num hball
   have hX:=mark_lt hball
   have hX2:=pow_13 hp (L+6).toNat (by omega)
   obtain⟨t,ht⟩:∃t:Nat,(t:Int)=mx D (-L):=⟨(mx D (-L)).toNat,by rw[mx_eq'];split<;>omega⟩
   have ht2: (t:Int)=if D< -L then -L else D:=by rw[ht,mx_eq']
   have t6:t≤6∧D≤t∧0≤L+t:=by split at ht2<;>omega
   have hti:mx (mx 0 (-L)) D=(t:Int):=by rw[ht2,mx_eq',mx_eq'];split<;>split<;>split<;>omega
   have pt:=pow_6 hp t (by omega)
   have pt0:=ipow_pos (p:=p) (by omega) t
   have pL:=pow_13 hp (L+t).toNat (by omega)
   have pL0:=ipow_pos (p:=p) (by omega) (L+t).toNat
   have sc0:=ipow_pos (p:=p) (by omega) (6 - t)
   have pd0:=ipow_pos (p:=p) (by omega) ((t:Int) - D).toNat
   have eX:markOf p T D=p^(6 - t)*(T*p^((t:Int) - D).toNat):=by
      unfold markOf
      rw[show (6 - D).toNat=(6 - t)+((t:Int) - D).toNat from by omega,Int.pow_add];grind
   obtain⟨Y,hY⟩:∃Y,Y=T*p^((t:Int) - D).toNat:=⟨_,rfl⟩
   have hY0:0≤Y:=by rw[hY];exact Int.mul_nonneg hT.1 (by omega)
   rw[←hY] at eX
   have hY1:Y≤markOf p T D:=by
      rw[eX]
      have:=Int.mul_le_mul_of_nonneg_right sc0 hY0
      omega
   have hd0:p^(L+t).toNat*p^t - Y*0≠0:=by
      rw[Int.mul_zero,Int.sub_zero];exact Int.mul_ne_zero (by omega) (by omega)
   have i2:=impl_reduced_ev (a:=p^(L+t).toNat) (b:=Y) (c:=0) (d:=p^t) (by unfold bd62;omega) (by unfold bd62;omega) (by unfold bd62;omega) (by unfold bd62;omega) (.inl (by omega))
   have s2:=spec_l04Reduce_ev (a:=p^(L+t).toNat) (b:=Y) (c:=0) (d:=p^t) (by unfold bd62;omega) (by unfold bd62;omega) (by unfold bd62;omega) (by unfold bd62;omega) (.inl (by omega))
   rw[←matB_red hd0] at s2
   refine⟨(L,T,D,true),(rM (p^(L+t).toNat) Y 0 (p^t) (p^(L+t).toNat),rM (p^(L+t).toNat) Y 0 (p^t) (Y),rM (p^(L+t).toNat) Y 0 (p^t) (0),rM (p^(L+t).toNat) Y 0 (p^t) (p^t),matB (rM (p^(L+t).toNat) Y 0 (p^t) (p^(L+t).toNat)) (rM (p^(L+t).toNat) Y 0 (p^t) (Y)) (rM (p^(L+t).toNat) Y 0 (p^t) (0)) (rM (p^(L+t).toNat) Y 0 (p^t) (p^t))),⟨i1,s1,fun _=>hball⟩,?_,?_,fun h=>⟨h,rfl⟩⟩
   · unfold impl_triangular.f
     refine Ev.bind i1 ?_
     simp only[if_true]
     rw[wid (n:= -L) (by omega) (by omega),hti,wid (n:=L+(t:Int)) (by omega) (by omega),wid (n:=(t:Int) - D) (by omega) (by omega)]
     refine Ev.bind (impl_power_ev p (L+t) (by omega)) (Ev.bind (impl_power_ev p ((t:Int) - D) (by omega)) (Ev.bind (impl_power_ev p t (by omega)) ?_))
     rw[powW_prime hp _ (by omega),Int.toNat_natCast,powW_prime hp t (by omega),powW_prime hp _ (by omega),←hY,wid (n:=Y) (by omega) (by omega)]
     exact Ev.bind i2 (Ev.now _)
   · unfold spec_l10Triangular.f
     refine Ev.bind s1 ?_
     simp only[if_true]
     rw[wid (n:= -L) (by omega) (by omega),←ht,wid (n:=L+(t:Int)) (by omega) (by omega),wid (n:=(t:Int) - D) (by omega) (by omega)]
     refine Ev.bind (spec_l01Power_ev p (L+t) (by omega)) (Ev.bind (spec_l01Power_ev p ((t:Int) - D) (by omega)) (Ev.bind (spec_l01Power_ev p t (by omega)) ?_))
     rw[powW_prime hp _ (by omega),Int.toNat_natCast,powW_prime hp t (by omega),powW_prime hp _ (by omega),←hY,wid (n:=Y) (by omega) (by omega)]
     exact Ev.bind s2 (Ev.now _)
theorem pdvd {p:Int} {i j:Nat} (h:i≤j):p^i∣p^j:=⟨p^(j - i),by rw[←Int.pow_add];congr 1;omega⟩
theorem dvd_cop {p u y:Int} (hp:primeB p=true) (hu:¬p∣u) (j:Nat) (h:p^j∣u*y):p^j∣y:=by
  have hp2:=prime_lo hp
  by_cases hy:y=0
  · rw[hy];exact Int.dvd_zero _
  have hu0:u≠0:=fun e=>hu (by rw[e];exact Int.dvd_zero _)
  rw[val_dvd hp2 (Int.mul_ne_zero hu0 hy),(val_mul hp hu0 hy).1] at h
  rw[val_dvd hp2 hy]
  have:¬1≤val p u:=fun h1=>hu (by have:=(val_dvd hp2 hu0 1).2 h1;rwa [Int.pow_one] at this)
  omega
theorem dvd_pow_le {p x:Int} {i j:Nat} (h:i≤j) (hx:p^j∣x):p^i∣x:=Int.dvd_trans (pdvd h) hx
theorem dvd_one_of {p x:Int} {j:Nat} (h:1≤j) (hx:p^j∣x):p∣x:=by
  have:=dvd_pow_le h hx;rwa [Int.pow_one] at this
theorem pow_cancel {p x:Int} (hp:2≤p) (i j:Nat) (h:p^(i+j)∣p^i*x):p^j∣x:=by
  obtain⟨c,hc⟩:=h
  rw[Int.pow_add,Int.mul_assoc] at hc
  exact⟨c,Int.eq_of_mul_eq_mul_left (Int.pow_ne_zero (by omega)) hc⟩
section
variable {p x y x' y' Δ:Int} {m n:Nat}
theorem col_unit (hp:primeB p=true) (hy:y≠0) (hm:val p y=m) (hy':p^m∣y') (hD:x'*y - x*y'=Δ) (hn:p^n∣Δ) (hprim:¬(p∣x∧p∣x'∧p∣y∧p∣y')) (hmn:m<n):m=0∨¬p∣x:=by
  have hp2:=prime_lo hp
  by_cases h0:m=0
  · exact .inl h0
  refine .inr fun hx=>?_
  have hym:p^m∣y:=(val_dvd hp2 hy m).2 (by omega)
  have hx':¬p∣x':=fun h=>hprim ⟨hx,h,dvd_one_of (by omega) hym,dvd_one_of (by omega) hy'⟩
  have h1:p^(m+1)∣x*y':=by rw[Int.pow_succ',];exact Int.mul_dvd_mul hx hy'
  have h2:p^(m+1)∣Δ:=dvd_pow_le (by omega) hn
  have h3:p^(m+1)∣x'*y:=by rw[show x'*y=Δ+x*y' by omega];exact Int.dvd_add h2 h1
  have h4:=(val_dvd hp2 hy _).1 (dvd_cop hp hx' _ h3)
  omega
theorem ball_depth {L T D:Int} (hb:ballB p L T D=true) (hy:y≠0) (hm:val p y=m) (hmn:m≤n) (hu:m<n→m=0∨¬p∣x) (hL:L=(n:Int) - 2*m) (hin:p^(L+D+m).toNat∣T*y - x*p^D.toNat):
    max (-L) D≤(m:Int)∧(0<m→max (-L) D=m):=by
  obtain⟨hp,hL6,hD6,hlow,_⟩:=ball_parts hb
  have hp2:=prime_lo hp
  have hun:=ball_unit hb
  have yv:∀j,p^j∣y→j≤m:=fun j h=>by have:=(val_dvd hp2 hy j).1 h;omega
  have yd:p^m∣y:=(val_dvd hp2 hy m).2 (by omega)
  by_cases hnm:n=m
  · have hDm:D≤m:=by
      by_cases h:D≤(m:Int)
      · exact h
      exfalso
      have hT:¬p∣T:=hun.resolve_left (by omega)
      have e: (L+D+(m:Int)).toNat=D.toNat:=by omega
      rw[e] at hin
      have h2:p^D.toNat∣T*y:=by
        have:=Int.dvd_add hin (Int.dvd_mul_left x (p^D.toNat))
        rwa [show T*y - x*p^D.toNat+x*p^D.toNat=T*y by omega] at this
      have:=yv _ (dvd_cop hp hT _ h2)
      omega
    omega
  have hlt:m<n:=by omega
  rcases hu hlt with h0|hx
  · subst h0
    have hD0:D=0:=by
      rcases hun with h|h
      · exact h
      by_cases hD:D=0
      · exact hD
      exfalso
      have h1:p^1∣T*y - x*p^D.toNat:=dvd_pow_le (by omega) hin
      have h2:p^1∣x*p^D.toNat:=Int.dvd_trans (pdvd (by omega)) (Int.dvd_mul_left x (p^D.toNat))
      have h3:p^1∣T*y:=by
        have:=Int.dvd_add h1 h2
        rwa [show T*y - x*p^D.toNat+x*p^D.toNat=T*y by omega] at this
      have:=yv _ (dvd_cop hp h 1 h3)
      omega
    omega
  · by_cases hD0:D=0
    · subst hD0
      have hm0:m=0:=by
        by_cases h:m=0
        · exact h
        exfalso
        have h1:p^1∣T*y - x*p^(0:Int).toNat:=dvd_pow_le (by omega) hin
        rw[show p^(0:Int).toNat=1 from Int.pow_zero _,Int.mul_one,Int.pow_one] at h1
        have h2:p∣T*y:=Int.dvd_trans (dvd_one_of (by omega) yd) (Int.dvd_mul_left T y)
        have:=Int.dvd_sub h2 h1
        rw[show T*y - (T*y - x)=x by omega] at this
        exact hx this
      omega
    · have hT:¬p∣T:=hun.resolve_left (by omega)
      have hDm:D.toNat≤m:=by
        apply yv
        apply dvd_cop hp hT
        have h1:p^D.toNat∣T*y - x*p^D.toNat:=dvd_pow_le (by omega) hin
        have:=Int.dvd_add h1 (Int.dvd_mul_left x (p^D.toNat))
        rwa [show T*y - x*p^D.toNat+x*p^D.toNat=T*y by omega] at this
      have hmD:m≤D.toNat:=by
        by_cases h:m≤D.toNat
        · exact h
        exfalso
        have h1:p^(D.toNat+1)∣T*y - x*p^D.toNat:=dvd_pow_le (by omega) hin
        have h2:p^(D.toNat+1)∣T*y:=Int.dvd_trans (dvd_pow_le (by omega) yd) (Int.dvd_mul_left T y)
        have h3:=Int.dvd_sub h2 h1
        rw[show T*y - (T*y - x*p^D.toNat)=p^D.toNat*x by rw[Int.mul_comm (p^D.toNat) x];omega] at h3
        have:=pow_cancel hp2 _ 1 h3
        rw[Int.pow_one] at this
        exact hx this
      omega
end
theorem M4.red_prim {p:Int} (hp:2≤p) {g:M4} (hg:g.det≠0):¬(p∣g.red.a∧p∣g.red.b∧p∣g.red.c∧p∣g.red.d):=by
  rintro⟨⟨a,ha⟩,⟨b,hb⟩,⟨c,hc⟩,⟨d,hd⟩⟩
  have e:g.red=(M4.mk a b c d).smul p:=M4.ext' ha hb hc hd
  have h1: (M4.mk a b c d).det≠0:=by
    intro h
    apply M4.red_det hg
    rw[e]
    show p*a*(p*d) - p*b*(p*c)=0
    have:p*a*(p*d) - p*b*(p*c)=p*p*(a*d - b*c):=by grind
    rw[this]
    rw[show a*d - b*c=0 from h,Int.mul_zero]
  have e2:=M4.red_red hg
  rw[e,M4.red_smul (by omega) h1] at e2
  have hx:=M4.row_ne h1
  have k1:∀z q:Int,z=p*q→(p*q).natAbs=p.natAbs*q.natAbs:=fun z q _=>Int.natAbs_mul _ _
  have l1:=Int.natAbs_tdiv_le_natAbs a (M4.mk a b c d).by_
  have l2:=Int.natAbs_tdiv_le_natAbs b (M4.mk a b c d).by_
  have f1: (M4.mk a b c d).red.a=p*a:=by rw[e2];rfl
  have f2: (M4.mk a b c d).red.b=p*b:=by rw[e2];rfl
  have g1: (p*a).natAbs≤a.natAbs:=by rw[←f1];exact l1
  have g2: (p*b).natAbs≤b.natAbs:=by rw[←f2];exact l2
  rw[Int.natAbs_mul] at g1 g2
  have hpn:2≤p.natAbs:=by omega
  have h3:∀z:Nat,p.natAbs*z≤z→z=0:=fun z h=>by
    have:=Nat.mul_le_mul_right z hpn
    omega
  have:=h3 _ g1
  have:=h3 _ g2
  simp only at hx
  omega
theorem valW_pow6 {p x:Int} (hp:2≤p):valW p (x*p^6)=if x=0 then 1000 else 6+(val p x:Int):=by
  unfold valW
  by_cases h:x=0
  · subst h;rw[if_pos (Int.zero_mul _),if_pos rfl]
  · rw[if_neg (Int.mul_ne_zero h (Int.pow_ne_zero (by omega))),if_neg h,Int.mul_comm,val_pow_mul 6 hp h];omega
theorem move_whole {p a b c d:Int} (hp:primeB p=true) (hg:matB a b c d=true):∃x y x' y' w:Int,
    ((x=b∧y=d∧x'=a∧y'=c)∨(x=a∧y=c∧x'=b∧y'=d))∧y≠0∧(y'≠0→val p y≤val p y')∧
    ((-6≤(val p (a*d - b*c):Int) - 2*(val p y:Int)∧(val p (a*d - b*c):Int) - 2*(val p y:Int)≤6)→isInv (uOf p y) (p^((val p (a*d - b*c):Int) - 2*(val p y:Int)+6).toNat) w)∧
    Ev (fun k=>impl_moveBall.f k p a b c d 0 0 0) (atF p ((val p (a*d - b*c):Int) - 2*(val p y:Int)) x y w):=by
  have hp2:=prime_lo hp
  have hok: (M4.mk a b c d).ok=true:=hg
  obtain⟨g1,g2,g3,g4⟩:=M4.fit_bd (M4.ok_fit hok)
  simp only at g1 g2 g3 g4
  have hdet:a*d - b*c≠0:=M4.ok_det hok
  obtain⟨db1,db2⟩:=det_bd (m:=1000) (by omega) g1 g2 g3 g4
  have vdet:=val_le_of_lt hp2 hdet 22 (by omega)
  have p6:=pow_6 hp 6 (by omega)
  have p60:=ipow_pos (p:=p) (by omega) 6
  have a6:=mulS' (M:=1000) (N:=117649) g1 (y:=p^6) (by omega) (by omega) (by omega)
  have b6:=mulS' (M:=1000) (N:=117649) g2 (y:=p^6) (by omega) (by omega) (by omega)
  have c6:=mulS' (M:=1000) (N:=117649) g3 (y:=p^6) (by omega) (by omega) (by omega)
  have d6:=mulS' (M:=1000) (N:=117649) g4 (y:=p^6) (by omega) (by omega) (by omega)
  have hm:markOf p 0 0=0:=Int.zero_mul _
  have core:∀x y:Int,y≠0→(-1000≤y∧y≤1000)→(-1000000000≤x*p^6∧x*p^6≤1000000000)→(-1000000000≤y*p^6∧y*p^6≤1000000000)→
      ∃w,((-6≤(val p (a*d - b*c):Int) - 2*(val p y:Int)∧(val p (a*d - b*c):Int) - 2*(val p y:Int)≤6)→isInv (uOf p y) (p^((val p (a*d - b*c):Int) - 2*(val p y:Int)+6).toNat) w)∧
      Ev (fun k=>impl_moveBall.j0 k p a b c d 0 0 0 (x*p^6) (y*p^6)) (atF p ((val p (a*d - b*c):Int) - 2*(val p y:Int)) x y w):=by
    intro x y hy by_ bx6 by6
    have hy6:y*p^6≠0:=Int.mul_ne_zero hy (by omega)
    have vy:=val_le_of_lt hp2 hy 22 (by omega)
    obtain⟨w,hw,ew⟩:=impl_ballAt_ev (p:=p) (n:=x*p^6) (d:=y*p^6) (L:=(val p (a*d - b*c):Int) - 2*(val p y:Int)) hp hy6 (by omega) (by omega) (by omega) (by omega)
    rw[Int.mul_comm y,uOf_scale _ hp2 hy] at hw
    rw[Int.mul_comm x,Int.mul_comm y,atF_scale _ hp2 hy] at ew
    refine⟨w,hw,Ev.up ?_⟩
    simp only[impl_moveBall.j0]
    refine Ev.bindv (impl_determinant_eq (m:=1000) (by omega) (by omega) g1 g2 g3 g4) ?_
    refine Ev.bind (impl_valuation_ev hp2 (by omega) (by omega)) (Ev.bind (impl_valuation_ev hp2 (by omega) (by omega)) ?_)
    have v1:valW p (a*d - b*c)=(val p (a*d - b*c):Int):=by unfold valW;rw[if_neg hdet]
    have v2:valW p (y*p^6)=6+(val p y:Int):=by rw[valW_pow6 hp2,if_neg hy]
    rw[v1,v2,wid (n:=(val p (a*d - b*c):Int)+0) (by omega) (by omega),wid (n:=(val p (a*d - b*c):Int)+0+12) (by omega) (by omega),wid (n:=2*(6+(val p y:Int))) (by omega) (by omega),wid (n:=(val p (a*d - b*c):Int)+0+12 - 2*(6+(val p y:Int))) (by omega) (by omega),show (val p (a*d - b*c):Int)+0+12 - 2*(6+(val p y:Int))=(val p (a*d - b*c):Int) - 2*(val p y:Int) from by omega,Int.mul_comm x,Int.mul_comm y]
    exact Ev.bind ew (Ev.now _)
  have impl_of:∀r,(valW p (d*p^6)>valW p (c*p^6)→Ev (fun k=>impl_moveBall.j0 k p a b c d 0 0 0 (a*p^6) (c*p^6)) r)→(¬valW p (d*p^6)>valW p (c*p^6)→Ev (fun k=>impl_moveBall.j0 k p a b c d 0 0 0 (b*p^6) (d*p^6)) r)→Ev (fun k=>impl_moveBall.f k p a b c d 0 0 0) r:=by
    intro r hr1 hr2
    unfold impl_moveBall.f
    rw[wid (n:=(0:Int)+6) (by omega) (by omega)]
    refine Ev.bind (impl_mark_ev (ball_whole hp)) (Ev.bind (impl_power_ev p 6 (by omega)) (Ev.bind (impl_power_ev p ((0:Int)+6) (by omega)) ?_))
    rw[show ((0:Int)+6).toNat=6 from rfl,show (6:Int).toNat=6 from rfl,powW_prime hp 6 (by omega),hm]
    rw[wid (n:=a*0) (by omega) (by omega),wid (n:=b*p^6) (by omega) (by omega),wid (n:=c*0) (by omega) (by omega),wid (n:=d*p^6) (by omega) (by omega),wid (n:=a*0+b*p^6) (by omega) (by omega),wid (n:=c*0+d*p^6) (by omega) (by omega),wid (n:=a*p^6) (by omega) (by omega),wid (n:=c*p^6) (by omega) (by omega)]
    rw[show a*0+b*p^6=b*p^6 by omega,show c*0+d*p^6=d*p^6 by omega]
    refine Ev.bind (impl_valuation_ev hp2 (by omega) (by omega)) (Ev.bind (impl_valuation_ev hp2 (by omega) (by omega)) ?_)
    by_cases hc:valW p (d*p^6)>valW p (c*p^6)
    · simp only[if_pos hc];exact hr1 hc
    · simp only[if_neg hc];exact hr2 hc
  rw[valW_pow6 hp2,valW_pow6 hp2] at impl_of
  have cd:c≠0∨d≠0:=by
    by_cases hc:c=0
    · refine .inr fun hd=>hdet ?_
      rw[hc,hd];omega
    · exact .inl hc
  have vb:∀z:Int, -1000≤z∧z≤1000→z≠0→(val p z:Int)<22:=fun z hz h0=>by have:=val_le_of_lt hp2 h0 22 (by omega);omega
  by_cases hc: (if d=0 then 1000 else 6+(val p d:Int))>(if c=0 then 1000 else 6+(val p c:Int))
  · have hc0:c≠0:=fun e=>by
      rw[if_pos e] at hc
      split at hc
      · omega
      · have:=vb d g4 (by assumption);omega
    obtain⟨w,w1,w2⟩:=core a c hc0 g3 (by omega) (by omega)
    refine⟨a,c,b,d,w,.inr ⟨rfl,rfl,rfl,rfl⟩,hc0,fun hd=>?_,w1,impl_of _ (fun _=>w2) (fun h=>absurd hc h)⟩
    rw[if_neg hc0,if_neg hd] at hc;omega
  · have hd0:d≠0:=fun e=>by
      have hc0:c≠0:=cd.resolve_right (fun h=>h e)
      rw[if_pos e,if_neg hc0] at hc
      have:=vb c g3 hc0;omega
    obtain⟨w,w1,w2⟩:=core b d hd0 g4 (by omega) (by omega)
    refine⟨b,d,a,c,w,.inl ⟨rfl,rfl,rfl,rfl⟩,hd0,fun hc0=>?_,w1,impl_of _ (fun h=>absurd h hc) (fun _=>w2)⟩
    rw[if_neg hc0,if_neg hd0] at hc;omega
theorem whole_parts {p:Int} {g:M4} (hp:primeB p=true) (hg:g.ok=true):∃r:Int×Int×Int×Bool,Ev (fun k=>impl_moveBall.f k p g.a g.b g.c g.d 0 0 0) r∧
    (r.2.2.2=true→ballB p r.1 r.2.1 r.2.2.1=true∧∃m:Nat,r.1=(val p g.red.det:Int) - 2*m∧m≤val p g.red.det∧mx r.2.2.1 (-r.1)=m∧
      ∃U:M4,(M4.mk (p^(val p g.red.det - m)) (r.2.1*p^((m:Int) - r.2.2.1).toNat) 0 (p^m)).adj.mul g.red=U.smul (p^val p g.red.det)):=by
  have hp2:=prime_lo hp
  have hdet:=M4.ok_det hg
  obtain⟨x,y,x',y',w,hcol,hy,hyy,hw,ev⟩:=move_whole hp hg
  refine⟨_,ev,fun hok=>?_⟩
  have hb:=atF_ball hp hok
  have hh:=(held_inB (y:=x) (z:=y) hb).1 ((atF_held hp hy hw hok).2 ⟨hy,by unfold inB;rw[show x*y - x*y=0 by omega];exact vge_zero _ _⟩)
  have hL: (atF p ((val p (g.a*g.d - g.b*g.c):Int) - 2*(val p y:Int)) x y w).1=(val p (g.a*g.d - g.b*g.c):Int) - 2*(val p y:Int):=by
    revert hok
    unfold atF
    split
    · intro h;cases h
    split
    · intro _;rfl
    split
    · intro h;cases h
    · intro _;unfold ofM;rfl
  generalize atF p ((val p (g.a*g.d - g.b*g.c):Int) - 2*(val p y:Int)) x y w=r at hb hh hL hok
  obtain⟨L,T,D,ok⟩:=r
  simp only at hb hh hL hok⊢
  have hβ:=M4.by_ne hdet
  have hs:=M4.smul_red g
  have hd':=M4.red_det hdet
  have hprim:=M4.red_prim hp2 hdet
  generalize hgr:g.red=q at hs hd' hprim⊢
  generalize g.by_=β at hβ hs
  obtain⟨qa,qb,qc,qd⟩:=q
  have e1:g.a=β*qa:=by rw[←hs];rfl
  have e2:g.b=β*qb:=by rw[←hs];rfl
  have e3:g.c=β*qc:=by rw[←hs];rfl
  have e4:g.d=β*qd:=by rw[←hs];rfl
  have hdd:g.a*g.d - g.b*g.c=β*β*(qa*qd - qb*qc):=by rw[e1,e2,e3,e4];grind
  change qa*qd - qb*qc≠0 at hd'
  change ¬(p∣qa∧p∣qb∧p∣qc∧p∣qd) at hprim
  have vdet:val p (g.a*g.d - g.b*g.c)=2*val p β+val p (qa*qd - qb*qc):=by
    rw[hdd,(val_mul hp (Int.mul_ne_zero hβ hβ) hd').1,(val_mul hp hβ hβ).1];omega
  obtain⟨x1,y1,x2,y2,hc1,ex,ey,ex',ey'⟩:∃x1 y1 x2 y2:Int,((x1=qb∧y1=qd∧x2=qa∧y2=qc)∨(x1=qa∧y1=qc∧x2=qb∧y2=qd))∧x=β*x1∧y=β*y1∧x'=β*x2∧y'=β*y2:=by
    rcases hcol with ⟨h1,h2,h3,h4⟩|⟨h1,h2,h3,h4⟩
    · exact⟨qb,qd,qa,qc,.inl ⟨rfl,rfl,rfl,rfl⟩,by rw[h1,e2],by rw[h2,e4],by rw[h3,e1],by rw[h4,e3]⟩
    · exact⟨qa,qc,qb,qd,.inr ⟨rfl,rfl,rfl,rfl⟩,by rw[h1,e1],by rw[h2,e3],by rw[h3,e2],by rw[h4,e4]⟩
  have hy1:y1≠0:=fun e=>hy (by rw[ey,e,Int.mul_zero])
  have vy:val p y=val p β+val p y1:=by rw[ey];exact(val_mul hp hβ hy1).1
  obtain⟨m,hm⟩:∃m,m=val p y1:=⟨_,rfl⟩
  obtain⟨n,hn⟩:∃n,n=val p (qa*qd - qb*qc):=⟨_,rfl⟩
  have hL2:L=(n:Int) - 2*m:=by rw[hL,vdet,vy,hn,hm];omega
  have hy2:p^m∣y2:=by
    by_cases h0:y2=0
    · rw[h0];exact Int.dvd_zero _
    have:=hyy (by rw[ey'];exact Int.mul_ne_zero hβ h0)
    rw[ey',(val_mul hp hβ h0).1,vy] at this
    exact(val_dvd hp2 h0 m).2 (by omega)
  have hy1d:p^m∣y1:=(val_dvd hp2 hy1 m).2 (by omega)
  obtain⟨Δ,hΔ⟩:∃Δ,x2*y1 - x1*y2=Δ:=⟨_,rfl⟩
  have hΔ2:Δ=qa*qd - qb*qc∨Δ= -(qa*qd - qb*qc):=by
    rcases hc1 with ⟨h1,h2,h3,h4⟩|⟨h1,h2,h3,h4⟩
    · left;rw[←hΔ,h1,h2,h3,h4]
    · right;rw[←hΔ,h1,h2,h3,h4];omega
  have hΔn:p^n∣Δ:=by
    have h1:p^n∣qa*qd - qb*qc:=(val_dvd hp2 hd' n).2 (by omega)
    rcases hΔ2 with h|h
    · rw[h];exact h1
    · rw[h];exact Int.dvd_neg.2 h1
  have hmn:m≤n:=by
    have h1:p^m∣Δ:=by rw[←hΔ];exact Int.dvd_sub (Int.dvd_trans hy1d (Int.dvd_mul_left x2 y1)) (Int.dvd_trans hy2 (Int.dvd_mul_left x1 y2))
    have h2:p^m∣qa*qd - qb*qc:=by
      rcases hΔ2 with h|h
      · rwa [←h]
      · rw[h] at h1;exact Int.dvd_neg.1 h1
    rw[hn];exact(val_dvd hp2 hd' m).1 h2
  have hprim':¬(p∣x1∧p∣x2∧p∣y1∧p∣y2):=by
    rintro⟨h1,h2,h3,h4⟩
    apply hprim
    rcases hc1 with ⟨i1,i2,i3,i4⟩|⟨i1,i2,i3,i4⟩
    · rw[i1] at h1;rw[i2] at h3;rw[i3] at h2;rw[i4] at h4;exact⟨h2,h1,h4,h3⟩
    · rw[i1] at h1;rw[i2] at h3;rw[i3] at h2;rw[i4] at h4;exact⟨h1,h2,h3,h4⟩
  obtain⟨_,hL6,hD6,_⟩:=ball_parts hb
  have hin:p^(L+D+m).toNat∣T*y1 - x1*p^D.toNat:=by
    have h1:=hh.2
    rw[ex,ey,inB_scale hp hβ hy1] at h1
    unfold inB vge at h1
    rw[val_pow hp2] at h1
    rwa [show L+((D.toNat:Nat):Int)+(val p y1:Int)=L+D+m by omega] at h1
  have hdep:=ball_depth hb hy1 hm.symm hmn (fun h=>col_unit hp hy1 hm.symm hy2 hΔ hΔn hprim' h) hL2 hin
  refine⟨hb,m,hL2.trans (by rw[hn];rfl),by rw[show val p (M4.mk qa qb qc qd).det=n from hn.symm];exact hmn,?_,?_⟩
  · rw[mx_max2,Int.max_comm]
    by_cases h0:m=0
    · have:=hdep.1;omega
    · exact hdep.2 (by omega)
  have hDm:D≤m:=by have:=hdep.1;omega
  rw[show val p (M4.mk qa qb qc qd).det=n from hn.symm]
  obtain⟨Y,hY⟩:∃Y,Y=T*p^((m:Int) - D).toNat:=⟨_,rfl⟩
  rw[←hY]
  have pm0:p^m≠0:=Int.pow_ne_zero (by omega)
  have t1:p^n∣p^m*x1 - Y*y1:=by
    have h1:=Int.mul_dvd_mul_right (p^((m:Int) - D).toNat) hin
    rw[←Int.pow_add,show (L+D+(m:Int)).toNat+((m:Int) - D).toNat=n by omega] at h1
    have e: (T*y1 - x1*p^D.toNat)*p^((m:Int) - D).toNat= -(p^m*x1 - Y*y1):=by
      rw[hY,show m=D.toNat+((m:Int) - D).toNat by omega,Int.pow_add]
      rw[show D.toNat+((m:Int) - D).toNat=m by omega]
      grind
    rw[e] at h1
    exact Int.dvd_neg.1 h1
  have t2:p^n∣p^m*x2 - Y*y2:=by
    have e:y1*(p^m*x2 - Y*y2)=y2*(p^m*x1 - Y*y1)+p^m*Δ:=by rw[←hΔ];grind
    have h1:p^(m+n)∣y1*(p^m*x2 - Y*y2):=by
      rw[e,Int.pow_add]
      exact Int.dvd_add (Int.mul_dvd_mul hy2 t1) (Int.mul_dvd_mul_left _ hΔn)
    obtain⟨u,hu,hnu⟩:=val_spec hp2 hy1
    rw[←hm] at hu
    rw[hu,Int.mul_assoc] at h1
    exact dvd_cop hp hnu n (pow_cancel hp2 m n h1)
  have bt1:∀z,p^m∣z→p^n∣p^(n - m)*z:=fun z hz=>by
    have:=Int.mul_dvd_mul_left (p^(n - m)) hz
    rwa [←Int.pow_add,show n - m+m=n by omega] at this
  have all:∃a b c d:Int,p^m*qa - Y*qc=p^n*a∧p^m*qb - Y*qd=p^n*b∧p^(n - m)*qc=p^n*c∧p^(n - m)*qd=p^n*d:=by
    rcases hc1 with ⟨i1,i2,i3,i4⟩|⟨i1,i2,i3,i4⟩
    · rw[i1,i2] at t1;rw[i3,i4] at t2;rw[i2] at hy1d;rw[i4] at hy2
      obtain⟨a,ha⟩:=t2;obtain⟨b,hb'⟩:=t1;obtain⟨c,hc⟩:=bt1 _ hy2;obtain⟨d,hd⟩:=bt1 _ hy1d
      exact⟨a,b,c,d,ha,hb',hc,hd⟩
    · rw[i1,i2] at t1;rw[i3,i4] at t2;rw[i2] at hy1d;rw[i4] at hy2
      obtain⟨a,ha⟩:=t1;obtain⟨b,hb'⟩:=t2;obtain⟨c,hc⟩:=bt1 _ hy1d;obtain⟨d,hd⟩:=bt1 _ hy2
      exact⟨a,b,c,d,ha,hb',hc,hd⟩
  obtain⟨a,b,c,d,ha,hb',hc,hd⟩:=all
  refine⟨⟨a,b,c,d⟩,M4.ext' ?_ ?_ ?_ ?_⟩
  · show p^m*qa+ -Y*qc=p^n*a
    rw[←ha,Int.neg_mul];omega
  · show p^m*qb+ -Y*qd=p^n*b
    rw[←hb',Int.neg_mul];omega
  · show -0*qa+p^(n - m)*qc=p^n*c
    rw[←hc];omega
  · show -0*qb+p^(n - m)*qd=p^n*d
    rw[←hd];omega
theorem bt_lo (s:ByteArray) (i:Int):0≤bt s i:=by unfold bt;split<;>omega
theorem bt_hi (s:ByteArray) (i:Int):bt s i≤255:=by
  unfold bt;split
  · rename_i h;have:=(s[i.toNat]'h).toNat_lt;omega
  · omega
def stepB (p c:Int):Bool:=c==117||decide (48≤c∧c - 48<p)
def stepsB (p:Int) (s:ByteArray):Bool:=decide (s.size≤40)&&(List.range s.size).all (fun i=>stepB p (bt s i))
def parM (p L T D:Int):Int×Int×Int:=ofM p (L - 1) (markOf p T D)
def chM (p L T D c:Int):Int×Int×Int:=ofM p (L+1) (markOf p T D+c*p^(L+6).toNat)
def parW (p L T D:Int):Int×Int×Int×Bool:=if L= -6 then(0,0,0,false) else((parM p L T D).1,(parM p L T D).2.1,(parM p L T D).2.2,true)
def chW (p L T D c:Int):Int×Int×Int×Bool:=if L=6 then(0,0,0,false) else((chM p L T D c).1,(chM p L T D c).2.1,(chM p L T D c).2.2,true)
theorem parM_ball {p L T D:Int} (h:ballB p L T D=true) (hL:L≠ -6):ballB p (parM p L T D).1 (parM p L T D).2.1 (parM p L T D).2.2=true:=by
  obtain⟨hp,h1,_⟩:=ball_parts h
  exact ofM_ball (L:=L - 1) hp (by omega)
theorem chM_ball {p L T D:Int} (c:Int) (h:ballB p L T D=true) (hL:L≠6):ballB p (chM p L T D c).1 (chM p L T D c).2.1 (chM p L T D c).2.2=true:=by
  obtain⟨hp,h1,_⟩:=ball_parts h
  exact ofM_ball (L:=L+1) hp (by omega)
theorem mul_bdc {x y M N:Int} (hx: -M≤x∧x≤M) (hy:1≤y) (hy2:y≤N): -(M*N)≤x*y∧x*y≤M*N:=by
  have h1:=Int.mul_nonneg (show 0≤M - x by omega) (show 0≤y by omega)
  have h2:=Int.mul_nonneg (show 0≤M+x by omega) (show 0≤y by omega)
  have h3:=Int.mul_nonneg (show 0≤M by omega) (show 0≤N - y by omega)
  simp only[Int.sub_mul,Int.mul_sub,Int.add_mul] at h1 h2 h3
  constructor<;>omega
theorem impl_parent_ev {p L T D:Int} (h:ballB p L T D=true):Ev (fun k=>impl_parent.f k p L T D) (parW p L T D):=by
  obtain⟨hp,hL,_⟩:=ball_parts h
  unfold impl_parent.f parW
  refine Ev.bind (impl_mark_ev h) ?_
  rw[wid (n:=L - 1) (by omega) (by omega)]
  by_cases h6:L= -6
  · rw[if_pos h6]
    exact Ev.bind (impl_ofMark_out (by omega)) (Ev.now _)
  · rw[if_neg h6]
    exact Ev.bind (impl_ofMark_ev hp (by omega)) (Ev.now _)
theorem impl_child_ev {p L T D c:Int} (h:ballB p L T D=true) (hc: -1000≤c∧c≤1000):Ev (fun k=>impl_child.f k p L T D c) (chW p L T D c):=by
  obtain⟨hp,hL,_⟩:=ball_parts h
  have hp2:=prime_lo hp
  obtain⟨m0,m1⟩:=mark_lt h
  have q1:=ipow_pos (p:=p) (by omega) (L+6).toNat
  have q2:=pow_13 hp (L+6).toNat (by omega)
  have a1:=mul_bdc hc q1 q2
  unfold impl_child.f chW
  refine Ev.bind (impl_mark_ev h) ?_
  rw[wid (n:=L+6) (by omega) (by omega)]
  refine Ev.bind (impl_power_ev p _ (by omega)) ?_
  rw[powW_prime hp _ (by omega),wid (n:=L+1) (by omega) (by omega),wid (n:=c*p^(L+6).toNat) (by omega) (by omega),wid (n:=markOf p T D+c*p^(L+6).toNat) (by omega) (by omega)]
  by_cases h6:L=6
  · rw[if_pos h6]
    exact Ev.bind (impl_ofMark_out (by omega)) (Ev.now _)
  · rw[if_neg h6]
    exact Ev.bind (impl_ofMark_ev hp (by omega)) (Ev.now _)
theorem impl_neighbour_ev {p L T D:Int} (c:Int) (h:ballB p L T D=true) (hc:0≤c∧c≤1000):Ev (fun k=>impl_neighbour.f k p L T D c) (if c=0 then parW p L T D else chW p L T D (c - 1)):=by
  unfold impl_neighbour.f
  by_cases h0:c=0
  · simp only[if_pos h0];exact Ev.bind (impl_parent_ev h) (Ev.now _)
  · simp only[if_neg h0]
    rw[wid (n:=c - 1) (by omega) (by omega)]
    exact Ev.bind (impl_child_ev h (by omega)) (Ev.now _)
theorem spec_l01Parent_ev {p L T D:Int} (h:ballB p L T D=true):Ev (fun k=>spec_l01Parent.f k p L T D) (parW p L T D):=by
  obtain⟨hp,hL,hD,_⟩:=ball_parts h
  have hT:=ball_num h
  unfold spec_l01Parent.f parW
  refine Ev.bind (spec_l01Power_ev p D (by omega)) ?_
  rw[powW_prime hp _ (by omega),wid (n:=L - 1) (by omega) (by omega)]
  by_cases h6:L= -6
  · rw[if_pos h6]
    exact Ev.bind (spec_l01Of_out (by omega)) (Ev.now _)
  · rw[if_neg h6]
    have:=spec_l01Of_pow (num:=T) (L:=L - 1) D.toNat hp (by omega) (by omega) (by omega) (by omega)
    rw[show 6 - D.toNat=(6 - D).toNat from by omega] at this
    exact Ev.bind this (Ev.now _)
theorem spec_l01Child_ev {p L T D c:Int} (h:ballB p L T D=true) (hc: -1000≤c∧c≤1000):Ev (fun k=>spec_l01Child.f k p L T D c) (chW p L T D c):=by
  obtain⟨hp,hL,hD,_⟩:=ball_parts h
  have hp2:=prime_lo hp
  have hT:=ball_num h
  have pD:=pow_13 hp D.toNat (by omega)
  have pD1:=ipow_pos (p:=p) (by omega) D.toNat
  unfold spec_l01Child.f chW
  by_cases h6:L=6
  · simp only[if_pos h6];exact Ev.now _
  simp only[if_neg h6]
  refine Ev.bind (spec_l01Power_ev p D (by omega)) ?_
  rw[powW_prime hp _ (by omega)]
  by_cases h0:L≥0
  · simp only[if_pos h0]
    refine Ev.bind (spec_l01Power_ev p L (by omega)) ?_
    rw[powW_prime hp _ (by omega)]
    have qL:=pow_13 hp (L.toNat+D.toNat) (by omega)
    have qL1:=ipow_pos (p:=p) (by omega) (L.toNat+D.toNat)
    have a1:=mul_bdc hc pD1 pD
    have a2:=mul_bdc hc qL1 qL
    have e1:c*p^D.toNat*p^L.toNat=c*p^(L.toNat+D.toNat):=by rw[Int.mul_assoc,←Int.pow_add,Nat.add_comm]
    rw[wid (n:=c*p^D.toNat) (by omega) (by omega),e1,wid (n:=c*p^(L.toNat+D.toNat)) (by omega) (by omega),wid (n:=T+c*p^(L.toNat+D.toNat)) (by omega) (by omega),wid (n:=L+1) (by omega) (by omega)]
    have:=spec_l01Of_pow (num:=T+c*p^(L.toNat+D.toNat)) (L:=L+1) D.toNat hp (by omega) (by omega) (by omega) (by omega)
    rw[show (T+c*p^(L.toNat+D.toNat))*p^(6 - D.toNat)=markOf p T D+c*p^(L+6).toNat from by
      rw[Int.add_mul,Int.mul_assoc,←Int.pow_add,show L.toNat+D.toNat+(6 - D.toNat)=(L+6).toNat from by omega,show 6 - D.toNat=(6 - D).toNat from by omega];rfl] at this
    exact Ev.bind this (Ev.now _)
  · simp only[if_neg h0]
    rw[wid (n:= -L) (by omega) (by omega)]
    have pL:=pow_13 hp (-L).toNat (by omega)
    have pL1:=ipow_pos (p:=p) (by omega) (-L).toNat
    refine Ev.bind (spec_l01Power_ev p (-L) (by omega)) ?_
    rw[powW_prime hp _ (by omega)]
    simp only[if_neg (show ¬p^D.toNat=0 by omega),if_neg (show ¬p^(-L).toNat=0 by omega)]
    obtain⟨E,hE,hE2,hE3,hE4⟩:∃E:Nat,mx (p^D.toNat) (p^(-L).toNat)=p^E∧D.toNat≤E∧(-L).toNat≤E∧E≤6:=by
      by_cases hc2:D.toNat≤(-L).toNat
      · refine⟨(-L).toNat,?_,hc2,Nat.le_refl _,by omega⟩
        have:=ipow_mono (p:=p) (by omega) hc2
        rw[mx_eq];split<;>omega
      · refine⟨D.toNat,?_,Nat.le_refl _,by omega,by omega⟩
        have:=ipow_mono (p:=p) (by omega) (show (-L).toNat≤D.toNat by omega)
        rw[mx_eq];split<;>omega
    rw[hE]
    have hpow:∀j:Nat,p^j≠0:=fun j=>Int.pow_ne_zero (by omega)
    have d1:Int.tdiv (p^E) (p^D.toNat)=p^(E - D.toNat):=by
      rw[show p^E=p^D.toNat*p^(E - D.toNat) from by rw[←Int.pow_add];congr 1;omega]
      exact Int.mul_tdiv_cancel_left _ (hpow _)
    have d2:Int.tdiv (p^E) (p^(-L).toNat)=p^(E - (-L).toNat):=by
      rw[show p^E=p^(-L).toNat*p^(E - (-L).toNat) from by rw[←Int.pow_add];congr 1;omega]
      exact Int.mul_tdiv_cancel_left _ (hpow _)
    have b1:=pow_13 hp (E - D.toNat) (by omega)
    have b2:=ipow_pos (p:=p) (by omega) (E - D.toNat)
    have b5:p^(E - D.toNat)≤117649:=by
      have h1:p^(E - D.toNat)≤p^6:=ipow_mono (by omega) (by omega)
      have h2:p^6≤117649:=by rcases prime_cases hp with rfl|rfl|rfl|rfl<;>decide
      omega
    have b3:=pow_13 hp (E - (-L).toNat) (by omega)
    have b4:=ipow_pos (p:=p) (by omega) (E - (-L).toNat)
    rw[d1,d2,wid (n:=p^(E - D.toNat)) (by omega) (by omega),wid (n:=p^(E - (-L).toNat)) (by omega) (by omega)]
    have a1:T*p^(E - D.toNat)≤13841287201*117649:=Int.mul_le_mul hT.2 b5 (by omega) (by omega)
    have a0:0≤T*p^(E - D.toNat):=Int.mul_nonneg hT.1 (by omega)
    have a2:=mul_bdc hc b4 b3
    rw[wid (n:=T*p^(E - D.toNat)) (by omega) (by omega),wid (n:=c*p^(E - (-L).toNat)) (by omega) (by omega),wid (n:=T*p^(E - D.toNat)+c*p^(E - (-L).toNat)) (by omega) (by omega),wid (n:=L+1) (by omega) (by omega)]
    have:=spec_l01Of_pow (num:=T*p^(E - D.toNat)+c*p^(E - (-L).toNat)) (L:=L+1) E hp hE4 (by omega) (by omega) (by omega)
    rw[show (T*p^(E - D.toNat)+c*p^(E - (-L).toNat))*p^(6 - E)=markOf p T D+c*p^(L+6).toNat from by
      rw[Int.add_mul,Int.mul_assoc,Int.mul_assoc,←Int.pow_add,←Int.pow_add,show E - (-L).toNat+(6 - E)=(L+6).toNat from by omega,show E - D.toNat+(6 - E)=(6 - D).toNat from by omega];rfl] at this
    exact Ev.bind this (Ev.now _)
def upB (p X n:Int):S42:=⟨(ofM p n X).1,(ofM p n X).2.1,(ofM p n X).2.2⟩
theorem upB_ok {p X n:Int} (hp:primeB p=true) (hn: -6≤n∧n≤6):ballB p n (ofM p n X).2.1 (ofM p n X).2.2=true:=ofM_ball hp hn
theorem upB_mark {p X n:Int} (hp:primeB p=true):markOf p (ofM p n X).2.1 (ofM p n X).2.2=X%p^(n+6).toNat:=(ofM_back (prime_lo hp)).1
theorem chM_dig {p X n:Int} (hp:primeB p=true) (hn: -6≤n∧n<6):∃k:Nat,(k:Int)<p∧chM p n (ofM p n X).2.1 (ofM p n X).2.2 k=ofM p (n+1) X:=by
  have hp2:=prime_lo hp
  have k0:=Int.emod_nonneg (X / p^(n+6).toNat) (show p≠0 by omega)
  have k1:=Int.emod_lt_of_pos (X / p^(n+6).toNat) (show 0<p by omega)
  refine⟨(X / p^(n+6).toNat%p).toNat,by omega,?_⟩
  unfold chM
  rw[upB_mark hp,Int.toNat_of_nonneg k0,ofM_inj hp2,show (n+1+6).toNat=(n+6).toNat+1 by omega,Int.pow_succ]
  have e1:=Int.emod_add_mul_ediv X (p^(n+6).toNat)
  have e2:=Int.emod_add_mul_ediv (X / p^(n+6).toNat) p
  have e3:X=X%p^(n+6).toNat+X / p^(n+6).toNat%p*p^(n+6).toNat+p^(n+6).toNat*p*(X / p^(n+6).toNat / p):=by
    have e4:p^(n+6).toNat*(X / p^(n+6).toNat)=X / p^(n+6).toNat%p*p^(n+6).toNat+p^(n+6).toNat*p*(X / p^(n+6).toNat / p):=by
      conv=>lhs;rhs;rw[←e2]
      rw[Int.mul_add,Int.mul_comm (p^(n+6).toNat) (X / p^(n+6).toNat%p),Int.mul_assoc]
    omega
  conv=>rhs;lhs;rw[e3]
  rw[Int.add_mul_emod_self_left]
theorem parM_up {p X n:Int} (hp:primeB p=true) (hn: -6≤n∧n<6):parM p (n+1) (ofM p (n+1) X).2.1 (ofM p (n+1) X).2.2=ofM p n X:=by
  have hp2:=prime_lo hp
  unfold parM
  rw[upB_mark hp,show n+1 - 1=n by omega,ofM_inj hp2]
  exact Int.emod_emod_of_dvd _ ⟨p^1,by rw[←Int.pow_add];congr 1;omega⟩
def qB (p L T D:Int) (B:Int×Int×Int) (c:Int):Bool:=(chM p L T D c).1==B.1&&((chM p L T D c).2.1==B.2.1&&(chM p L T D c).2.2==B.2.2)
theorem find_ev {p L T D:Int} (h:ballB p L T D=true) (hL:L≠6) (B:Int×Int×Int) (d:Nat):∀(i:Int),0≤i→i+d<p→qB p L T D B (i+d)=true→
    ∃m,(i≤m∧m<p)∧Ev (fun k=>spec_l10Digit.l0 k p i B.1 B.2.1 B.2.2 L T D) m∧Ev (fun k=>impl_toward.l0 k p (i+1) L T D B.1 B.2.1 B.2.2) (m+1)∧qB p L T D B m=true:=by
  have hp:=(ball_parts h).1
  have hp7:=prime_hi hp
  have hch (c:Int):chW p L T D c=((chM p L T D c).1,(chM p L T D c).2.1,(chM p L T D c).2.2,true):=by unfold chW;rw[if_neg hL]
  have yes (i:Int) (h0:0≤i) (h1:i<p) (hq:qB p L T D B i=true):∃m,(i≤m∧m<p)∧Ev (fun k=>spec_l10Digit.l0 k p i B.1 B.2.1 B.2.2 L T D) m∧Ev (fun k=>impl_toward.l0 k p (i+1) L T D B.1 B.2.1 B.2.2) (m+1)∧qB p L T D B m=true:=by
    have hq0:=hq
    unfold qB at hq
    refine⟨i,⟨Int.le_refl _,h1⟩,?_,?_,hq0⟩
    · refine Ev.up ?_
      simp only[spec_l10Digit.l0,if_pos h1]
      have hc:=spec_l01Child_ev h (c:=i) (by omega)
      rw[hch] at hc
      refine Ev.bind hc ?_
      simp only[hq,if_true]
      exact Ev.now _
    · refine Ev.up ?_
      simp only[impl_toward.l0,if_pos (show i+1≤p by omega)]
      have hc:=impl_neighbour_ev (i+1) h (by omega)
      rw[if_neg (show ¬i+1=0 by omega),show i+1 - 1=i by omega,hch] at hc
      refine Ev.bind hc ?_
      simp only[hq,if_true]
      exact Ev.now _
  induction d with
  |zero=>intro i h0 h1 hq;exact yes i h0 (by omega) (by simpa using hq)
  |succ d ih=>
   intro i h0 h1 hq
   cases hqi:qB p L T D B i with
   |true=>exact yes i h0 (by omega) hqi
   |false=>
    obtain⟨m,m1,m2,m3,m4⟩:=ih (i+1) (by omega) (by omega) (by rw[show i+1+(d:Int)=i+((d+1:Nat):Int) by omega];exact hq)
    unfold qB at hqi
    refine⟨m,⟨by omega,m1.2⟩,?_,?_,m4⟩
    · refine Ev.up ?_
      simp only[spec_l10Digit.l0,if_pos (show i<p by omega)]
      have hc:=spec_l01Child_ev h (c:=i) (by omega)
      rw[hch] at hc
      refine Ev.bind hc ?_
      rw[wid (n:=i+1) (by omega) (by omega)]
      simp only[hqi,if_true,Bool.false_eq_true,if_false]
      exact m2
    · refine Ev.up ?_
      simp only[impl_toward.l0,if_pos (show i+1≤p by omega)]
      have hc:=impl_neighbour_ev (i+1) h (by omega)
      rw[if_neg (show ¬i+1=0 by omega),show i+1 - 1=i by omega,hch] at hc
      refine Ev.bind hc ?_
      rw[wid (n:=i+1+1) (by omega) (by omega)]
      simp only[hqi,if_true,Bool.false_eq_true,if_false]
      exact m3
theorem digit_ev {p X n:Int} (hp:primeB p=true) (hn: -6≤n∧n<6):∃m,(0≤m∧m<p)∧Ev (fun k=>spec_l10Digit.f k p (n+1) (ofM p (n+1) X).2.1 (ofM p (n+1) X).2.2) m∧
    Ev (fun k=>impl_letterTo.f k p (upB p X n).f0 (upB p X n).f1 (upB p X n).f2 (upB p X (n+1)).f0 (upB p X (n+1)).f1 (upB p X (n+1)).f2) (48+m)∧chM p n (ofM p n X).2.1 (ofM p n X).2.2 m=ofM p (n+1) X:=by
  have hp7:=prime_hi hp
  obtain⟨k0,h1,h2⟩:=chM_dig (X:=X) hp hn
  have hb:=upB_ok (X:=X) hp (show -6≤n∧n≤6 by omega)
  obtain⟨m,m1,m2,m3,m4⟩:=find_ev hb (by omega) (ofM p (n+1) X) k0 0 (by omega) (by omega) (by unfold qB;rw[show (0:Int)+(k0:Int)=k0 by omega,h2];simp)
  refine⟨m,m1,?_,?_,?_⟩
  rotate_left 2
  · unfold qB at m4
    rw[Bool.and_eq_true,Bool.and_eq_true,beq_iff_eq,beq_iff_eq,beq_iff_eq] at m4
    exact Prod.ext m4.1 (Prod.ext m4.2.1 m4.2.2)
  · unfold spec_l10Digit.f
    have hpar:=spec_l01Parent_ev (upB_ok (X:=X) hp (show -6≤n+1∧n+1≤6 by omega))
    unfold parW at hpar
    rw[if_neg (show ¬n+1= -6 by omega),parM_up hp hn] at hpar
    refine Ev.bind hpar ?_
    exact m2
  · unfold impl_letterTo.f
    show Ev (fun k=>if n+1<n then _ else _) _
    simp only[if_neg (show ¬n+1<n by omega)]
    unfold impl_toward.f
    refine Ev.bind (a:=m+1) m3 ?_
    rw[wid (n:=48+(m+1)) (by omega) (by omega),wid (n:=48+(m+1) - 1) (by omega) (by omega),show (48+(m+1) - 1)%256=48+m by omega]
    exact Ev.now _
section
variable {p L T D L' T' D':Int} (h:ballB p L T D=true) (h':ballB p L' T' D'=true) (J:Int) (na nb:Nat) (hJ: -6≤J) (hna:L=J+na) (hnb:L'=J+nb) (hsame:ofM p J (markOf p T D)=ofM p J (markOf p T' D'))
def wayAt (p X X' J:Int) (na i:Nat):S42:=if i<na then upB p X (J+na - i) else upB p X' (J+(i - na:Nat))
include h h' hJ hna hnb hsame in
theorem geo_l1 (d:Nat):∀(j:Nat),j+d=nb→Ev (fun k=>impl_geodesic.l1 k p ((List.range (na+1+j)).map (wayAt p (markOf p T D) (markOf p T' D') J na)) (J+1+j) L' T' D') ((List.range (na+1+nb)).map (wayAt p (markOf p T D) (markOf p T' D') J na)):=by
  have hl:=(ball_parts h).2.1
  have hl':=(ball_parts h').2.1
  induction d with
  |zero=>
   intro j hj
   obtain rfl:j=nb:=by omega
   refine Ev.up ?_
   simp only[impl_geodesic.l1,if_neg (show ¬J+1+(j:Int)≤L' by omega)]
   exact Ev.now _
  |succ d ih=>
   intro j hj
   refine Ev.up ?_
   simp only[impl_geodesic.l1,if_pos (show J+1+(j:Int)≤L' by omega)]
   refine Ev.bind (impl_above_ev h' (by omega)) ?_
   rw[wid (n:=J+1+(j:Int)+1) (by omega) (by omega)]
   simp only[List.length_map,List.length_range,if_pos (show na+1+j<5864062014805 by omega)]
   have e: (List.range (na+1+j)).map (wayAt p (markOf p T D) (markOf p T' D') J na)++[upB p (markOf p T' D') (J+1+j)]=(List.range (na+1+(j+1))).map (wayAt p (markOf p T D) (markOf p T' D') J na):=by
      rw[show na+1+(j+1)=na+1+j+1 by omega,List.range_succ,List.map_append,List.map_singleton]
      congr 2
      unfold wayAt
      rw[if_neg (by omega),show J+((na+1+j - na:Nat):Int)=J+1+j by omega]
   have:=ih (j+1) (by omega)
   rw[←e,show J+1+((j+1:Nat):Int)=J+1+(j:Int)+1 by omega] at this
   exact this
include h h' hJ hna hnb hsame in
theorem geo_l0 (d:Nat):∀(i:Nat),i+d=na+1→Ev (fun k=>impl_geodesic.l0 k p J ((List.range i).map (wayAt p (markOf p T D) (markOf p T' D') J na)) (L - i) L T D L' T' D') ((List.range (na+1+nb)).map (wayAt p (markOf p T D) (markOf p T' D') J na)):=by
  have hl:=(ball_parts h).2.1
  have hl':=(ball_parts h').2.1
  induction d with
  |zero=>
   intro i hi
   obtain rfl:i=na+1:=by omega
   refine Ev.up ?_
   simp only[impl_geodesic.l0,if_neg (show ¬L - ((na+1:Nat):Int)≥J by omega)]
   rw[wid (n:=J+1) (by omega) (by omega)]
   have:=geo_l1 h h' J na nb hJ hna hnb hsame nb 0 (by omega)
   simpa using this
  |succ d ih=>
   intro i hi
   refine Ev.up ?_
   simp only[impl_geodesic.l0,if_pos (show L - (i:Int)≥J by omega)]
   refine Ev.bind (impl_above_ev h (by omega)) ?_
   rw[wid (n:=L - (i:Int) - 1) (by omega) (by omega)]
   simp only[List.length_map,List.length_range,if_pos (show i<5864062014805 by omega)]
   have e: (List.range i).map (wayAt p (markOf p T D) (markOf p T' D') J na)++[upB p (markOf p T D) (L - i)]=(List.range (i+1)).map (wayAt p (markOf p T D) (markOf p T' D') J na):=by
      rw[List.range_succ,List.map_append,List.map_singleton]
      congr 2
      unfold wayAt
      by_cases hlt:i<na
      · rw[if_pos hlt,hna]
      · rw[if_neg hlt,show L - (i:Int)=J by omega,show J+((i - na:Nat):Int)=J by omega]
        unfold upB
        rw[hsame]
   have:=ih (i+1) (by omega)
   rw[←e,show L - ((i+1:Nat):Int)=L - (i:Int) - 1 by omega] at this
   exact this
theorem wayAt_rd (p X X' J:Int) (na N i:Nat) (hi:i<N):rd_T42 ((List.range N).map (wayAt p X X' J na)) (i:Int)=wayAt p X X' J na i:=by
  show ((List.range N).map (wayAt p X X' J na)).getD i z42=_
  rw[List.getD_eq_getElem?_getD,List.getElem?_map,List.getElem?_range hi]
  rfl
include h h' hJ hna hnb hsame in
include h h' hJ hna hnb hsame in
end
def letW (p:Int) (b:S42) (c:Int):Int×Int×Int×Bool:=if c=117 then parW p b.f0 b.f1 b.f2 else chW p b.f0 b.f1 b.f2 (c - 48)
def okB (p:Int) (b:S42):Prop:=ballB p b.f0 b.f1 b.f2=true
theorem letW_ok {p:Int} {b:S42} (c:Int) (h:okB p b) (hf: (letW p b c).2.2.2=true):okB p ⟨(letW p b c).1,(letW p b c).2.1,(letW p b c).2.2.1⟩:=by
  unfold letW at*
  unfold okB at*
  by_cases hc:c=117
  · simp only[if_pos hc] at*
    unfold parW at*
    by_cases h6:b.f0= -6
    · simp[if_pos h6] at hf
    · simp only[if_neg h6];exact parM_ball h h6
  · simp only[if_neg hc] at*
    unfold chW at*
    by_cases h6:b.f0=6
    · simp[if_pos h6] at hf
    · simp only[if_neg h6];exact chM_ball _ h h6
def folW (p:Int) (s:ByteArray):Nat→Nat→S42→Option S42
  |0,_,b=>some b
  |n+1,i,b=>if (letW p b (bt s i)).2.2.2=true then folW p s n (i+1) ⟨(letW p b (bt s i)).1,(letW p b (bt s i)).2.1,(letW p b (bt s i)).2.2.1⟩ else none
theorem stepB_bd {p:Int} {c:Int} (hp:primeB p=true) (h:stepB p c=true):c=117∨(48≤c∧c - 48<p∧c≤54):=by
  have:=prime_hi hp
  unfold stepB at h
  rw[Bool.or_eq_true,beq_iff_eq,decide_eq_true_eq] at h
  omega
theorem impl_follow_l {p:Int} (s:ByteArray) (hp:primeB p=true) (hs:s.size≤40) (hst:∀i,i<s.size→stepB p (bt s (i:Int))=true) (n:Nat):∀(i:Nat) (b:S42) (xs:List S42),i+n=s.size→okB p b→xs.length=i+1→xs[i]? =some b→
    ∃ys:List S42,Ev (fun k=>impl_follow.l0 k p s xs s.size i b.f0 b.f1 b.f2) (if (folW p s n i b).isSome then(ys,true) else([],false))∧
     (∀b',folW p s n i b=some b'→ys.length=s.size+1∧ys[s.size]? =some b'∧okB p b'):=by
  induction n with
  |zero=>
   intro i b xs hi hb hl hx
   have hi':i=s.size:=by omega
   subst hi'
   refine⟨xs,?_,?_⟩
   · exact Ev.step (f:=fun _=>some (xs,true)) (fun k=>by simp only[impl_follow.l0];rw[if_neg (by omega)]) (Ev.now _)
   · intro b' h'
     simp only[folW,Option.some.injEq] at h'
     subst h'
     exact⟨hl,hx,hb⟩
  |succ n ih=>
   intro i b xs hi hb hl hx
   have hlt:i<s.size:=by omega
   have hc:=stepB_bd hp (hst i hlt)
   have step:Ev (fun k=>(impl_neighbour.f k p b.f0 b.f1 b.f2 (if bt s (i:Int)=117 then 0 else bt s (i:Int) - 48+1))) (letW p b (bt s (i:Int))):=by
      have:=impl_neighbour_ev (if bt s (i:Int)=117 then 0 else bt s (i:Int) - 48+1) hb (by split<;>omega)
      unfold letW
      by_cases h117:bt s (i:Int)=117
      · simp only[if_pos h117,if_true] at*;exact this
      · simp only[if_neg h117] at*
        rw[if_neg (by omega),show bt s (i:Int) - 48+1 - 1=bt s (i:Int) - 48 from by omega] at this
        exact this
   have hw:wrap64 ((i:Int)+1)=((i+1:Nat):Int):=by rw[wid (by omega) (by omega)];rfl
   have red:∀k,impl_follow.l0 (k+1) p s xs s.size i b.f0 b.f1 b.f2=(impl_neighbour.f k p b.f0 b.f1 b.f2 (if bt s (i:Int)=117 then 0 else bt s (i:Int) - 48+1)).bind fun t=>if t.2.2.2=true then impl_follow.l0 k p s (xs++[⟨t.1,t.2.1,t.2.2.1⟩]) s.size ((i+1:Nat):Int) t.1 t.2.1 t.2.2.1 else some ([],false):=by
      intro k
      simp only[impl_follow.l0]
      rw[if_pos (by omega),if_pos (by omega),if_pos (by omega)]
      simp only[if_pos (show xs.length<5864062014805 by omega),hw]
      by_cases h117:bt s (i:Int)=117
      · rw[if_pos h117,if_pos h117]
      · rw[if_neg h117,if_neg h117,show (bt s (i:Int) - 48)%256=bt s (i:Int) - 48 from by omega]
   generalize hr:letW p b (bt s (i:Int))=r at*
   cases hf:r.2.2.2 with
   |false=>
    refine⟨[],Ev.step red (Ev.bind step ?_),?_⟩
    · simp only[folW,hr,hf,Bool.false_eq_true,if_false,Option.isSome_none];exact Ev.now _
    · intro b' h';simp[folW,hr,hf] at h'
   |true=>
    have hb2:okB p ⟨r.1,r.2.1,r.2.2.1⟩:=by have:=letW_ok (bt s (i:Int)) hb (by rw[hr];exact hf);rwa [hr] at this
    obtain⟨ys,h1,h2⟩:=ih (i+1) ⟨r.1,r.2.1,r.2.2.1⟩ (xs++[⟨r.1,r.2.1,r.2.2.1⟩]) (by omega) hb2 (by simp[hl]) (by rw[List.getElem?_append_right (by omega),hl];simp)
    refine⟨ys,Ev.step red (Ev.bind step ?_),?_⟩
    · simp only[folW,hr,hf,if_true];exact h1
    · intro b' h';apply h2;simpa [folW,hr,hf] using h'
theorem spec_l10Is_ev (p:Int) (s:ByteArray) (hp:primeB p=true) (hs:s.size≤4611686018427387904):Ev (fun k=>spec_l10Is.f k p s) (stepsB p s):=by
  have h2:=prime_lo hp
  have h7:=prime_hi hp
  unfold spec_l10Is.f stepsB
  by_cases h40:s.size≤40
  · rw[decide_eq_true h40,Bool.true_and]
    simp only[if_neg (show ¬(s.size:Int)>40 by omega)]
    rw[←ite_tf ((List.range s.size).all _)]
    have body:∀(i:Nat) (k:Nat),i<s.size→bt s i≠117→spec_l10Is.l0 (k+1) p s i=if decide (48≤bt s i∧bt s i - 48<p)=true then spec_l10Is.l0 k p s ((i:Int)+1) else some false:=by
      intro i k hi hc
      have:=bt_lo s i
      have:=bt_hi s i
      simp only[spec_l10Is.l0]
      rw[if_pos (by omega),if_pos (by omega),if_neg hc,wid (n:=bt s i) (by omega) (by omega),wid (n:=bt s i - 48) (by omega) (by omega),wid (n:=p - 1) (by omega) (by omega),In_eq,wid (n:=(i:Int)+1) (by omega) (by omega)]
      simp only[Option.bind_some]
      rw[show decide (0≤bt s i - 48∧bt s i - 48≤p - 1)=decide (48≤bt s i∧bt s i - 48<p) from decide_eq_decide.2 (by omega)]
    refine all_ev' (fun k i=>spec_l10Is.l0 k p s i) s.size (fun i=>stepB p (bt s i)) true false ?_ ?_ ?_
    · intro i r hi hb hr
      refine Ev.step (f:=fun k=>spec_l10Is.l0 k p s ((i:Int)+1)) (fun k=>?_) hr
      by_cases hc:bt s i=117
      · simp only[spec_l10Is.l0]
        rw[if_pos (by omega),if_pos (by omega),if_pos hc,wid (by omega) (by omega)]
      · rw[body i k hi hc]
        have:decide (48≤bt s i∧bt s i - 48<p)=true:=by simpa [stepB,hc] using hb
        rw[this];simp
    · intro i hi hb
      refine Ev.step (f:=fun _=>some false) (fun k=>?_) (Ev.now _)
      have hc:bt s i≠117:=by intro h;simp[stepB,h] at hb
      rw[body i k hi hc]
      have:decide (48≤bt s i∧bt s i - 48<p)=false:=by
        unfold stepB at hb
        rw[beq_eq_false_iff_ne.2 hc,Bool.false_or] at hb
        exact hb
      rw[this];simp
    · exact Ev.step (f:=fun _=>some true) (fun k=>by simp only[spec_l10Is.l0];rw[if_neg (by omega)]) (Ev.now _)
  · rw[decide_eq_false h40,Bool.false_and]
    simp only[if_pos (show (s.size:Int)>40 by omega)]
    exact Ev.now _
theorem impl_isSteps_ev (p:Int) (s:ByteArray) (hp:primeB p=true) (hs:s.size≤4611686018427387904):Ev (fun k=>impl_isSteps.f k p s) (stepsB p s):=by
  have h2:=prime_lo hp
  have h7:=prime_hi hp
  unfold impl_isSteps.f stepsB
  have body:∀(i:Nat) (k:Nat),i<s.size→bt s i≠117→impl_isSteps.l0 (k+1) p s s.size i=if decide (48≤bt s i∧bt s i - 48<p)=true then impl_isSteps.l0 k p s s.size ((i:Int)+1) else some false:=by
    intro i k hi hc
    have:=bt_lo s i
    have:=bt_hi s i
    simp only[impl_isSteps.l0]
    rw[if_pos (by omega),if_pos (by omega),if_pos (by omega),if_neg hc,wid (n:=(i:Int)+1) (by omega) (by omega)]
    by_cases h1:bt s i<48
    · rw[if_pos h1,decide_eq_false (by omega)];simp
    · rw[if_neg h1,show (bt s i - 48)%256=bt s i - 48 from by omega]
      by_cases h3:bt s i - 48≥p
      · rw[if_pos h3,decide_eq_false (by omega)];simp
      · rw[if_neg h3,decide_eq_true (by omega)];simp
  have:=all_ev' (fun k i=>impl_isSteps.l0 k p s s.size i) s.size (fun i=>stepB p (bt s i)) (decide ((s.size:Int)≤40)) false (by
    intro i r hi hb hr
    refine Ev.step (f:=fun k=>impl_isSteps.l0 k p s s.size ((i:Int)+1)) (fun k=>?_) hr
    by_cases hc:bt s i=117
    · simp only[impl_isSteps.l0]
      rw[if_pos (by omega),if_pos (by omega),if_pos (by omega),if_pos hc,wid (by omega) (by omega)]
    · rw[body i k hi hc]
      have:decide (48≤bt s i∧bt s i - 48<p)=true:=by simpa [stepB,hc] using hb
      rw[this];simp) (by
    intro i hi hb
    refine Ev.step (f:=fun _=>some false) (fun k=>?_) (Ev.now _)
    have hc:bt s i≠117:=by intro h;simp[stepB,h] at hb
    rw[body i k hi hc]
    have:decide (48≤bt s i∧bt s i - 48<p)=false:=by
      unfold stepB at hb
      rw[beq_eq_false_iff_ne.2 hc,Bool.false_or] at hb
      exact hb
    rw[this];simp) (Ev.step (f:=fun _=>some (decide ((s.size:Int)≤40))) (fun k=>by simp only[impl_isSteps.l0];rw[if_neg (by omega)]) (Ev.now _))
  rw[show (decide (s.size≤40)&&(List.range s.size).all (fun i=>stepB p (bt s i)))=(if (List.range s.size).all (fun i=>stepB p (bt s i))=true then decide ((s.size:Int)≤40) else false) from by
    cases (List.range s.size).all (fun i=>stepB p (bt s i)) with
    |false=>simp
    |true=>simp only[if_true,Bool.and_true];exact decide_eq_decide.2 (by omega)]
  exact this
theorem spec_l01Prime_eq (p:Int):spec_l01Prime.f p=some (primeB p):=by
  unfold spec_l01Prime.f primeB
  by_cases h2:p=2
  · simp[h2]
  · by_cases h3:p=3
    · simp[h3]
    · by_cases h5:p=5
      · simp[h5]
      · rw[if_neg h2,if_neg h3,if_neg h5,beq_eq_false_iff_ne.2 h2,beq_eq_false_iff_ne.2 h3,beq_eq_false_iff_ne.2 h5];rfl
theorem spec_l01Is_ev (p L T D:Int):Ev (fun k=>spec_l01Is.f k p L T D) (ballB p L T D):=by
  have hno:Ev (fun k=>spec_l01Is.j0 k p true L T D) false:=Ev.step (f:=fun _=>some false) (fun k=>by simp only[spec_l01Is.j0,if_true]) (Ev.now _)
  unfold spec_l01Is.f
  refine Ev.bindv (spec_l01Prime_eq p) ?_
  unfold ballB
  cases hp:primeB p with
  |false=>simpa using hno
  |true=>
   have hp2:=prime_lo hp
   simp only[if_true,Bool.true_and]
   refine Ev.bindv (In_eq L (-6) 6) ?_
   by_cases hL: -6≤L∧L≤6
   · rw[decide_eq_true hL];simp only[if_true,Bool.true_and]
     refine Ev.bindv (In_eq D 0 6) ?_
     by_cases hD:0≤D∧D≤6
     · rw[decide_eq_true hD];simp only[Bool.not_true,Bool.true_and]
       have hn:=wid (n:=L+D) (by omega) (by omega)
       by_cases h0:L+D≤0
       · rw[if_pos h0]
         refine Ev.step (f:=fun _=>some (T==0&&D==0)) (fun k=>?_) (Ev.now _)
         simp only[spec_l01Is.j0]
         rw[if_neg (by decide),hn,if_pos h0]
         by_cases hT:T=0
         · simp[hT]
         · simp[hT]
       · rw[if_neg h0]
         refine Ev.step (f:=fun k=>(spec_l01Power.f k p (L+D)).bind fun t=>(spec_l01In.f T 0 (wrap64 (t - 1))).bind fun t2=>if t2=true then(if D=0 then some true else if p=0 then none else some (Int.tmod T p !=0)) else some false) (fun k=>by simp only[spec_l01Is.j0];rw[if_neg (by decide),hn,if_neg h0]) ?_
         refine Ev.bind (spec_l01Power_ev p (L+D) (by omega)) ?_
         rw[powW_prime hp _ (by omega)]
         have hpp:=ipow_pos (p:=p) (by omega) (L+D).toNat
         have hpt:=pow_le_top hp (L+D).toNat (by omega)
         rw[wid (n:=p^(L+D).toNat - 1) (by omega) (by omega)]
         refine Ev.bindv (In_eq _ _ _) ?_
         rw[show decide (0≤T∧T≤p^(L+D).toNat - 1)=decide (0≤T∧T<p^(L+D).toNat) from decide_eq_decide.2 (by omega)]
         cases decide (0≤T∧T<p^(L+D).toNat) with
         |false=>simp only[Bool.false_eq_true,if_false,Bool.false_and];exact Ev.now _
         |true=>
          simp only[if_true,Bool.true_and]
          by_cases hd:D=0
          · simp only[hd,if_true];simp;exact Ev.now _
          · rw[if_neg hd,if_neg (by omega),show (D==0)=false from beq_eq_false_iff_ne.2 hd,Bool.false_or]
            exact Ev.now _
     · rw[decide_eq_false hD];simpa using hno
   · rw[decide_eq_false hL];simpa using hno
def codeB (p:Int) (l:List S42):Bool:=primeB p&&l.all (fun b=>ballB p b.f0 b.f1 b.f2)
theorem spec_l01Code_ev (p:Int) (l:List S42) (hl:l.length≤4611686018427387904):Ev (fun k=>spec_l01Code.f k p l) (if codeB p l then 0 else 1):=by
  unfold spec_l01Code.f codeB
  refine Ev.bindv (spec_l01Prime_eq p) ?_
  cases hp:primeB p with
  |false=>simp;exact Ev.now _
  |true=>
   simp only[if_true,Bool.true_and]
   rw[←all_range_getD l z42]
   refine all_ev' (fun k i=>spec_l01Code.l0 k p l i) l.length (fun i=>ballB p (l.getD i z42).f0 (l.getD i z42).f1 (l.getD i z42).f2) 0 1 ?_ ?_ ?_
   · intro i r hi hb hr
     refine Ev.step (f:=fun k=>(spec_l01Is.f k p (l.getD i z42).f0 (l.getD i z42).f1 (l.getD i z42).f2).bind fun t=>if t=true then spec_l01Code.l0 k p l ((i:Int)+1) else some 1) (fun k=>?_) ?_
     · simp only[spec_l01Code.l0]
       rw[if_pos (by omega),if_pos (by omega),wid (by omega) (by omega)];rfl
     · refine Ev.bind (spec_l01Is_ev _ _ _ _) ?_
       rw[hb];simpa using hr
   · intro i hi hb
     refine Ev.step (f:=fun k=>(spec_l01Is.f k p (l.getD i z42).f0 (l.getD i z42).f1 (l.getD i z42).f2).bind fun t=>if t=true then spec_l01Code.l0 k p l ((i:Int)+1) else some 1) (fun k=>?_) ?_
     · simp only[spec_l01Code.l0]
       rw[if_pos (by omega),if_pos (by omega),wid (by omega) (by omega)];rfl
     · refine Ev.bind (spec_l01Is_ev _ _ _ _) ?_
       rw[hb];simp;exact Ev.now _
   · exact Ev.step (f:=fun _=>some 0) (fun k=>by simp only[spec_l01Code.l0];rw[if_neg (by omega)]) (Ev.now _)
theorem impl_isPrime_eq (p:Int):impl_isPrime.f p=some (primeB p):=by
  unfold impl_isPrime.f primeB
  by_cases h2:p=2
  · simp[h2]
  · by_cases h3:p=3
    · simp[h3]
    · by_cases h5:p=5
      · simp[h5]
      · rw[if_neg h2,if_neg h3,if_neg h5,beq_eq_false_iff_ne.2 h2,beq_eq_false_iff_ne.2 h3,beq_eq_false_iff_ne.2 h5];rfl
theorem impl_IsBall_ev (p L T D:Int):Ev (fun k=>impl_IsBall.f k p L T D) (ballB p L T D):=by
  have hno:Ev (fun k=>impl_IsBall.j0 k p true L T D) false:=Ev.step (f:=fun _=>some false) (fun k=>by simp only[impl_IsBall.j0,if_true]) (Ev.now _)
  unfold impl_IsBall.f
  refine Ev.bindv (impl_isPrime_eq p) ?_
  unfold ballB
  cases hp:primeB p with
  |false=>simpa using hno
  |true=>
   have hp2:=prime_lo hp
   simp only[if_true,Bool.true_and]
   refine Ev.bindv (impl_isLevel_eq L) ?_
   by_cases hL: -6≤L∧L≤6
   · rw[decide_eq_true hL];simp only[if_true,Bool.true_and]
     by_cases hD0:D<0
     · rw[decide_eq_false (show ¬(0≤D∧D≤6) by omega)];simp only[if_pos hD0,Bool.false_and];exact hno
     simp only[if_neg hD0]
     by_cases hD:0≤D∧D≤6
     · rw[decide_eq_true hD,decide_eq_false (show ¬D>6 by omega)];simp only[Bool.true_and]
       have hn:=wid (n:=L+D) (by omega) (by omega)
       by_cases h0:L+D≤0
       · rw[if_pos h0]
         refine Ev.step (f:=fun _=>some (T==0&&D==0)) (fun k=>?_) (Ev.now _)
         simp only[impl_IsBall.j0]
         rw[if_neg (by decide),hn,if_pos h0]
         by_cases hT:T=0
         · simp[hT]
         · simp[hT]
       · rw[if_neg h0]
         by_cases hT0:T≥0
         · refine Ev.step (f:=fun k=>(impl_power.f k p (L+D)).bind fun t=>if T<t then(if D=0 then some true else if p=0 then none else some (Int.tmod T p !=0)) else some false) (fun k=>by simp only[impl_IsBall.j0];rw[if_neg (by decide),hn,if_neg h0,if_pos hT0]) ?_
           refine Ev.bind (impl_power_ev p (L+D) (by omega)) ?_
           rw[powW_prime hp _ (by omega)]
           by_cases hT1:T<p^(L+D).toNat
           · rw[if_pos hT1,decide_eq_true (show 0≤T∧T<p^(L+D).toNat from ⟨hT0,hT1⟩),Bool.true_and]
             by_cases hd:D=0
             · simp only[hd,if_true];simp;exact Ev.now _
             · rw[if_neg hd,if_neg (by omega),show (D==0)=false from beq_eq_false_iff_ne.2 hd,Bool.false_or]
               exact Ev.now _
           · rw[if_neg hT1,decide_eq_false (show ¬(0≤T∧T<p^(L+D).toNat) from fun h=>hT1 h.2),Bool.false_and]
             exact Ev.now _
         · rw[decide_eq_false (show ¬(0≤T∧T<p^(L+D).toNat) from fun h=>hT0 h.1),Bool.false_and]
           refine Ev.step (f:=fun _=>some false) (fun k=>?_) (Ev.now _)
           simp only[impl_IsBall.j0]
           rw[if_neg (by decide),hn,if_neg h0,if_neg hT0]
     · rw[decide_eq_false hD,decide_eq_true (show D>6 by omega)];simpa using hno
   · rw[decide_eq_false hL];simpa using hno
theorem ballB_prime {p L T D:Int} (h:ballB p L T D=true):primeB p=true:=by
  unfold ballB at h;rw[Bool.and_eq_true] at h;exact h.1
def stepsCodeW (p L T D:Int) (s:ByteArray):Int:=if ballB p L T D then(if stepsB p s then 0 else 6) else 1
theorem spec_l10Code_ev (p:Int) (s:ByteArray) (l:List S42) (hs:s.size≤4611686018427387904) (hl:l.length≤4611686018427387904):Ev (fun k=>spec_l10Code.f k p s l) (if codeB p l then(if stepsB p s then 0 else 6) else 1):=by
  unfold spec_l10Code.f
  refine Ev.bind (spec_l01Code_ev p l hl) ?_
  cases hc:codeB p l with
  |false=>simp;exact Ev.now _
  |true=>
   have hp:primeB p=true:=by unfold codeB at hc;rw[Bool.and_eq_true] at hc;exact hc.1
   simp only[if_true]
   refine Ev.bind (spec_l10Is_ev p s hp hs) ?_
   cases stepsB p s<;>(simp;exact Ev.now _)
theorem impl_stepsCode_ev (p L T D:Int) (s:ByteArray) (hs:s.size≤4611686018427387904):Ev (fun k=>impl_stepsCode.f k p L T D s) (stepsCodeW p L T D s):=by
  unfold impl_stepsCode.f stepsCodeW
  refine Ev.bind (impl_IsBall_ev p L T D) ?_
  cases hb:ballB p L T D with
  |false=>simp;exact Ev.now _
  |true=>
   simp only[if_true]
   refine Ev.bind (impl_isSteps_ev p s (ballB_prime hb) hs) ?_
   cases stepsB p s<;>(simp;exact Ev.now _)
def folL (p:Int):List Int→S42→Option S42
  |[],b=>some b
  |c::cs,b=>if (letW p b c).2.2.2=true then folL p cs ⟨(letW p b c).1,(letW p b c).2.1,(letW p b c).2.2.1⟩ else none
def ltrs (s:ByteArray):List Int:=(List.range s.size).map fun (j:Nat)=>bt s (j:Int)
theorem ltrs_len (s:ByteArray): (ltrs s).length=s.size:=by simp[ltrs]
theorem ltrs_drop (s:ByteArray) (i:Nat) (h:i<s.size): (ltrs s).drop i=bt s (i:Int)::(ltrs s).drop (i+1):=by
  have hl:i<(ltrs s).length:=by rw[ltrs_len];exact h
  rw[List.drop_eq_getElem_cons hl]
  congr 1
  simp[ltrs]
theorem folW_eq (p:Int) (s:ByteArray) (n:Nat):∀(i:Nat) (b:S42),i+n=s.size→folW p s n i b=folL p ((ltrs s).drop i) b:=by
  induction n with
  |zero=>
   intro i b h
   rw[List.drop_of_length_le (by rw[ltrs_len];omega)];rfl
  |succ n ih=>
   intro i b h
   rw[ltrs_drop s i (by omega)]
   unfold folW folL
   split
   · exact ih (i+1) _ (by omega)
   · rfl
theorem bt_str (l:List Int) (h:∀c∈l,0≤c∧c≤255) (i:Nat) (hi:i<l.length):bt (strOfNums l) (i:Int)=l[i]:=by
  have hc:=h _ (List.getElem_mem hi)
  have hs:i<(strOfNums l).size:=by rw[strOfNums_size];exact hi
  unfold bt
  rw[dif_pos (show (i:Int).toNat<(strOfNums l).size from hs)]
  have e: (strOfNums l)[(i:Int).toNat]'hs=UInt8.ofNat (l[i]).toNat:=by
    show (strOfNums l).data[i]'hs=_
    simp[strOfNums]
  rw[e,UInt8.toNat_ofNat']
  omega
theorem ltrs_str (l:List Int) (h:∀c∈l,0≤c∧c≤255):ltrs (strOfNums l)=l:=by
  apply List.ext_getElem
  · rw[ltrs_len,strOfNums_size]
  · intro i h1 h2
    have:=bt_str l h i h2
    simp only[ltrs,List.getElem_map,List.getElem_range]
    exact this
def nrm:List Int→List Int→List Int
  |xs,[]=>xs
  |xs,c::cs=>if c=117∧0<xs.length∧xs.getD (xs.length - 1) 0≠117 then nrm (xs.take (xs.length - 1)) cs else nrm (xs++[c]) cs
def goodN (xs:List Int):Prop:=∀i,i+1<xs.length→xs.getD (i+1) 0=117→xs.getD i 0=117
theorem nrm_good (cs:List Int):∀xs,goodN xs→goodN (nrm xs cs):=by
  induction cs with
  |nil=>intro xs h;exact h
  |cons c cs ih=>
   intro xs h
   unfold nrm
   split
   · refine ih _ (fun i hi hx=>?_)
     rw[List.length_take] at hi
     rw[List.getD_eq_getElem?_getD,List.getElem?_take,if_pos (by omega),←List.getD_eq_getElem?_getD] at hx⊢
     exact h i (by omega) hx
   · rename_i hc
     refine ih _ (fun i hi hx=>?_)
     rw[List.length_append,List.length_singleton] at hi
     rw[List.getD_eq_getElem?_getD,List.getElem?_append_left (show i<xs.length by omega),←List.getD_eq_getElem?_getD]
     by_cases hl:i+1<xs.length
     · rw[List.getD_eq_getElem?_getD,List.getElem?_append_left hl,←List.getD_eq_getElem?_getD] at hx
       exact h i hl hx
     · have hxl:xs.length=i+1:=by omega
       rw[List.getD_eq_getElem?_getD,List.getElem?_append_right (by omega),show i+1 - xs.length=0 by omega] at hx
       have hx2:c=117:=hx
       have:=Classical.byContradiction (p:=xs.getD i 0=117) (fun hne=>hc ⟨hx2,by omega,by rw[hxl];exact hne⟩)
       exact this
theorem nrm_mem (P:Int→Prop) (cs:List Int):∀xs,(∀c∈xs,P c)→(∀c∈cs,P c)→∀c∈nrm xs cs,P c:=by
  induction cs with
  |nil=>intro xs h _;exact h
  |cons c cs ih=>
   intro xs h h2
   unfold nrm
   split
   · exact ih _ (fun x hx=>h x (List.mem_of_mem_take hx)) (fun x hx=>h2 x (List.mem_cons_of_mem _ hx))
   · refine ih _ (fun x hx=>?_) (fun x hx=>h2 x (List.mem_cons_of_mem _ hx))
     rcases List.mem_append.1 hx with hx|hx
     · exact h x hx
     · rw[List.mem_singleton.1 hx];exact h2 c List.mem_cons_self
theorem nrm_len (cs:List Int):∀xs:List Int,(nrm xs cs).length≤xs.length+cs.length:=by
  induction cs with
  |nil=>intro xs;exact Nat.le_refl _
  |cons c cs ih=>
   intro xs
   unfold nrm
   split
   · have:=ih (xs.take (xs.length - 1));rw[List.length_take] at this;rw[List.length_cons];omega
   · have:=ih (xs++[c]);rw[List.length_append,List.length_singleton] at this;rw[List.length_cons];omega
theorem steps_ltrs {p:Int} {s:ByteArray} (h:stepsB p s=true):s.size≤40∧∀c∈ltrs s,stepB p c=true:=by
  unfold stepsB at h
  rw[Bool.and_eq_true,decide_eq_true_eq,List.all_eq_true] at h
  refine⟨h.1,fun c hc=>?_⟩
  unfold ltrs at hc
  obtain⟨j,hj,rfl⟩:=List.mem_map.1 hc
  exact h.2 j hj
theorem steps_str {p:Int} {l:List Int} (hp:primeB p=true) (hl:l.length≤40) (h:∀c∈l,stepB p c=true):stepsB p (strOfNums l)=true∧ltrs (strOfNums l)=l:=by
  have e:=ltrs_str l (fun c hc=>by have:=stepB_bd hp (h c hc);omega)
  refine⟨?_,e⟩
  unfold stepsB
  rw[Bool.and_eq_true,decide_eq_true_eq,List.all_eq_true]
  refine⟨by rw[strOfNums_size];exact hl,fun i hi=>h _ ?_⟩
  have:bt (strOfNums l) (i:Int)∈ltrs (strOfNums l):=List.mem_map.2 ⟨i,hi,rfl⟩
  rw[e] at this
  exact this
theorem let_up {p X n:Int} (hp:primeB p=true) (hn: -6≤n∧n<6):letW p (upB p X (n+1)) 117=((upB p X n).f0,(upB p X n).f1,(upB p X n).f2,true):=by
  unfold letW
  rw[if_pos rfl]
  unfold parW
  show (if n+1= -6 then _ else _)=_
  rw[if_neg (by omega)]
  show ((parM p (n+1) (ofM p (n+1) X).2.1 (ofM p (n+1) X).2.2).1,(parM p (n+1) (ofM p (n+1) X).2.1 (ofM p (n+1) X).2.2).2.1,(parM p (n+1) (ofM p (n+1) X).2.1 (ofM p (n+1) X).2.2).2.2,true)=_
  rw[parM_up hp hn]
  rfl
theorem let_down {p X n m:Int} (hn: -6≤n∧n<6) (h0:0≤m∧m<p) (hp:primeB p=true) (h:chM p n (ofM p n X).2.1 (ofM p n X).2.2 m=ofM p (n+1) X):letW p (upB p X n) (48+m)=((upB p X (n+1)).f0,(upB p X (n+1)).f1,(upB p X (n+1)).f2,true):=by
  have:=prime_hi hp
  unfold letW
  rw[if_neg (by omega),show 48+m - 48=m by omega]
  unfold chW
  show (if n=6 then _ else _)=_
  rw[if_neg (by omega)]
  show ((chM p n (ofM p n X).2.1 (ofM p n X).2.2 m).1,(chM p n (ofM p n X).2.1 (ofM p n X).2.2 m).2.1,(chM p n (ofM p n X).2.1 (ofM p n X).2.2 m).2.2,true)=_
  rw[h]
  rfl
theorem fol_cons {p c:Int} {cs:List Int} {b d:S42} (h:letW p b c=(d.f0,d.f1,d.f2,true)):folL p (c::cs) b=folL p cs d:=by
  show (if (letW p b c).2.2.2=true then folL p cs ⟨(letW p b c).1,(letW p b c).2.1,(letW p b c).2.2.1⟩ else none)=_
  rw[h]
  rfl
theorem upB_self {p L T D:Int} (h:ballB p L T D=true):upB p (markOf p T D) L=⟨L,T,D⟩:=by unfold upB;rw[ofM_mark h]
theorem digit_step {p m:Int} (h:0≤m∧m<p):stepB p (48+m)=true:=by
  unfold stepB
  rw[Bool.or_eq_true,decide_eq_true_eq]
  right;omega
section
variable {p L T D L' T' D':Int} (h:ballB p L T D=true) (h':ballB p L' T' D'=true) (J:Int) (na nb:Nat) (hJ: -6≤J) (hna:L=J+na) (hnb:L'=J+nb) (hsame:ofM p J (markOf p T D)=ofM p J (markOf p T' D'))
include h h' hJ hna hnb hsame in
theorem wayF_l1 (d:Nat):∀(j:Nat) (acc:List Int),j+d=nb→acc.length≤na+j→∃ds,(ds.length=d∧(∀c∈ds,stepB p c=true)∧folL p ds (upB p (markOf p T' D') (J+j))=some ⟨L',T',D'⟩)∧Ev (fun k=>spec_l10Way.l1 k p acc (J+1+j) L' T' D') (strOfNums (acc++ds),true)∧
    Ev (fun k=>impl_wayWord.l0 k p acc ((List.range (na+1+nb)).map (wayAt p (markOf p T D) (markOf p T' D') J na)) ((na+1+j:Nat):Int)) (strOfNums (acc++ds)):=by
  have hl:=(ball_parts h).2.1
  have hl':=(ball_parts h').2.1
  have hp:=(ball_parts h').1
  have hp7:=prime_hi hp
  induction d with
  |zero=>
   intro j acc hj ha
   obtain rfl:j=nb:=by omega
   refine⟨[],⟨rfl,fun c hc=>absurd hc List.not_mem_nil,?_⟩,?_,?_⟩
   · rw[←hnb,upB_self h'];rfl
   all_goals rw[List.append_nil]
   · refine Ev.up ?_
     simp only[spec_l10Way.l1,if_neg (show ¬J+1+(j:Int)≤L' by omega)]
     exact Ev.now _
   · refine Ev.up ?_
     simp only[impl_wayWord.l0,List.length_map,List.length_range,if_neg (show ¬((na+1+j:Nat):Int)<((na+1+j:Nat):Int) by omega)]
     exact Ev.now _
  |succ d ih=>
   intro j acc hj ha
   obtain⟨m,m1,m2,m3,m4⟩:=digit_ev (X:=markOf p T' D') (n:=J+j) hp (by omega)
   obtain⟨r,⟨q1,q2,q3⟩,r1,r2⟩:=ih (j+1) (acc++[48+m]) (by omega) (by simp;omega)
   rw[List.append_assoc,List.singleton_append] at r1 r2
   refine⟨(48+m)::r,⟨by rw[List.length_cons,q1],fun c hc=>?_,?_⟩,?_,?_⟩
   · rcases List.mem_cons.1 hc with rfl|hc
     · exact digit_step m1
     · exact q2 c hc
   · rw[fol_cons (let_down (by omega) m1 hp m4),show J+(j:Int)+1=J+((j+1:Nat):Int) by omega];exact q3
   · refine Ev.up ?_
     simp only[spec_l10Way.l1,if_pos (show J+1+(j:Int)≤L' by omega)]
     refine Ev.bind (spec_l02Up_ev h' (show -6≤J+1+(j:Int)∧J+1+(j:Int)≤6 by omega)) ?_
     simp only[if_true]
     rw[show J+(j:Int)+1=J+1+j by omega] at m2
     refine Ev.bind m2 ?_
     rw[wid (n:=48+m) (by omega) (by omega),wid (n:=J+1+(j:Int)+1) (by omega) (by omega),show (48+m)%256=48+m by omega]
     simp only[if_pos (show acc.length<140737488355328 by omega)]
     rw[show J+1+((j+1:Nat):Int)=J+1+(j:Int)+1 by omega] at r1
     exact r1
   · refine Ev.up ?_
     simp only[impl_wayWord.l0]
     rw[wid (n:=((na+1+j:Nat):Int) - 1) (by omega) (by omega),wid (n:=((na+1+j:Nat):Int)+1) (by omega) (by omega),show ((na+1+j:Nat):Int) - 1=((na+j:Nat):Int) by omega]
     simp only[wayAt_rd _ _ _ _ _ _ _ (show na+1+j<na+1+nb by omega),wayAt_rd _ _ _ _ _ _ _ (show na+j<na+1+nb by omega)]
     simp only[List.length_map,List.length_range,if_pos (show ((na+1+j:Nat):Int)<((na+1+nb:Nat):Int) by omega),if_pos (show (0:Int)≤((na+j:Nat):Int) by omega),if_pos (show ((na+j:Nat):Int)<((na+1+nb:Nat):Int) by omega),if_pos (show (0:Int)≤((na+1+j:Nat):Int) by omega)]
     have e1:wayAt p (markOf p T D) (markOf p T' D') J na (na+j)=upB p (markOf p T' D') (J+j):=by
        unfold wayAt;rw[if_neg (by omega),show J+((na+j - na:Nat):Int)=J+j by omega]
     have e2:wayAt p (markOf p T D) (markOf p T' D') J na (na+1+j)=upB p (markOf p T' D') (J+j+1):=by
        unfold wayAt;rw[if_neg (by omega),show J+((na+1+j - na:Nat):Int)=J+j+1 by omega]
     rw[e1,e2]
     refine Ev.bind m3 ?_
     simp only[if_pos (show acc.length<140737488355328 by omega)]
     rw[show ((na+1+j:Nat):Int)+1=((na+1+(j+1):Nat):Int) by omega]
     exact r2
include h h' hJ hna hnb hsame in
theorem wayF_l0 (d:Nat):∀(i:Nat) (acc:List Int),i+d=na→acc.length≤i→∃ds,(ds.length=d+nb∧(∀c∈ds,stepB p c=true)∧folL p ds (upB p (markOf p T D) (L - i))=some ⟨L',T',D'⟩)∧Ev (fun k=>spec_l10Way.l0 k p J acc (L - i) L' T' D') (strOfNums (acc++ds),true)∧
    Ev (fun k=>impl_wayWord.l0 k p acc ((List.range (na+1+nb)).map (wayAt p (markOf p T D) (markOf p T' D') J na)) ((1+i:Nat):Int)) (strOfNums (acc++ds)):=by
  have hl:=(ball_parts h).2.1
  have hl':=(ball_parts h').2.1
  induction d with
  |zero=>
   intro i acc hi ha
   obtain rfl:i=na:=by omega
   obtain⟨r,⟨q1,q2,q3⟩,r1,r2⟩:=wayF_l1 h h' J i nb hJ hna hnb hsame nb 0 acc (by omega) (by omega)
   refine⟨r,⟨by omega,q2,?_⟩,?_,?_⟩
   · rw[show L - (i:Int)=J by omega]
     have e:upB p (markOf p T D) J=upB p (markOf p T' D') J:=by unfold upB;rw[hsame]
     rw[e]
     simpa using q3
   · refine Ev.up ?_
     simp only[spec_l10Way.l0,if_neg (show ¬L - (i:Int)>J by omega)]
     rw[wid (n:=J+1) (by omega) (by omega)]
     simpa using r1
   · rw[show ((1+i:Nat):Int)=((i+1+0:Nat):Int) by omega];exact r2
  |succ d ih=>
   intro i acc hi ha
   obtain⟨r,⟨q1,q2,q3⟩,r1,r2⟩:=ih (i+1) (acc++[117]) (by omega) (by simp;omega)
   rw[List.append_assoc,List.singleton_append] at r1 r2
   refine⟨117::r,⟨by rw[List.length_cons,q1];omega,fun c hc=>?_,?_⟩,?_,?_⟩
   · rcases List.mem_cons.1 hc with rfl|hc
     · rfl
     · exact q2 c hc
   · have e:=let_up (X:=markOf p T D) (n:=L - ((i+1:Nat):Int)) (ball_parts h).1 (by omega)
     rw[show L - ((i+1:Nat):Int)+1=L - (i:Int) by omega] at e
     rw[fol_cons e];exact q3
   · refine Ev.up ?_
     simp only[spec_l10Way.l0,if_pos (show L - (i:Int)>J by omega),if_pos (show acc.length<140737488355328 by omega)]
     rw[wid (n:=L - (i:Int) - 1) (by omega) (by omega),show L - (i:Int) - 1=L - ((i+1:Nat):Int) by omega]
     exact r1
   · refine Ev.up ?_
     simp only[impl_wayWord.l0]
     rw[wid (n:=((1+i:Nat):Int) - 1) (by omega) (by omega),wid (n:=((1+i:Nat):Int)+1) (by omega) (by omega),show ((1+i:Nat):Int) - 1=(i:Int) by omega]
     simp only[wayAt_rd _ _ _ _ _ _ _ (show 1+i<na+1+nb by omega),wayAt_rd _ _ _ _ _ _ _ (show i<na+1+nb by omega)]
     simp only[List.length_map,List.length_range,if_pos (show ((1+i:Nat):Int)<((na+1+nb:Nat):Int) by omega),if_pos (show (0:Int)≤(i:Int) by omega),if_pos (show (i:Int)<((na+1+nb:Nat):Int) by omega),if_pos (show (0:Int)≤((1+i:Nat):Int) by omega)]
     have e1: (wayAt p (markOf p T D) (markOf p T' D') J na i).f0=J+na - i:=by
        unfold wayAt;rw[if_pos (by omega)];rfl
     have e2: (wayAt p (markOf p T D) (markOf p T' D') J na (1+i)).f0=J+na - i - 1:=by
        unfold wayAt
        by_cases hlt:1+i<na
        · rw[if_pos hlt];show J+(na:Int) - ((1+i:Nat):Int)=_;omega
        · rw[if_neg hlt];show J+((1+i - na:Nat):Int)=_;omega
     refine Ev.bind (a:=117) ?_ ?_
     · unfold impl_letterTo.f
       rw[e1,e2]
       simp only[if_pos (show J+(na:Int) - (i:Int) - 1<J+(na:Int) - (i:Int) by omega)]
       exact Ev.now _
     · simp only[if_pos (show acc.length<140737488355328 by omega)]
       rw[show ((1+i:Nat):Int)+1=((1+(i+1):Nat):Int) by omega]
       exact r2
end
theorem wayF_ev {p L T D L' T' D':Int} (h:ballB p L T D=true) (h':ballB p L' T' D'=true):∃ds:List Int,((ds.length:Int)=L+L' - 2*jnW p L L' (markOf p T D) (markOf p T' D')∧(∀c∈ds,stepB p c=true)∧folL p ds ⟨L,T,D⟩=some ⟨L',T',D'⟩)∧Ev (fun k=>spec_l10Way.f k p L T D L' T' D') (strOfNums ds,true)∧Ev (fun k=>impl_wayWord.f k p L T D L' T' D') (strOfNums ds):=by
  have hb:=jnW_bd h h'
  have hs:=jnW_same h h'
  have hj1:=spec_l02Join_ev h h'
  have hj2:=impl_joinLevel_ev h h'
  generalize jnW p L L' (markOf p T D) (markOf p T' D')=J at hb hs hj1 hj2
  obtain⟨na,hna⟩:∃na:Nat,L=J+na:=⟨(L - J).toNat,by omega⟩
  obtain⟨nb,hnb⟩:∃nb:Nat,L'=J+nb:=⟨(L' - J).toNat,by omega⟩
  obtain⟨r,⟨q1,q2,q3⟩,r1,r2⟩:=wayF_l0 h h' J na nb hb.1 hna hnb hs na 0 [] (by omega) (by simp)
  rw[List.nil_append] at r1 r2
  refine⟨r,⟨by omega,q2,?_⟩,?_,?_⟩
  · rw[←upB_self h];simpa using q3
  · unfold spec_l10Way.f
    refine Ev.bind hj1 ?_
    simpa using r1
  · unfold impl_wayWord.f impl_geodesic.f
    refine Ev.bind (a:=(List.range (na+1+nb)).map (wayAt p (markOf p T D) (markOf p T' D') J na)) ?_ ?_
    · refine Ev.bind hj2 ?_
      have:=geo_l0 h h' J na nb hb.1 hna hnb hs (na+1) 0 (by omega)
      simpa using this
    · simpa using r2
def m4 (x:S28):M4:=⟨x.f0.f0,x.f0.f1,x.f1.f0,x.f1.f1⟩
theorem impl_areMatrices_ev (l:List S28) (hl:l.length≤4611686018427387904):Ev (fun k=>impl_areMatrices.f k l) (l.all (fun x=>(m4 x).ok)):=by
  unfold impl_areMatrices.f
  have hr:∀(i:Nat) (k:Nat),i<l.length→impl_areMatrices.l0 (k+1) l l.length i=(impl_IsMatrix.f k (l.getD i z28).f0.f0 (l.getD i z28).f0.f1 (l.getD i z28).f1.f0 (l.getD i z28).f1.f1).bind fun t=>if t=true then impl_areMatrices.l0 k l l.length ((i:Int)+1) else some false:=by
    intro i k hi
    simp only[impl_areMatrices.l0]
    rw[if_pos (by omega),if_pos (by omega),if_pos (by omega),wid (by omega) (by omega)];rfl
  have:=all_ev' (fun k i=>impl_areMatrices.l0 k l l.length i) l.length (fun i=>(m4 (l.getD i z28)).ok) true false (by
    intro i r hi hb hr'
    refine Ev.step (hr i · hi) (Ev.bind (impl_IsMatrix_ev _ _ _ _) ?_)
    have hb':matB (l.getD i z28).f0.f0 (l.getD i z28).f0.f1 (l.getD i z28).f1.f0 (l.getD i z28).f1.f1=true:=hb
    rw[hb'];simpa using hr') (by
    intro i hi hb
    refine Ev.step (hr i · hi) (Ev.bind (impl_IsMatrix_ev _ _ _ _) ?_)
    have hb':matB (l.getD i z28).f0.f0 (l.getD i z28).f0.f1 (l.getD i z28).f1.f0 (l.getD i z28).f1.f1=false:=hb
    rw[hb'];simp;exact Ev.now _) (Ev.step (f:=fun _=>some true) (fun k=>by simp only[impl_areMatrices.l0];rw[if_neg (by omega)]) (Ev.now _))
  rw[all_range_getD l z28 (fun x=>(m4 x).ok),ite_tf] at this
  exact this
theorem spec_l04Code_ev (p a b c d:Int) (l:List S42) (hl:l.length≤4611686018427387904):Ev (fun k=>spec_l04Code.f k p a b c d l) (if codeB p l&&matB a b c d then 0 else 1):=by
  unfold spec_l04Code.f
  refine Ev.bind (spec_l01Code_ev p l hl) ?_
  cases codeB p l with
  |false=>simp;exact Ev.now _
  |true=>
   simp only[if_true,Bool.true_and]
   refine Ev.bind (spec_l04Is_ev a b c d) ?_
   cases matB a b c d<;>(simp;exact Ev.now _)
theorem codeB_nil (p:Int):codeB p ([]:List S42)=primeB p:=by simp[codeB]
theorem impl_partCode_ev (p a b c d:Int):Ev (fun k=>impl_partCode.f k p a b c d) (if primeB p&&matB a b c d then 0 else 1):=by
  unfold impl_partCode.f
  refine Ev.bindv (impl_isPrime_eq p) ?_
  cases primeB p with
  |false=>simp;exact Ev.now _
  |true=>
   simp only[if_true,Bool.true_and]
   refine Ev.bind (impl_IsMatrix_ev a b c d) ?_
   cases matB a b c d<;>(simp;exact Ev.now _)
theorem M4.bd62s {g:M4} (h:g.ok=true):bd62 g.a∧bd62 g.b∧bd62 g.c∧bd62 g.d:=by
  obtain⟨g1,g2,g3,g4⟩:=M4.fit_bd (M4.ok_fit h)
  unfold bd62;omega
theorem M4.det_bds {g:M4} (h:g.fit=true): -2000000≤g.det∧g.det≤2000000:=by
  obtain⟨g1,g2,g3,g4⟩:=M4.fit_bd h
  have:=det_bd (m:=1000) (by omega) g1 g2 g3 g4
  unfold M4.det;omega
theorem spec_l10Position_ev {p:Int} {g:M4} (hp:primeB p=true) (h:g.ok=true):Ev (fun k=>spec_l10Position.f k p g.a g.b g.c g.d) (val p g.red.det:Int):=by
  obtain⟨b1,b2,b3,b4⟩:=M4.bd62s h
  have hr:=M4.red_ok h
  obtain⟨r1,r2,r3,r4⟩:=M4.fit_bd (M4.ok_fit hr)
  have hd:=M4.det_bds (M4.ok_fit hr)
  unfold spec_l10Position.f
  refine Ev.bind (spec_l04Reduce_ev b1 b2 b3 b4 (M4.row_ne (M4.ok_det h))) ?_
  refine Ev.bindv (spec_l04Det_eq (m:=1000) (by omega) (by omega) r1 r2 r3 r4) ?_
  exact Ev.bind (spec_l01Val_ev (n:=g.red.det) (prime_lo hp) (M4.ok_det hr) (by omega) (by omega)) (Ev.now _)
theorem adj_ok3 {g:M4} (h:g.ok=true):g.adj.ok=true:=by
  rw[M4.ok_of (by rw[M4.adj_det];exact M4.ok_det h)]
  obtain⟨h1,h2,h3,h4⟩:=M4.fit_bd (M4.ok_fit h)
  unfold M4.fit M4.adj
  simp only[ent_of h1,ent_of h4,ent_of (show -1000≤ -g.b∧ -g.b≤1000 by omega),ent_of (show -1000≤ -g.c∧ -g.c≤1000 by omega),Bool.and_self]
theorem isUnit_both (p a b c d:Int):Ev (fun k=>spec_IsUnitMatrix.f k p a b c d) (if primeB p&&matB a b c d then((val p (M4.mk a b c d).red.det:Int)==0,0) else(false,1))∧Ev (fun k=>impl_IsUnitMatrix.f k p a b c d) (if primeB p&&matB a b c d then((val p (M4.mk a b c d).red.det:Int)==0,0) else(false,1)):=by
  have hs:Ev (fun k=>spec_IsUnitMatrix.f k p a b c d) (if primeB p&&matB a b c d then((val p (M4.mk a b c d).red.det:Int)==0,0) else(false,1)):=by
    unfold spec_IsUnitMatrix.f
    refine Ev.bind (spec_l04Code_ev p a b c d [] (by simp)) ?_
    rw[codeB_nil]
    cases h: (primeB p&&matB a b c d) with
    |false=>simp;exact Ev.now _
    |true=>
     rw[Bool.and_eq_true] at h
     simp only[if_true]
     exact Ev.bind (spec_l10Position_ev (g:=M4.mk a b c d) h.1 h.2) (Ev.now _)
  have hi:Ev (fun k=>impl_IsUnitMatrix.f k p a b c d) (if primeB p&&matB a b c d then((val p (M4.mk a b c d).red.det:Int)==0,0) else(false,1)):=by
    unfold impl_IsUnitMatrix.f
    refine Ev.bind (impl_partCode_ev p a b c d) ?_
    cases h: (primeB p&&matB a b c d) with
    |false=>simp;exact Ev.now _
    |true=>
     rw[Bool.and_eq_true] at h
     simp only[if_true]
     have hg: (M4.mk a b c d).ok=true:=h.2
     obtain⟨b1,b2,b3,b4⟩:=M4.bd62s hg
     have hr:=M4.red_ok hg
     obtain⟨r1,r2,r3,r4⟩:=M4.fit_bd (M4.ok_fit hr)
     have hp2:=prime_lo h.1
     refine Ev.bind (impl_reduce_ev b1 b2 b3 b4 (M4.row_ne (M4.ok_det hg))) ?_
     refine Ev.bindv (impl_determinant_eq (m:=1000) (by omega) (by omega) r1 r2 r3 r4) ?_
     show Ev (fun _=>if p=0 then none else some (Int.tmod (M4.mk a b c d).red.det p !=0,0)) _
     simp only[if_neg (show ¬p=0 by omega)]
     have hv:=val_dvd hp2 (M4.ok_det hr) 1
     rw[Int.pow_one] at hv
     rw[show (Int.tmod (M4.mk a b c d).red.det p !=0)=((val p (M4.mk a b c d).red.det:Int)==0) from by
        rw[Bool.eq_iff_iff,bne_iff_ne,beq_iff_eq]
        constructor
        · intro h1
          have:¬p∣(M4.mk a b c d).red.det:=fun h2=>h1 (Int.tmod_eq_zero_of_dvd h2)
          rw[hv] at this;omega
        · intro h1 h2
          have:=hv.1 (Int.dvd_of_tmod_eq_zero h2)
          omega]
     exact Ev.now _
  exact⟨hs,hi⟩
theorem pos_both (p a b c d:Int):Ev (fun k=>spec_MatrixPosition.f k p a b c d) (if primeB p&&matB a b c d then((val p (M4.mk a b c d).red.det:Int),0) else(0,1))∧Ev (fun k=>impl_MatrixPosition.f k p a b c d) (if primeB p&&matB a b c d then((val p (M4.mk a b c d).red.det:Int),0) else(0,1)):=by
  have hs:Ev (fun k=>spec_MatrixPosition.f k p a b c d) (if primeB p&&matB a b c d then((val p (M4.mk a b c d).red.det:Int),0) else(0,1)):=by
    unfold spec_MatrixPosition.f
    refine Ev.bind (spec_l04Code_ev p a b c d [] (by simp)) ?_
    rw[codeB_nil]
    cases h: (primeB p&&matB a b c d) with
    |false=>simp;exact Ev.now _
    |true=>
     rw[Bool.and_eq_true] at h
     simp only[if_true]
     exact Ev.bind (spec_l10Position_ev (g:=M4.mk a b c d) h.1 h.2) (Ev.now _)
  have hi:Ev (fun k=>impl_MatrixPosition.f k p a b c d) (if primeB p&&matB a b c d then((val p (M4.mk a b c d).red.det:Int),0) else(0,1)):=by
    unfold impl_MatrixPosition.f
    refine Ev.bind (impl_partCode_ev p a b c d) ?_
    cases h: (primeB p&&matB a b c d) with
    |false=>simp;exact Ev.now _
    |true=>
     rw[Bool.and_eq_true] at h
     simp only[if_true]
     have hg: (M4.mk a b c d).ok=true:=h.2
     obtain⟨b1,b2,b3,b4⟩:=M4.bd62s hg
     have hr:=M4.red_ok hg
     obtain⟨r1,r2,r3,r4⟩:=M4.fit_bd (M4.ok_fit hr)
     have hd:=M4.det_bds (M4.ok_fit hr)
     have hp2:=prime_lo h.1
     refine Ev.bind (impl_reduce_ev b1 b2 b3 b4 (M4.row_ne (M4.ok_det hg))) ?_
     refine Ev.bindv (impl_determinant_eq (m:=1000) (by omega) (by omega) r1 r2 r3 r4) ?_
     have:=impl_valuation_ev hp2 (n:=(M4.mk a b c d).red.det) (by omega) (by omega)
     unfold valW at this
     rw[if_neg (M4.ok_det hr)] at this
     exact Ev.bind this (Ev.now _)
  exact⟨hs,hi⟩
theorem whole_join {p L T D:Int} {m:Nat} (hb:ballB p L T D=true) (hm:mx D (-L)=m):jnW p 0 L (markOf p 0 0) (markOf p T D)= -(m:Int):=by
  obtain⟨hp,hL,hD,_,_⟩:=ball_parts hb
  have hp2:=prime_lo hp
  have hun:=ball_unit hb
  rw[mx_max2] at hm
  unfold jnW
  rw[mn_min,mn_min,show markOf p 0 0=0 from Int.zero_mul _,Int.zero_sub]
  unfold valW
  by_cases hT:T=0
  · have hD0:D=0:=by
      rcases hun with h|h
      · exact h
      · exact absurd (by rw[hT];exact Int.dvd_zero _) h
    rw[if_pos (by unfold markOf;rw[hT];omega)]
    omega
  · have hM:markOf p T D=p^(6 - D).toNat*T:=Int.mul_comm _ _
    have h0:markOf p T D≠0:=by rw[hM];exact Int.mul_ne_zero (Int.pow_ne_zero (by omega)) hT
    rw[if_neg (by omega),val_neg hp2 h0,hM,val_pow_mul _ hp2 hT]
    by_cases hD0:D=0
    · subst hD0;omega
    · have hnd:¬p∣T:=hun.resolve_left hD0
      have:val p T=0:=by
        by_cases h1:1≤val p T
        · exact absurd (by have:=(val_dvd hp2 hT 1).2 h1;rwa [Int.pow_one] at this) hnd
        · omega
      omega
theorem moveB_ev {p a b c d:Int} {r:Int×Int×Int×Bool} (h: (primeB p&&matB a b c d)=true) (i:Ev (fun k=>impl_moveBall.f k p a b c d 0 0 0) r):
    Ev (fun k=>impl_MoveBall.f k p a b c d 0 0 0) (if r.2.2.2=true then(r.1,r.2.1,r.2.2.1,0) else(0,0,0,3)):=by
  rw[Bool.and_eq_true] at h
  unfold impl_MoveBall.f
  have ib:=impl_IsBall_ev p 0 0 0
  have im:=impl_IsMatrix_ev a b c d
  rw[ball_whole h.1] at ib
  rw[h.2] at im
  refine Ev.bind ib ?_
  simp only[if_true]
  refine Ev.bind im (Ev.up ?_)
  simp only[impl_MoveBall.j0,Bool.not_true,Bool.false_eq_true,if_false]
  refine Ev.bind i ?_
  unfold impl_fitted.f
  cases hr:r.2.2.2<;>simp<;>exact Ev.now _
theorem moveB_bad {p a b c d:Int} (h: (primeB p&&matB a b c d)=false):Ev (fun k=>impl_MoveBall.f k p a b c d 0 0 0) (0,0,0,1):=by
  unfold impl_MoveBall.f
  have ib:=impl_IsBall_ev p 0 0 0
  have im:=impl_IsMatrix_ev a b c d
  rw[show ballB p 0 0 0=primeB p by simp[ballB]] at ib
  refine Ev.bind ib ?_
  cases hp:primeB p with
  |false=>
   simp only[Bool.false_eq_true,if_false]
   refine Ev.up ?_
   simp only[impl_MoveBall.j0,if_true];exact Ev.now _
  |true=>
   rw[hp,Bool.true_and] at h
   rw[h] at im
   simp only[if_true]
   refine Ev.bind im (Ev.up ?_)
   simp only[impl_MoveBall.j0,Bool.not_false,if_true];exact Ev.now _
theorem disp_ev {p a b c d L T D:Int} (h: (primeB p&&matB a b c d)=true) (hb:ballB p L T D=true) {m:Nat} (hm:mx D (-L)=m) (i:Ev (fun k=>impl_moveBall.f k p a b c d 0 0 0) (L,T,D,true)):
    Ev (fun k=>impl_DisplacementOf.f k p a b c d 0 0 0) (L+2*(m:Int),0):=by
  have h':=h
  rw[Bool.and_eq_true] at h'
  have hw:=ball_whole h'.1
  unfold impl_DisplacementOf.f
  refine Ev.bind (moveB_ev h i) ?_
  simp only[if_true]
  unfold impl_distance.f
  have hj:=impl_joinLevel_ev hw hb
  rw[whole_join hb hm] at hj
  obtain⟨_,hL,hD,_⟩:=ball_parts hb
  rw[mx_max2] at hm
  refine Ev.bind (a:=L+2*(m:Int)) ?_ (Ev.now _)
  refine Ev.bind hj ?_
  rw[wid (n:=0+L) (by omega) (by omega),wid (n:=2* -(m:Int)) (by omega) (by omega),wid (by omega) (by omega),show 0+L - 2* -(m:Int)=L+2*(m:Int) by omega]
  exact Ev.now _
theorem triang_form {p a b c d L T D:Int} {t:Nat} (hp:primeB p=true) (i1:Ev (fun k=>impl_moveBall.f k p a b c d 0 0 0) (L,T,D,true)) (hball:ballB p L T D=true) (ht:mx D (-L)=t):
    Ev (fun k=>impl_triangular.f k p a b c d) ((M4.mk (p^(L+t).toNat) (T*p^((t:Int) - D).toNat) 0 (p^t)).red.a,(M4.mk (p^(L+t).toNat) (T*p^((t:Int) - D).toNat) 0 (p^t)).red.b,(M4.mk (p^(L+t).toNat) (T*p^((t:Int) - D).toNat) 0 (p^t)).red.c,(M4.mk (p^(L+t).toNat) (T*p^((t:Int) - D).toNat) 0 (p^t)).red.d,(M4.mk (p^(L+t).toNat) (T*p^((t:Int) - D).toNat) 0 (p^t)).red.ok):=by
  have hp2:=prime_lo hp
  obtain⟨_,hL,hD,_,_⟩:=ball_parts hball
  have hT:=ball_num hball
  have hX:=mark_lt hball
  have hX2:=pow_13 hp (L+6).toNat (by omega)
  have ht2: (t:Int)=if D< -L then -L else D:=by rw[←ht,mx_eq']
  have t6:t≤6∧D≤t∧0≤L+t:=by split at ht2<;>omega
  have hti:mx (mx 0 (-L)) D=(t:Int):=by rw[ht2,mx_eq',mx_eq'];split<;>split<;>split<;>omega
  have pt:=pow_6 hp t (by omega)
  have pt0:=ipow_pos (p:=p) (by omega) t
  have pL:=pow_13 hp (L+t).toNat (by omega)
  have pL0:=ipow_pos (p:=p) (by omega) (L+t).toNat
  have sc0:=ipow_pos (p:=p) (by omega) (6 - t)
  have pd0:=ipow_pos (p:=p) (by omega) ((t:Int) - D).toNat
  have eX:markOf p T D=p^(6 - t)*(T*p^((t:Int) - D).toNat):=by
    unfold markOf
    rw[show (6 - D).toNat=(6 - t)+((t:Int) - D).toNat from by omega,Int.pow_add];grind
  obtain⟨Y,hY⟩:∃Y,Y=T*p^((t:Int) - D).toNat:=⟨_,rfl⟩
  have hY0:0≤Y:=by rw[hY];exact Int.mul_nonneg hT.1 (by omega)
  rw[←hY] at eX
  have hY1:Y≤markOf p T D:=by
    rw[eX]
    have:=Int.mul_le_mul_of_nonneg_right sc0 hY0
    omega
  have hd0:p^(L+t).toNat*p^t - Y*0≠0:=by
    rw[Int.mul_zero,Int.sub_zero];exact Int.mul_ne_zero (by omega) (by omega)
  have i2:=impl_reduced_ev (a:=p^(L+t).toNat) (b:=Y) (c:=0) (d:=p^t) (by unfold bd62;omega) (by unfold bd62;omega) (by unfold bd62;omega) (by unfold bd62;omega) (.inl (by omega))
  unfold impl_triangular.f
  refine Ev.bind i1 ?_
  simp only[if_true]
  rw[wid (n:= -L) (by omega) (by omega),hti,wid (n:=L+(t:Int)) (by omega) (by omega),wid (n:=(t:Int) - D) (by omega) (by omega)]
  refine Ev.bind (impl_power_ev p (L+t) (by omega)) (Ev.bind (impl_power_ev p ((t:Int) - D) (by omega)) (Ev.bind (impl_power_ev p t (by omega)) ?_))
  rw[powW_prime hp _ (by omega),Int.toNat_natCast,powW_prime hp t (by omega),powW_prime hp _ (by omega),←hY,wid (n:=Y) (by omega) (by omega)]
  exact Ev.bind i2 (Ev.now _)
theorem parts_both (p a b c d:Int):∃(tr un:Int×Int×Int×Int×Int) (st:ByteArray×Int) (di:Int×Int),
    (Ev (fun k=>spec_TriangularPart.f k p a b c d) tr∧Ev (fun k=>impl_TriangularPart.f k p a b c d) tr)∧
    (Ev (fun k=>spec_UnitPart.f k p a b c d) un∧Ev (fun k=>impl_UnitPart.f k p a b c d) un)∧
    (Ev (fun k=>spec_StepsOfMatrix.f k p a b c d) st∧Ev (fun k=>impl_StepsOfMatrix.f k p a b c d) st)∧
    Ev (fun k=>impl_DisplacementOf.f k p a b c d 0 0 0) di∧
    ((primeB p&&matB a b c d)=true→di.2=0→di.1=(val p (M4.mk a b c d).red.det:Int))∧
    (st.2=0→(primeB p&&matB a b c d)=true∧(st.1.size:Int)=(val p (M4.mk a b c d).red.det:Int))∧
    (un.2.2.2.2≠0→un.1=0∧un.2.1=0∧un.2.2.1=0∧un.2.2.2.1=0)∧
    (un.2.2.2.2=0→(primeB p&&matB a b c d)=true∧tr.2.2.2.2=0∧matB un.1 un.2.1 un.2.2.1 un.2.2.2.1=true∧val p (M4.mk un.1 un.2.1 un.2.2.1 un.2.2.2.1).red.det=0∧
      matB tr.1 tr.2.1 tr.2.2.1 tr.2.2.2.1=true∧((M4.mk tr.1 tr.2.1 tr.2.2.1 tr.2.2.2.1).mul (M4.mk un.1 un.2.1 un.2.2.1 un.2.2.2.1)).red=(M4.mk a b c d).red):=by
  have sc:=spec_l04Code_ev p a b c d [] (by simp)
  have ic:=impl_partCode_ev p a b c d
  rw[codeB_nil] at sc
  cases h: (primeB p&&matB a b c d) with
  |false=>
   rw[h] at sc ic
   refine⟨(0,0,0,0,1),(0,0,0,0,1),(⟨#[]⟩,1),(0,1),⟨?_,?_⟩,⟨?_,?_⟩,⟨?_,?_⟩,?_,fun h=>(by cases h),fun h=>(by cases h),fun _=>⟨rfl,rfl,rfl,rfl⟩,fun h=>by cases h⟩
   · unfold spec_TriangularPart.f;refine Ev.bind sc ?_;simp;exact Ev.now _
   · unfold impl_TriangularPart.f;refine Ev.bind ic ?_;simp;exact Ev.now _
   · unfold spec_UnitPart.f;refine Ev.bind sc ?_;simp;exact Ev.now _
   · unfold impl_UnitPart.f;refine Ev.bind ic ?_;simp;exact Ev.now _
   · unfold spec_StepsOfMatrix.f;refine Ev.bind sc ?_;simp;exact Ev.now _
   · unfold impl_StepsOfMatrix.f;refine Ev.bind ic ?_;simp;exact Ev.now _
   · unfold impl_DisplacementOf.f
     refine Ev.bind (moveB_bad h) ?_
     simp only[if_neg (show ¬(1:Int)=0 by decide)]
     exact Ev.now _
  |true=>
   rw[h] at sc ic
   have hpg:=h
   rw[Bool.and_eq_true] at hpg
   obtain⟨hp,hg⟩:=hpg
   have hp2:=prime_lo hp
   have hok: (M4.mk a b c d).ok=true:=hg
   have hdet:=M4.ok_det hok
   obtain⟨⟨L,T,D,okb⟩,i1,hm⟩:=whole_parts (g:=M4.mk a b c d) hp hok
   obtain⟨rb,r,⟨i1',s1,hb'⟩,i2,s2,hok2⟩:=triang_both hp hg
   have er:=Ev.det i1' i1
   subst er
   simp only at hm hb' hok2 i1 s1
   cases okb with
   |false=>
    obtain⟨r1,r2,r3,r4,r5⟩:=r
    cases r5 with
    |true=>exact absurd (hok2 rfl).2 (by simp)
    |false=>
    have di:Ev (fun k=>impl_DisplacementOf.f k p a b c d 0 0 0) (0,3):=by
        unfold impl_DisplacementOf.f
        refine Ev.bind (moveB_ev h i1) ?_
        simp only[Bool.false_eq_true,if_false,if_neg (show ¬(3:Int)=0 by decide)]
        exact Ev.now _
    refine⟨(0,0,0,0,3),(0,0,0,0,3),(⟨#[]⟩,3),(0,3),⟨?_,?_⟩,⟨?_,?_⟩,⟨?_,?_⟩,di,fun _ h=>(by cases h),fun h=>(by cases h),fun _=>⟨rfl,rfl,rfl,rfl⟩,fun h=>by cases h⟩
    · unfold spec_TriangularPart.f;refine Ev.bind sc ?_;simp only[if_true];refine Ev.bind s2 ?_;simp;exact Ev.now _
    · unfold impl_TriangularPart.f;refine Ev.bind ic ?_;simp only[if_true];refine Ev.bind i2 ?_;unfold impl_fittedMatrix.f;simp;exact Ev.now _
    · unfold spec_UnitPart.f;refine Ev.bind sc ?_;simp only[if_true];refine Ev.bind s2 ?_;simp only[Bool.false_eq_true,if_false];exact Ev.now _
    · unfold impl_UnitPart.f;refine Ev.bind ic ?_;simp only[if_true];refine Ev.bind i2 ?_;simp only[Bool.false_eq_true,if_false];exact Ev.now _
    · unfold spec_StepsOfMatrix.f;refine Ev.bind sc ?_;simp only[if_true];refine Ev.bind s1 (Ev.bind s2 ?_)
      simp only[Bool.false_eq_true,if_false]
      refine Ev.up ?_
      simp only[spec_StepsOfMatrix.j0,if_true];exact Ev.now _
    · unfold impl_StepsOfMatrix.f;refine Ev.bind ic ?_;simp only[if_true];refine Ev.bind i2 ?_;simp only[Bool.false_eq_true,if_false];exact Ev.now _
   |true=>
   obtain⟨hball,m,hL,hmn,hmx,U,hU⟩:=hm rfl
   have i2':=triang_form hp i1 hball hmx
   rw[show (L+(m:Int)).toNat=val p (M4.mk a b c d).red.det - m by omega] at i2'
   have er2:=Ev.det i2 i2'
   subst er2
   simp only at hok2
   clear i2'
   obtain⟨Tm,hTm⟩:∃Tm,Tm=M4.mk (p^(val p (M4.mk a b c d).red.det - m)) (T*p^((m:Int) - D).toNat) 0 (p^m):=⟨_,rfl⟩
   rw[←hTm] at i2 s2 hU hok2
   have hTd:Tm.det=p^val p (M4.mk a b c d).red.det:=by
      rw[hTm]
      show p^(val p (M4.mk a b c d).red.det - m)*p^m - _*0=_
      rw[Int.mul_zero,Int.sub_zero,←Int.pow_add];congr 1;omega
   have hTd0:Tm.det≠0:=by rw[hTd];exact Int.pow_ne_zero (by omega)
   have hrd:=M4.red_det hdet
   have hUd:p^val p (M4.mk a b c d).red.det*(M4.mk a b c d).red.det=p^val p (M4.mk a b c d).red.det*(p^val p (M4.mk a b c d).red.det*U.det):=by
      have:=congrArg M4.det hU
      rw[M4.det_mul,M4.adj_det,hTd] at this
      rw[this]
      show _*U.a*(_*U.d) - _*U.b*(_*U.c)=_*(_*(U.a*U.d - U.b*U.c))
      grind
   have hUd2:=Int.eq_of_mul_eq_mul_left (Int.pow_ne_zero (by omega)) hUd
   have hU0:U.det≠0:=fun e=>hrd (by rw[hUd2,e,Int.mul_zero])
   have hUv:val p U.det=0:=by
      have:=congrArg (val p) hUd2
      rw[val_pow_mul _ hp2 hU0] at this
      omega
   have hUr:=M4.red_det hU0
   have hUrv:val p U.red.det=0:=by
      have hs:=M4.smul_red U
      have hby:=M4.by_ne hU0
      have e:U.det=U.by_*U.by_*U.red.det:=by
        conv=>lhs;rw[←hs]
        show _*U.red.a*(_*U.red.d) - _*U.red.b*(_*U.red.c)=_*(U.red.a*U.red.d - U.red.b*U.red.c)
        grind
      rw[e,(val_mul hp (Int.mul_ne_zero hby hby) hUr).1] at hUv
      omega
   have hx: (Tm.red.adj.red.mul (M4.mk a b c d)).red=U.red:=by
      rw[M4.red_adj_red hTd0,M4.red_mul_left (by rw[M4.adj_det];exact hTd0) hdet,←M4.red_mul_red (by rw[M4.adj_det];exact hTd0) hdet,hU]
      exact M4.red_smul (Int.pow_ne_zero (by omega)) hU0
   have hpr: (Tm.red.mul U.red).red=(M4.mk a b c d).red:=by
      rw[M4.red_mul_left hTd0 hUr,M4.red_mul_red hTd0 hU0]
      have e: (Tm.mul U).smul (p^val p (M4.mk a b c d).red.det)=(M4.mk a b c d).red.smul (p^val p (M4.mk a b c d).red.det):=by
        rw[←M4.mul_smul,←hU,←M4.mul_assoc,M4.mul_adj,M4.smul_mul,M4.one_mul,hTd]
      have e2:=congrArg M4.red e
      rw[M4.red_smul (Int.pow_ne_zero (by omega)) (by rw[M4.det_mul];exact Int.mul_ne_zero hTd0 hU0),M4.red_smul (Int.pow_ne_zero (by omega)) hrd,M4.red_red hdet] at e2
      exact e2
   have di:=disp_ev h hball hmx i1
   have hdi:true=true→(0:Int)=0→L+2*(m:Int)=(val p (M4.mk a b c d).red.det:Int):=fun _ _=>by omega
   cases hto:Tm.red.ok with
   |false=>
    rw[hto] at i2 s2
    refine⟨(0,0,0,0,3),(0,0,0,0,3),(⟨#[]⟩,3),_,⟨?_,?_⟩,⟨?_,?_⟩,⟨?_,?_⟩,di,hdi,fun h=>(by cases h),fun _=>⟨rfl,rfl,rfl,rfl⟩,fun h=>by cases h⟩
    · unfold spec_TriangularPart.f;refine Ev.bind sc ?_;simp only[if_true];refine Ev.bind s2 ?_;simp;exact Ev.now _
    · unfold impl_TriangularPart.f;refine Ev.bind ic ?_;simp only[if_true];refine Ev.bind i2 ?_;unfold impl_fittedMatrix.f;simp;exact Ev.now _
    · unfold spec_UnitPart.f;refine Ev.bind sc ?_;simp only[if_true];refine Ev.bind s2 ?_;simp only[Bool.false_eq_true,if_false];exact Ev.now _
    · unfold impl_UnitPart.f;refine Ev.bind ic ?_;simp only[if_true];refine Ev.bind i2 ?_;simp only[Bool.false_eq_true,if_false];exact Ev.now _
    · unfold spec_StepsOfMatrix.f;refine Ev.bind sc ?_;simp only[if_true];refine Ev.bind s1 (Ev.bind s2 ?_)
      simp only[Bool.not_false,if_true]
      refine Ev.up ?_
      simp only[spec_StepsOfMatrix.j0,if_true];exact Ev.now _
    · unfold impl_StepsOfMatrix.f;refine Ev.bind ic ?_;simp only[if_true];refine Ev.bind i2 ?_;simp only[Bool.false_eq_true,if_false];exact Ev.now _
   |true=>
    rw[hto] at i2 s2
    obtain⟨ds,⟨d1,d2,d3⟩,w1,w2⟩:=wayF_ev (ball_whole hp) hball
    rw[whole_join hball hmx] at d1
    have hsz: ((strOfNums ds).size:Int)=(val p (M4.mk a b c d).red.det:Int):=by rw[strOfNums_size];omega
    have i3:=impl_inverted_ev hto
    have s3:=spec_l04Inverse_ev hto
    have hr:=M4.red_ok (adj_ok3 hto)
    have i4:=impl_product_ev hr hok
    have s4:=spec_l04Times_ev hr hok
    rw[hx] at i4 s4
    have st1:Ev (fun k=>spec_StepsOfMatrix.f k p a b c d) (strOfNums ds,0):=by
        unfold spec_StepsOfMatrix.f
        refine Ev.bind sc ?_
        simp only[if_true]
        refine Ev.bind s1 (Ev.bind s2 ?_)
        simp only[if_true,Bool.not_true]
        refine Ev.up ?_
        simp only[spec_StepsOfMatrix.j0,Bool.false_eq_true,if_false]
        refine Ev.bind w1 ?_
        simp only[if_true];exact Ev.now _
    have st2:Ev (fun k=>impl_StepsOfMatrix.f k p a b c d) (strOfNums ds,0):=by
        unfold impl_StepsOfMatrix.f
        refine Ev.bind ic ?_
        simp only[if_true]
        refine Ev.bind i2 ?_
        simp only[if_true]
        exact Ev.bind i1 (Ev.bind w2 (Ev.now _))
    have tr1:Ev (fun k=>spec_TriangularPart.f k p a b c d) (Tm.red.a,Tm.red.b,Tm.red.c,Tm.red.d,0):=by
        unfold spec_TriangularPart.f;refine Ev.bind sc ?_;simp only[if_true];refine Ev.bind s2 ?_;simp;exact Ev.now _
    have tr2:Ev (fun k=>impl_TriangularPart.f k p a b c d) (Tm.red.a,Tm.red.b,Tm.red.c,Tm.red.d,0):=by
        unfold impl_TriangularPart.f;refine Ev.bind ic ?_;simp only[if_true];refine Ev.bind i2 ?_;unfold impl_fittedMatrix.f;simp;exact Ev.now _
    refine⟨_,if U.red.ok=true then(U.red.a,U.red.b,U.red.c,U.red.d,0) else(0,0,0,0,3),_,_,⟨tr1,tr2⟩,⟨?_,?_⟩,⟨st1,st2⟩,di,hdi,fun _=>⟨rfl,hsz⟩,fun h=>?_,fun h=>?_⟩
    · unfold spec_UnitPart.f
      refine Ev.bind sc ?_
      simp only[if_true]
      refine Ev.bind s2 ?_
      simp only[if_true]
      refine Ev.bind s3 (Ev.bind s4 ?_)
      cases hxo:U.red.ok<;>simp<;>exact Ev.now _
    · unfold impl_UnitPart.f
      refine Ev.bind ic ?_
      simp only[if_true]
      refine Ev.bind i2 ?_
      simp only[if_true]
      refine Ev.bind i3 (Ev.bind i4 ?_)
      unfold impl_fittedMatrix.f
      cases hxo:U.red.ok<;>simp<;>exact Ev.now _
    · cases hxo:U.red.ok with
      |true=>rw[hxo] at h;exact absurd rfl h
      |false=>exact⟨rfl,rfl,rfl,rfl⟩
    · cases hxo:U.red.ok with
      |false=>rw[hxo] at h;cases h
      |true=>
       simp only[if_true]
       refine⟨trivial,trivial,hxo,?_,hto,?_⟩
       · show val p U.red.red.det=0
         rw[M4.red_red hU0];exact hUrv
       · exact hpr
def letM (p c:Int):M4:=if c=117 then⟨1,0,0,p⟩ else⟨p,c - 48,0,1⟩
def mosW (p:Int) (s:ByteArray):Nat→Nat→M4→Int×Int×Int×Int×Int
  |0,_,A=>(A.a,A.b,A.c,A.d,0)
  |n+1,i,A=>if (A.mul (letM p (bt s (i:Int)))).red.ok then mosW p s n (i+1) (A.mul (letM p (bt s (i:Int)))).red else(0,0,0,0,3)
theorem stepB_bd2 {p:Int} {c:Int} (hp:primeB p=true) (h:stepB p c=true):c=117∨(48≤c∧c - 48<p∧c≤54):=by
  have:=prime_hi hp
  unfold stepB at h
  rw[Bool.or_eq_true,beq_iff_eq,decide_eq_true_eq] at h
  omega
theorem letM_ok {p c:Int} (hp:primeB p=true) (h:stepB p c=true): (letM p c).ok=true:=by
  have h2:=prime_lo hp
  have h7:=prime_hi hp
  have hc:=stepB_bd2 hp h
  have hd: (letM p c).det≠0:=by
    unfold letM M4.det
    split<;>simp<;>omega
  rw[M4.ok_of hd]
  unfold letM M4.fit
  split
  · simp only[ent_of (show -1000≤(1:Int)∧(1:Int)≤1000 by omega),ent_of (show -1000≤(0:Int)∧(0:Int)≤1000 by omega),ent_of (show -1000≤p∧p≤1000 by omega),Bool.and_self]
  · simp only[ent_of (show -1000≤(1:Int)∧(1:Int)≤1000 by omega),ent_of (show -1000≤(0:Int)∧(0:Int)≤1000 by omega),ent_of (show -1000≤p∧p≤1000 by omega),ent_of (show -1000≤c - 48∧c - 48≤1000 by omega),Bool.and_self]
theorem impl_mos_l {p:Int} (s:ByteArray) (hp:primeB p=true) (hs:s.size≤40) (hst:∀i,i<s.size→stepB p (bt s (i:Int))=true) (n:Nat):∀(i:Nat) (A:M4),i+n=s.size→A.ok=true→Ev (fun k=>impl_MatrixOfSteps.l0 k p s s.size i A.a A.b A.c A.d) (mosW p s n i A):=by
  induction n with
  |zero=>
   intro i A hi hA
   exact Ev.step (f:=fun _=>some (A.a,A.b,A.c,A.d,0)) (fun k=>by simp only[impl_MatrixOfSteps.l0];rw[if_neg (by omega)]) (Ev.now _)
  |succ n ih=>
   intro i A hi hA
   have hst':=hst i (by omega)
   have hc:=stepB_bd2 hp hst'
   have hL:=letM_ok hp hst'
   have hw:wrap64 ((i:Int)+1)=((i+1:Nat):Int):=by rw[wid (by omega) (by omega)];rfl
   have hpr:=impl_product_ev hA hL
   refine Ev.step (f:=fun k=>(impl_product.f k A.a A.b A.c A.d (letM p (bt s (i:Int))).a (letM p (bt s (i:Int))).b (letM p (bt s (i:Int))).c (letM p (bt s (i:Int))).d).bind fun t=>if t.2.2.2.2=true then impl_MatrixOfSteps.l0 k p s s.size ((i+1:Nat):Int) t.1 t.2.1 t.2.2.1 t.2.2.2.1 else some (0,0,0,0,3)) (fun k=>?_) (Ev.bind hpr ?_)
   · simp only[impl_MatrixOfSteps.l0]
     rw[if_pos (by omega),if_pos (by omega),if_pos (by omega),hw]
     unfold letM
     by_cases h117:bt s (i:Int)=117
     · rw[if_pos h117,if_pos h117]
     · rw[if_neg h117,if_neg h117,show (bt s (i:Int) - 48)%256=bt s (i:Int) - 48 from by omega]
   · unfold mosW
     cases h: (A.mul (letM p (bt s (i:Int)))).red.ok with
     |false=>simp;exact Ev.now _
     |true=>simp only[if_true];exact ih (i+1) _ (by omega) h
theorem spec_mos_l {p:Int} (s:ByteArray) (hp:primeB p=true) (hs:s.size≤40) (hst:∀i,i<s.size→stepB p (bt s (i:Int))=true) (n:Nat):∀(i:Nat) (A:M4),i+n=s.size→A.ok=true→Ev (fun k=>spec_MatrixOfSteps.l0 k p s i A.a A.b A.c A.d) (mosW p s n i A):=by
  induction n with
  |zero=>
   intro i A hi hA
   exact Ev.step (f:=fun _=>some (A.a,A.b,A.c,A.d,0)) (fun k=>by simp only[spec_MatrixOfSteps.l0];rw[if_neg (by omega)]) (Ev.now _)
  |succ n ih=>
   intro i A hi hA
   have hst':=hst i (by omega)
   have hc:=stepB_bd2 hp hst'
   have hL:=letM_ok hp hst'
   have hw:wrap64 ((i:Int)+1)=((i+1:Nat):Int):=by rw[wid (by omega) (by omega)];rfl
   have hpr:=spec_l04Times_ev hA hL
   refine Ev.step (f:=fun k=>(spec_l04Times.f k A.a A.b A.c A.d (letM p (bt s (i:Int))).a (letM p (bt s (i:Int))).b (letM p (bt s (i:Int))).c (letM p (bt s (i:Int))).d).bind fun t=>if t.2.2.2.2=true then spec_MatrixOfSteps.l0 k p s ((i+1:Nat):Int) t.1 t.2.1 t.2.2.1 t.2.2.2.1 else some (0,0,0,0,3)) (fun k=>?_) (Ev.bind hpr ?_)
   · simp only[spec_MatrixOfSteps.l0]
     rw[if_pos (by omega),if_pos (by omega),hw]
     unfold letM
     by_cases h117:bt s (i:Int)=117
     · rw[if_pos h117,if_pos h117]
     · rw[if_neg h117,if_neg h117,wid (n:=bt s (i:Int)) (by omega) (by omega),wid (n:=bt s (i:Int) - 48) (by omega) (by omega)]
   · unfold mosW
     cases h: (A.mul (letM p (bt s (i:Int)))).red.ok with
     |false=>simp;exact Ev.now _
     |true=>simp only[if_true];exact ih (i+1) _ (by omega) h
def mosR (p:Int) (s:ByteArray):Int×Int×Int×Int×Int:=if stepsCodeW p 0 0 0 s=0 then mosW p s s.size 0 M4.one else(0,0,0,0,stepsCodeW p 0 0 0 s)
theorem mos_both (p:Int) (s:ByteArray) (hbig:s.size≤1048576):Ev (fun k=>spec_MatrixOfSteps.f k p s) (mosR p s)∧Ev (fun k=>impl_MatrixOfSteps.f k p s) (mosR p s):=by
  have hcode: (if codeB p ([]:List S42) then(if stepsB p s then(0:Int) else 6) else 1)=stepsCodeW p 0 0 0 s:=by
    unfold stepsCodeW codeB
    rw[show ballB p 0 0 0=primeB p from by simp[ballB]]
    simp
  unfold mosR
  by_cases h:stepsCodeW p 0 0 0 s=0
  · have hb:ballB p 0 0 0=true:=by
      unfold stepsCodeW at h
      cases hb:ballB p 0 0 0 with
      |true=>rfl
      |false=>rw[hb] at h;simp at h
    have hst:stepsB p s=true:=by
      unfold stepsCodeW at h
      rw[hb] at h
      cases hst:stepsB p s with
      |true=>rfl
      |false=>rw[hst] at h;simp at h
    have hp:=ballB_prime hb
    unfold stepsB at hst
    rw[Bool.and_eq_true,decide_eq_true_eq,List.all_eq_true] at hst
    have hall:∀i,i<s.size→stepB p (bt s (i:Int))=true:=fun i hi=>hst.2 i (by simpa using hi)
    rw[if_pos h]
    refine⟨?_,?_⟩
    · unfold spec_MatrixOfSteps.f
      refine Ev.bind (spec_l10Code_ev p s _ (by omega) (by simp)) ?_
      rw[hcode]
      simp only[if_pos h]
      exact spec_mos_l s hp hst.1 hall s.size 0 M4.one (by omega) (by decide)
    · unfold impl_MatrixOfSteps.f
      refine Ev.bind (impl_stepsCode_ev p 0 0 0 s (by omega)) ?_
      simp only[if_pos h,impl_one.f,Option.bind_some]
      exact impl_mos_l s hp hst.1 hall s.size 0 M4.one (by omega) (by decide)
  · rw[if_neg h]
    refine⟨?_,?_⟩
    · unfold spec_MatrixOfSteps.f
      refine Ev.bind (spec_l10Code_ev p s _ (by omega) (by simp)) ?_
      rw[hcode]
      simp only[if_neg h];exact Ev.now _
    · unfold impl_MatrixOfSteps.f
      refine Ev.bind (impl_stepsCode_ev p 0 0 0 s (by omega)) ?_
      simp only[if_neg h];exact Ev.now _
def mosL (p:Int):List Int→M4→Option M4
  |[],A=>some A
  |c::cs,A=>if (A.mul (letM p c)).red.ok then mosL p cs (A.mul (letM p c)).red else none
theorem mosW_eq (p:Int) (s:ByteArray) (n:Nat):∀(i:Nat) (A:M4),i+n=s.size→mosW p s n i A=(match mosL p ((ltrs s).drop i) A with|some G=>(G.a,G.b,G.c,G.d,0)|none=>(0,0,0,0,3)):=by
  induction n with
  |zero=>
   intro i A h
   rw[List.drop_of_length_le (by rw[ltrs_len];omega)];rfl
  |succ n ih=>
   intro i A h
   rw[ltrs_drop s i (by omega)]
   unfold mosW mosL
   by_cases hk: (A.mul (letM p (bt s (i:Int)))).red.ok=true
   · rw[if_pos hk,if_pos hk];exact ih (i+1) _ (by omega)
   · rw[if_neg hk,if_neg hk]
def triN (p:Int) (j a:Nat) (c:Int):M4:=⟨p^j,c,0,p^a⟩
theorem triN_det {p:Int} (hp:2≤p) (j a:Nat) (c:Int): (triN p j a c).det≠0:=by
  show p^j*p^a - c*0≠0
  rw[Int.mul_zero,Int.sub_zero]
  exact Int.mul_ne_zero (Int.pow_ne_zero (by omega)) (Int.pow_ne_zero (by omega))
theorem digs_of (cs:List Int):∀c,goodN (c::cs)→c≠117→∀d∈cs,d≠117:=by
  induction cs with
  |nil=>intro c _ _ d hd;cases hd
  |cons e cs ih=>
   intro c hg hc
   have he:e≠117:=fun h=>hc (hg 0 (by simp) (by simpa using h))
   have hg2:goodN (e::cs):=fun i hi h=>by
      have:=hg (i+1) (by simp at hi⊢;omega) (by simpa using h)
      simpa using this
   intro d hd
   rcases List.mem_cons.1 hd with h|h
   · rw[h];exact he
   · exact ih e hg2 he d h
theorem goodN_tail {c:Int} {cs:List Int} (hg:goodN (c::cs)):goodN cs:=fun i hi h=>by
  have:=hg (i+1) (by simp;omega) (by simpa using h)
  simpa using this
theorem upB_child {p X:Int} {n:Int} (hp:primeB p=true) (hn: -6≤n∧n≤6) (hX:0≤X∧X<p^(n+6).toNat) (k:Int) (hc:k+48≠117):letW p (upB p X n) (k+48)=if n=6 then(0,0,0,false) else((upB p (X+k*p^(n+6).toNat) (n+1)).f0,(upB p (X+k*p^(n+6).toNat) (n+1)).f1,(upB p (X+k*p^(n+6).toNat) (n+1)).f2,true):=by
  unfold letW
  rw[if_neg hc]
  unfold chW
  have h0: (upB p X n).f0=n:=rfl
  rw[h0]
  by_cases h6:n=6
  · rw[if_pos h6,if_pos h6]
  · rw[if_neg h6,if_neg h6]
    unfold chM
    have hm:markOf p (upB p X n).f1 (upB p X n).f2=X:=by
      show markOf p (ofM p n X).2.1 (ofM p n X).2.2=X
      rw[upB_mark hp,Int.emod_eq_of_lt hX.1 hX.2]
    rw[hm,show k+48 - 48=k by omega]
    rfl
theorem mosL_digs {p:Int} (hp:primeB p=true) (a:Nat) (ha:a≤6) (G:M4) (e:S42) (cs:List Int):∀(j:Nat) (c:Int),(∀d∈cs,d≠117∧stepB p d=true)→0≤c∧c<p^j→((j:Int) - a≤6)→mosL p cs (triN p j a c).red=some G→folL p cs (upB p (c*p^(6 - a)) ((j:Int) - a))=some e→
    ∃(j':Nat) (c':Int),(0≤c'∧c'<p^j')∧((j':Int) - a≤6)∧G=(triN p j' a c').red∧e=upB p (c'*p^(6 - a)) ((j':Int) - a):=by
  have hp2:=prime_lo hp
  induction cs with
  |nil=>
   intro j c _ hc hj h1 h2
   simp only[mosL,Option.some.injEq] at h1
   simp only[folL,Option.some.injEq] at h2
   exact⟨j,c,hc,hj,h1.symm,h2.symm⟩
  |cons d cs ih=>
   intro j c hd hc hj h1 h2
   obtain⟨d1,d2⟩:=hd d (List.mem_cons_self ..)
   have hb:=stepB_bd2 hp d2
   have hbb:48≤d∧d - 48<p∧d≤54:=hb.resolve_left d1
   have em: ((triN p j a c).red.mul (letM p d)).red=(triN p (j+1) a (c+(d - 48)*p^j)).red:=by
      rw[M4.red_mul_left (triN_det hp2 j a c) (M4.ok_det (letM_ok hp d2))]
      congr 1
      unfold letM
      rw[if_neg d1]
      refine M4.ext' ?_ ?_ ?_ ?_
      · show p^j*p+c*0=p^(j+1)
        rw[Int.pow_succ];omega
      · show p^j*(d - 48)+c*1=c+(d - 48)*p^j
        rw[Int.mul_comm (p^j)];omega
      · show 0*p+p^a*0=0
        omega
      · show 0*(d - 48)+p^a*1=p^a
        omega
   unfold mosL at h1
   rw[em] at h1
   split at h1
   case isFalse=>cases h1
   have pa0:=ipow_pos (p:=p) (by omega) (6 - a)
   have pj0:=ipow_pos (p:=p) (by omega) j
   have e6:p^(((j:Int) - a)+6).toNat=p^j*p^(6 - a):=by rw[←Int.pow_add];congr 1;omega
   have hX:0≤c*p^(6 - a)∧c*p^(6 - a)<p^(((j:Int) - a)+6).toNat:=by
      rw[e6]
      exact⟨Int.mul_nonneg hc.1 (by omega),Int.mul_lt_mul_of_pos_right hc.2 (by omega)⟩
   have hch:=upB_child (X:=c*p^(6 - a)) (n:=(j:Int) - a) hp (by omega) hX (d - 48) (by omega)
   rw[show d - 48+48=d by omega] at hch
   unfold folL at h2
   rw[hch] at h2
   by_cases h6: (j:Int) - a=6
   · rw[if_pos h6] at h2
     simp at h2
   · rw[if_neg h6] at h2
     simp only[if_true] at h2
     have eX:c*p^(6 - a)+(d - 48)*p^((j:Int) - a+6).toNat=(c+(d - 48)*p^j)*p^(6 - a):=by rw[e6,Int.add_mul,Int.mul_assoc]
     rw[eX,show (j:Int) - a+1=((j+1:Nat):Int) - a by omega] at h2
     refine ih (j+1) (c+(d - 48)*p^j) (fun x hx=>hd x (List.mem_cons_of_mem _ hx)) ?_ (by omega) h1 h2
     have k0:=Int.mul_nonneg (show 0≤d - 48 by omega) (show 0≤p^j by omega)
     have k1:=Int.mul_le_mul_of_nonneg_right (show d - 48≤p - 1 by omega) (show 0≤p^j by omega)
     rw[show (p - 1)*p^j=p*p^j - p^j by rw[Int.sub_mul,Int.one_mul]] at k1
     rw[Int.pow_succ,Int.mul_comm (p^j) p]
     omega
theorem mosL_norm {p:Int} (hp:primeB p=true) (G:M4) (e:S42) (cs:List Int):∀(a:Nat),a≤6→goodN cs→(∀d∈cs,stepB p d=true)→mosL p cs (triN p 0 a 0).red=some G→folL p cs ⟨-(a:Int),0,0⟩=some e→
    ∃(a' j:Nat) (c:Int),a'≤6∧(0≤c∧c<p^j)∧((j:Int) - a'≤6)∧G=(triN p j a' c).red∧e=upB p (c*p^(6 - a')) ((j:Int) - a'):=by
  have hp2:=prime_lo hp
  have up0:∀a:Nat,a≤6→upB p 0 (-(a:Int))=⟨-(a:Int),0,0⟩:=fun a ha=>by
    have h:=ofM_of (p:=p) (L:= -(a:Int)) (X:=0) (T:=0) (D:=0) hp2 (by simp) (by omega) (.inl rfl)
    unfold upB;rw[h]
  induction cs with
  |nil=>
   intro a ha _ _ h1 h2
   simp only[mosL,Option.some.injEq] at h1
   simp only[folL,Option.some.injEq] at h2
   refine⟨a,0,0,ha,⟨by omega,by simp⟩,by omega,h1.symm,?_⟩
   rw[Int.zero_mul,←h2,show ((0:Nat):Int) - a= -(a:Int) by omega];exact(up0 a ha).symm
  |cons d cs ih=>
   intro a ha hg hs h1 h2
   by_cases hd:d=117
   · subst hd
     have em: ((triN p 0 a 0).red.mul (letM p 117)).red=(triN p 0 (a+1) 0).red:=by
        rw[M4.red_mul_left (triN_det hp2 0 a 0) (M4.ok_det (letM_ok hp (hs 117 (List.mem_cons_self ..))))]
        congr 1
        unfold letM
        rw[if_pos rfl]
        refine M4.ext' ?_ ?_ ?_ ?_
        · show p^0*1+0*0=p^0
          omega
        · show p^0*0+0*p=0
          omega
        · show 0*1+p^a*0=0
          omega
        · show 0*0+p^a*p=p^(a+1)
          rw[Int.pow_succ];omega
     unfold mosL at h1
     rw[em] at h1
     split at h1
     case isFalse=>cases h1
     unfold folL letW parW at h2
     rw[if_pos rfl] at h2
     by_cases h6: -(a:Int)= -6
     · simp[h6] at h2
     · have e0:parM p (-(a:Int)) 0 0=(-((a+1:Nat):Int),0,0):=by
          unfold parM
          rw[show markOf p 0 0=0 from Int.zero_mul _,show -(a:Int) - 1= -((a+1:Nat):Int) by omega]
          exact ofM_of hp2 (by simp) (by omega) (.inl rfl)
       simp only[h6,if_false,if_true,e0] at h2
       exact ih (a+1) (by omega) (goodN_tail hg) (fun x hx=>hs x (List.mem_cons_of_mem _ hx)) h1 h2
   · have hall:∀x∈d::cs,x≠117∧stepB p x=true:=fun x hx=>⟨by
        rcases List.mem_cons.1 hx with h|h
        · rw[h];exact hd
        · exact digs_of cs d hg hd x h,hs x hx⟩
     have h3:folL p (d::cs) (upB p (0*p^(6 - a)) (((0:Nat):Int) - a))=some e:=by
        rw[Int.zero_mul,show ((0:Nat):Int) - a= -(a:Int) by omega,up0 a ha];exact h2
     obtain⟨j,c,i0,i1,i2,i3⟩:=mosL_digs hp a ha G e (d::cs) 0 0 hall ⟨by omega,by simp⟩ (by omega) h1 h3
     exact⟨a,j,c,ha,i0,i1,i2,i3⟩
theorem tri_moves {p:Int} (hp:primeB p=true) {j a:Nat} {c:Int} (ha:a≤6) (hj: (j:Int) - a≤6) (hok: (triN p j a c).red.ok=true) (hc: -20000000000≤c∧c≤20000000000):
    Ev (fun k=>impl_moveBall.f k p (triN p j a c).red.a (triN p j a c).red.b (triN p j a c).red.c (triN p j a c).red.d 0 0 0) ((upB p (c*p^(6 - a)) ((j:Int) - a)).f0,(upB p (c*p^(6 - a)) ((j:Int) - a)).f1,(upB p (c*p^(6 - a)) ((j:Int) - a)).f2,true):=by
  have hp2:=prime_lo hp
  have hdet:=triN_det hp2 j a c
  obtain⟨x,y,x',y',w,hcol,hy,hyy,hw,ev⟩:=move_whole hp hok
  have hβ:=M4.by_ne hdet
  have hs:=M4.smul_red (triN p j a c)
  have hrd:=M4.red_det hdet
  generalize (triN p j a c).red=q at*
  generalize (triN p j a c).by_=β at*
  obtain⟨qa,qb,qc,qd⟩:=q
  have e1:β*qa=p^j:=congrArg M4.a hs
  have e2:β*qb=c:=congrArg M4.b hs
  have e3:β*qc=0:=congrArg M4.c hs
  have e4:β*qd=p^a:=congrArg M4.d hs
  have hqc:qc=0:=(Int.mul_eq_zero.1 e3).resolve_left hβ
  subst hqc
  simp only at hcol ev hw⊢
  change qa*qd - qb*0≠0 at hrd
  have hqa:qa≠0:=fun h=>hrd (by rw[h];omega)
  have hqd:qd≠0:=fun h=>hrd (by rw[h];omega)
  obtain⟨rfl,rfl⟩:x=qb∧y=qd:=by
    rcases hcol with ⟨h1,h2,_⟩|⟨_,h2,_⟩
    · exact⟨h1,h2⟩
    · exact absurd h2 hy
  have vj:val p β+val p qa=j:=by rw[←(val_mul hp hβ hqa).1,e1,val_pow hp2]
  have va:val p β+val p y=a:=by rw[←(val_mul hp hβ hqd).1,e4,val_pow hp2]
  have vd:val p (qa*y - x*0)=val p qa+val p y:=by rw[Int.mul_zero,Int.sub_zero];exact(val_mul hp hqa hqd).1
  rw[vd] at hw ev
  have hlv: ((val p qa+val p y:Nat):Int) - 2*(val p y:Int)=(j:Int) - a:=by omega
  rw[hlv] at hw ev
  obtain⟨w',hw'⟩:=inv_ex ((j:Int) - a) hp (show β*y≠0 from Int.mul_ne_zero hβ hqd)
  have hgen:=atF_gen (n:=x) hp hβ hqd hw hw'
  rw[e2,e4] at hgen
  rw[e4] at hw'
  have pa:=pow_6 hp a ha
  have pa0:=ipow_pos (p:=p) (by omega) a
  have s1:=spec_l01Of_ev (p:=p) (n:=c) (d:=p^a) (L:=(j:Int) - a) (w:=w') hp (Int.pow_ne_zero (by omega)) (by omega) (by omega) (by omega) (by omega) hw'
  have s2:=spec_l01Of_pow (p:=p) (num:=c) (L:=(j:Int) - a) a hp (by omega) (by omega) (by omega) (by omega)
  have e:=Ev.det s1 s2
  rw[←hgen,e] at ev
  exact ev
theorem code_0 {p L T D:Int} {s:ByteArray} (h:stepsCodeW p L T D s=0):ballB p L T D=true∧stepsB p s=true:=by
  unfold stepsCodeW at h
  cases hb:ballB p L T D with
  |false=>rw[hb] at h;simp at h
  |true=>
   refine⟨rfl,?_⟩
   rw[hb] at h
   cases hst:stepsB p s with
   |true=>rfl
   |false=>rw[hst] at h;simp at h
def folE (o:Option S42):Int×Int×Int×Int:=match o with|some b'=>(b'.f0,b'.f1,b'.f2,0)|none=>(0,0,0,3)
def folR (p L T D:Int) (s:ByteArray):Int×Int×Int×Int:=if stepsCodeW p L T D s=0 then folE (folL p (ltrs s) ⟨L,T,D⟩) else(0,0,0,stepsCodeW p L T D s)
theorem impl_Follow_ev (p L T D:Int) (s:ByteArray) (hs:s.size≤200):Ev (fun k=>impl_FollowSteps.f k p L T D s) (folR p L T D s):=by
  unfold folR
  by_cases h:stepsCodeW p L T D s=0
  · obtain⟨hb,hst⟩:=code_0 h
    have hp:=(ball_parts hb).1
    have hst2:=hst
    unfold stepsB at hst2
    rw[Bool.and_eq_true,decide_eq_true_eq,List.all_eq_true] at hst2
    have hs40:=hst2.1
    obtain⟨ys,g1,g2⟩:=impl_follow_l s hp hs40 (fun i hi=>hst2.2 i (by simpa using hi)) s.size 0 ⟨L,T,D⟩ [⟨L,T,D⟩] (by omega) hb rfl rfl
    have e0:=folW_eq p s s.size 0 ⟨L,T,D⟩ (by omega)
    rw[List.drop_zero] at e0
    rw[e0] at g1 g2
    rw[if_pos h]
    unfold impl_FollowSteps.f
    refine Ev.bind (impl_stepsCode_ev p L T D s (by omega)) ?_
    simp only[if_pos h]
    unfold impl_follow.f
    refine Ev.bind g1 ?_
    cases hf:folL p (ltrs s) (⟨L,T,D⟩:S42) with
    |none=>
     simp only[Option.isSome_none,Bool.false_eq_true,if_false]
     exact Ev.now _
    |some b'=>
     obtain⟨l1,l2,_⟩:=g2 b' hf
     have hw:wrap64 ((ys.length:Int) - 1)=(s.size:Int):=by rw[l1,wid (by omega) (by omega)];omega
     have e:rd_T42 ys (s.size:Int)=b':=by
        show ys.getD s.size z42=b'
        rw[List.getD_eq_getElem?_getD,l2];rfl
     simp only[Option.isSome_some,if_true,hw,e]
     rw[if_pos (by omega),if_pos (by omega)]
     exact Ev.now _
  · rw[if_neg h]
    unfold impl_FollowSteps.f
    refine Ev.bind (impl_stepsCode_ev p L T D s (by omega)) ?_
    simp only[if_neg h];exact Ev.now _
theorem normal_l (s:ByteArray) (hs:s.size≤1048576) (d:Nat):∀(xs:List Int) (i:Nat),xs.length≤i→i+d=s.size→Ev (fun k=>spec_NormalSteps.l0 k s xs i) (strOfNums (nrm xs ((ltrs s).drop i)),0):=by
  induction d with
  |zero=>
   intro xs i hl hd
   rw[List.drop_of_length_le (by rw[ltrs_len];omega)]
   exact Ev.step (f:=fun _=>some (strOfNums xs,0)) (fun k=>by simp only[spec_NormalSteps.l0];rw[if_neg (by omega)]) (Ev.now _)
  |succ d ih=>
   intro xs i hl hd
   rw[ltrs_drop s i (by omega)]
   have hw:wrap64 ((i:Int)+1)=((i+1:Nat):Int):=by rw[wid (by omega) (by omega)];rfl
   have app:=ih (xs++[bt s (i:Int)]) (i+1) (by simp;omega) (by omega)
   by_cases hc:bt s (i:Int)=117
   · by_cases hn: (xs.length:Int)>0
     · have hm:wrap64 ((xs.length:Int) - 1)=((xs.length - 1:Nat):Int):=by rw[wid (by omega) (by omega)];omega
       have er:rd xs ((xs.length - 1:Nat):Int)=xs.getD (xs.length - 1) 0:=by
          rw[rd_nat xs _ (by omega),List.getD_eq_getElem?_getD,List.getElem?_eq_getElem (by omega)];rfl
       by_cases hu:xs.getD (xs.length - 1) 0=117
       · have e:nrm xs (bt s (i:Int)::(ltrs s).drop (i+1))=nrm (xs++[bt s (i:Int)]) ((ltrs s).drop (i+1)):=by
            show (if _ then _ else _)=_
            rw[if_neg (fun h=>h.2.2 hu)]
         rw[e]
         refine Ev.step (f:=fun k=>spec_NormalSteps.l0 k s (xs++[bt s (i:Int)]) ((i+1:Nat):Int)) (fun k=>?_) app
         simp only[spec_NormalSteps.l0]
         rw[if_pos (by omega),if_pos (by omega),if_pos hc,if_pos hn,hm,if_pos (by omega),if_pos (by omega),er,if_pos hu,if_pos (by omega),hw]
       · have e:nrm xs (bt s (i:Int)::(ltrs s).drop (i+1))=nrm (xs.take (xs.length - 1)) ((ltrs s).drop (i+1)):=by
            show (if _ then _ else _)=_
            rw[if_pos ⟨hc,by omega,hu⟩]
         rw[e]
         refine Ev.step (f:=fun k=>spec_NormalSteps.l0 k s (xs.take (xs.length - 1)) ((i+1:Nat):Int)) (fun k=>?_) (ih _ (i+1) (by rw[List.length_take];omega) (by omega))
         simp only[spec_NormalSteps.l0]
         rw[if_pos (by omega),if_pos (by omega),if_pos hc,if_pos hn,hm,if_pos (by omega),if_pos (by omega),er,if_neg hu,if_pos (by omega),hw,Int.toNat_natCast]
     · have e:nrm xs (bt s (i:Int)::(ltrs s).drop (i+1))=nrm (xs++[bt s (i:Int)]) ((ltrs s).drop (i+1)):=by
          show (if _ then _ else _)=_
          rw[if_neg (fun h=>by omega)]
       rw[e]
       refine Ev.step (f:=fun k=>spec_NormalSteps.l0 k s (xs++[bt s (i:Int)]) ((i+1:Nat):Int)) (fun k=>?_) app
       simp only[spec_NormalSteps.l0]
       rw[if_pos (by omega),if_pos (by omega),if_pos hc,if_neg hn,if_pos (by omega),hw]
   · have e:nrm xs (bt s (i:Int)::(ltrs s).drop (i+1))=nrm (xs++[bt s (i:Int)]) ((ltrs s).drop (i+1)):=by
        show (if _ then _ else _)=_
        rw[if_neg (fun h=>hc h.1)]
     rw[e]
     refine Ev.step (f:=fun k=>spec_NormalSteps.l0 k s (xs++[bt s (i:Int)]) ((i+1:Nat):Int)) (fun k=>?_) app
     simp only[spec_NormalSteps.l0]
     rw[if_pos (by omega),if_pos (by omega),if_neg hc,if_pos (by omega),hw]
def nrmR (p:Int) (s:ByteArray):ByteArray×Int:=if stepsCodeW p 0 0 0 s=0 then(strOfNums (nrm [] (ltrs s)),0) else(⟨#[]⟩,stepsCodeW p 0 0 0 s)
theorem zero_ball (p:Int):ballB p 0 0 0=primeB p:=by simp[ballB]
theorem spec_Normal_ev (p:Int) (s:ByteArray) (hs:s.size≤200):Ev (fun k=>spec_NormalSteps.f k p s) (nrmR p s):=by
  have hr:=normal_l s (by omega) s.size [] 0 (by simp) (by omega)
  rw[List.drop_zero] at hr
  have hcode: (if codeB p ([]:List S42) then(if stepsB p s then(0:Int) else 6) else 1)=stepsCodeW p 0 0 0 s:=by
    unfold stepsCodeW codeB
    rw[zero_ball]
    simp
  unfold nrmR spec_NormalSteps.f
  refine Ev.bind (spec_l10Code_ev p s [] (by omega) (by simp)) ?_
  rw[hcode]
  by_cases h:stepsCodeW p 0 0 0 s=0
  · simp only[if_pos h];exact hr
  · simp only[if_neg h];exact Ev.now _
structure okS (c:List Int) (q:Int):Prop where
  b:∀x∈c,0≤x∧x≤255
  l:c.length≤5000
  p:0≤q∧q≤c.length
theorem mask34 {n:Int} (h0:0≤n) (h1:n<18446744073709551616):Go.bits .and .u64 n 17179869183=n%17179869184:=by
  obtain⟨m,rfl⟩:∃m:Nat,n=(m:Int):=⟨n.toNat,by omega⟩
  have h:=Go.bits_and_u64_nat m 17179869183 (by omega) (by omega)
  have e:m &&& 17179869183=m%17179869184:=Nat.and_two_pow_sub_one_eq_mod m 34
  rw[e] at h
  rw[show ((17179869183:Nat):Int)=17179869183 from rfl] at h
  rw[h];omega
theorem next_ok {c:List Int} {q:Int} (S:okS c q) (h a:Int):∃v q' h',spec_l01Next.f c q h a=some (v,q',h')∧okS c q'∧0≤v∧(1≤a→v<a):=by
  have Sl:=S.l
  have Sp:=S.p
  unfold spec_l01Next.f
  by_cases h1:a<1
  · rw[if_pos h1];exact⟨0,q,h,rfl,S,by omega,by omega⟩
  rw[if_neg h1]
  obtain⟨w,hw⟩:∃w,w=IntKind.u64.wrap (IntKind.u64.wrap (h*6364136223846793005)+1442695040888963407):=⟨_,rfl⟩
  have hw0:0≤w∧w<18446744073709551616:=by rw[hw,IntKind.wrap_u64];omega
  rw[←hw,mask34 (by omega) (by omega),wid (n:=w / 8388608%17179869184) (by omega) (by omega)]
  by_cases h2:q<(c.length:Int)
  · have hb:0≤rd c q∧rd c q≤255:=by
      obtain⟨m,rfl⟩:∃m:Nat,q=(m:Int):=⟨q.toNat,by omega⟩
      rw[rd_nat c m (by omega)];exact S.b _ (List.getElem_mem _)
    rw[if_pos h2,if_pos Sp.1,if_neg (show ¬a=0 by omega),wid (n:=rd c q) (by omega) (by omega),wid (n:=w / 8388608%17179869184+rd c q) (by omega) (by omega),wid (n:=q+1) (by omega) (by omega),tmod_cast (by omega)]
    exact⟨_,_,_,rfl,⟨S.b,S.l,by omega⟩,Int.emod_nonneg _ (by omega),fun _=>Int.emod_lt_of_pos _ (by omega)⟩
  · rw[if_neg h2,if_neg (show ¬a=0 by omega),tmod_cast (by omega)]
    exact⟨_,_,_,rfl,S,Int.emod_nonneg _ (by omega),fun _=>Int.emod_lt_of_pos _ (by omega)⟩
theorem pick_ok {c:List Int} {q:Int} (S:okS c q) (h:Int) (l:List Int) (hl:1≤l.length):∃v q' h',spec_l01Pick.f c q h l=some (v,q',h')∧okS c q':=by
  obtain⟨v,q',h',e,S',v0,v1⟩:=next_ok S h (l.length:Int)
  unfold spec_l01Pick.f
  rw[e]
  simp only[Option.bind_some,if_pos v0,if_pos (v1 (by omega))]
  exact⟨_,_,_,rfl,S'⟩
theorem from_ok {c:List Int} (hb:∀x∈c,0≤x∧x≤255) (hl:c.length≤5000):∃h,Ev (fun k=>spec_l01From.f k c) (c,0,h):=by
  have key:∀d i:Nat,i+d=c.length→∀h,∃h',Ev (fun k=>spec_l01From.l0 k c i c 0 h) (c,0,h'):=by
    intro d
    induction d with
    |zero=>
     intro i hi h
     refine⟨h,Ev.up ?_⟩
     simp only[spec_l01From.l0,if_neg (show ¬(i:Int)<(c.length:Int) by omega)];exact Ev.now _
    |succ d ih=>
     intro i hi h
     by_cases h4: (i:Int)<4096
     · obtain⟨h',e⟩:=ih (i+1) (by omega) (IntKind.u64.wrap (IntKind.u64.wrap (IntKind.u64.wrap (h*1099511628211)+IntKind.u64.wrap (rd c i))+71))
       refine⟨h',Ev.up ?_⟩
       simp only[spec_l01From.l0,if_pos (show (i:Int)<(c.length:Int) by omega),if_pos h4,if_pos (show (0:Int)≤(i:Int) by omega)]
       rw[wid (n:=(i:Int)+1) (by omega) (by omega)]
       exact e
     · refine⟨h,Ev.up ?_⟩
       simp only[spec_l01From.l0,if_pos (show (i:Int)<(c.length:Int) by omega),if_neg h4];exact Ev.now _
  unfold spec_l01From.f
  exact key c.length 0 (by omega) _
def Dr (c:List Int) (g:Nat→Option (Int×Int×Int×Int×Int×Int)):Prop:=∃a b e d q h,Ev g (a,b,e,d,q,h)∧okS c q
theorem Dr.of {c:List Int} {f g:Nat→Option (Int×Int×Int×Int×Int×Int)} (h:Dr c f) (up:∀r,Ev f r→Ev g r):Dr c g:=by
  obtain⟨a,b,e,d,q,h',h1,h2⟩:=h
  exact⟨a,b,e,d,q,h',up _ h1,h2⟩
theorem dj3 {C:List Int} {q:Int} (S:okS C q) (h a b c d:Int):Dr C (fun k=>spec_l04Draw.j3 k C q h a b c d):=by
  obtain⟨v,q',h',e,S',_⟩:=next_ok S h 40
  by_cases c0:v=0
  · refine⟨1001,b,c,d,q',h',Ev.up ?_,S'⟩
    simp only[spec_l04Draw.j3]
    refine Ev.bindv e ?_
    simp only[if_pos c0]
    exact Ev.now _
  by_cases c1:v=1
  · refine⟨a,b,a,b,q',h',Ev.up ?_,S'⟩
    simp only[spec_l04Draw.j3]
    refine Ev.bindv e ?_
    simp only[if_neg c0,if_pos c1]
    exact Ev.now _
  · refine⟨a,b,c,d,q',h',Ev.up ?_,S'⟩
    simp only[spec_l04Draw.j3]
    refine Ev.bindv e ?_
    simp only[if_neg c0,if_neg c1]
    exact Ev.now _
theorem dj2 {C:List Int} {q:Int} (S:okS C q) (h a b c d:Int):Dr C (fun k=>spec_l04Draw.j2 k C q h a b c d):=by
  obtain⟨v,q1,h1,e1,S1,_⟩:=next_ok S h 9
  by_cases c0:v=0
  · obtain⟨v2,q2,h2,e2,S2⟩:=pick_ok S1 h1 [2,3,4,5,9] (by simp)
    obtain⟨v3,q3,h3,e3,S3,_⟩:=next_ok S2 h2 5
    refine(dj3 S3 h3 v2 (wrap64 (v3 - 2)) 0 1).of fun r hr=>Ev.up ?_
    simp only[spec_l04Draw.j2]
    refine Ev.bindv e1 ?_
    simp only[if_pos c0]
    exact Ev.bindv e2 (Ev.bindv e3 hr)
  by_cases c1:v=1
  · obtain⟨v2,q2,h2,e2,S2⟩:=pick_ok S1 h1 [2,3,4,7,1] (by simp)
    refine(dj3 S2 h2 1 0 0 v2).of fun r hr=>Ev.up ?_
    simp only[spec_l04Draw.j2]
    refine Ev.bindv e1 ?_
    simp only[if_neg c0,if_pos c1]
    exact Ev.bindv e2 hr
  by_cases c2:v=2
  · obtain⟨v2,q2,h2,e2,S2⟩:=pick_ok S1 h1 [1, -1,2,3] (by simp)
    refine(dj3 S2 h2 0 v2 1 0).of fun r hr=>Ev.up ?_
    simp only[spec_l04Draw.j2]
    refine Ev.bindv e1 ?_
    simp only[if_neg c0,if_neg c1,if_pos c2]
    exact Ev.bindv e2 hr
  by_cases c3:v=3
  · obtain⟨v2,q2,h2,e2,S2,_⟩:=next_ok S1 h1 2001
    obtain⟨v3,q3,h3,e3,S3,_⟩:=next_ok S2 h2 9
    obtain⟨v4,q4,h4,e4,S4,_⟩:=next_ok S3 h3 9
    obtain⟨v5,q5,h5,e5,S5,_⟩:=next_ok S4 h4 2001
    refine(dj3 S5 h5 (wrap64 (v2 - 1000)) v3 v4 (wrap64 (v5 - 1000))).of fun r hr=>Ev.up ?_
    simp only[spec_l04Draw.j2]
    refine Ev.bindv e1 ?_
    simp only[if_neg c0,if_neg c1,if_neg c2,if_pos c3]
    exact Ev.bindv e2 (Ev.bindv e3 (Ev.bindv e4 (Ev.bindv e5 hr)))
  by_cases c4:v=4
  · obtain⟨v2,q2,h2,e2,S2,_⟩:=next_ok S1 h1 7
    refine(dj3 S2 h2 1 (wrap64 (v2 - 3)) 0 1).of fun r hr=>Ev.up ?_
    simp only[spec_l04Draw.j2]
    refine Ev.bindv e1 ?_
    simp only[if_neg c0,if_neg c1,if_neg c2,if_neg c3,if_pos c4]
    exact Ev.bindv e2 hr
  · refine(dj3 S1 h1 a b c d).of fun r hr=>Ev.up ?_
    simp only[spec_l04Draw.j2]
    refine Ev.bindv e1 ?_
    simp only[if_neg c0,if_neg c1,if_neg c2,if_neg c3,if_neg c4]
    exact hr
theorem wr0:wrap64 (0+1)=1:=by unfold wrap64;omega
theorem wr1:wrap64 (1+1)=2:=by unfold wrap64;omega
theorem wr2:wrap64 (2+1)=3:=by unfold wrap64;omega
theorem wr3:wrap64 (3+1)=4:=by unfold wrap64;omega
theorem dl0 {C:List Int} (n:Nat):∀(i:Int),0≤i→i+n=5→∀(q h a b c d:Int),okS C q→Dr C (fun k=>spec_l04Draw.l0 k i C q h a b c d):=by
  induction n with
  |zero=>
   intro i h0 hi q h a b c d S
   refine(dj2 S h a b c d).of fun r hr=>Ev.up ?_
   simp only[spec_l04Draw.l0,if_neg (show ¬i<5 by omega)]
   exact hr
  |succ n ih=>
   intro i h0 hi q h a b c d S
   obtain⟨v1,q1,h1,e1,S1,_⟩:=next_ok S h 11
   obtain⟨v2,q2,h2,e2,S2,_⟩:=next_ok S1 h1 11
   obtain⟨v3,q3,h3,e3,S3,_⟩:=next_ok S2 h2 11
   obtain⟨v4,q4,h4,e4,S4,_⟩:=next_ok S3 h3 11
   have go:∀g:Nat→Option (Int×Int×Int×Int×Int×Int),Dr C g→(∀r,Ev g r→Ev (fun k=>if wrap64 (wrap64 (wrap64 (v1 - 5)*wrap64 (v4 - 5)) - wrap64 (wrap64 (v2 - 5)*wrap64 (v3 - 5)))=0 then spec_l04Draw.l0 k (wrap64 (i+1)) C q4 h4 (wrap64 (v1 - 5)) (wrap64 (v2 - 5)) (wrap64 (v3 - 5)) (wrap64 (v4 - 5)) else spec_l04Draw.j2 k C q4 h4 (wrap64 (v1 - 5)) (wrap64 (v2 - 5)) (wrap64 (v3 - 5)) (wrap64 (v4 - 5))) r)→Dr C (fun k=>spec_l04Draw.l0 k i C q h a b c d):=by
      intro g hg hup
      refine hg.of fun r hr=>Ev.up ?_
      simp only[spec_l04Draw.l0,if_pos (show i<5 by omega)]
      refine Ev.up ?_
      simp only[spec_l04Draw.l1,if_pos (show (0:Int)<4 by decide),wr0]
      refine Ev.bindv e1 ?_
      simp only[if_true]
      refine Ev.up ?_
      simp only[spec_l04Draw.l1,if_pos (show (1:Int)<4 by decide),if_neg (show ¬(1:Int)=0 by decide),if_true,wr1]
      refine Ev.bindv e2 ?_
      refine Ev.up ?_
      simp only[spec_l04Draw.l1,if_pos (show (2:Int)<4 by decide),if_neg (show ¬(2:Int)=0 by decide),if_neg (show ¬(2:Int)=1 by decide),if_true,wr2]
      refine Ev.bindv e3 ?_
      refine Ev.up ?_
      simp only[spec_l04Draw.l1,if_pos (show (3:Int)<4 by decide),if_neg (show ¬(3:Int)=0 by decide),if_neg (show ¬(3:Int)=1 by decide),if_neg (show ¬(3:Int)=2 by decide),if_true,wr3]
      refine Ev.bindv e4 ?_
      refine Ev.up ?_
      simp only[spec_l04Draw.l1,if_neg (show ¬(4:Int)<4 by decide),spec_l04Det.f,Option.bind_some]
      exact hup r hr
   by_cases c0:wrap64 (wrap64 (wrap64 (v1 - 5)*wrap64 (v4 - 5)) - wrap64 (wrap64 (v2 - 5)*wrap64 (v3 - 5)))=0
   · refine go _ (ih (i+1) (by omega) (by omega) q4 h4 (wrap64 (v1 - 5)) (wrap64 (v2 - 5)) (wrap64 (v3 - 5)) (wrap64 (v4 - 5)) S4) fun r hr=>?_
     simp only[if_pos c0,wid (n:=i+1) (by omega) (by omega)]
     exact hr
   · refine go _ (dj2 S4 h4 (wrap64 (v1 - 5)) (wrap64 (v2 - 5)) (wrap64 (v3 - 5)) (wrap64 (v4 - 5))) fun r hr=>?_
     simp only[if_neg c0]
     exact hr
theorem matDraw_ok {C:List Int} {q:Int} (S:okS C q) (h:Int):∃(g:M4) (q' h':Int),Ev (fun k=>spec_l04Draw.f k C q h) (g.a,g.b,g.c,g.d,q',h')∧okS C q':=by
  obtain⟨a,b,c,d,q',h',h1,h2⟩:=dl0 (C:=C) 5 0 (by omega) (by omega) q h 0 0 0 0 S
  exact⟨⟨a,b,c,d⟩,q',h',h1,h2⟩
section
variable {C:List Int} (hb:∀x∈C,0≤x∧x≤255) (hl:C.length≤5000)
include hb hl in
theorem from_ok2:∃h,Ev (fun k=>spec_l01From.f k C) (C,0,h)∧okS C 0:=by
  obtain⟨h,e⟩:=from_ok hb hl
  exact⟨h,e,⟨hb,hl,by omega⟩⟩
end
theorem rd_mem {l:List Int} {i:Int} (h0:0≤i) (h1:i<(l.length:Int)):rd l i∈l:=by
  obtain⟨m,rfl⟩:∃m:Nat,i=(m:Int):=⟨i.toNat,by omega⟩
  rw[rd_nat l m (by omega)];exact List.getElem_mem _
theorem pick_in {c:List Int} {q:Int} (S:okS c q) (h:Int) (l:List Int) (hl:1≤l.length):∃v q' h',spec_l01Pick.f c q h l=some (v,q',h')∧okS c q'∧v∈l:=by
  obtain⟨v,q',h',e,S',v0,v1⟩:=next_ok S h (l.length:Int)
  unfold spec_l01Pick.f
  rw[e]
  simp only[Option.bind_some,if_pos v0,if_pos (v1 (by omega))]
  exact⟨_,_,_,rfl,S',rd_mem v0 (v1 (by omega))⟩
theorem drawB_ok {c:List Int} {q p:Int} (S:okS c q) (h:Int) (hp:primeB p=true):∃a b d q' h',Ev (fun k=>spec_l01Draw.f k c q h p) (a,b,d,q',h')∧okS c q':=by
  obtain⟨v1,q1,h1,e1,S1,a1,b1⟩:=next_ok S h 13
  obtain⟨L,q2,h2,e2,S2,m2⟩:=pick_in S1 h1 [0,1,2,3,wrap64 (v1 - 6)] (by simp)
  have hL: -6≤L∧L≤6:=by
    have:=b1 (by omega)
    rw[wid (n:=v1 - 6) (by omega) (by omega)] at m2
    simp only[List.mem_cons,List.not_mem_nil,or_false] at m2
    omega
  obtain⟨v3,q3,h3,e3,S3,_⟩:=next_ok S2 h2 6
  unfold spec_l01Draw.f
  by_cases c3:v3=0
  · refine⟨L,0,0,q3,h3,Ev.bindv e1 (Ev.bindv e2 (Ev.bindv e3 ?_)),S3⟩
    simp only[if_pos c3];exact Ev.now _
  obtain⟨v4,q4,h4,e4,S4,a4,b4⟩:=next_ok S3 h3 20
  obtain⟨v5,q5,h5,e5,S5,a5,b5⟩:=next_ok S4 h4 2000000
  obtain⟨n,q6,h6,e6,S6,m6⟩:=pick_in S5 h5 [wrap64 (v4 - 10),wrap64 (v5 - 1000000)] (by simp)
  have hn: -1000000≤n∧n≤1000000:=by
    have:=b4 (by omega)
    have:=b5 (by omega)
    rw[wid (n:=v4 - 10) (by omega) (by omega),wid (n:=v5 - 1000000) (by omega) (by omega)] at m6
    simp only[List.mem_cons,List.not_mem_nil,or_false] at m6
    omega
  obtain⟨v7,q7,h7,e7,S7,a7,b7⟩:=next_ok S6 h6 7
  obtain⟨x,q8,h8,e8,S8,m8⟩:=pick_in S7 h7 [0,0,1,2,v7] (by simp)
  have hx:0≤x∧x≤6:=by
    have:=b7 (by omega)
    simp only[List.mem_cons,List.not_mem_nil,or_false] at m8
    omega
  have ep:=spec_l01Power_ev p x (by omega)
  rw[powW_prime hp _ (by omega)] at ep
  have eo:=spec_l01Of_pow (num:=n) (L:=L) x.toNat hp (by omega) (by omega) (by omega) hL
  generalize hB:ofM p L (n*p^(6 - x.toNat))=B at eo
  refine⟨B.1,B.2.1,B.2.2,q8,h8,Ev.bindv e1 (Ev.bindv e2 (Ev.bindv e3 ?_)),S8⟩
  simp only[if_neg c3]
  refine Ev.bindv e4 (Ev.bindv e5 (Ev.bindv e6 (Ev.bindv e7 (Ev.bindv e8 (Ev.bind ep (Ev.bind eo ?_))))))
  simp only[if_true]
  exact Ev.now _
theorem badB_ok {c:List Int} {q:Int} (S:okS c q) (h x y z:Int):∃a b d q' h',spec_l01Bad.f c q h x y z=some (a,b,d,q',h')∧okS c q':=by
  obtain⟨v,q1,h1,e1,S1,_⟩:=next_ok S h 40
  obtain⟨x2,q2,h2,e2,S2⟩:=pick_ok S1 h1 [(-7),7,wrap64 (x - 1),1099511627776] (by simp)
  obtain⟨x3,q3,h3,e3,S3⟩:=pick_ok S1 h1 [(-1),wrap64 (y*7),1099511627776] (by simp)
  obtain⟨x4,q4,h4,e4,S4⟩:=pick_ok S1 h1 [(-1),wrap64 (z+1),7] (by simp)
  unfold spec_l01Bad.f
  simp only[e1,Option.bind_some]
  by_cases c0:v=0
  · simp only[if_pos c0,e2,Option.bind_some];exact⟨_,_,_,_,_,rfl,S2⟩
  by_cases c1:v=1
  · simp only[if_neg c0,if_pos c1,e3,Option.bind_some];exact⟨_,_,_,_,_,rfl,S3⟩
  by_cases c2:v=2
  · simp only[if_neg c0,if_neg c1,if_pos c2,e4,Option.bind_some];exact⟨_,_,_,_,_,rfl,S4⟩
  · simp only[if_neg c0,if_neg c1,if_neg c2];exact⟨_,_,_,_,_,rfl,S1⟩
theorem spoil_ok {c:List Int} {q:Int} (S:okS c q) (h:Int):∃p a b d q' h',Ev (fun k=>spec_l01Spoil.f k c q h) (p,a,b,d,q',h')∧okS c q':=by
  obtain⟨p,q1,h1,e1,S1,m1⟩:=pick_in S h [2,2,3,3,5,7] (by simp)
  have hp:primeB p=true:=by
    simp only[List.mem_cons,List.not_mem_nil,or_false] at m1
    rcases m1 with rfl|rfl|rfl|rfl|rfl|rfl<;>rfl
  obtain⟨a,b,d,q2,h2,e2,S2⟩:=drawB_ok S1 h1 hp
  obtain⟨a',b',d',q3,h3,e3,S3⟩:=badB_ok S2 h2 a b d
  obtain⟨v,q4,h4,e4,S4,_⟩:=next_ok S3 h3 40
  have ed:spec_l01DrawPrime.f c q h=some (p,q1,h1):=by unfold spec_l01DrawPrime.f;rw[e1];rfl
  unfold spec_l01Spoil.f
  by_cases c0:v=0
  · obtain⟨p',q5,h5,e5,S5⟩:=pick_ok S4 h4 [0,1,4,11,(-3)] (by simp)
    refine⟨p',a',b',d',q5,h5,Ev.bindv ed (Ev.bind e2 (Ev.bindv e3 (Ev.bindv e4 ?_))),S5⟩
    simp only[if_pos c0]
    exact Ev.bindv e5 (Ev.now _)
  · refine⟨p,a',b',d',q4,h4,Ev.bindv ed (Ev.bind e2 (Ev.bindv e3 (Ev.bindv e4 ?_))),S4⟩
    simp only[if_neg c0]
    exact Ev.now _
theorem word_l1 (C:List Int) (q h:Int) (d:Nat):∀xs:List Int,41≤xs.length+2*d→xs.length≤100→∃s,Ev (fun k=>spec_l10Word.l1 k xs C q h) (s,q,h)∧s.size≤200:=by
  induction d with
  |zero=>
   intro xs hx hl
   refine⟨strOfNums xs,Ev.up ?_,by rw[strOfNums_size];omega⟩
   simp only[spec_l10Word.l1,if_neg (show ¬(xs.length:Int)≤40 by omega)];exact Ev.now _
  |succ d ih=>
   intro xs hx hl
   by_cases h40: (xs.length:Int)≤40
   · obtain⟨s,e,hs⟩:=ih (xs++[48,117]) (by simp;omega) (by simp;omega)
     refine⟨s,Ev.up ?_,hs⟩
     simp only[spec_l10Word.l1,if_pos h40,Option.bind_some,if_pos (show xs.length+[(48:Int),117].length<140737488355328 by simp;omega)]
     exact e
   · refine⟨strOfNums xs,Ev.up ?_,by rw[strOfNums_size];omega⟩
     simp only[spec_l10Word.l1,if_neg h40];exact Ev.now _
theorem word_l0 (p:Int) {C:List Int} (n:Nat):∀(xs:List Int) (m q h:Int),okS C q→m≤n→ -9223372036854775000≤m→n≤300→xs.length+n≤20→∃s q' h',Ev (fun k=>spec_l10Word.l0 k p xs m C q h) (s,q',h')∧okS C q'∧s.size≤200:=by
  have fin:∀(xs:List Int) (m q h:Int),okS C q→m≤0→xs.length≤20→∃s q' h',Ev (fun k=>spec_l10Word.l0 k p xs m C q h) (s,q',h')∧okS C q'∧s.size≤200:=by
    intro xs m q h S hm hx
    obtain⟨v,q1,h1,e1,S1,_⟩:=next_ok S h 40
    by_cases c0:v=0
    · refine⟨strOfNums xs++⟨#[57]⟩,q1,h1,Ev.up ?_,S1,by rw[ByteArray.size_append,strOfNums_size];show xs.length+1≤200;omega⟩
      simp only[spec_l10Word.l0,if_neg (show ¬m>0 by omega),e1,Option.bind_some,if_pos c0,strOfNums_size,if_pos (show xs.length+1≤9223372036854775807 by omega)]
      exact Ev.now _
    by_cases c1:v=1
    · obtain⟨s,e,hs⟩:=word_l1 C q1 h1 21 xs (by omega) (by omega)
      refine⟨s,q1,h1,Ev.up ?_,S1,hs⟩
      simp only[spec_l10Word.l0,if_neg (show ¬m>0 by omega),e1,Option.bind_some,if_neg c0,if_pos c1]
      exact e
    · refine⟨strOfNums xs,q1,h1,Ev.up ?_,S1,by rw[strOfNums_size];omega⟩
      simp only[spec_l10Word.l0,if_neg (show ¬m>0 by omega),e1,Option.bind_some,if_neg c0,if_neg c1]
      exact Ev.now _
  induction n with
  |zero=>intro xs m q h S hm _ _ hx;exact fin xs m q h S (by omega) (by omega)
  |succ n ih=>
   intro xs m q h S hm hlo hn hx
   by_cases h0:m>0
   · obtain⟨v,q1,h1,e1,S1,_⟩:=next_ok S h 3
     by_cases c0:v=0
     · obtain⟨s,q',h',e,S',hs⟩:=ih (xs++[117]) (m - 1) q1 h1 S1 (by omega) (by omega) (by omega) (by simp;omega)
       refine⟨s,q',h',Ev.up ?_,S',hs⟩
       simp only[spec_l10Word.l0,if_pos h0,e1,Option.bind_some,if_pos c0,if_pos (show xs.length<140737488355328 by omega)]
       rw[wid (n:=m - 1) (by omega) (by omega)]
       exact e
     · obtain⟨v2,q2,h2,e2,S2,_⟩:=next_ok S1 h1 (mn (mx p 1) 9)
       obtain⟨s,q',h',e,S',hs⟩:=ih (xs++[(wrap64 (48+v2))%256]) (m - 1) q2 h2 S2 (by omega) (by omega) (by omega) (by simp;omega)
       refine⟨s,q',h',Ev.up ?_,S',hs⟩
       simp only[spec_l10Word.l0,if_pos h0,e1,e2,Option.bind_some,if_neg c0,if_pos (show xs.length<140737488355328 by omega)]
       rw[wid (n:=m - 1) (by omega) (by omega)]
       exact e
   · exact fin xs m q h S (by omega) (by omega)
theorem word_ok {C:List Int} {q:Int} (S:okS C q) (h p:Int):∃s q' h',Ev (fun k=>spec_l10Word.f k C q h p) (s,q',h')∧okS C q'∧s.size≤200:=by
  obtain⟨v1,q1,h1,e1,S1,a1,b1⟩:=next_ok S h 5
  obtain⟨v2,q2,h2,e2,S2,a2,b2⟩:=next_ok S1 h1 9
  obtain⟨n,q3,h3,e3,S3,m3⟩:=pick_in S2 h2 [v1,v2] (by simp)
  have hn:0≤n∧n≤9:=by
    have:=b1 (by omega)
    have:=b2 (by omega)
    simp only[List.mem_cons,List.not_mem_nil,or_false] at m3
    omega
  obtain⟨s,q',h',e,S',hs⟩:=word_l0 p 9 [] n q3 h3 S3 (by omega) (by omega) (by omega) (by simp)
  refine⟨s,q',h',?_,S',hs⟩
  unfold spec_l10Word.f
  exact Ev.bindv e1 (Ev.bindv e2 (Ev.bindv e3 e))
theorem drawFollow_ok {c:List Int} (hb:∀x∈c,0≤x∧x≤255) (hl:c.length≤5000):∃p a b d s,Ev (fun k=>spec_DrawFollowSteps.f k c) (p,a,b,d,s)∧s.size≤200:=by
  obtain⟨h,e⟩:=from_ok hb hl
  obtain⟨p,a,b,d,q1,h1,e1,S1⟩:=spoil_ok (c:=c) (q:=0) ⟨hb,hl,by omega⟩ h
  obtain⟨s,q2,h2,e2,S2,hs⟩:=word_ok S1 h1 p
  refine⟨p,a,b,d,s,?_,hs⟩
  unfold spec_DrawFollowSteps.f
  exact Ev.bind e (Ev.bind e1 (Ev.bind e2 (Ev.now _)))
theorem toList_loop (s:ByteArray) (n:Nat):∀(i:Nat) (r:List UInt8),i+n=s.size→ByteArray.toList.loop s i r=r.reverse++s.data.toList.drop i:=by
  induction n with
  |zero=>
   intro i r h
   unfold ByteArray.toList.loop
   rw[if_neg (by omega),List.drop_of_length_le (by rw[Array.length_toList];show s.size≤i;omega),List.append_nil]
  |succ n ih=>
   intro i r h
   unfold ByteArray.toList.loop
   have hi:i<s.data.size:=by show i<s.size;omega
   rw[if_pos (by omega),ih (i+1) _ (by omega),List.reverse_cons,List.append_assoc]
   congr 1
   rw[List.drop_eq_getElem_cons (l:=s.data.toList) (i:=i) (by rw[Array.length_toList];exact hi),List.singleton_append]
   congr 1
   rw[Array.getElem_toList]
   show s.data[i]! =_
   exact getElem!_pos s.data i hi
theorem toList_inj {s t:ByteArray} (h:s.toList=t.toList):s=t:=by
  unfold ByteArray.toList at h
  rw[toList_loop s s.size 0 [] (by omega),toList_loop t t.size 0 [] (by omega)] at h
  simp only[List.reverse_nil,List.nil_append,List.drop_zero] at h
  have h2:s.data=t.data:=Array.toList_inj.1 h
  cases s;cases t;simp only at h2;rw[h2]
theorem drawTri_ok {C:List Int} (hb:∀x∈C,0≤x∧x≤255) (hl:C.length≤5000):∃p a b c d,Ev (fun k=>spec_DrawTriangularPart.f k C) (p,a,b,c,d):=by
  obtain⟨h0,e0,S0⟩:=from_ok2 hb hl
  obtain⟨p,x,y,z,q1,h1,e1,S1⟩:=spoil_ok S0 h0
  obtain⟨v,q2,h2,e2,S2,_⟩:=next_ok S1 h1 3
  obtain⟨g,q3,h3,e3,S3⟩:=matDraw_ok S2 h2
  refine⟨p,g.a,g.b,g.c,g.d,?_⟩
  unfold spec_DrawTriangularPart.f spec_l04With.f
  by_cases hv:v=0
  · refine Ev.bind (a:=(p,g.a,g.b,g.c,g.d,0,0,0)) ?_ (Ev.now _)
    refine Ev.bind e0 (Ev.bind e1 (Ev.bindv e2 ?_))
    simp only[if_pos hv]
    exact Ev.bind e3 (Ev.now _)
  · refine Ev.bind (a:=(p,g.a,g.b,g.c,g.d,x,y,z)) ?_ (Ev.now _)
    refine Ev.bind e0 (Ev.bind e1 (Ev.bindv e2 ?_))
    simp only[if_neg hv]
    exact Ev.bind e3 (Ev.now _)
theorem mosL_ok {p:Int} (cs:List Int):∀(A G:M4),A.ok=true→mosL p cs A=some G→G.ok=true:=by
  induction cs with
  |nil=>intro A G hA h;simp only[mosL,Option.some.injEq] at h;rw[←h];exact hA
  |cons c cs ih=>
   intro A G hA h
   unfold mosL at h
   by_cases hk: (A.mul (letM p c)).red.ok=true
   · rw[if_pos hk] at h;exact ih _ _ hk h
   · rw[if_neg hk] at h;cases h
theorem multiply_ev {g h:M4} (hg:g.ok=true) (hh:h.ok=true):Ev (fun k=>impl_MultiplyMatrices.f k g.a g.b g.c g.d h.a h.b h.c h.d) (if (g.mul h).red.ok=true then((g.mul h).red.a,(g.mul h).red.b,(g.mul h).red.c,(g.mul h).red.d,0) else(0,0,0,0,3)):=by
  unfold impl_MultiplyMatrices.f
  have ha:=impl_areMatrices_ev [(⟨⟨g.a,g.b⟩,⟨g.c,g.d⟩⟩:S28),⟨⟨h.a,h.b⟩,⟨h.c,h.d⟩⟩] (by simp)
  have e:[(⟨⟨g.a,g.b⟩,⟨g.c,g.d⟩⟩:S28),⟨⟨h.a,h.b⟩,⟨h.c,h.d⟩⟩].all (fun x=>(m4 x).ok)=true:=by
    simp only[List.all_cons,List.all_nil,Bool.and_true,Bool.and_eq_true]
    exact⟨hg,hh⟩
  rw[e] at ha
  refine Ev.bind ha ?_
  simp only[if_true]
  refine Ev.bind (impl_product_ev hg hh) ?_
  unfold impl_fittedMatrix.f
  cases hx: (g.mul h).red.ok<;>simp<;>exact Ev.now _
theorem reduce_ev {a b c d:Int} (hg:matB a b c d=true):Ev (fun k=>impl_ReduceMatrix.f k a b c d) ((M4.mk a b c d).red.a,(M4.mk a b c d).red.b,(M4.mk a b c d).red.c,(M4.mk a b c d).red.d,0):=by
  unfold impl_ReduceMatrix.f
  have im:=impl_IsMatrix_ev a b c d
  rw[hg] at im
  have hok: (M4.mk a b c d).ok=true:=hg
  obtain⟨b1,b2,b3,b4⟩:=M4.bd62s hok
  refine Ev.bind im ?_
  simp only[if_true]
  exact Ev.bind (impl_reduce_ev b1 b2 b3 b4 (M4.row_ne (M4.ok_det hok))) (Ev.now _)
theorem word_moves {p:Int} {s:ByteArray} (hs:s.size≤200) (h0: (mosR p s).2.2.2.2=0) (hn: (nrmR p s).1.toList=s.toList):
    ∃r,Ev (fun k=>impl_MoveBall.f k p (mosR p s).1 (mosR p s).2.1 (mosR p s).2.2.1 (mosR p s).2.2.2.1 0 0 0) r∧((folR p 0 0 0 s).2.2.2=0→r=folR p 0 0 0 s):=by
  by_cases hc:stepsCodeW p 0 0 0 s=0
  case neg=>unfold mosR at h0;rw[if_neg hc] at h0;exact absurd h0 hc
  obtain⟨hb,hst⟩:=code_0 hc
  have hp:=(ball_parts hb).1
  have hp2:=prime_lo hp
  obtain⟨z1,z2⟩:=steps_ltrs hst
  have eM:mosR p s=(match mosL p (ltrs s) M4.one with|some G=>(G.a,G.b,G.c,G.d,0)|none=>(0,0,0,0,3)):=by
    unfold mosR;rw[if_pos hc,mosW_eq p s s.size 0 M4.one (by omega),List.drop_zero]
  cases hL:mosL p (ltrs s) M4.one with
  |none=>rw[hL] at eM;rw[eM] at h0;cases h0
  |some G=>
  rw[hL] at eM
  rw[eM]
  simp only
  have hG:G.ok=true:=mosL_ok _ _ _ (by decide) hL
  have hv: (primeB p&&matB G.a G.b G.c G.d)=true:=by rw[Bool.and_eq_true];exact⟨hp,hG⟩
  obtain⟨r,ev,_⟩:=whole_parts hp hG
  refine⟨_,moveB_ev hv ev,fun hf=>?_⟩
  have eF:folR p 0 0 0 s=folE (folL p (ltrs s) ⟨0,0,0⟩):=by unfold folR;rw[if_pos hc]
  cases hfo:folL p (ltrs s) (⟨0,0,0⟩:S42) with
  |none=>rw[eF,hfo] at hf;cases hf
  |some e=>
  rw[eF,hfo]
  have eN:nrmR p s=(strOfNums (nrm [] (ltrs s)),0):=by unfold nrmR;rw[if_pos hc]
  rw[eN] at hn
  have hs2:strOfNums (nrm [] (ltrs s))=s:=toList_inj hn
  have hmem:=nrm_mem (fun c=>stepB p c=true) (ltrs s) [] (fun c hc=>absurd hc List.not_mem_nil) z2
  have hlen: (nrm [] (ltrs s)).length≤40:=by
    have:=nrm_len (ltrs s) []
    rw[ltrs_len,List.length_nil] at this;omega
  obtain⟨_,m2⟩:=steps_str hp hlen hmem
  have hgood:goodN (ltrs s):=by
    have g:goodN (nrm [] (ltrs s)):=nrm_good _ _ (fun i hi=>absurd hi (by simp))
    rw[←m2] at g
    rw[hs2] at g
    exact g
  have h1:triN p 0 0 0=M4.one:=by unfold triN M4.one;rw[Int.pow_zero]
  obtain⟨a',j,c,k1,k0,k2,k3,k4⟩:=mosL_norm hp G e (ltrs s) 0 (by omega) hgood z2 (by rw[h1,M4.one_red];exact hL) hfo
  have hpj:=pow_13 hp j (by omega)
  have hbig: -20000000000≤c∧c≤20000000000:=by omega
  have ev2:=tri_moves hp k1 k2 (by rw[←k3];exact hG) hbig
  rw[←k3,←k4] at ev2
  have er:=Ev.det ev ev2
  rw[er]
  rfl
theorem FnParts:laws_FnParts.Pure:=by
  intro l0 _ _ hwf
  refine Ev.rounds ?_
  unfold laws_FnParts.f laws_big.f
  simp only[Option.bind_some]
  by_cases hbig: (l0.length:Int)>4096
  · rw[decide_eq_true hbig];simp only[if_true];exact Ev.now _
  rw[decide_eq_false hbig]
  simp only[Bool.false_eq_true,if_false]
  have hb:∀x∈l0,0≤x∧x≤255:=by
    intro x hx
    have:=hwf x hx
    simp only[Lit.wf,Bool.and_eq_true,decide_eq_true_eq] at this
    exact⟨this.1,this.2⟩
  have hl5:l0.length≤5000:=by omega
  obtain⟨p,x,y,z,s,e1,hs⟩:=drawFollow_ok hb hl5
  obtain⟨q,a,b,c,d,e2⟩:=drawTri_ok hb hl5
  have ed:Ev (fun k=>spec_DrawMatrixOfSteps.f k l0) (p,s):=by
    unfold spec_DrawMatrixOfSteps.f spec_DrawNormalSteps.f
    exact Ev.bind (Ev.bind e1 (Ev.now _)) (Ev.now _)
  obtain⟨m1,m2⟩:=mos_both p s (by omega)
  refine Ev.bind ed (Ev.bind m2 (Ev.bind m1 ?_))
  simp only[if_true,beq_self_eq_true,Bool.not_true,Bool.or_self]
  obtain⟨tr,un,st,di,⟨t1,t2⟩,⟨u1,u2⟩,⟨s1,s2⟩,d1,d2,s3,u3,u4⟩:=parts_both q a b c d
  obtain⟨i1,i2⟩:=isUnit_both q a b c d
  obtain⟨p1,p2⟩:=pos_both q a b c d
  refine Ev.up ?_
  simp only[laws_FnParts.j0,Bool.false_eq_true,if_false]
  refine Ev.bind e2 (Ev.bind t2 (Ev.bind t1 ?_))
  simp only[if_true,beq_self_eq_true,Bool.not_true,Bool.or_self]
  refine Ev.up ?_
  simp only[laws_FnParts.j1,Bool.false_eq_true,if_false]
  refine Ev.bind u2 (Ev.bind u1 ?_)
  simp only[if_true,beq_self_eq_true,Bool.not_true,Bool.or_self]
  refine Ev.up ?_
  simp only[laws_FnParts.j2,Bool.false_eq_true,if_false]
  refine Ev.bind i2 (Ev.bind i1 ?_)
  simp only[if_true,bne_self_eq_false]
  refine Ev.up ?_
  simp only[laws_FnParts.j3,Bool.false_eq_true,if_false]
  refine Ev.bind p2 (Ev.bind p1 ?_)
  simp only[if_true,bne_self_eq_false]
  refine Ev.up ?_
  simp only[laws_FnParts.j4,Bool.false_eq_true,if_false]
  refine Ev.bind s2 (Ev.bind s1 ?_)
  simp only[if_true,bne_self_eq_false]
  refine Ev.up ?_
  simp only[laws_FnParts.j5,Bool.false_eq_true,if_false]
  refine Ev.bind (spec_Normal_ev p s hs) ?_
  have j9:Ev (fun k=>laws_FnParts.j9 k q tr.2.2.2.2 un.2.2.2.2 false a b c d tr.1 tr.2.1 tr.2.2.1 tr.2.2.2.1 un.1 un.2.1 un.2.2.1 un.2.2.2.1) true:=by
    refine Ev.up ?_
    simp only[laws_FnParts.j9,Bool.false_eq_true,if_false]
    by_cases h0:un.2.2.2.2=0
    · simp only[if_pos h0]
      obtain⟨v1,v2,v3,v4,v5,v6⟩:=u4 h0
      rw[Bool.and_eq_true] at v1
      have iu:=(isUnit_both q un.1 un.2.1 un.2.2.1 un.2.2.2.1).2
      rw[v1.1,v3,v4] at iu
      have hm:=multiply_ev (g:=M4.mk tr.1 tr.2.1 tr.2.2.1 tr.2.2.2.1) (h:=M4.mk un.1 un.2.1 un.2.2.1 un.2.2.2.1) v5 v3
      rw[v6,M4.red_ok (show (M4.mk a b c d).ok=true from v1.2)] at hm
      refine Ev.bind iu (Ev.bind hm (Ev.bind (reduce_ev v1.2) ?_))
      simp[v2]
      exact Ev.now _
    · simp only[if_neg h0]
      obtain⟨v1,v2,v3,v4⟩:=u3 h0
      rw[v1,v2,v3,v4]
      exact Ev.now _
  have j8:∀P:Int,(st.2=0→P=(val q (M4.mk a b c d).red.det:Int))→Ev (fun k=>laws_FnParts.j8 k q tr.2.2.2.2 un.2.2.2.2 P st.1 st.2 a b c d tr.1 tr.2.1 tr.2.2.1 tr.2.2.2.1 un.1 un.2.1 un.2.2.1 un.2.2.2.1) true:=by
    intro P hP
    refine Ev.up ?_
    simp only[laws_FnParts.j8]
    by_cases h0:st.2=0
    · simp only[if_pos h0]
      rw[(s3 h0).2,hP h0,bne_self_eq_false]
      exact j9
    · simp only[if_neg h0];exact j9
  have j7:Ev (fun k=>laws_FnParts.j7 k q tr.2.2.2.2 un.2.2.2.2 (if (primeB q&&matB a b c d)=true then((val q (M4.mk a b c d).red.det:Int)==0,(0:Int)) else(false,1)).1 (if (primeB q&&matB a b c d)=true then((val q (M4.mk a b c d).red.det:Int),(0:Int)) else(0,1)).1 (if (primeB q&&matB a b c d)=true then((val q (M4.mk a b c d).red.det:Int),(0:Int)) else(0,1)).2 st.1 st.2 a b c d tr.1 tr.2.1 tr.2.2.1 tr.2.2.2.1 un.1 un.2.1 un.2.2.1 un.2.2.2.1) true:=by
    refine Ev.up ?_
    simp only[laws_FnParts.j7]
    cases hv: (primeB q&&matB a b c d) with
    |false=>
     simp only[Bool.false_eq_true,if_false,if_neg (show ¬(1:Int)=0 by decide)]
     exact j8 0 (fun h=>by rw[hv] at s3;exact absurd (s3 h).1 (by simp))
    |true=>
     rw[hv] at d2
     simp only[if_true]
     refine Ev.bind d1 ?_
     by_cases h0:di.2=0
     · simp only[if_pos h0,if_pos (d2 rfl h0),bne_self_eq_false,Bool.false_eq_true,if_false]
       exact j8 _ (fun _=>rfl)
     · simp only[if_neg h0,bne_self_eq_false,Bool.false_eq_true,if_false]
       exact j8 _ (fun _=>rfl)
  have j6:∀t:Bool,(t=true→(mosR p s).2.2.2.2=0∧(nrmR p s).1.toList=s.toList)→Ev (fun k=>laws_FnParts.j6 k p s q tr.2.2.2.2 un.2.2.2.2 (if (primeB q&&matB a b c d)=true then((val q (M4.mk a b c d).red.det:Int)==0,(0:Int)) else(false,1)).1 (if (primeB q&&matB a b c d)=true then((val q (M4.mk a b c d).red.det:Int),(0:Int)) else(0,1)).1 (if (primeB q&&matB a b c d)=true then((val q (M4.mk a b c d).red.det:Int),(0:Int)) else(0,1)).2 st.1 st.2 t (mosR p s).1 (mosR p s).2.1 (mosR p s).2.2.1 (mosR p s).2.2.2.1 a b c d tr.1 tr.2.1 tr.2.2.1 tr.2.2.2.1 un.1 un.2.1 un.2.2.1 un.2.2.2.1) true:=by
    intro t ht
    refine Ev.up ?_
    simp only[laws_FnParts.j6]
    cases t with
    |false=>simp only[Bool.false_eq_true,if_false];exact j7
    |true=>
     simp only[if_true]
     obtain⟨h1,h2⟩:=ht rfl
     obtain⟨r,r1,r2⟩:=word_moves hs h1 h2
     refine Ev.bind r1 (Ev.bind (impl_Follow_ev p 0 0 0 s hs) ?_)
     by_cases h0: (folR p 0 0 0 s).2.2.2=0
     · rw[r2 h0]
       simp only[if_pos h0,beq_self_eq_true,Bool.not_true,Bool.or_self,Bool.false_eq_true,if_false]
       exact j7
     · simp only[if_neg h0];exact j7
  by_cases h0: (mosR p s).2.2.2.2=0
  · simp only[if_pos h0]
    exact j6 _ (fun h=>⟨h0,by simpa using h⟩)
  · simp only[if_neg h0]
    exact j6 _ (fun h=>by cases h)
end Go.Proofs.YtblmdppbbdbbjabGreat.Pure
