/-
  Part of the proof of DrawMoves.
-/
import Derived.Test.YtokjddaclakenaaGreatDoorHa
set_option maxRecDepth 100000
set_option maxHeartbeats 20000000
set_option linter.all false
open Go Go.RowKit Go.Proofs Go.Proofs.Tryz
namespace Trn
section
variable{r:Int×asv Int}{x y z:Int}{s:Int×asv Int}{l:asv Int}{k n:Nat}
def ZA(h:l.length=k+3):aL l=aL (l.take k)+ie k*(l.getD k 0+BB*(l.getD (k+1) 0+BB*l.getD (k+2) 0)):=by
 have h1:aL (l.take<|k+3)=aL l:=by rw[fe (by omega)]
 rw[<-h1,bo,bo,bo,jY<|k+1,jY,bC,bC,bC,iU (ie k) BB,iU (ie k) BB,iU (ie k) BB,fp,fp,fp];omega
def ZB(h:l.length=k+2):aL l=aL (l.take k)+ie k*(l.getD k 0+BB*l.getD (k+1) 0):=by
 have h1:aL (l.take<|k+2)=aL l:=by rw[fe (by omega)]
 rw[<-h1,bo,bo,jY,bC,iU (ie k) BB,fp];omega
def toNat_succ'(n:Nat):(((n:Nat):Int)+1).toNat=n+1:=by omega
def acz{u v:asv Int}(hu:okW u)(hv:okW v)(WV:u.length=k+3)(WT:v.length=k+2)(hk:k<2199023255552)(aax:BB<=2*v.getD (k+1) 0)(hlt:aL u<BB*aL v):
  Yd (fun r=>okW r.1/\r.1.length=k+3/\(0<=r.2/\r.2<BB)/\aL u=r.2*aL v+aL r.1/\aL r.1<aL v) (Cz u v):=by
 unfold Cz;have eU:=ZA WV;have eV:=ZB WT;obtain⟨bU0,bU1⟩:=dU<|mV hu k
 obtain⟨bV0,bV1⟩:=dU<|mV hv k
 rw[List.length_take,fW (by omega)] at bU1 bV1;have hP:=oy k;have hu0:=fu hu k;have hu1:=fu hu<|k+1
 have hu2:=fu hu<|k+2
 have L7:=fu hv k;have hv1:=fu hv<|k+1
 have hVP:0<=aL v:=(dU hv).1;have hU0:0<=aL u:=(dU hu).1;have e1:((v.length:Int)-1)=((k+1:Nat):Int):=by omega
 have e2:((v.length:Int)-2)=((k:Nat):Int):=by omega
 have e0:(v.length:Int)=((k+2:Nat):Int):=by omega
 rw[e1,e2,e0];have gA:∀{l:asv Int},l.length=k+3->bj l ((k+2:Nat):Int)=some (l.getD (k+2) 0):=fun h=>b9 (by omega)
 refine Yd.bd (gA WV) (Yd.bd (gA WV) (Yd.bd (aM ⟨by omega,by omega⟩) (Yd.bd (b9 (by omega)) ?_)));have hV:aL v<ie (k+2):=by have:=(dU hv).2;rw[WT] at this;exact this
 refine Yd.jn (fun s:Int×Int×Int=>(0<=s.1/\s.1<BB)/\(0<=s.2.1/\s.2.1<BB)/\(s.2.2=0\/s.2.2=1)/\s.1*v.getD (k+1) 0+(s.2.1+BB*s.2.2)=u.getD (k+1) 0+BB*u.getD (k+2) 0/\aL u<(s.1+1)*aL v) ?_ ?_
 rotate_left
 ·intro PN al7;refine Yd.cond (fun hc=>?_)<|fun hc=>?_
  ·have hc:=bg hc;obtain⟨r,d,a1,a2,a3,a4,a5⟩:=F1 (X:=u.getD (k+1) 0) (Y:=v.getD (k+1) 0) (c:=0) hu1 hv1<| .inl rfl
   refine Yd.bd (aM ⟨by omega,by omega⟩) (Yd.bd (b9 (by omega)) (Yd.bd (b9 (by omega)) (Yd.bd (aM ⟨by omega,by omega⟩) (Yd.bd (b9 (by omega))<|Yd.bd a1 ?_))));have ahA:u.getD (k+2) 0<=v.getD (k+1) 0:=aiW hP bU0 hu0.1 hu1.1 bV1 L7.2 (by rw[<-eU,<-eV];exact hlt);refine al7 _ ⟨⟨by dsimp only;omega,by dsimp only;unfold BB;omega⟩,⟨a2,a3⟩,a4,?_,?_⟩
   ·dsimp only;unfold BB at*;omega
   ·dsimp only;exact hlt
  ·have hc:=bV hc;refine Yd.bd (gA WV) (Yd.bd (gA WV) (Yd.bd (aM ⟨by omega,by omega⟩) (Yd.bd (b9 (by omega)) (Yd.bd (b9 (by omega)) (Yd.bd (aM ⟨by omega,by omega⟩) (Yd.bd (b9 (by omega)) ?_))))));refine Yd.kD (Rj ⟨hu2.1,by omega⟩ hu1 hv1.2) ?_;rintro⟨q,r⟩ ⟨d1,d2,d3⟩;dsimp only at d1 d2 d3⊢;have ee:q*v.getD (k+1) 0+r=u.getD (k+1) 0+BB*u.getD (k+2) 0:=by rw[Int.mul_comm BB];omega
   refine al7 _ ⟨d1,⟨d2.1,by dsimp only;omega⟩,.inl rfl,by dsimp only;omega,?_⟩;dsimp only;have:=YB hP bU1 bV0 (show 0<=q+1 by omega)<|agm ee d2.2 hu0.2 d1.1 L7.1
   rw[<-eU,<-eV] at this;exact this
 rintro⟨q1,r1,c1⟩ ⟨s1,s2,s3,s4,s5⟩;dsimp only at s1 s2 s3 s4 s5⊢;refine Yd.jn (fun q:Int=>(0<=q/\q<BB)/\(q-1)*aL v<=aL u/\aL u<(q+1)*aL v) ?_ ?_
 rotate_left
 ·intro k41 apl;refine Yd.lp (fun s:Int×Int×Int=>(0<=s.1/\s.1<BB)/\(0<=s.2.1/\s.2.1<BB)/\(s.2.2=0\/s.2.2=1)/\s.1*v.getD (k+1) 0+(s.2.1+BB*s.2.2)=u.getD (k+1) 0+BB*u.getD (k+2) 0/\aL u<(s.1+1)*aL v)
   (fun s:Int×Int×Int=>s.1.toNat) ?_ _ _ ⟨s1,s2,s3,s4,s5⟩ (by dsimp only;unfold BB at*;omega)
  rintro next ⟨q,r,c⟩ ⟨h1,h2,h3,h4,h5⟩ hn
  dsimp only at h1 h2 h3 h4 h5 hn⊢;have fin:(BB<=r+BB*c\/q*v.getD k 0<=BB*(r+BB*c)+u.getD k 0)->Yd _ (k41 q):=fun hh=>by
   refine apl q ⟨h1,?_,h5⟩;have:=agn (P:=ie k) (UL:=aL<|u.take k) (VL:=aL<|v.take k) h4 h1 (by unfold BB at*;omega) L7 hu0.1 aax hh hP bU0 bV1 bV0;rw[<-eU,<-eV] at this;exact this
  refine Yd.cond (fun hc=>?_)<|fun hc=>?_
  ·have hc:=bg hc;subst hc;obtain⟨hi,lo,m1,m2,m3,m4,m5,m6⟩:=MD h1 L7;refine Yd.bd (aM ⟨by omega,by omega⟩) (Yd.bd (b9 (by omega))<|Yd.bd m1 ?_);have key:Yd (fun r=>okW r.1/\r.1.length=k+3/\(0<=r.2/\r.2<BB)/\aL u=r.2*aL v+aL r.1/\aL r.1<aL v)
     (cond (((decide<|hi<r)||((decide<|hi=r)&&(decide<|lo<=u.getD k 0)))) (
     k41 q
    ) (
     bd (aF ((k+1:Nat):Int)) fun Mj=>
     bd (bj v Mj) fun Tv=>
     bd (oE r Tv (0:Int)) fun DT=>
     next (wr .u64<|q-(1:Int),DT.1,DT.2)
    )):=by
    refine Yd.cond (fun hd=>?_)<|fun hd=>?_
    ·refine fin (.inr ?_);rw[m6];rw[qd,cW,j4,j4,j4] at hd;unfold BB at*;omega
    ·have JK:BB*r+u.getD k 0<q*v.getD k 0:=by
      rw[m6];rw[zL,Bool.and_eq_false_iff,lq,lq,lq] at hd;unfold BB at*;omega
     obtain⟨z,d,a1,a2,a3,a4,a5⟩:=F1 (X:=r) (Y:=v.getD (k+1) 0) (c:=0) h2 hv1<| .inl rfl
     refine Yd.bd (aM ⟨by omega,by omega⟩) (Yd.bd (b9 (by omega))<|Yd.bd a1 ?_);have hUq:=YB hP bU1 bV0 h1.1 (agl (q:=q) (r:=r) (v1:=v.getD (k+1) 0) (U2:=u.getD (k+1) 0+BB*u.getD (k+2) 0) (by omega) JK);rw[<-eU,<-eV] at hUq;have hq1:1<=q:=by
      rcases(show 1<=q\/q=0 by omega) with h|h
      ·exact h
      ·rw[h,Jm] at hUq;omega
     have ew:wr .u64 (q-1)=q-1:=PW ⟨by omega,by omega⟩;rw[ew];refine hn _ ⟨⟨by dsimp only;omega,by dsimp only;omega⟩,⟨a2,a3⟩,a4,?_,?_⟩ (by dsimp only;omega)
     ·dsimp only;rw[Int.sub_mul,Int.one_mul];omega
     ·dsimp only;rw[show q-1+1=q from by omega];exact hUq
   have gO:∀{g:Bool} {e:auz Int} {x:Int} {K:Int->auz (asv Int×Int)} {R:asv Int×Int->Prop},e=some x->(g=true->Yd R (K x))->(g=false->Yd R (K 0))->Yd R (fT g 0 e K):=fun h a b=>Yd.fT (fun hg=>⟨_,h,a hg⟩) b
   refine gO (aM ⟨by omega,by omega⟩) (fun hg=>gO (b9 (by omega)) (fun rD=>gO (b9 (by omega)) (fun hg2=>key) (fun h=>by rw[hg] at h;cases h)) (fun h=>by rw[hg] at h;cases h))<|fun hg=>?_
   refine Yd.fT (fun h=>by rw[hg] at h;cases h) (fun _=>Yd.fT (fun h=>by rw[hg] at h;cases h)<|fun _=>?_);have hgd:(decide (hi<r)||(decide (hi=r)&&decide (lo<=(0:Int))))=(decide (hi<r)||(decide (hi=r)&&decide (lo<=u.getD k 0))):=by
    cases ha:decide (hi<r)
    ·cases hb:decide (hi=r)
     ·rfl
     ·rw[ha,hb] at hg;exact absurd hg (by decide)
    ·rfl
   dsimp only at hgd⊢;rw[hgd];exact key
  ·have hc:=bV hc;have hc1:c=1:=by rcases h3 with h|h;exact absurd h hc;exact h
   exact fin (.inl (by rw[hc1];omega))
 rintro q ⟨hq,apb,ao9⟩;refine Yd.lp (fun s:asv Int×Int×Int×Int=>okW s.1/\s.1.length=k+3/\(s.2.1=0\/s.2.1=1)/\(0<=s.2.2.1/\s.2.2.1<BB)/\0<=s.2.2.2/\s.2.2.2<=(k+2:Nat)/\(∀m,s.2.2.2.toNat<=m->s.1.getD m 0=u.getD m 0)/\
   aL (u.take s.2.2.2.toNat)-q*aL (v.take s.2.2.2.toNat)=aL (s.1.take s.2.2.2.toNat)-ie s.2.2.2.toNat*(s.2.2.1+s.2.1))
  (fun s:asv Int×Int×Int×Int=>k+2-s.2.2.2.toNat) ?_ _ _ ⟨hu,WV,.inl rfl,⟨by dsimp only;omega,by dsimp only;unfold BB;omega⟩,by dsimp only;omega,by dsimp only;omega,fun _ _=>rfl,by simp[aL]⟩ (by dsimp only;omega)
 rintro next ⟨p,b,c,i⟩ ⟨h1,h2,h3,h4,h5,h6,h7,h8⟩ hn
 dsimp only at h1 h2 h3 h4 h5 h6 h7 h8 hn⊢;obtain⟨n,rfl⟩:=gQ h5;simp only[Int.toNat_natCast,ur] at*;refine Yd.cond (fun hc=>?_)<|fun hc=>?_
 ·have hc:=bg hc;obtain⟨hi,lo,m1,m2,m3,m4,m5,m6⟩:=MD hq<|fu hv n
  obtain⟨z,d,a1,a2,a3,a4,a5⟩:=F1 (X:=lo) (Y:=c) (c:=0) ⟨m4,m5⟩ h4<| .inl rfl
  obtain⟨y,b',b1,b2,b3,b4,b5⟩:=RT (X:=p.getD n 0) (Y:=z) (c:=b) (fu h1 n) ⟨a2,a3⟩ h3;refine Yd.bd (b9 (by omega)) (Yd.bd m1 (Yd.bd a1 (Yd.bd (b9 (by omega)) (Yd.bd (b9 (by omega)) (Yd.bd b1 (Yd.bd (b9 (by omega)) (Yd.bd (b9 (by omega)) (Yd.bd (aM ⟨by omega,by omega⟩) ?_))))))));have ew:wr .u64 (hi+d)=hi+d:=PW ⟨by omega,by unfold BB at*;omega⟩;dsimp only;rw[ew];refine hn _ ⟨mW h1 _ ⟨b2,b3⟩,by simpa using h2,b4,⟨by dsimp only;omega,by dsimp only;unfold BB at*;omega⟩,by dsimp only;omega,by dsimp only;omega,?_,?_⟩ (by dsimp only;omega)
  ·intro m hm;dsimp only at hm⊢;rw[getD_set_ne (by omega)];exact h7 m (by omega)
  ·simp only[toNat_succ',Int.toNat_natCast];rw[bo u,bo v,bo,dK<|bG _,dR (by omega),<-h7 n (bG _),jY];have k1:q*(aL (v.take n)+ie n*v.getD n 0)=q*aL (v.take n)+ie n*(q*v.getD n 0):=by rw[bC,iU q]
   have k2:ie n*(p.getD n 0)-ie n*(q*v.getD n 0)-ie n*(c+b)=ie n*y-BB*ie n*(hi+d+b'):=by
    rw[Int.mul_comm BB,fp,<-mK,<-mK,<-mK]
    congr 1
    unfold BB at*;omega
   rw[k1];omega
 ·have hc:=bV hc;have Lx:n=k+2:=by omega
  subst Lx;obtain⟨y,b',b1,b2,b3,b4,b5⟩:=RT (X:=p.getD (k+2) 0) (Y:=c) (c:=b) (fu h1 _) h4 h3;refine Yd.bd (gA h2)<|Yd.bd (gA h2)<|Yd.bd b1<|Yd.bd (gA h2)<|Yd.bd (gA h2) ?_
  simp only[Int.toNat_natCast];have okq:=mW h1 (k+2) ⟨b2,b3⟩;have hlen:(p.set (k+2) y).length=k+3:=by rw[pk];exact h2
  have eW:aL (p.set (k+2) y)=aL (p.take<|k+2)+ie (k+2)*y:=by
   have:aL ((p.set (k+2) y).take<|k+3)=aL (p.set (k+2) y):=by rw[fe (by omega)]
   rw[<-this,bo,dK<|bG _,dR (by omega)]
  have eU2:aL u=aL (u.take<|k+2)+ie (k+2)*p.getD (k+2) 0:=by
   have:aL (u.take<|k+3)=aL u:=by rw[fe (by omega)]
   rw[<-this,bo,h7 _<|bG _]
  rw[fe (l:=v) (by omega)] at h8;have main:aL u-q*aL v=aL (p.set (k+2) y)-ie (k+3)*b':=by
   have k2:ie (k+2)*p.getD (k+2) 0-ie (k+2)*(c+b)=ie (k+2)*y-BB*ie (k+2)*b':=by
    rw[Int.mul_comm BB,fp,<-mK,<-mK]
    congr 1
    omega
   rw[eW,eU2,show k+3=(k+2)+1 from rfl,jY<|k+2];omega
  have bW:=dU okq;rw[hlen] at bW
  generalize hR:p.set (k+2) y=R at*
  rw[ll,Int.one_mul] at ao9;rw[Int.sub_mul,Int.one_mul] at apb;refine Yd.cond (fun hd=>?_)<|fun hd=>?_
  ·have hd:=bg hd;have hd:b'=0:=hd;rw[hd,AD] at main;refine Yd.mk ⟨okq,hlen,hq,?_,?_⟩
   ·dsimp only;omega
   ·dsimp only;omega
  ·have hd:=bV hd;have hd:b'=1:=by rcases b4 with h|h;exact absurd h hd;exact h
   rw[hd,qa] at main;have hq1:1<=q:=by
    rcases(show 1<=q\/q=0 by omega) with h|h
    ·exact h
    ·rw[h,Jm] at main;omega
   refine Yd.lp (fun s:asv Int×Int×Int=>okW s.1/\s.1.length=k+3/\(s.2.1=0\/s.2.1=1)/\0<=s.2.2/\s.2.2<=(k+2:Nat)/\(∀m,s.2.2.toNat<=m->s.1.getD m 0=R.getD m 0)/\
     aL (s.1.take s.2.2.toNat)+ie s.2.2.toNat*s.2.1=aL (R.take s.2.2.toNat)+aL (v.take s.2.2.toNat))
    (fun s:asv Int×Int×Int=>k+2-s.2.2.toNat) ?_ _ _ ⟨okq,hlen,.inl rfl,by dsimp only;omega,by dsimp only;omega,fun _ _=>rfl,by simp[aL]⟩ (by dsimp only;omega)
   rintro ars ⟨t,e,j⟩ ⟨g1,g2,g3,g4,g5,g6,g7⟩ hn3;dsimp only at g1 g2 g3 g4 g5 g6 g7 hn3⊢;obtain⟨m,rfl⟩:=gQ g4;simp only[Int.toNat_natCast,ur] at*;refine Yd.cond (fun hf=>?_)<|fun hf=>?_
   ·have hf:=bg hf;obtain⟨z,d,a1,a2,a3,a4,a5⟩:=F1 (X:=t.getD m 0) (Y:=v.getD m 0) (c:=e) (fu g1 m) (fu hv m) g3;refine Yd.bd (b9 (by omega)) (Yd.bd (b9 (by omega)) (Yd.bd (b9 (by omega)) (Yd.bd a1 (Yd.bd (b9 (by omega)) (Yd.bd (b9 (by omega)) (Yd.bd (aM ⟨by omega,by omega⟩) ?_))))));refine hn3 _ ⟨mW g1 _ ⟨a2,a3⟩,by simpa using g2,a4,by dsimp only;omega,by dsimp only;omega,?_,?_⟩ (by dsimp only;omega)
    ·intro m' hm;dsimp only at hm⊢;rw[getD_set_ne (by omega)];exact g6 m' (by omega)
    ·simp only[toNat_succ',Int.toNat_natCast];rw[bo R,bo v,bo,dK<|bG _,dR (by omega),<-g6 m (bG _),jY];have k2:ie m*t.getD m 0+ie m*v.getD m 0+ie m*e=ie m*z+BB*ie m*d:=by
      rw[Int.mul_comm BB,fp,<-bC,<-bC,<-bC]
      congr 1
     omega
   ·have hf:=bV hf;have hm':m=k+2:=by omega
    subst hm';have hT:=fu g1<|k+2
    refine Yd.bd (gA g2)<|Yd.bd (gA g2)<|Yd.bd (gA g2)<|Yd.bd (gA g2)<|Yd.mk ?_
    have ew:wr .u64 (q-1)=q-1:=PW ⟨by omega,by omega⟩;have ew2:wr .u64 (t.getD (k+2) 0+e)=(t.getD (k+2) 0+e)%BB:=wrW _;rw[ew,ew2];have hm0:=sT (t.getD (k+2) 0+e) (show BB≠0 by unfold BB;omega);have hm1:=rr (t.getD (k+2) 0+e) (show 0<BB by unfold BB;omega);have hdm:=zM (t.getD (k+2) 0+e) BB;have ht0:(t.getD (k+2) 0+e)/BB=0\/(t.getD (k+2) 0+e)/BB=1:=by unfold BB at*;omega
    generalize hM:(t.getD (k+2) 0+e)%BB=M at*
    generalize hT':(t.getD (k+2) 0+e)/BB=T at*
    have okz:=mW g1 (k+2) ⟨hm0,hm1⟩;have hlz:(t.set (k+2) M).length=k+3:=by rw[pk];exact g2
    have eZ:aL (t.set (k+2) M)=aL (t.take<|k+2)+ie (k+2)*M:=by
     have:aL ((t.set (k+2) M).take<|k+3)=aL (t.set (k+2) M):=by rw[fe (by omega)]
     rw[<-this,bo,dK<|bG _,dR (by omega)]
    have eR:aL R=aL (R.take<|k+2)+ie (k+2)*t.getD (k+2) 0:=by
     have:aL (R.take<|k+3)=aL R:=by rw[fe (by omega)]
     rw[<-this,bo,g6 _<|bG _]
    rw[fe (l:=v) (by omega)] at g7;have bZ:=dU okz;rw[hlz] at bZ;have sum:aL (t.set (k+2) M)+ie (k+3)*T=aL R+aL v:=by
     have k2:ie (k+2)*t.getD (k+2) 0+ie (k+2)*e=ie (k+2)*M+BB*ie (k+2)*T:=by
      rw[Int.mul_comm BB,fp,<-bC,<-bC,hdm]
     rw[eZ,eR,show k+3=(k+2)+1 from rfl,jY<|k+2];omega
    have hpp:ie (k+2)<=ie (k+3):=IQ (by omega);have hT1:T=1:=by
     rcases ht0 with h|h
     ·rw[h,AD] at sum;omega
     ·exact h
    rw[hT1,qa] at sum;refine⟨okz,hlz,⟨by dsimp only;omega,by dsimp only;omega⟩,?_,?_⟩
    ·dsimp only;rw[Int.sub_mul,Int.one_mul];omega
    ·dsimp only;omega
def xj{A B q r:Int}(h:A=q*B+r)(h0:0<=r)(h1:r<B):q=A/B/\r=A%B:=by
 have hB:B≠0:=by omega
 subst h;constructor
 ·rw[Int.add_comm,Int.add_mul_ediv_right _ _ hB,Int.ediv_eq_zero_of_lt h0 h1];omega
 ·rw[Int.add_comm,Int.add_mul_emod_self_right,CS h0 h1]
def nW(h:n<l.length):l.drop n=l.getD n 0::l.drop (n+1):=by
 rw[CE h]
 congr 1
 simp[iw,h]
def wM(h:n<l.length)(x:Int):(l.set n x).drop n=x::l.drop (n+1):=by
 rw[nW (by rw[pk];exact h),dR h,MT (by omega)]
def Sq{b w:asv Int}{s:Nat}(hb:okW b)(hbl:b.length=k+2)(hs:s<=63)(h1:BB<=2*(b.getD (k+1) 0*2^s))(h2:b.getD (k+1) 0*2^s<BB)
 (hw:Norm w)(hv:aL w=aL b*2^s):w.length=k+2/\BB<=2*w.getD (k+1) 0/\aL w<ie (k+2)/\ie (k+1)*2^s<=aL w:=by
 have ps:=two_pos s;have hP:=oy<|k+1
 have L8:aL b=aL (b.take<|k+1)+ie (k+1)*b.getD (k+1) 0:=by
  have:aL (b.take<|k+2)=aL b:=by rw[fe (by omega)]
  rw[<-this,bo]
 obtain⟨t0,t1⟩:=dU<|mV hb<|k+1
 rw[List.length_take,fW (by omega)] at t1;have amc:=UC (s:=s) (lo:=b.getD (k+1) 0*2^s) (by omega) (Int.mul_emod_left _ _) h2;have hb0:=fu hb<|k+1
 have hbt:1<=b.getD (k+1) 0:=by
  rcases(show 1<=b.getD (k+1) 0\/b.getD (k+1) 0=0 by omega) with h|h
  ·exact h
  ·rw[h,Jm] at h1;unfold BB at h1;omega
 generalize b.getD (k+1) 0=t at*
 generalize aL (b.take<|k+1)=L at*
 have e:aL w=L*2^s+ie (k+1)*(t*2^s):=by rw[hv,L8,ll,fp]
 have hL0:0<=L*2^s:=rm t0<|gj ps
 have hL1:L*2^s<ie (k+1)*2^s:=Int.mul_lt_mul_of_pos_right t1 ps;have hg2:=kc amc<|gj hP
 rw[bC] at hg2;have e3:ie (k+2)=ie (k+1)*BB:=by rw[jY<|k+1,Int.mul_comm]
 have hlt:aL w<ie (k+2):=by rw[e,e3];omega
 have W5:ie (k+1)*2^s<=aL w:=by
  have h3:ie (k+1)*(1*2^s)<=ie (k+1)*(t*2^s):=kc (uu hbt<|gj ps)<|gj hP
  rw[Int.one_mul] at h3;omega
 have al4:w.length<=k+2:=hw.len hlt;have OW:k+1<w.length:=by
  rcases ln (k+1) w.length with h|h
  ·exact h
  ·have h5:=(dU hw.1).2;have h6:=IQ h;have h7:ie (k+1)*1<=ie (k+1)*2^s:=kc (by omega)<|gj hP
   omega
 refine⟨by omega,?_,hlt,W5⟩;have hlen:w.length=k+2:=by omega
 have hsw:aL w=aL (w.take<|k+1)+ie (k+1)*w.getD (k+1) 0:=by
  have:aL (w.take<|k+2)=aL w:=by rw[fe (by omega)]
  rw[<-this,bo]
 obtain⟨q0,q1⟩:=dU<|mV hw.1<|k+1
 rw[List.length_take,fW (by omega)] at q1
 generalize w.getD (k+1) 0=z at*
 rcases(show BB<=2*z\/2*(z+1)<=BB by unfold BB;omega) with h|h
 ·exact h
 ·exfalso;have h8:ie (k+1)*(2*(z+1))<=ie (k+1)*(2*(t*2^s)):=kc (by omega)<|gj hP
  rw[iU,iU _ 2,bC,qa] at h8;omega
def afe(h:okW l)(n:Nat):aL (l.take n)<=aL l:=by
 rcases ln n l.length with h1|h1
 ·rw[pQ l n (by omega)];have:=rm (gj<|oy n) (dU<|wX h n).1;omega
 ·rw[fe h1];exact Int.le_refl _
def drop_zero(h:okW l)(hl:n<=l.length)(hv:aL l<ie n):aL (l.drop n)=0:=by
 have h1:=pQ l n hl;have h2:=(dU<|wX h n).1;have h3:=(dU<|mV h n).1;rcases(show aL (l.drop n)=0\/1<=aL (l.drop n) by omega) with h4|h4
 ·exact h4
 ·have:=kc h4 (gj<|oy n);omega
def Wh{s:Nat}(hs0:0<s)(hs:s<=63)(hx:0<=x/\x<BB)(hy:0<=y/\y<BB):
  ∃lo:Int,IC .u64 y ((64-s:Nat):Int)=some lo/\0<=nG .or .u64 (x/2^s) lo/\nG .or .u64 (x/2^s) lo<BB/\nG .or .u64 (x/2^s) lo*2^s=x-x%2^s+BB*(y%2^s):=by
 have h2:=rL (s:=s) (by omega);have p1:=two_pos s;have p2:=two_pos<|64-s
 have r0:=sT y (show(2:Int)^s≠0 by omega);have r1:=rr y p1;have elo:y*2^(64-s)%BB=2^(64-s)*(y%2^s):=by
  rw[<-h2,Int.mul_comm y,Int.mul_comm<|2^s,Int.mul_emod_mul_of_pos _ _ p2]
 refine⟨2^(64-s)*(y%2^s),by rw[afA (by omega),elo],?_⟩;have l0:0<=2^(64-s)*(y%2^s):=rm (gj p2) r0;have d0:0<=x/2^s:=rn hx.1<|gj p1
 have d1:x/2^s<2^(64-s):=by
  refine Jz p1 ?_;rw[Int.mul_comm,h2];exact hx.2
 have hl:2^(64-s)*(y%2^s)+2^(64-s)<=BB:=by
  have:=kc (show y%2^s+1<=2^s by omega)<|gj p2
  rw[bC,qa,Int.mul_comm _<|2^s,h2] at this;exact this
 rw[Vz (s:=64-s) l0 d0 d1 (Int.mul_emod_right _ _) (by omega)];refine⟨by omega,by omega,?_⟩;have e:=zM x<|2^s
 rw[ll,MP,Int.mul_comm<|2^(64-s),h2,Int.mul_comm<|x/2^s];omega
def OC{a b:asv Int}(ha:Norm a)(hb:Norm b)(h0:b≠[])(hla:a.length<2199023255552)(hlb:b.length<2199023255552):
  Yd (fun r=>(Norm r.1/\aL r.1=aL a/aL b)/\Norm r.2/\aL r.2=aL a%aL b) (ue a b):=by
 unfold ue;have hbl:0<b.length:=by cases b;exact absurd rfl h0;simp
 have ha0:=(dU ha.1).1;refine Yd.kD (BP ha hb (by omega) (by omega)) fun c hc=>?_
 refine Yd.cond (fun hlt=>?_)<|fun hlt=>?_
 ·have hlt:=bg hlt;have hv:aL a<aL b:=by rcases hc with h|h|h<;>omega
  exact Yd.mk ⟨⟨Norm.nil,by rw[Int.ediv_eq_zero_of_lt ha0 hv];rfl⟩,ha,by rw[CS ha0 hv]⟩
 have hlt:=bV hlt;have hv:aL b<=aL a:=by rcases hc with h|h|h<;>omega
 have ath:b.length<=a.length:=by
  rcases ln a.length b.length with h|h
  ·have:=y4 ha.1 hb h;omega
  ·exact h
 refine Yd.cond (fun h1=>?_)<|fun h1=>?_
 ·
  have h1:=bg h1;have OX:b.length=1:=by omega
  obtain⟨y,rfl⟩:∃y,b=[y]:=by
   cases b with
   |nil=>cases OX
   |cons x t=>cases t with
    |nil=>exact⟨x,rfl⟩
    |cons _ _=>simp at OX
  have hy:0<y/\y<BB:=by
   have:=rQ.1 hb.1;have h2:y≠0:=fun e=>hb.2 (by rw[e];rfl)
   omega
  have eV:aL [y]=y:=by simp[aL]
  rw[eV] at hv⊢;refine Yd.bd (I2 (by omega) (by omega) (by omega)) (Yd.bd (aM ⟨by omega,by omega⟩) ?_);refine Yd.lp (fun s:asv Int×Int×Int=>okW s.1/\s.1.length=a.length/\(0<=s.2.1/\s.2.1<y)/\ -1<=s.2.2/\s.2.2<a.length/\aL (a.drop (s.2.2+1).toNat)=aL (s.1.drop (s.2.2+1).toNat)*y+s.2.1)
   (fun s:asv Int×Int×Int=>(s.2.2+1).toNat) ?_ _ _ ⟨o6 _,by simp only[vW];omega,⟨by dsimp only;omega,by dsimp only;omega⟩,by dsimp only;omega,by dsimp only;omega,?_⟩ (by dsimp only;omega)
  rotate_left
  ·have:((a.length:Int)-1+1).toNat=a.length:=by omega
   dsimp only;rw[this,yH,xE (by simp)];simp[aL]
  rintro next ⟨o,r,i⟩ ⟨g1,g2,g3,g4,g5,g6⟩ hn
  dsimp only at g1 g2 g3 g4 g5 g6 hn⊢;refine Yd.cond (fun hp=>?_)<|fun hp=>?_
  ·have hp:=bg hp;obtain⟨n,rfl⟩:=gQ hp;simp only[toNat_succ',Int.toNat_natCast,ur] at*;refine Yd.bd (b9 (by omega))<|Yd.bd (show bj [y] 0=some y from rfl) ?_
   refine Yd.kD (Rj g3 (fu ha.1 n) hy.2) ?_;rintro⟨q,z⟩ ⟨d1,d2,d3⟩;dsimp only at d1 d2 d3⊢;refine Yd.bd (b9 (by omega)) (Yd.bd (b9 (by omega)) (Yd.bd (aM ⟨by omega,by omega⟩) ?_));refine hn _ ⟨mW g1 _ d1,by simpa using g2,d2,by dsimp only;omega,by dsimp only;omega,?_⟩ (by dsimp only;omega);have e:(((n:Nat):Int)-1+1).toNat=n:=by omega
   simp only[e];rw[nW (by omega),wM (by omega),mP,mP,g6,ll,bC,fp,Int.mul_comm BB r];omega
  ·have hp:=bV hp;have hi:i= -1:=by omega
   subst hi;have g6:aL a=aL o*y+r:=g6;refine Yd.kD (wZ g1 (by omega)) fun w ⟨w1,w2,_⟩=>?_
   refine Yd.kD (wZ (a:=[r]) (rQ.2 ⟨⟨g3.1,by omega⟩,IX⟩) (by simp)) fun z ⟨z1,z2,_⟩=>?_
   have er:aL [r]=r:=by simp[aL]
   obtain⟨u1,u2⟩:=xj g6 g3.1 g3.2;exact Yd.mk ⟨⟨w1,by dsimp only;rw[w2,u1]⟩,z1,by dsimp only;rw[z2,er,u2]⟩
 ·
  have h1:=bV h1;obtain⟨k,hk⟩:∃k,b.length=k+2:=⟨b.length-2,by omega⟩;have hbt:0<b.getD (k+1) 0:=by
   have h3:=(fu hb.1<|k+1).1;rcases(show 0<b.getD (k+1) 0\/b.getD (k+1) 0=0 by omega) with h|h
   ·exact h
   ·refine absurd ?_ hb.2;rw[List.getLast?_eq_getElem?,show b.length-1=k+1 from by omega];rw[iw] at h;rw[kQ (by omega)] at h⊢;simpa using h
  obtain⟨s,l1,l2,l3,l4⟩:=acJ hbt (fu hb.1<|k+1).2;have e1:((b.length:Int)-1)=((k+1:Nat):Int):=by omega
  rw[e1];refine Yd.bd (aM ⟨by omega,by omega⟩) (Yd.bd (b9 (by omega))<|Yd.bd l1 ?_);refine Yd.kD (Ll hb.1 l2 (by omega)) fun w0 ⟨p1,p2,p3⟩=>?_
  refine Yd.kD (wZ p1 (by omega)) fun v ⟨v1,v2,_⟩=>?_
  rw[p3] at v2;obtain⟨v3,v4,v5,v6⟩:=Sq hb.1 hk l2 l3 l4 v1 v2;refine Yd.kD (Ll ha.1 l2 (by omega)) fun u0 ⟨q1,q2,q3⟩=>?_
  obtain⟨d,hd⟩:∃d,a.length=d+(k+2):=⟨a.length-(k+2),by omega⟩;have e2:((a.length:Int)-(v.length:Int))=((d:Nat):Int):=by omega
  rw[e2,v3];refine Yd.bd (aM ⟨by omega,by omega⟩) (Yd.bd (aM ⟨by omega,by omega⟩) (Yd.bd (I2 (by omega) (by omega) (by omega)) (Yd.bd (aM ⟨by omega,by omega⟩) ?_)));have ps:=two_pos s;have hV0:0<aL v:=by
   have:=Int.mul_pos (oy<|k+1) ps;omega
  refine Yd.lp (fun t:asv Int×asv Int×Int=>okW t.1/\t.1.length=a.length+1/\okW t.2.1/\t.2.1.length=d+1/\ -1<=t.2.2/\t.2.2<=d/\aL (t.1.drop (t.2.2+1).toNat)<aL v/\
    aL a*2^s=aL v*(ie (t.2.2+1).toNat*aL (t.2.1.drop (t.2.2+1).toNat))+aL t.1)
   (fun t:asv Int×asv Int×Int=>(t.2.2+1).toNat) ?_ _ _ ⟨q1,q2,o6 _,by simp only[vW];omega,by dsimp only;omega,by dsimp only;omega,?_,?_⟩ (by dsimp only;omega)
  rotate_left
  ·dsimp only;rw[toNat_succ'];have h3:=pQ u0 (d+1) (by omega);have h4:=(dU<|mV q1<|d+1).1;rw[q3] at h3;have h5:=(dU ha.1).2;have h6:aL a*2^s<ie a.length*2^s:=Int.mul_lt_mul_of_pos_right h5 ps;rw[hd,show d+(k+2)=(d+1)+(k+1) from by omega,Mz,fp] at h6;have h7:aL (u0.drop<|d+1)<ie (k+1)*2^s:=by
    rcases(show aL (u0.drop<|d+1)<ie (k+1)*2^s\/ie (k+1)*2^s<=aL (u0.drop<|d+1) by omega) with h|h
    ·exact h
    ·have:=kc h (gj<|oy<|d+1);omega
   omega
  ·dsimp only;rw[toNat_succ',xE (by simp),<-q3];simp[aL]
  rintro next ⟨u,o,j⟩ ⟨g1,g2,g3,g4,g5,g6,g7,g8⟩ hn
  dsimp only at g1 g2 g3 g4 g5 g6 g7 g8 hn⊢;refine Yd.cond (fun hp=>?_)<|fun hp=>?_
  ·have hp:=bg hp;obtain⟨n,rfl⟩:=gQ hp;simp only[toNat_succ',Int.toNat_natCast,ur] at*;have e3:(((n:Nat):Int)+((k+2:Nat):Int))=((n+(k+2):Nat):Int):=by omega
   have e4:(((n+(k+2):Nat):Int)+1)=((n+(k+3):Nat):Int):=by omega
   have e5:(((n+(k+3):Nat):Int)-((n:Nat):Int)).toNat=k+3:=by omega
   rw[e3];refine Yd.bd (aM ⟨by omega,by omega⟩) ?_;rw[e4];refine Yd.bd (aM ⟨by omega,by omega⟩)<|Yd.gC ?_ ?_
   ·rw[bp (show(0:Int)<=(n:Int) by omega),bp (show((n:Nat):Int)<((n+(k+3):Nat):Int) by omega),bp (show((n+(k+3):Nat):Int)<=(u.length:Int) by omega)]
    rfl
   rw[e5];have okd:=wX g1 n;have hdl:(u.drop n).length=a.length+1-n:=by rw[nD,g2]
   have hw:((u.drop n).take<|k+3).length=k+3:=by rw[List.length_take];omega
   have hdn:u.drop n=u.getD n 0::u.drop (n+1):=nW (by omega);have hun:=fu g1 n;have W5:aL ((u.drop n).take<|k+3)<BB*aL v:=by
    rw[hdn,show k+3=(k+2)+1 from rfl,MU,mP];have h3:=afe (wX g1<|n+1)<|k+2
    unfold BB at*;omega
   have ac6:aL (u.drop<|n+(k+3))=0:=by
    have:=drop_zero (wX g1<|n+1) (n:=k+2) (by rw[nD];omega) (by omega);rw[ji] at this;rw[show n+(k+3)=n+1+(k+2) from by omega];exact this
   refine Yd.kD (acz (k:=k) (mV okd _) v1.1 hw v3 (by omega) v4 W5) ?_;rintro⟨w,q⟩ ⟨s1,s2,s3,s4,s5⟩;dsimp only at s1 s2 s3 s4 s5⊢;refine Yd.gC ?_ ?_
   ·rw[s2,show Nat.blt 0 (k+3)=true from oG (by omega),show Nat.ble (n+(k+3)) u.length=true from oG (by omega),Nat.beq_refl]
    rfl
   refine Yd.bd (b9 (by omega)) (Yd.bd (b9 (by omega)) (Yd.bd (aM ⟨by omega,by omega⟩) ?_));have okt:=mV g1 n;have okz:=wX g1<|n+(k+3)
   have SM:(u.take n).length=n:=by rw[List.length_take];omega
   have e7:(((n:Nat):Int)-1+1).toNat=n:=by omega
   have evu:aL u=aL (u.take n)+ie n*aL ((u.drop n).take<|k+3):=by
    rw[pQ u n (by omega),pQ (u.drop n) (k+3) (by omega),ji,ac6,AD,Fx]
   have evn:aL (u.take n++w++u.drop (n+(k+3)))=aL (u.take n)+ie n*aL w:=by
    rw[ti,ti,ac6,AD,Fx,SM]
   have edn:(u.take n++w++u.drop (n+(k+3))).drop n=w++u.drop (n+(k+3)):=by
    rw[rq,zH,xE (by omega),SM];simp
   refine hn _ ⟨Ox.2 ⟨Ox.2 ⟨okt,s1⟩,okz⟩,?_,mW g3 _ s3,by simpa using g4,by dsimp only;omega,by dsimp only;omega,?_,?_⟩ (by dsimp only;omega)
   ·dsimp only;rw[List.length_append,List.length_append,SM,s2,nD,g2];omega
   ·dsimp only;rw[e7,edn,ti,ac6,AD,Fx];exact s5
   ·dsimp only;rw[e7,evn,wM (by omega),mP,g8,evu,s4,jY];have k1:aL v*(ie n*(q+BB*aL (o.drop<|n+1)))=ie n*(q*aL v)+aL v*(BB*ie n*aL (o.drop<|n+1)):=by
     rw[bC,bC,iU<|aL v,Int.mul_comm (aL v) q,iU (ie n) BB,fp BB]
    rw[k1,bC];omega
  ·have hp:=bV hp;have hj:j= -1:=by omega
   subst hj;have g7:aL u<aL v:=g7;have g8:aL a*2^s=aL v*(ie 0*aL o)+aL u:=g8;rw[Ew,Int.one_mul] at g8;have hu0:0<=aL u:=(dU g1).1;have hue:aL u=2^s*(aL a-aL b*aL o):=by
    rw[mK,Int.mul_comm _<|aL a,g8,v2,Int.mul_comm<|aL b,fp];omega
   have amp:∃c:Int,BB=2^s*c:=⟨_,(rL (s:=s) (by omega)).symm⟩;have aoY:u.getD 0 0%2^s=0:=by
    obtain⟨c,hc⟩:=amp;have h3:u=u.getD 0 0::u.drop 1:=nW (n:=0) (l:=u) (by omega);have h4:aL u=u.getD 0 0+BB*aL (u.drop 1):=by rw[<-mP,<-h3]
    have h5:u.getD 0 0=2^s*(aL a-aL b*aL o-c*aL (u.drop 1)):=by
     rw[mK,<-hue,<-fp,<-hc];omega
    rw[h5,Int.mul_emod_right]
   refine Yd.lp (fun t:asv Int×Int=>okW t.1/\t.1.length=a.length+1/\0<=t.2/\t.2<=(k+2:Nat)/\(∀m,t.2.toNat<=m->t.1.getD m 0=u.getD m 0)/\
     aL (t.1.take t.2.toNat)*2^s=aL (u.take t.2.toNat)+ie t.2.toNat*(u.getD t.2.toNat 0%2^s))
    (fun t:asv Int×Int=>k+2-t.2.toNat) ?_ _ _ ⟨g1,g2,by dsimp only;omega,by dsimp only;omega,fun _ _=>rfl,?_⟩ (by dsimp only;omega)
   rotate_left
   ·show aL (u.take 0)*2^s=aL (u.take 0)+ie 0*(u.getD 0 0%2^s);rw[aoY];simp[aL]
   rintro acE ⟨r,i⟩ ⟨f1,f2,f3,f4,f5,f6⟩ Qm;dsimp only at f1 f2 f3 f4 f5 f6 Qm⊢;obtain⟨m,rfl⟩:=gQ f3;simp only[Int.toNat_natCast,ur] at*;refine Yd.cond (fun hf=>?_)<|fun hf=>?_
   ·have hf:=bg hf;refine Yd.jn (fun z:asv Int=>okW z/\z.length=a.length+1/\(∀x,m+1<=x->z.getD x 0=u.getD x 0)/\aL (z.take<|m+1)*2^s=aL (u.take<|m+1)+ie (m+1)*(u.getD (m+1) 0%2^s)) ?_ ?_
    ·rintro z ⟨z1,z2,z3,z4⟩;refine Yd.bd (aM ⟨by omega,by omega⟩) (Qm _ ⟨z1,z2,by dsimp only;omega,by dsimp only;omega,?_⟩ (by dsimp only;omega));dsimp only;rw[toNat_succ'];exact⟨z3,z4⟩
    ·intro k69 al6;have hx:=fu f1 m;have hx2:=fu f1<|m+1
     have GS:0<=r.getD m 0/2^s/\r.getD m 0/2^s<BB:=⟨rn hx.1<|gj ps,Int.lt_of_le_of_lt (AG _ hx.1) hx.2⟩;refine Yd.bd (b9 (by omega)) (Yd.bd (b9 (by omega)) (Yd.bd (afz (by omega)) (Yd.bd (b9 (by omega)) (Yd.bd (b9 (by omega)) ?_))));have e8:(((m:Nat):Int)+1)=((m+1:Nat):Int):=by omega
     have EL:∀z:Int,z*2^s=r.getD m 0-r.getD m 0%2^s+BB*(r.getD (m+1) 0%2^s)->(aL (r.take m)+ie m*z)*2^s=aL (u.take<|m+1)+ie (m+1)*(u.getD (m+1) 0%2^s):=by
      intro z hz;rw[<-f5 (m+1) (by omega),bo u,<-f5 m (bG _),ll,f6,fp,hz,<-f5 m (bG _),jY,bC,mK,iU (ie m) BB,fp BB];omega
     refine Yd.fT (fun hg=>?_)<|fun hg=>?_
     ·have hg:=bg hg;refine⟨_,aM ⟨by omega,by omega⟩,Yd.cond (fun hh=>?_)<|fun hh=>?_⟩
      ·obtain⟨lo,b1,b2,b3,b4⟩:=Wh (s:=s) (x:=r.getD m 0) (y:=r.getD (m+1) 0) (by omega) l2 hx hx2;have uW:(r.set m<|r.getD m 0/2^s).length=a.length+1:=by rw[pk];exact f2
       have e9:((64:Int)-(s:Int))=((64-s:Nat):Int):=by omega
       rw[e8,e9];refine Yd.bd (b9 (by omega)) (Yd.bd (b9 (by omega)) (Yd.bd (aM ⟨by omega,by omega⟩) (Yd.bd (b9 (by omega)) (Yd.bd (b9 (by omega)) (Yd.bd (aM ⟨by omega,by omega⟩) ?_)))));rw[getD_set_ne (show m+1≠m by omega),dR (show m<r.length by omega)];refine Yd.bd b1 (Yd.bd (b9 (by omega)) (Yd.bd (b9 (by omega)) ?_));refine al6 _ ⟨mW (mW f1 _ GS) _ ⟨b2,b3⟩,by simpa using f2,?_,?_⟩
       ·intro x hxm;rw[getD_set_ne (by omega),getD_set_ne (by omega)];exact f5 x (by omega)
       ·rw[bo,dK<|bG _,dR (by omega),dK<|bG _];exact EL _ b4
      ·rw[bp hg,sQ] at hh;have:=bV hh;simp only[pk] at this;omega
     ·have hg:=bV hg;have hs0:s=0:=by omega
      subst hs0;refine Yd.cond (fun hh=>?_)<|fun hh=>?_
      ·exact absurd (bg (eM hh).1) hg
      ·refine al6 _ ⟨mW f1 _ GS,by simpa using f2,?_,?_⟩
       ·intro x hxm;rw[getD_set_ne (by omega)];exact f5 x (by omega)
       ·rw[bo,dK<|bG _,dR (by omega)];refine EL _ ?_;simp[Int.emod_one]
   ·have hf:=bV hf;have hm':m=k+2:=by omega
    subst hm';have hz:=drop_zero g1 (n:=k+2) (by omega) (by omega);have hz2:u.getD (k+2) 0=0:=NP hz g1<|bG _
    have hu:aL u=aL (u.take<|k+2):=by
     rw[pQ u (k+2) (by omega),hz];omega
    rw[hz2,Int.zero_emod,AD,Fx,<-hu,hue,Int.mul_comm] at f6;have f7:aL (r.take<|k+2)=aL a-aL b*aL o:=Int.eq_of_mul_eq_mul_left (by omega) f6;have f8:aL (r.take<|k+2)<aL b:=by
     have h3:2^s*(aL a-aL b*aL o)<2^s*aL b:=by rw[<-hue,Int.mul_comm,<-v2];exact g7
     rw[f7];exact M0 h3<|gj ps
    refine Yd.kD (wZ g3 (by omega)) fun x ⟨x1,x2,_⟩=>?_
    refine Yd.bd (ke (by omega) (by omega) (by omega)) ?_;refine Yd.kD (wZ (wX (mV f1 _) _) (by rw[nD,List.length_take];omega)) fun z ⟨z1,z2,_⟩=>?_
    have z3:aL z=aL (r.take<|k+2):=z2;obtain⟨w1,w2⟩:=xj (A:=aL a) (B:=aL b) (q:=aL o) (r:=aL<|r.take<|k+2) (by rw[f7,Int.mul_comm];omega) (dU<|mV f1 _).1 f8;exact Yd.mk ⟨⟨x1,by dsimp only;rw[x2];exact w1⟩,z1,by dsimp only;rw[z3];exact w2⟩
def Sw(h:2^k<=n):k<=Nat.log2 n:=by
 have h0:n≠0:=by have:=FH k;omega
 exact(Nat.le_log2 h0).2 h
def R3:∀n:Nat,ie n=((2^(64*n):Nat):Int)
 |0=>rfl
 |n+1=>by
  rw[jY,R3 n,show 64*(n+1)=64+64*n from by omega,qO,uo];rfl
def rE.len(h:rE r z)(hz:uV z=true):r.2.length<1099511627776:=by
 rcases h with⟨h,_⟩|⟨h0,h1,h2,h3,h4,h5⟩
 ·rw[h];simp
 ·have hl:=vr h2 h0 h3;have hz:=gP hz;have e:(z.natAbs:Int)=aL r.2:=by
   have:=(dU h2).1;rcases h1 with e|e<;>rw[h4,e]<;>omega
  rw[R3,<-e] at hl;have hl:2^(64*(r.2.length-1))<=z.natAbs:=by exact_mod_cast hl
  have:=Sw hl;omega
def OB{n:Int}(h:DP n):vN n=some (n.natAbs:Int):=by
 unfold DP at h;unfold vN;by_cases h0:n<0
 ·rw[bp h0];show some (wr .u64<|wr .i64<|0-n)=_;by_cases h1:n= -9223372036854775808
  ·subst h1;rfl
  ·have e1:wr .i64 (0-n)=0-n:=wrap_i64 ⟨by omega,by omega⟩;have e2:wr .u64 (0-n)=0-n:=wrap_u64 ⟨by omega,by omega⟩;rw[e1,e2]
   congr 1;omega
 ·rw[bU h0];show some (wr .u64 n)=_;have e2:wr .u64 n=n:=wrap_u64 ⟨by omega,by omega⟩;rw[e2]
  congr 1;omega
def qG(h:rE r z):Yd (fun p=>p.1=decide (z<0)/\Norm p.2/\aL p.2=(z.natAbs:Int)/\p.2.length<=r.2.length+1) (gq r):=by
 unfold gq;rcases h with⟨h1,h2,h3⟩|⟨h0,h1,h2,h3,h4,h5⟩
 ·rw[h1];refine Yd.cond (fun hc=>by simp at hc)<|fun _=>?_
  rw[h2];refine Yd.cond (fun hc=>?_)<|fun hc=>?_
  ·have hc:=bg hc;subst hc;exact Yd.mk ⟨rfl,Norm.nil,rfl,by simp⟩
  ·have hc:=bV hc;refine Yd.bd (OB h3) (Yd.mk ⟨rfl,⟨?_,?_⟩,by simp[aL],by simp⟩)
   ·rw[rQ];unfold DP at h3;exact⟨⟨by omega,by unfold BB;omega⟩,IX⟩
   ·simp;omega
 ·have hv:=(dU h2).1;refine Yd.cond (fun _=>Yd.mk ⟨?_,⟨h2,h3⟩,?_,by dsimp only;omega⟩)<|fun hc=>?_
  ·dsimp only;rcases h1 with e|e<;>rw[h4,e]<;>simp<;>omega
  ·dsimp only;rcases h1 with e|e<;>rw[h4,e]<;>omega
  ·simp at hc;exact absurd hc h0
def zh{w:asv Int}(h:Norm w)(neg:Bool):Yd (fun r=>rE r<|bif neg then -aL w else aL w) (nA neg w):=by
 unfold nA;obtain⟨hw,hl⟩:=h
 match w,hw,hl with
 |[],_,_=>
  refine Yd.cond (fun _=>Yd.mk (.inl ⟨rfl,by cases neg<;>rfl,by cases neg<;>(unfold DP;simp[aL])⟩)) (fun hc=>by simp at hc)
 |[x],hw,hl=>
  rw[rQ] at hw;obtain⟨⟨VR,hx1⟩,_⟩:=hw;have ev:aL [x]=x:=by simp[aL]
  have hx:x≠0:=fun e=>hl (by rw[e];rfl)
  have g0:bj [x] (0:Int)=some x:=rfl;rw[ev];refine Yd.cond (fun hc=>by simp at hc)<|fun _=>?_
  refine Yd.fT (fun _=>⟨x,g0,?_⟩) (fun hc=>by simp[gd] at hc);refine Yd.cond (fun hc=>?_)<|fun hc=>?_
  ·obtain⟨hc,Bl⟩:=eM hc;obtain⟨_,hc⟩:=eM hc;have hc:=bg hc;subst Bl;have e1:wr .i64 x=x:=wrap_i64 ⟨by omega,by omega⟩;exact Yd.bd g0 (Yd.bd (aM (by rw[e1];exact⟨by omega,by omega⟩)) (Yd.mk (.inl ⟨rfl,by rw[e1];rfl,by unfold DP;simp only[fU];omega⟩)))
  ·refine Yd.fT (fun _=>⟨x,g0,?_⟩) (fun hc=>by simp[gd] at hc);refine Yd.cond (fun hd=>?_)<|fun hd=>?_
   ·obtain⟨_,hd'⟩:=eM hd;have atH:=bg hd';rw[hd] at hc;have Bl:neg=false:=by simpa using hc
    subst Bl;have e1:wr .i64 x=x:=wrap_i64 ⟨by omega,by omega⟩;exact Yd.bd g0 (Yd.mk (.inl ⟨rfl,by rw[e1];rfl,by unfold DP;simp only[fA];omega⟩))
   ·have JK:9223372036854775807<x:=by
     have:decide (([x].length:Int)=(1:Int))=true:=rfl;rw[this,sQ] at hd;have:=bV hd;omega
    have gS:okW [x]:=by rw[rQ];exact⟨⟨VR,hx1⟩,IX⟩
    refine Yd.cond (fun hn=>?_)<|fun hn=>?_
    ·subst hn;exact Yd.gC rfl (Yd.mk (.inr ⟨by simp,.inr rfl,gS,hl,by rw[ev];simp,by rw[ev];exact JK⟩))
    ·subst hn;exact Yd.gC rfl (Yd.mk (.inr ⟨by simp,.inl rfl,gS,hl,by rw[ev];simp,by rw[ev];exact JK⟩))
 |x::y::l,hw,hl=>
  have JK:9223372036854775807<aL (x::y::l):=by
   have h1:=vr hw (by simp) hl;have h2:ie 1<=ie ((x::y::l).length-1):=IQ (by simp);have h3:ie 1=BB:=rfl;unfold BB at h3;omega
  have WZ:decide (((x::y::l).length:Int)=(1:Int))=false:=bU (by simp;omega);refine Yd.cond (fun hc=>by have:=bg hc;simp at this;omega)<|fun _=>?_
  refine Yd.fT (fun hc=>by simp only[gd] at hc;rw[WZ] at hc;cases hc)<|fun _=>?_
  refine Yd.cond (fun hc=>by rw[WZ] at hc;simp at hc)<|fun _=>?_
  refine Yd.fT (fun hc=>by simp only[gd] at hc;rw[WZ] at hc;cases hc)<|fun _=>?_
  refine Yd.cond (fun hc=>by rw[WZ] at hc;simp at hc)<|fun _=>?_
  refine Yd.cond (fun hn=>?_)<|fun hn=>?_
  ·subst hn;exact Yd.gC rfl (Yd.mk (.inr ⟨by simp,.inr rfl,hw,hl,by simp,JK⟩))
  ·subst hn;exact Yd.gC rfl (Yd.mk (.inr ⟨by simp,.inl rfl,hw,hl,by simp,JK⟩))
def BQ(h:rE r z):j1 r=some z.sign:=by
 unfold j1
 congr 1
 unfold mx_ mn_;rcases h with⟨h1,h2,h3⟩|⟨h0,h1,h2,h3,h4,h5⟩
 ·rw[h2];rcases vS z 0 with h|h|h
  ·rw[bp (show z<1 by omega),sV h];by_cases e:z= -1
   ·subst e;rfl
   ·rw[fU,bU (show¬(-1:Int)<z by omega)];rfl
  ·subst h;rfl
  ·rw[ru h];by_cases e:z=1
   ·subst e;rfl
   ·rw[bU (show¬z<1 by omega)];rfl
 ·have hp:0<aL r.2:=by omega
  rcases h1 with e|e
  ·rw[h4,e,Int.one_mul,ru hp];rfl
  ·rw[h4,e,sV (by omega)];rfl
def Ao(h:rE r z):Yd (fun q=>rE q<| -z) (jg r):=by
 unfold jg;refine Yd.cond (fun hc=>?_)<|fun hc=>?_
 ·obtain⟨h1,h2⟩:=eM hc;rw[jj,lq] at h2;rcases h with⟨g1,g2,g3⟩|⟨h0,_⟩
  ·unfold DP at g3;exact Yd.bd (aM ⟨by omega,by omega⟩) (Yd.mk (.inl ⟨rfl,by dsimp only;omega,by unfold DP;omega⟩))
  ·rw[CQ] at h1;exact absurd h1 h0
 ·refine Yd.kD (qG h) fun p ⟨p1,p2,p3,_⟩=>Yd.kD (zh p2<| !p.1) fun q hq=>Yd.mk ?_
  rw[p1,p3] at hq;by_cases hz:z<0
  ·rw[bp hz] at hq;have:(z.natAbs:Int)= -z:=by omega
   simpa[this] using hq
  ·rw[bU hz] at hq;have: -(z.natAbs:Int)= -z:=by omega
   simp only[FD,fU] at hq;rwa [this] at hq
def Sp(h:rE r z):Yd (fun q=>rE q (z.natAbs:Int)) (r9 r):=by
 unfold r9;have hs:r.1<0↔z<0:=by
  rcases h with⟨g1,g2,g3⟩|⟨h0,h1,h2,h3,h4,h5⟩
  ·rw[g2]
  ·rcases h1 with e|e<;>rw[h4,e]<;>omega
 refine Yd.cond (fun hc=>?_)<|fun hc=>?_
 ·have hc:=hs.1 (bg hc);refine Yd.kD (Ao h) fun q hq=>Yd.mk ?_
  rwa [show((z.natAbs:Nat):Int)= -z by omega]
 ·have hc:=bV hc;have: ¬z<0:=fun h=>hc<|hs.2 h
  refine Yd.mk ?_;rwa [show((z.natAbs:Nat):Int)=z by omega]
def MC(hr:rE r x)(hs:rE s y)(hlr:r.2.length<2199023255552)(hls:s.2.length<2199023255552):Yd (fun q=>rE q<|x+y) (nC r s):=by
 unfold nC;refine Yd.jn (fun _=>True) (fun _ _=>?_)<|fun k hk=>Yd.cond (fun hc=>?_)<|fun _=>hk _ trivial
 ·refine Yd.kD (qG hr) fun p ⟨p1,p2,p3,p4⟩=>Yd.kD (qG hs) fun q ⟨q1,q2,q3,q4⟩=>?_
  refine Yd.cond (fun hc=>?_)<|fun hc=>?_
  ·refine Yd.kD (Sm p2.1 q2.1 (by omega) (by omega)) fun w ⟨w1,w2⟩=>Yd.kD (zh w1 p.1) fun z hz=>Yd.mk ?_
   rw[w2,p3,q3,p1] at hz;rw[p1,q1,wE] at hc;by_cases h1:x<0
   ·have h2:y<0:=by simpa[h1] using hc.symm
    rw[bp h1] at hz;simp only[fU] at hz;rwa [show -((x.natAbs:Int)+(y.natAbs:Int))=x+y by omega] at hz
   ·have h2: ¬y<0:=by simpa[h1] using hc.symm
    rw[bU h1] at hz;simp only[fA] at hz;rwa [show((x.natAbs:Int)+(y.natAbs:Int))=x+y by omega] at hz
  ·have hne: ¬(x<0↔y<0):=by
    intro h;rw[p1,q1] at hc;simp[h] at hc
   refine Yd.kD (BP p2 q2 (by omega) (by omega)) fun c hcmp=>Yd.cond (fun hd=>?_)<|fun hd=>?_
   ·have hd:=bg hd;have hle:aL q.2<=aL p.2:=by omega
    have hlen:q.2.length<=p.2.length:=by
     rcases ln p.2.length q.2.length with h|h
     ·have:=y4 p2.1 q2 h;omega
     ·exact h
    refine Yd.kD (I1 p2.1 q2.1 hlen (by omega) hle) fun w ⟨w1,w2⟩=>Yd.kD (zh w1 p.1) fun z hz=>Yd.mk ?_
    rw[w2,p3,q3,p1] at hz;by_cases h1:x<0
    ·have h2: ¬y<0:=fun h=>hne ⟨fun _=>h,fun _=>h1⟩
     rw[bp h1] at hz;simp only[fU] at hz;rwa [show -((x.natAbs:Int)-(y.natAbs:Int))=x+y by omega] at hz
    ·have h2:y<0:=sU fun h=>hne ⟨fun k=>absurd k h1,fun k=>absurd k h⟩
     rw[bU h1] at hz;simp only[fA] at hz;rwa [show((x.natAbs:Int)-(y.natAbs:Int))=x+y by omega] at hz
   ·have hd:=bV hd;have hle:aL p.2<=aL q.2:=by omega
    have hlen:p.2.length<=q.2.length:=by
     rcases ln q.2.length p.2.length with h|h
     ·have:=y4 q2.1 p2 h;omega
     ·exact h
    refine Yd.kD (I1 q2.1 p2.1 hlen (by omega) hle) fun w ⟨w1,w2⟩=>Yd.kD (zh w1 q.1) fun z hz=>Yd.mk ?_
    rw[w2,p3,q3,q1] at hz;by_cases h1:y<0
    ·have h2: ¬x<0:=fun h=>hne ⟨fun _=>h1,fun _=>h⟩
     rw[bp h1] at hz;simp only[fU] at hz;rwa [show -((y.natAbs:Int)-(x.natAbs:Int))=x+y by omega] at hz
    ·have h2:x<0:=sU fun h=>hne ⟨fun k=>absurd k h,fun k=>absurd k h1⟩
     rw[bU h1] at hz;simp only[fA] at hz;rwa [show((y.natAbs:Int)-(x.natAbs:Int))=x+y by omega] at hz
 ·obtain⟨h1,h2⟩:=eM hc;rw[CQ] at h1 h2;rcases hr with⟨_,e1,i1⟩|⟨h0,_⟩
  ·rcases hs with⟨_,e2,i2⟩|⟨h0,_⟩
   ·rw[e1,e2];unfold DP at i1 i2;refine Yd.cond (fun hd=>Yd.mk<| .inl ⟨rfl,?_,?_⟩)<|fun _=>hk _ trivial
    all_goals
     by_cases agF: -9223372036854775808<=x+y/\x+y<=9223372036854775807
     ·first
      |exact wrap_i64 agF
      |exact agF
     ·exfalso;rw[wE] at hd;rcases Int.lt_or_lt_of_ne (show x+y≠0 by omega) with hlt|hgt
      ·have e3:wr .i64 (x+y)=x+y+18446744073709551616:=by
        have:wr .i64 (x+y)=wr .i64 (x+y+18446744073709551616):=by
         unfold wr IntKind.wrap;simp[IntKind.bits,IntKind.signed]
        rw[this];exact wrap_i64 ⟨by omega,by omega⟩
       rw[e3] at hd;have a1:x<x+y+18446744073709551616:=by omega
       have a2: ¬0<y:=by omega
       simp[a1,a2] at hd
      ·have e3:wr .i64 (x+y)=x+y-18446744073709551616:=by
        have:wr .i64 (x+y)=wr .i64 (x+y-18446744073709551616):=by
         unfold wr IntKind.wrap;simp[IntKind.bits,IntKind.signed]
        rw[this];exact wrap_i64 ⟨by omega,by omega⟩
       rw[e3] at hd;have a1: ¬x<x+y-18446744073709551616:=by omega
       have a2:0<y:=by omega
       simp[a1,a2] at hd
   ·exact absurd h2 h0
  ·exact absurd h1 h0
def RQ(z:Int):uV (-z)=uV z:=by unfold uV;rw[FC]
def Kh(h:x.natAbs<=y.natAbs)(hy:uV y=true):uV x=true:=by
 unfold uV at*;refine oG ?_;have:=gP hy;by_cases h0:x.natAbs=0
 ·rw[h0];decide
 ·have h1:Nat.log2 x.natAbs<=Nat.log2 y.natAbs:=(Nat.le_log2 (by omega)).2 (fZ ((Nat.le_log2 h0).1<|bG _) h);omega
def Ym(hr:rE r x)(hs:rE s y)(hx:uV x=true)(hy:uV y=true):Yd (fun q=>rE q<|x-y) (rY r s):=by
 unfold rY;refine Yd.kD (Ao hs) fun n hn=>Yd.kD (MC hr hn (by have:=hr.len hx;omega) (by have:=hn.len (by rw[RQ];exact hy);omega)) fun q hq=>Yd.mk ?_
 rwa [Int.sub_eq_add_neg]
def Yn(hr:rE r x)(hs:rE s y)(hx:uV x=true)(hy:uV y=true):Yd (fun q=>rE q<|x*y) (nB r s):=by
 have sgn:∀(b:Bool),b=(!(decide (x<0)==decide (y<0)))->(bif b then -((x.natAbs:Int)*(y.natAbs:Int)) else(x.natAbs:Int)*(y.natAbs:Int))=x*y:=by
  intro b hb;subst hb;rcases Int.lt_or_le x 0 with h1|h1<;>rcases Int.lt_or_le y 0 with h2|h2
  ·rw[bp h1,bp h2];show((x.natAbs:Int)*(y.natAbs:Int))=_;rw[show(x.natAbs:Int)= -x by omega,show(y.natAbs:Int)= -y by omega,Int.neg_mul_neg]
  ·rw[bp h1,bU (show¬y<0 by omega)];show -((x.natAbs:Int)*(y.natAbs:Int))=_;rw[show(x.natAbs:Int)= -x by omega,show(y.natAbs:Int)=y by omega,Int.neg_mul,Int.neg_neg]
  ·rw[bU (show¬x<0 by omega),bp h2];show -((x.natAbs:Int)*(y.natAbs:Int))=_;rw[show(x.natAbs:Int)=x by omega,show(y.natAbs:Int)= -y by omega,Int.mul_neg,Int.neg_neg]
  ·rw[bU (show¬x<0 by omega),bU (show¬y<0 by omega)];show((x.natAbs:Int)*(y.natAbs:Int))=_;rw[show(x.natAbs:Int)=x by omega,show(y.natAbs:Int)=y by omega]
 unfold nB;refine Yd.jn (fun _=>True) (fun _ _=>?_)<|fun k hk=>Yd.cond (fun hc=>?_)<|fun _=>hk _ trivial
 ·refine Yd.kD (qG hr) fun p ⟨p1,p2,p3,p4⟩=>Yd.kD (qG hs) fun q ⟨q1,q2,q3,q4⟩=>?_
  have l1:=hr.len hx;have l2:=hs.len hy;refine Yd.kD (Sl p2.1 q2.1 (by omega) (by omega)) fun w ⟨w1,w2⟩=>Yd.kD (zh w1<| !(p.1==q.1)) fun z hz=>Yd.mk ?_
  rw[w2,p3,q3,sgn _ (by rw[p1,q1])] at hz;exact hz
 ·obtain⟨h1,h2⟩:=eM hc;rw[CQ] at h1 h2;rcases hr with⟨_,e1,i1⟩|⟨h0,_⟩
  ·rcases hs with⟨_,e2,i2⟩|⟨h0,_⟩
   ·rw[e1,e2];unfold DP at i1 i2;have bx:(0:Int)<=(x.natAbs:Int)/\(x.natAbs:Int)<BB:=⟨by omega,by unfold BB;omega⟩;have by':(0:Int)<=(y.natAbs:Int)/\(y.natAbs:Int)<BB:=⟨by omega,by unfold BB;omega⟩;obtain⟨hi,lo,m1,m2,m3,m4,m5,m6⟩:=MD bx by';refine Yd.bd (OB i1)<|Yd.bd (OB i2)<|Yd.bd m1<|Yd.cond (fun hd=>?_)<|fun _=>hk _ trivial
    obtain⟨d1,d2⟩:=eM hd;have d1:=bg d1;have d2:=bg d2;have e3:wr .i64 lo=lo:=wrap_i64 ⟨by omega,by omega⟩;have d1:hi=0:=d1;have hp:(x.natAbs:Int)*(y.natAbs:Int)=lo:=by rw[m6,d1];omega
    have s2:=sgn _ rfl;rw[hp] at s2;refine Yd.cond (fun hn=>?_)<|fun hn=>?_
    ·rw[hn] at s2;simp only[fU] at s2;rw[e3];exact Yd.bd (aM ⟨by omega,by omega⟩) (Yd.mk (.inl ⟨rfl,s2,by unfold DP;omega⟩))
    ·rw[hn] at s2;simp only[fA] at s2;rw[e3];exact Yd.mk (.inl ⟨rfl,s2,by unfold DP;omega⟩)
   ·exact absurd h2 h0
  ·exact absurd h1 h0
def af6(hr:rE r x)(hs:rE s y)(hx:uV x=true)(hy:uV y=true):wC r s=some (Vy x y):=by
 have key:Yd (fun q=>q=Vy x y) (wC r s):=by
  unfold wC;refine Yd.cond (fun hc=>?_)<|fun _=>Yd.kD (Ym hr hs hx hy) fun q hq=>Yd.bd (BQ hq)<|Yd.mk ?_
  ·obtain⟨h1,h2⟩:=eM hc;rw[CQ] at h1 h2;rcases hr with⟨_,e1,i1⟩|⟨h0,_⟩
   ·rcases hs with⟨_,e2,i2⟩|⟨h0,_⟩
    ·rw[e1,e2];unfold Vy;refine Yd.cond (fun h=>Yd.mk (by rw[h];rfl)) (fun h=>Yd.cond (fun k=>Yd.mk (by rw[h,k];rfl)) (fun k=>Yd.mk (by rw[h,k];rfl)))
    ·exact absurd h2 h0
   ·exact absurd h1 h0
  ·unfold Vy;rcases vS x y with h|h|h
   ·rw[bp h,sV (by omega)];rfl
   ·subst h;rw[bU<|Int.lt_irrefl _,Int.sub_self];rfl
   ·rw[bU (by omega),bp h,ru (by omega)];rfl
 obtain⟨q,e,rfl⟩:=key;exact e
def aad(h:rE r z)(hz:z≠ -9223372036854775808):sC r=some (bif B0 z then(z,true) else(z.sign,false)):=by
 unfold sC
 congr 1
 rcases h with⟨h1,h2,h3⟩|⟨h0,h1,h2,h3,h4,h5⟩
 ·unfold DP at h3;have:B0 z=true:=by unfold B0;rw[bp h3.1,bp h3.2];rfl
  rw[this,h1,h2];rfl
 ·have:B0 z=false:=by
   unfold B0;rcases h1 with e|e
   ·rw[e,Int.one_mul] at h4;rw[bU (show¬z<=9223372036854775807 by omega)];simp
   ·rw[e] at h4;rw[bU (show¬ -9223372036854775808<=z by omega)];rfl
  rw[this];have hs:r.1=z.sign:=by
   rcases h1 with e|e
   ·rw[h4,e,Int.one_mul,ru (by omega)]
   ·rw[h4,e,sV (by omega)]
  have he:r.2.isEmpty=false:=by cases hr:r.2 with
   |nil=>exact absurd hr h0
   |cons _ _=>rfl
  rw[hs,he];rfl
def Mx{q r:Int}(h0:0<y)(h:r+y*q=x)(h1:0<=r)(h2:r<y):q=x/y/\r=x%y:=by
 obtain⟨h3,h4⟩:=(Int.ediv_emod_unique h0).2 ⟨h,h1,h2⟩;exact⟨h3.symm,h4.symm⟩
def Ph(h0:0<y):(0<=x->0<=x/y/\x/y<=x)/\(x<0->x<=x/y/\x/y<0):=by
 constructor
 ·intro h;exact⟨rn h (by omega),AG y h⟩
 ·intro h;refine⟨(Int.le_ediv_iff_mul_le h0).2 ?_,Int.ediv_neg_of_neg_of_pos h h0⟩;have:x*y<=x*1:=Int.mul_le_mul_of_nonpos_left (by omega) (by omega);omega
def OD(hr:rE r x)(hs:rE s y)(hx:uV x=true)(hy:uV y=true)(h0:0<y):Yd (fun q=>rE q.1 (x/y)/\rE q.2 (x%y)) (nR r s):=by
 unfold nR;have hm0:=sT x (show y≠0 by omega);have hm1:=rr x h0;have hdm:=zM x y;refine Yd.cond (fun hc=>?_)<|fun hc=>?_
 ·obtain⟨hc,h3⟩:=eM hc;obtain⟨h1,h2⟩:=eM hc;rw[CQ] at h1 h2;rw[jj,lq] at h3;rcases hr with⟨_,e1,i1⟩|⟨h0,_⟩
  ·rcases hs with⟨_,e2,i2⟩|⟨h0,_⟩
   ·rw[e1] at h3;rw[e1,e2];unfold DP at i1 i2;have t1:=Int.tmod_add_mul_tdiv x y;have hsm:=Ph (x:=x) h0;have q1:wb x y=some (x.tdiv y):=by
     unfold wb;rw[bU (by omega)];refine aM ?_;have a1:=Int.natAbs_tdiv_le_natAbs x y;exact⟨by omega,by omega⟩
    have q2:tC x y=some (x.tmod y):=by
     unfold tC;rw[bU (by omega)];rfl
    have b2:(0<=x->0<=x.tmod y/\x.tmod y<y)/\(x<0-> -y<x.tmod y/\x.tmod y<=0):=by
     refine⟨fun h=>⟨Int.tmod_nonneg y h,Int.tmod_lt_of_pos x h0⟩,fun h=>?_⟩;have h5:=Int.tmod_lt_of_pos (-x) h0;have h6:=Int.tmod_nonneg y (show 0<= -x by omega);rw[Int.neg_tmod] at h5 h6;omega
    refine Yd.bd q1<|Yd.bd q2<|Yd.jn (fun s=>s.1=x/y/\s.2=x%y) (fun s ⟨s1,s2⟩=>Yd.mk ⟨.inl ⟨rfl,s1,?_⟩,.inl ⟨rfl,s2,?_⟩⟩)<|fun k hk=>Yd.cond (fun hd=>?_)<|fun hd=>?_
    ·unfold DP;omega
    ·unfold DP;omega
    ·have hd:=bg hd;obtain⟨e3,e4⟩:=Mx (x:=x) (q:=x.tdiv y-1) (r:=x.tmod y+y) h0 (by rw[mK,qa];omega) (by omega) (by omega);refine Yd.bd (aM ⟨by omega,by omega⟩) (Yd.bd (aM ⟨by omega,by omega⟩)<|hk _ ⟨e3,e4⟩)
    ·have hd:=bV hd;obtain⟨e3,e4⟩:=Mx (x:=x) (q:=x.tdiv y) (r:=x.tmod y) h0 t1 (by omega) (by omega);exact hk _ ⟨e3,e4⟩
   ·exact absurd h2 h0
  ·exact absurd h1 h0
 ·have l1:=hr.len hx;have l2:=hs.len hy;refine Yd.kD (qG hr) fun p ⟨p1,p2,p3,p4⟩=>Yd.kD (qG hs) fun q ⟨q1,q2,q3,q4⟩=>?_
  have hq0:q.2≠[]:=fun e=>by rw[e] at q3;simp[aL] at q3;omega
  refine Yd.kD (OC p2 q2 hq0 (by omega) (by omega)) fun d ⟨⟨d1,d2⟩,d3,d4⟩=>Yd.kD (zh d1 p.1) fun Q hQ=>Yd.kD (zh d3 p.1) fun R hR=>?_
  rw[d2,p3,q3,p1] at hQ;rw[d4,p3,q3,p1] at hR;have ey:(y.natAbs:Int)=y:=by omega
  rw[ey] at hQ hR;have am0:=sT (x.natAbs:Int) (show y≠0 by omega);have am1:=rr (x.natAbs:Int) h0;have adm:=zM (x.natAbs:Int) y;refine Yd.bd (BQ hR)<|Yd.jn (fun s=>rE s.1 (x/y)/\rE s.2 (x%y)) (fun s hs=>Yd.mk hs)<|fun k hk=>Yd.cond (fun hd=>?_)<|fun hd=>?_
  ·have hd:=bg hd;have Bl:(bif decide (x<0) then -((x.natAbs:Int)%y) else(x.natAbs:Int)%y)<0:=by
    rcases vS (bif decide (x<0) then -((x.natAbs:Int)%y) else(x.natAbs:Int)%y) 0 with h|h|h
    ·exact h
    ·rw[h] at hd;exact absurd hd (by decide)
    ·rw[ru h] at hd;omega
   by_cases VR:x<0
   ·rw[bp VR] at hQ hR Bl;simp only[fU] at hQ hR Bl;have hab:(x.natAbs:Int)= -x:=by omega
    rw[hab] at hQ hR Bl am0 am1 adm;obtain⟨e3,e4⟩:=Mx (x:=x) (q:= -(-x/y)-1) (r:= -(-x%y)+y) h0 (by rw[mK,qa,Int.mul_neg];omega) (by omega) (by omega);have hof:p8 1=some (1,[]):=rfl;have h1r:rE (1,[]) 1:= .inl ⟨rfl,rfl,by unfold DP;omega⟩;have ao3:uV (-(-x/y))=true:=by
     refine Kh ?_ hx;have:=(Ph (x:= -x) h0).1 (by omega);omega
    have ao2:uV (-(-x%y))=true:=by
     refine Kh ?_ hy;omega
    refine Yd.bd hof (Yd.kD (Ym hQ h1r ao3 rfl) fun a ha=>Yd.kD (MC hR hs (by have:=hR.len ao2;omega) (by omega)) fun b hb=>hk _ ⟨?_,?_⟩)
    ·rwa [e3] at ha
    ·rwa [e4] at hb
   ·rw[bU VR] at Bl;simp only[fA] at Bl;omega
  ·have hd:=bV hd;refine hk _ ?_;by_cases VR:x<0
   ·rw[bp VR] at hQ hR hd;simp only[fU] at hQ hR hd;have hab:(x.natAbs:Int)= -x:=by omega
    rw[hab] at hQ hR hd am0 am1 adm;have hz: -x%y=0:=by
     rcases vS (-x%y) 0 with h|h|h
     ·omega
     ·exact h
     ·rw[sV (by omega)] at hd;omega
    obtain⟨e3,e4⟩:=Mx (x:=x) (q:= -(-x/y)) (r:= -(-x%y)) h0 (by rw[Int.mul_neg];omega) (by omega) (by omega);rw[e3] at hQ;rw[e4] at hR;exact⟨hQ,hR⟩
   ·rw[bU VR] at hQ hR;simp only[fA] at hQ hR;have hab:(x.natAbs:Int)=x:=by omega
    rw[hab] at hQ hR;exact⟨hQ,hR⟩
def Sn(hr:rE r x)(hs:rE s y)(hx:uV x=true)(hy:uV y=true)(h0:y≠0):Yd (fun q=>rE q<|x.fdiv y) (rZ r s):=by
 unfold rZ;refine Yd.bd (BQ hs)<|Yd.jn (fun t=>∃a b:Int,rE t.1 a/\rE t.2 b/\uV a=true/\uV b=true/\0<b/\a/b=x.fdiv y) ?_<|fun k hk=>Yd.cond (fun hd=>?_)<|fun hd=>?_
 ·rintro t ⟨a,b,h1,h2,h3,h4,h5,h6⟩;refine Yd.kD (OD h1 h2 h3 h4 h5) fun q ⟨hq,_⟩=>Yd.mk ?_
  rwa [h6] at hq
 ·have hd:=bg hd;have hn:y<0:=by
   rcases vS y 0 with h|h|h
   ·exact h
   ·exact absurd h h0
   ·rw[ru h] at hd;omega
  refine Yd.kD (Ao hr) fun a ha=>Yd.kD (Ao hs) fun b hb=>hk _ ⟨-x,-y,ha,hb,by rw[RQ];exact hx,by rw[RQ];exact hy,by omega,?_⟩
  rw[<-JB _ (show 0<= -y by omega),Int.neg_fdiv_neg]
 ·have hd:=bV hd;have hn:0<y:=by
   rcases vS y 0 with h|h|h
   ·rw[sV h] at hd;omega
   ·exact absurd h h0
   ·exact h
  exact hk _ ⟨x,y,hr,hs,hx,hy,hn,(JB _ (by omega)).symm⟩
def afJ(r:Int×asv Int):Int:=if r.2=[] then r.1 else r.1*aL r.2
def rE.val(h:rE r z):afJ r=z:=by
 unfold afJ;rcases h with⟨h1,h2,_⟩|⟨h0,_,_,_,h4,_⟩
 ·rw[if_pos h1,h2]
 ·rw[if_neg h0,h4]
def muG(a b:Nat):Nat:=if b=0 then 0 else Nat.log2 (a*b)+1+(if a<b then 1 else 0)
def Yy{m:Nat}(h:m<=n):Nat.log2 m<=Nat.log2 n:=by
 by_cases h0:m=0
 ·subst h0;simp
 ·exact Sw<|fZ ((Nat.le_log2 h0).1<|bG _) h
def OF{a b:Nat}(hb:b≠0):muG b (a%b)<muG a b:=by
 have hlt:=uv a (show b>0 by omega);unfold muG;rw[if_neg hb];by_cases h0:a%b=0
 ·rw[if_pos h0];omega
 ·rw[if_neg h0,if_neg (show¬b<a%b by omega)];by_cases hab:a<b
  ·rw[if_pos hab,AH hab,pF];omega
  ·rw[if_neg hab];have h1:2*(a%b)<=a:=by
    have:=Nat.mod_add_div a b;have h2:1<=a/b:=(Nat.one_le_div_iff (by omega)).2 (by omega);have h3:b*1<=b*(a/b):=FJ _ h2;omega
   have h2:2*(b*(a%b))<=a*b:=by
    have:=FJ b h1;rw[Nat.mul_left_comm,pF b a] at this;exact this
   have h3:b*(a%b)≠0:=Nat.mul_ne_zero hb h0;have h4:=Yy h2;have h5:Nat.log2 (2*(b*(a%b)))=Nat.log2 (b*(a%b))+1:=by
    rw[Nat.log2_two_mul h3]
   omega
def WD{a b:Nat}(ha:Nat.log2 a<1099511627776)(hb:Nat.log2 b<1099511627776):muG a b<18446744073709551616:=by
 unfold muG;have h1:a<2^(Nat.log2 a+1):=Nat.lt_log2_self;have h2:b<2^(Nat.log2 b+1):=Nat.lt_log2_self;have h3:Nat.log2 (a*b)<Nat.log2 a+1+(Nat.log2 b+1):=by
  by_cases h0:a*b=0
  ·rw[h0];simp;omega
  ·rw[yA h0,qO];exact Nat.mul_lt_mul'' h1 h2
 split
 ·omega
 ·split<;>omega
def Yo(hr:rE r x)(hs:rE s y)(hx:uV x=true)(hy:uV y=true):Yd (fun q=>rE q (Int.gcd x y:Int)) (Fu r s):=by
 unfold Fu;refine Yd.kD (Sp hr) fun a ha=>Yd.kD (Sp hs) fun b hb=>?_
 have hx':=gP hx;have hy':=gP hy;refine Yd.lp (fun t:(Int×asv Int)×(Int×asv Int)=>∃a b:Nat,rE t.1 (a:Int)/\rE t.2 (b:Int)/\Nat.gcd a b=Int.gcd x y/\uV a=true/\uV b=true) (fun t:(Int×asv Int)×(Int×asv Int)=>muG (afJ t.1).natAbs (afJ t.2).natAbs) ?_ _ _ ⟨x.natAbs,y.natAbs,ha,hb,rfl,by simpa[uV] using hx,by simpa[uV] using hy⟩ ?_
 ·rintro next ⟨p,q⟩ ⟨a,b,h1,h2,h3,h4,h5⟩ hn
  simp only at h1 h2 hn⊢;refine Yd.bd (BQ h2)<|Yd.cond (fun hc=>?_)<|fun hc=>?_
  ·have hb0:b≠0:=fun e=>by subst e;simp at hc
   refine Yd.kD (OD h1 h2 h4 h5 (by omega)) fun d ⟨_,hd⟩=>?_
   have hd':rE d.2 ((a%b:Nat):Int):=by rw[Int.natCast_emod];exact hd
   have hlt:=uv a (show b>0 by omega);refine hn _ ⟨b,a%b,h2,hd',?_,h5,Kh (by omega) h5⟩ ?_
   ·rw[<-h3,Fy b<|a%b,<-Nat.gcd_rec,Fy]
   ·dsimp only;rw[h2.val,hd'.val,h1.val];exact OF hb0
  ·have hb0:b=0:=by
    rw[MR,j4] at hc;have:=Int.sign_eq_zero_iff_zero.1 hc;omega
   subst hb0;refine Yd.mk ?_;rw[Nat.gcd_zero_right] at h3;rw[<-h3];exact h1
 ·dsimp only;rw[ha.val,hb.val];exact WD (by show Nat.log2 x.natAbs<_;omega) (by show Nat.log2 y.natAbs<_;omega)
end
section
open Go.Shelf
variable[D:DR]
variable{x:Int}{l:aev}{H:HV}{c y:Int}{r:Int×Int}
def N9{s:aev}{r:aev×Int×Unit}(hm:zF l s=some r):gi prog 67 [] (.HX 133 5<|lB l) (.HX 133 5<|lB r.1) [TS s] [TI .i64 r.2.1,akC r.2.2]:=
 aa5 (ρ:=AJ) {M6 with} pH ax hm
def aiq{r:aev×Int}(hm:WI l=some r):gi prog 69 [] (.HX 133 5<|lB l) (.HX 133 5<|lB r.1) [] [TI .i64 r.2]:=
 aek agd ax hm
def QM{r:aev}(hm:yQ l=some r):gi prog 70 [] (.HX 133 5<|lB l) .gone [] [TS r]:=
 XE (ρ:=AJ) {M6 with} pH ax hm
def index_one(c:UInt8):∀s:aev,Lib.index s [c]= -1\/0<=Lib.index s [c]
 |[]=> .inl rfl
 |b::l=>by
  have:=Lib.index_ge (b::l) [c];omega
def ad5(c b:UInt8)(l:aev):Lib.cut (b::l) [c]=if c==b then([],l,true) else(b::(Lib.cut l [c]).1,(Lib.cut l [c]).2.1,(Lib.cut l [c]).2.2):=by
 have e:Lib.index (b::l) [c]=if c==b then 0 else if Lib.index l [c]== -1 then -1 else Lib.index l [c]+1:=by
  simp[Lib.index,List.isPrefixOf]
 unfold Lib.cut;rw[e];by_cases h:(c==b)=true
 ·simp[h]
 ·simp only[Bool.not_eq_true] at h;simp only[h];rcases index_one c l with h1|h1
  ·simp[h1]
  ·have h2: ¬Lib.index l [c]= -1:=by omega
   have h3:(0:Int)<=Lib.index l [c]+1:=by omega
   have h4:(Lib.index l [c]+1).toNat=(Lib.index l [c]).toNat+1:=by omega
   simp[h1,h2,h3,h4]
def JT(c:UInt8):∀(s pre:aev),cutAt c pre s=(pre.reverse++(Lib.cut s [c]).1,(Lib.cut s [c]).2.1,(Lib.cut s [c]).2.2)
 |[],pre=>by
  have:Lib.cut [] [c]=([],[],false):=by unfold Lib.cut;simp[Lib.index]
  simp[cutAt,this]
 |b::l,pre=>by
  rw[ad5];unfold cutAt;by_cases h:(c==b)=true
  ·have h':(b==c)=true:=by rw[wE] at h⊢;exact h.symm
   simp[h,h']
  ·have h':(b==c)=false:=by
    cases e:(b==c) with
    |false=>rfl
    |true=>exact absurd (by rw[wE] at e⊢;exact e.symm) h
   simp only[Bool.not_eq_true] at h;simp[h,h',JT c l (b::pre)]
def am6{w:aq5}(sub:∀r o,H r=some o->w.heap[r]? =some o)(gl:qn prog H):∃m,w.cell? ⟨0,0,none⟩=some (.int .i64 m):=by
 have hT:(prog.globals[0]?).map (·.type)=some 3:=ax;have:=gl 0 3 hT;have hu:prog.underlying 3=some (.int .i64):=ax;unfold Fa at this;rw[hu] at this;obtain⟨m,E,fr,e⟩:=this;exact⟨m,by simp[World.cell?,sub _ _ e]⟩
def ahp{x y:aev}{r:aev×aev×Bool}(hm:Yw x y=some r):cw 78 [TS x,TS y] [TS r.1,TS r.2.1,aZ r.2.2]:=by
 match y,hm with
 |[c],hm=>
  obtain⟨hb,rfl⟩:=js hm;have hb:x.length<4294967281:=gP hb;refine qT ax fun w H vs sub gl ha=>?_
  obtain⟨u,v,rfl,hu,hv⟩:=Cs ha;have hu:u= .string ⟨x.toArray⟩:=hu;have hv:v= .string ⟨#[c]⟩:=hv;subst hu;subst hv;obtain⟨m,hm⟩:=am6 sub gl;refine(strings_Cut ⟨x.toArray⟩ ⟨#[c]⟩ m w (by simpa[ByteArray.size] using hb) hm).mono ?_;rintro e w' ⟨rfl,n,rfl⟩;refine⟨_,rfl,⟨⟨rfl,rfl,rfl,bG _,fun _ _=>rfl⟩,HU.of<|CR _ _⟩,_,rfl,_,_,rfl,?_,_,_,rfl,?_,_,_,rfl,?_,rfl⟩
  ·rw[JT];rfl
  ·rw[JT];rfl
  ·rw[JT];rfl
def Uz{H:HV}:∀{l:asv aev} {cs:asv aq6},vH H (lT TS l) cs->cs=l.map fun x=>Value.string ⟨x.toArray⟩
 |[],_,h=>h
 |x::l,_,⟨v,rest,e,hv,hr⟩=>by
  have hv:v= .string ⟨x.toArray⟩:=hv;subst hv;rw[e,Uz hr];rfl
def join_eq(x:aev):∀(l:asv aev) (y:aev),l.foldl (fun s z=>s++(x++z)) y=y++Lib.joinTail x l
 |[],y=>by simp[Lib.joinTail]
 |z::l,y=>by
  rw[Jr,join_eq x l];simp[Lib.joinTail]
def ais[PG]{l:asv aev}{x r:aev}(hm:Yv l x=some r):cw 68 [(TL TS) l,TS x] [TS r]:=by
 obtain⟨r0,h0,hm⟩:=aA hm;obtain⟨hb,rfl⟩:=js hm;rw[cW] at hb;obtain⟨hb1,hb2⟩:=hb;have hb1:=gP hb1;have hb2:=gP hb2;refine qT ax fun w H vs sub gl ha=>?_
 obtain⟨u,v,rfl,hu,hv⟩:=Cs ha;have hv:v= .string ⟨x.toArray⟩:=hv;subst hv;obtain⟨ad,cap,rfl,hc,hu⟩:=hu
 match l,h0,hb1,hc,hu with
 |[],h0,_,_,_=>
  have h0:=fG h0;subst h0;refine(strings_Join_none ad cap ⟨x.toArray⟩ w).mono ?_;rintro e w' ⟨rfl,rfl⟩;exact⟨_,rfl,F4.refl _ _,rfl⟩
 |y::l,h0,hb1,hc,hu=>
  have h0:=fG h0;obtain⟨b,off,cs,E,fr,rfl,hH,hs,ho⟩:=hu (by simp[lT]);have hw:=sub _ _ hH;have hcs:=Uz ho;have hn:dm (lT TS (y::l))=(y::l).length:=by
   have:=oD ho;rw[hcs] at this;simpa using this.symm
  have hj:(Lib.join ((List.map (fun z:aev=>(⟨z.toArray⟩:ByteArray)) (y::l)).map (·.data.toList)) x)=r0:=by
   have:(List.map (fun z:aev=>(⟨z.toArray⟩:ByteArray)) (y::l)).map (·.data.toList)=y::l:=by simp[Jn,Function.comp_def]
   rw[this,Lib.join_cons,<-h0,join_eq]
  obtain⟨xs,hxs⟩:∃xs:asv ByteArray,xs=(y::l).map fun z=>⟨z.toArray⟩:=⟨_,rfl⟩
  rw[<-hxs] at hj;have hl0:(lT TS (y::l)).length=xs.length:=by rw[hxs];simp[lT]
  have OX:(y::l).length=xs.length:=by rw[hxs];simp
  rw[hl0] at hc;have YU:∀(j:Nat) z,xs[j]? =some z->w.cell? ⟨b,off+j,none⟩=some (.string z):=by
   intro j z hz;have h1:((cs.toList.drop off).take<|dm<|lT TS (y::l))[j]? =some (.string z):=by
    rw[hcs,nS];rw[hxs,nS] at hz;cases hy:(y::l)[j]? with
    |none=>rw[hy] at hz;cases hz
    |some q=>rw[hy] at hz;cases hz;rfl
   rw[Bi] at h1;split at h1
   ·rw[zJ] at h1;simp only[World.cell?,hw];rw[<-vX];exact h1
   ·cases h1
  have key:=strings_Join b off cap xs ⟨x.toArray⟩ w YU (lt_of_heap hw) (by rw[<-OX];exact hb1) hc (by rw[hj];exact hb2);have e2:([Value.slice (some ⟨b,off,none⟩) (lT TS (y::l)).length cap,.string ⟨x.toArray⟩]:asv aq6).toArray= #[.slice (some ⟨b,off,none⟩) xs.length cap,.string ⟨x.toArray⟩]:=by rw[hl0]
  rw[e2];refine key.mono ?_;rintro e w' ⟨rfl,hbw⟩;exact⟨_,rfl,⟨hbw,HU.aom⟩,by show Value.string _=_;rw[hj]⟩
def Pv(w:aq5)(e:asr)(s:ByteArray):F4 w.heap.size w (Lib.bytesWorld w e s):=
 ⟨⟨by unfold Lib.bytesWorld World.freeze;split<;>rfl,by unfold Lib.bytesWorld World.freeze;split<;>rfl,by unfold Lib.bytesWorld World.freeze;split<;>rfl,by rw[Lib.bytesWorld_size];omega,fun k hk=>Lib.bytesWorld_at_old w e s k hk⟩,HU.of (by unfold Lib.bytesWorld World.freeze;split<;>exact wF _)⟩
def LB:∀(l:aev) (acc:Nat),l.all iB=true->Lib.decFrom acc l=some (l.foldl (fun n b=>10*n+(b.toNat-48)) acc)
 |[],acc,_=>rfl
 |b::l,acc,h=>by
  rw[sE,cW] at h;obtain⟨h1,h2⟩:=h;unfold iB at h1;rw[cW] at h1;have h3:=gP h1.1;have h4:=gP h1.2;unfold Lib.decFrom Lib.digitVal;rw[if_pos ⟨h3,h4⟩];simp only[Jr];rw[LB l _ h2,pF]
def VB{s:aev}(h0:s.isEmpty=false)(h:s.all iB=true):Lib.atoi s=some (dZ s:Int):=by
 match s,h0,h with
 |b::l,_,h=>
  have hb:iB b=true:=by rw[sE,cW] at h;exact h.1
  unfold iB at hb;rw[cW] at hb;have h3:=gP hb.1;have h5:(b==45)=false:=by
   cases e:b==45 with
   |false=>rfl
   |true=>rw[wE] at e;subst e;exact absurd h3 (by decide)
  have h6:(b==43)=false:=by
   cases e:b==43 with
   |false=>rfl
   |true=>rw[wE] at e;subst e;exact absurd h3 (by decide)
  have hd:Lib.decNat (b::l)=some (dZ (b::l)):=by
   unfold Lib.decNat;rw[if_neg (by simp)];exact LB _ 0 h
  show(if(b==45)=true then(Lib.decNat l).map fun(m:Nat)=> -(m:Int) else if(b==43)=true then(Lib.decNat l).map fun(m:Nat)=>(m:Int) else(Lib.decNat (b::l)).map fun(m:Nat)=>(m:Int))=_;rw[h5,h6,hd]
  rfl
def aiv{x:aev}{r:Int×Unit}(hm:OH x=some r):cw 216 [TS x] [TI .i64 r.1,akC r.2]:=by
 obtain⟨hb,rfl⟩:=js hm;rw[cW,cW] at hb;obtain⟨⟨h1,h2⟩,h3⟩:=hb;have h1:x.isEmpty=false:=by simpa using h1
 have h2:=gP h2;refine qT ax fun w H vs sub gl ha=>?_
 obtain⟨u,rfl,hu⟩:=tT ha;have hu:u= .string ⟨x.toArray⟩:=hu;subst hu;refine(strconv_Atoi ⟨x.toArray⟩ (dZ x:Int) (by simpa[ByteArray.size] using h2) (VB h1 h3) w).mono ?_;rintro e w' ⟨rfl,t,rfl⟩;exact⟨_,rfl,Pv w 5 t,_,rfl,_,_,rfl,rfl,_,_,rfl,rfl,rfl⟩
def G6:auA aq6->Sem aq6:=fun args=>do
 let(x,y,b)<-Extern.MathBitsCarry.three "Sub64" args
 pure (Extern.MathBitsCarry.pair ((x+Extern.MathBitsCarry.m64-y-b)%Extern.MathBitsCarry.m64)<|if x<y+b then 1 else 0)
def ZU{P:ast}(X Y k:Nat)(hk:k<=1)(w:aq5):(G6 #[.int .u64 (X:Int),.int .u64 (Y:Int),.int .u64 (k:Int)]).run P w=
  .ok (Extern.MathBitsCarry.pair ((X+18446744073709551616-Y-k)%18446744073709551616)<|if X<Y+k then 1 else 0) w:=by
 have:k=0\/k=1:=by omega
 rcases this with rfl|rfl<;>rfl
def tt(h:w8 x=true):∃n:Nat,x=n/\n<18446744073709551616:=by
 unfold w8 at h;rw[cW,j4,j4] at h;obtain⟨n,rfl⟩:=gQ h.1;exact⟨n,rfl,by omega⟩
def Pt(h:(decide (c=0)||decide (c=1))=true):∃k:Nat,c=k/\k<=1:=by
 rw[qd,j4,j4] at h;rcases h with rfl|rfl
 ·exact⟨0,rfl,by omega⟩
 ·exact⟨1,rfl,by omega⟩
def Q0{τ σ υ:Ty}{vs:asv aq6}(h:Ct H [τ,σ,υ] vs):∃v u t,vs=[v,u,t]/\τ.ok H v/\σ.ok H u/\υ.ok H t:=by
 obtain⟨v,rest,e,hv,hr⟩:=h;obtain⟨u,t,e2,hu,ht⟩:=Cs hr;subst e2;exact⟨v,u,t,e,hv,hu,ht⟩
def afk(M X Y k:Nat)(hY:Y<M)(hk:k<=1):(((X+M-Y-k)%M:Nat):Int)=((X:Int)-Y-k)%(M:Int):=by
 have:((X+M-Y-k:Nat):Int)=((X:Int)-Y-k)+M:=by omega
 rw[Int.natCast_emod,this,Int.add_emod_right]
def sub_lt(X Y k:Nat):((if X<Y+k then 1 else 0:Nat):Int)=bif decide ((X:Int)<Y+k) then 1 else 0:=by
 by_cases h:X<Y+k
 ·have h':(X:Int)<(Y:Int)+(k:Int):=by omega
  simp[h,h']
 ·have h': ¬(X:Int)<(Y:Int)+(k:Int):=by omega
  simp[h,h']
def Ci(hm:oE x y c=some r):Tg prog 322 [TI .u64 x,TI .u64 y,TI .u64 c] [TI .u64 r.1,TI .u64 r.2]:=by
 unfold oE at hm;cases hb:((w8 x&&w8 y)&&(decide (c=0)||decide (c=1)))
 ·rw[hb] at hm;cases hm
 rw[hb] at hm;have hm:=fG hm;subst hm;rw[cW,cW] at hb;obtain⟨⟨h1,h2⟩,h3⟩:=hb;obtain⟨X,rfl,hX⟩:=tt h1;obtain⟨Y,rfl,hY⟩:=tt h2;obtain⟨k,rfl,hk⟩:=Pt h3;refine⟨fun w H vs ha=>?_⟩;obtain⟨u,v,t,rfl,hu,hv,ht⟩:=Q0 ha;have hu:u= .int .u64 (X:Int):=hu;have hv:v= .int .u64 (Y:Int):=hv;have ht:t= .int .u64 (k:Int):=ht;subst hu;subst hv;subst ht;refine⟨.tuple #[.int .u64<|((X:Int)+Y+k)%18446744073709551616,.int .u64<|((X:Int)+Y+k)/18446744073709551616],w,?_,⟨Below.refl _ _,bG _⟩,?_⟩
 ·rw[run_callFunc_extern func322 ax ax ax (e:=add64Entry) ax];show Result.andThen ((add64Entry #[.int .u64 (X:Int),.int .u64 (Y:Int),.int .u64 (k:Int)]).run prog w) _=_;rw[run_add64 _ _ _ (by omega) (by omega) (by omega) (by omega) w]
  rfl
 ·exact⟨_,rfl,_,_,rfl,rfl,_,_,rfl,rfl,rfl⟩
def R0(hm:AA x y c=some r):Tg prog 324 [TI .u64 x,TI .u64 y,TI .u64 c] [TI .u64 r.1,TI .u64 r.2]:=by
 unfold AA at hm;cases hb:((w8 x&&w8 y)&&(decide (c=0)||decide (c=1)))
 ·rw[hb] at hm;cases hm
 rw[hb] at hm;have hm:=fG hm;subst hm;rw[cW,cW] at hb;obtain⟨⟨h1,h2⟩,h3⟩:=hb;obtain⟨X,rfl,hX⟩:=tt h1;obtain⟨Y,rfl,hY⟩:=tt h2;obtain⟨k,rfl,hk⟩:=Pt h3;refine⟨fun w H vs ha=>?_⟩;obtain⟨u,v,t,rfl,hu,hv,ht⟩:=Q0 ha;have hu:u= .int .u64 (X:Int):=hu;have hv:v= .int .u64 (Y:Int):=hv;have ht:t= .int .u64 (k:Int):=ht;subst hu;subst hv;subst ht;refine⟨Extern.MathBitsCarry.pair ((X+18446744073709551616-Y-k)%18446744073709551616)<|if X<Y+k then 1 else 0,w,?_,⟨Below.refl _ _,bG _⟩,?_⟩
 ·rw[run_callFunc_extern func324 ax ax ax (e:=G6) ax];show Result.andThen ((G6 #[.int .u64 (X:Int),.int .u64 (Y:Int),.int .u64 (k:Int)]).run prog w) _=_;rw[ZU _ _ _ hk w]
  rfl
 ·refine⟨_,rfl,_,_,rfl,?_,_,_,rfl,?_,rfl⟩
  ·exact congrArg (Value.int .u64)<|afk 18446744073709551616 X Y k hY hk
  ·exact congrArg (Value.int .u64)<|sub_lt X Y k
def Mr(hm:yz x y=some r):cw 256 [TI .u64 x,TI .u64 y] [TI .u64 r.1,TI .u64 r.2]:=by
 unfold yz at hm;cases hb:(w8 x&&w8 y)
 ·rw[hb] at hm;cases hm
 rw[hb] at hm;have hm:=fG hm;subst hm;rw[cW] at hb;obtain⟨X,rfl,hX⟩:=tt hb.1;obtain⟨Y,rfl,hY⟩:=tt hb.2;refine qT ax fun w H vs sub gl ha=>?_
 obtain⟨u,v,rfl,hu,hv⟩:=Cs ha;have hu:u= .int .u64 (X:Int):=hu;have hv:v= .int .u64 (Y:Int):=hv;subst hu;subst hv;refine(bits_Mul64 X Y hX hY w).mono ?_;rintro e w' ⟨rfl,rfl⟩;exact⟨_,rfl,F4.refl _ _,_,rfl,_,_,rfl,congrArg (Value.int .u64) (by rw[Int.natCast_ediv,uo];rfl),_,_,rfl,congrArg (Value.int .u64) (by rw[Int.natCast_emod,uo];rfl),rfl⟩
def JV:∀(f n:Nat),n<2^f->Lib.bitLenAux f n=DD n
 |0,n,h=>by
  have:n=0:=by simpa using h
  subst this;rfl
 |f+1,n,h=>by
  unfold Lib.bitLenAux DD;by_cases h0:n=0
  ·subst h0;rfl
  ·rw[if_neg h0,JV f (n/2) (by rw[CG] at h;omega)];have hb:Nat.beq n 0=false:=by
    cases e:Nat.beq n 0 with
    |false=>rfl
    |true=>exact absurd (fX e) h0
   rw[hb];unfold DD;by_cases h1:n/2=0
   ·have:n=1:=by omega
    subst this;rfl
   ·have hb2:Nat.beq (n/2) 0=false:=by
     cases e:Nat.beq (n/2) 0 with
     |false=>rfl
     |true=>exact absurd (fX e) h1
    rw[hb2];show 1+(Nat.log2 (n/2)+1)=Nat.log2 n+1
    conv=>rhs;rw[Nat.log2_def,if_pos (by omega)]
    omega
def bitLen_eq{n:Nat}(h:n<18446744073709551616):Lib.bitLen n=DD n:=JV 64 n h
def afD{r:Int}(hm:Ji x=some r):cw 269 [TI .u64 x] [TI .i64 r]:=by
 unfold Ji at hm;cases hb:w8 x
 ·rw[hb] at hm;cases hm
 rw[hb] at hm;have hm:=fG hm;subst hm;obtain⟨X,rfl,hX⟩:=tt hb;refine qT ax fun w H vs sub gl ha=>?_
 obtain⟨u,rfl,hu⟩:=tT ha;have hu:u= .int .u64 (X:Int):=hu;subst hu;refine(bits_Len64 (X:Int) w (by omega) (by omega)).mono ?_;rintro e w' ⟨rfl,rfl⟩;exact⟨_,rfl,F4.refl _ _,congrArg (Value.int .i64) (by rw[Int.toNat_natCast,bitLen_eq hX])⟩
def abX{r:Int}(hm:KB x=some r):cw 342 [TI .u64 x] [TI .i64 r]:=by
 unfold KB at hm;cases hb:w8 x
 ·rw[hb] at hm;cases hm
 rw[hb] at hm;have hm:=fG hm;subst hm;obtain⟨X,rfl,hX⟩:=tt hb;refine qT ax fun w H vs sub gl ha=>?_
 obtain⟨u,rfl,hu⟩:=tT ha;have hu:u= .int .u64 (X:Int):=hu;subst hu;refine(bits_LeadingZeros64 (X:Int) w (by omega) (by omega)).mono ?_;rintro e w' ⟨rfl,rfl⟩;exact⟨_,rfl,F4.refl _ _,congrArg (Value.int .i64) (by rw[Int.toNat_natCast,bitLen_eq hX])⟩
end
section
variable{k:Nat}{x y:Rat}{z:Int}{n j:Nat}{r:Int×asv Int}{a b:Nat}
def aiz:Bool:=(List.range 19).all fun k=>decide<|r8 (10,[]) (k:Int)=some ((10:Int)^k,[])
def Z4:aiz=true:=ax
def aae(h:k<=18):r8 (10,[]) (k:Int)=some ((10:Int)^k,[]):=by
 have:=dC.1 Z4 k (wJ.2 (by omega));exact bg this
def Fj:∀(l:aev) (n:Nat),l.foldl (fun n b=>10*n+(b.toNat-48)) n=n*10^l.length+dZ l
 |[],n=>by simp[dZ]
 |b::l,n=>by
  have e:dZ (b::l)=(b.toNat-48)*10^l.length+dZ l:=by
   show l.foldl (fun n b=>10*n+(b.toNat-48)) (10*0+(b.toNat-48))=_;rw[Fj l,Nat.mul_zero,wG]
  rw[Jr,Fj l,e,pg,List.length_cons,CG];have:10*n*10^l.length=n*(10^l.length*10):=by rw[pF 10 n,Nat.mul_assoc,pF 10]
  omega
def wP(l m:aev):dZ (l++m)=dZ l*10^m.length+dZ m:=by
 show(l++m).foldl _ 0=_;rw[List.foldl_append,Fj m];rfl
def aav{b:UInt8}(h:iB b=true):b.toNat-48<=9:=by
 unfold iB at h;obtain⟨_,h2⟩:=eM h;have:=gP h2;omega
def yl:∀(l:aev),l.all iB=true->dZ l<10^l.length
 |[],_=>by simp[dZ]
 |b::l,h=>by
  rw[sE] at h;obtain⟨h1,h2⟩:=eM h;have:=yl l h2;have hb:=aav h1;show(b::l).foldl _ 0<_;rw[Jr,Fj l,List.length_cons,CG];have:(10*0+(b.toNat-48))*10^l.length<=9*10^l.length:=nE _ (by omega);omega
def ym(h:z.natAbs<10^n)(hn:n<=1000000):uV z=true:=by
 unfold uV;refine oG ?_;rcases xD z.natAbs with h0|h0
 ·rw[h0];exact oG (by simp)|>gP
 ·have h1:(10:Nat)^n<=(2^4)^n:=Nat.pow_le_pow_left (by omega) n;rw[<-Nat.pow_mul] at h1;have:Nat.log2 z.natAbs<4*n:=(yA (by omega)).2 (by omega);omega
def acA{s:aev}(h:uP s=some z):Yd (fun q=>rE q z) (CA s):=by
 have core:∀(ds:aev) (neg:Bool) (w:Int),(ds.all iB&&Nat.blt ds.length 1000000)=true->w=(bif neg then -(dZ ds:Int) else(dZ ds:Int))->
   Yd (fun q=>rE q w) (lp 18446744073709551616 (fun(k6:(aev×(Int×asv Int))->auz _) (s5:aev×(Int×asv Int))=>
    cond (decide<|(0:Int)<(s5.1.length:Int)) (
     bd (iR s5.1 0<|mn_ (18:Int) (s5.1.length:Int)) fun x8=>
     bd (OH x8) fun eF=>
     bd (p8 (10:Int)) fun fJ=>
     bd (r8 fJ<|mn_ (18:Int) (s5.1.length:Int)) fun gH=>
     bd (nB s5.2 gH) fun ib=>
     bd (p8 eF.1) fun jG=>
     bd (nC ib jG) fun lN=>
     bd (iR s5.1 (mn_ (18:Int) (s5.1.length:Int)) (s5.1.length:Int)) fun nZ=>
     k6 (nZ,lN)
    ) (
     cond neg (
      bd (jg s5.2) fun pt=>
      some pt
     ) (
      some s5.2
     )
    )
   ) (ds,(0,[]))):=by
  intro ds neg w hds hw;obtain⟨hd,hl⟩:=eM hds;have hl:ds.length<1000000:=gP hl;refine Yd.lp (fun t:aev×(Int×asv Int)=>t.1.all iB=true/\t.1.length<=ds.length/\∃v:Nat,rE t.2 (v:Int)/\v<10^(ds.length-t.1.length)/\v*10^t.1.length+dZ t.1=dZ ds)
   (fun t:aev×(Int×asv Int)=>t.1.length) ?_ _ _ ⟨hd,bG _,0,.inl ⟨rfl,rfl,by unfold DP;omega⟩,by dsimp only;rw[Nat.sub_self];decide,by dsimp only;omega⟩ (by dsimp only;omega)
  rintro next ⟨ss,r⟩ ⟨h1,h2,v,h3,h4,h5⟩ hn
  dsimp only at h1 h2 h3 h4 h5 hn⊢;have hsv:uV (v:Int)=true:=ym (n:=ds.length-ss.length) (by simpa using h4) (by omega);refine Yd.cond (fun hc=>?_)<|fun hc=>?_
  ·have hc:=bg hc;obtain⟨m,hm,hm1,hm2,hm3⟩:∃m:Nat,mn_ 18 (ss.length:Int)=(m:Int)/\m<=18/\m<=ss.length/\0<m:=by
    unfold mn_;by_cases h:(ss.length:Int)<18
    ·rw[bp h];exact⟨ss.length,rfl,by omega,by omega,by omega⟩
    ·rw[bU h];exact⟨18,rfl,by omega,by omega,by omega⟩
   rw[hm];have hss:ss=ss.take m++ss.drop m:=(zN m ss).symm;have hall:=h1;rw[hss,MM] at hall;obtain⟨a1,a2⟩:=eM hall;have hlt:(ss.take m).length=m:=by rw[List.length_take];omega
   have hld:(ss.drop m).length=ss.length-m:=nD;have EL:=wP (ss.take m)<|ss.drop m
   rw[<-hss,hld] at EL;have hb:=yl _ a1;rw[hlt] at hb;have Vf:dZ (ss.take m)<10^18:=oF hb (vU (by omega) hm1);have as7:(10:Nat)^m<=10^18:=vU (by omega) hm1;have amu:((10:Int)^m)=((10^m:Nat):Int):=by rw[Int.natCast_pow];rfl
   have hat:OH (ss.take m)=some ((dZ (ss.take m):Int),()):=by
    unfold OH;have e1:(ss.take m).isEmpty=false:=by
     cases he:(ss.take m) with
     |nil=>rw[he] at hlt;simp at hlt;omega
     |cons _ _=>rfl
    have e2:Nat.ble (ss.take m).length 18=true:=oG (by omega);rw[e1,e2,a1];rfl
   refine Yd.bd (ke (by omega) (by omega) (by omega)) ?_;have e0:(ss.take ((m:Nat):Int).toNat).drop ((0:Int)).toNat=ss.take m:=by simp
   rw[e0];refine Yd.bd hat<|Yd.bd (show p8 10=some (10,[]) from rfl)<|Yd.bd (aae hm1) ?_
   have hp:0<(10:Nat)^m:=Fv (by omega);have hrp:rE ((10:Int)^m,[]) ((10^m:Nat):Int):= .inl ⟨rfl,by dsimp only;exact amu,by unfold DP;omega⟩;have qt:(10:Nat)^18<10^19:=by decide
   have ao1:uV ((10^m:Nat):Int)=true:=ym (n:=19) (by simp only[kP];omega) (by omega);refine Yd.kD (Yn h3 hrp hsv ao1) fun q hq=>?_
   refine Yd.bd (show p8 (dZ (ss.take m):Int)=some ((dZ (ss.take m):Int),[]) from rfl) ?_;have VS:rE ((dZ (ss.take m):Int),[]) (dZ (ss.take m):Int):= .inl ⟨rfl,rfl,by unfold DP;omega⟩;have apF:ds.length-(ss.drop m).length=(ds.length-ss.length)+m:=by rw[hld];omega
   have SQ:v*10^m+dZ (ss.take m)<10^(ds.length-(ss.drop m).length):=by
    rw[apF,qO];have:(v+1)*10^m<=10^(ds.length-ss.length)*10^m:=nE _ (by omega);rw[pg,uw] at this;omega
   have ao0:uV ((v:Int)*((10^m:Nat):Int))=true:=by
    rw[<-uo];exact ym (n:=ds.length-(ss.drop m).length) (by simp only[kP];omega) (by omega)
   have hlq:=hq.len ao0;refine Yd.kD (MC hq VS (by omega) (by simp)) fun q2 hq2=>?_
   refine Yd.bd (ke (by omega) (by omega) (by omega)) ?_;have e1:(ss.take ((ss.length:Nat):Int).toNat).drop ((m:Nat):Int).toNat=ss.drop m:=by simp
   rw[e1];refine hn _ ⟨a2,by dsimp only;omega,v*10^m+dZ (ss.take m),?_,SQ,?_⟩ (by dsimp only;omega)
   ·dsimp only;rw[Int.natCast_add,uo];exact hq2
   ·dsimp only;rw[<-h5,EL,pg,Nat.mul_assoc,<-qO,hld,show m+(ss.length-m)=ss.length from by omega];omega
  ·have hc:=bV hc;have h0:ss=[]:=sW (by omega);subst h0;have h5:v=dZ ds:=by simpa[dZ] using h5
   subst h5;subst hw;cases neg
   ·exact Yd.cond (fun h=>by cases h)<|fun _=>Yd.mk h3
   ·exact Yd.cond (fun _=>Yd.kD (Ao h3) fun q hq=>Yd.mk hq) (fun h=>by cases h)
 have hp:∀b:Bool,(decide ((([45]:aev).length:Int)<=(s.length:Int))&&(s.take 1==[45]))=b->bD s [45]=some b:=by
  intro b hb;unfold bD;cases hc:decide ((([45]:aev).length:Int)<=(s.length:Int)) with
  |false=>
   rw[hc] at hb;rw[CJ] at hb;subst hb;rfl
  |true=>
   rw[hc] at hb;have hc:=bg hc;show bd (iR s 0<|(([45]:aev).length:Int)) _=_;rw[ke (by omega) (by omega) hc];exact congrArg some hb
 have pre:∀(b:Bool) (ds:aev),bD s [45]=some b->(b=true->s=45::ds)->(b=false->ds=s)->(ds.all iB&&Nat.blt ds.length 1000000)=true->z=(bif b then -(dZ ds:Int) else(dZ ds:Int))->Yd (fun q=>rE q z) (CA s):=by
  intro b ds e1 e2 e2' e3 e4;unfold CA;refine Yd.bd (x:=b) ?_<|Yd.bd (x:=ds) ?_<|core ds b z e3 e4
  ·unfold ri;rw[e1];rfl
  ·unfold iu fI;rw[e1];cases b
   ·rw[e2' rfl];rfl
   ·rw[e2 rfl];show bd (bd (iR (45::ds) 1 (((45::ds:aev).length:Nat):Int)) _) _=_;rw[ke (by omega) (by rw[List.length_cons];omega)<|Int.le_refl _];show some _=some _;simp
 unfold uP at h;split at h
 ·rename_i ds;obtain⟨hb,rfl⟩:=js h;refine pre true ds (hp true ?_) (fun _=>rfl) (fun h=>by cases h) hb rfl;rw[bp (show((([45]:aev).length:Nat):Int)<=(((45::ds:aev).length:Nat):Int) by simp only[List.length_cons,CN];omega)]
  rfl
 ·rename_i hne;obtain⟨hb,rfl⟩:=js h;refine pre false s (hp false ?_) (fun h=>by cases h) (fun _=>rfl) hb rfl;cases s with
  |nil=>rfl
  |cons c l=>
   have:c≠45:=fun e=>hne l (by rw[e])
   have h2:((c::l).take 1==[45])=false:=by
    simp[this]
   rw[h2,yE]
def aam(h0:n≠0)(h1:2^k<=n)(h2:n<2^(k+1)):Nat.log2 n=k:=(Nat.log2_eq_iff h0).2 ⟨h1,h2⟩
def abI{w:asv Int}{t:Nat}(hw:okW w)(hl:w.length=k+1)(ht:w.getD k 0=(t:Int))(h0:t≠0):((aL w).toNat).log2=64*k+t.log2:=by
 have hs:aL w=aL (w.take k)+ie k*(t:Int):=by
  have:aL (w.take<|k+1)=aL w:=by rw[fe (by omega)]
  rw[<-this,bo,ht]
 obtain⟨b0,b1⟩:=dU<|mV hw k
 rw[List.length_take,fW (by omega)] at b1;rw[R3] at hs b1;obtain⟨L,hL⟩:=gQ b0;rw[hL] at hs b1;have e:(aL w).toNat=L+2^(64*k)*t:=by
  rw[hs,<-uo];omega
 have hL':L<2^(64*k):=by exact_mod_cast b1
 obtain⟨l1,l2⟩:=BY h0;have hp:0<2^(64*k):=FH _;have m1:2^(64*k)*2^t.log2<=2^(64*k)*t:=FJ _ l1;have m2:2^(64*k)*(t+1)<=2^(64*k)*2^(t.log2+1):=FJ _ l2;rw[<-qO] at m1 m2;rw[Nat.mul_add,Nat.mul_one] at m2;have hp2:0<2^(64*k+t.log2):=FH _;rw[e];exact aam (by omega) (by omega) (by rw[uj];omega)
def acC(h:rE r z)(hz:uV z=true):uf r=some (bif decide (z=0) then 0 else(Nat.log2 z.natAbs:Int)+1):=by
 have key:Yd (fun n=>n=(bif decide (z=0) then 0 else(Nat.log2 z.natAbs:Int)+1)) (uf r):=by
  unfold uf;have hlen:=h.len hz;refine Yd.kD (qG h) ?_;rintro⟨neg,w⟩ ⟨_,hw,hv,hl⟩;dsimp only at hw hv hl⊢;refine Yd.cond (fun hc=>?_)<|fun hc=>?_
  ·have hc:=bg hc;have h0:w=[]:=sW (by omega);subst h0;have:z=0:=by
    have:(0:Int)=(z.natAbs:Int):=hv;omega
   subst this;exact Yd.mk rfl
  ·have hc:=bV hc;obtain⟨k,hk⟩:∃k,w.length=k+1:=⟨w.length-1,by omega⟩;have e1:((w.length:Int)-1)=((k:Nat):Int):=by omega
   rw[e1];have ht:=fu hw.1 k;obtain⟨t,ht'⟩:=gQ ht.1;have h0:t≠0:=by
    intro e;subst e;refine hw.2 ?_;rw[List.getLast?_eq_getElem?,show w.length-1=k from by omega];rw[iw,kQ (by omega)] at ht';rw[kQ (by omega)];simpa using ht'
   have aaD:=abI hw.1 hk ht' h0;rw[hv,Int.toNat_natCast] at aaD;have hz0:z≠0:=by
    intro e;subst e;have:=vr hw.1 (by intro e;rw[e] at hk;simp at hk) hw.2;have hp:=oy<|w.length-1
    rw[hv] at this;simp at this;omega
   have ht2:t<2^64:=by have:=ht.2;rw[ht'] at this;unfold BB at this;omega
   have ajg:Ji (t:Int)=some ((t.log2:Int)+1):=by
    unfold Ji w8;rw[bp (show(0:Int)<=(t:Int) by omega),bp (show((t:Nat):Int)<18446744073709551616 by omega)];show some ((DD ((t:Nat):Int).toNat:Nat):Int)=_;have:DD t=Nat.log2 t+1:=by
     unfold DD;have:Nat.beq t 0=false:=by
      cases hb:Nat.beq t 0 with
      |false=>rfl
      |true=>exact absurd (fX hb) h0
     rw[this];rfl
    rw[Int.toNat_natCast,this];rfl
   have hlt:t.log2<64:=(yA h0).2 ht2;refine Yd.bd (aM ⟨by omega,by omega⟩) (Yd.bd (aM ⟨by omega,by omega⟩) (Yd.bd (aM ⟨by omega,by omega⟩) (Yd.bd (b9 (by omega)) ?_)));rw[ht'];refine Yd.bd ajg (Yd.bd (aM ⟨by omega,by omega⟩)<|Yd.mk ?_);rw[bU hz0,aaD];simp only[fA];omega
 obtain⟨n,e,rfl⟩:=key;exact e
def rE.one(h:rE r z):((List.isEmpty r.2)&&decide (r.1=(1:Int)))=decide (z=1):=by
 rcases h with⟨h1,h2,h3⟩|⟨h0,h1,h2,h3,h4,h5⟩
 ·rw[h1,h2];rfl
 ·have e:List.isEmpty r.2=false:=by
   cases hr:r.2 with
   |nil=>exact absurd hr h0
   |cons _ _=>rfl
  rw[e,CJ]
  symm
  rw[lq];rcases h1 with e|e<;>rw[h4,e]<;>omega
def acB{s:Int×asv Int}{x y:Int}(hr:rE r x)(hs:rE s y)(hx:uV x=true)(hy:uV y=true)(h0:y≠0):Yd (fun q=>rE q.1 ((x:Rat)/(y:Rat)).num/\rE q.2 (((x:Rat)/(y:Rat)).den:Int)) (Hf r s):=by
 unfold Hf;have en:((x:Rat)/(y:Rat)).num=(y.sign*x)/(Int.gcd y x:Int):=by rw[<-yJ,Jq]
 have ed:(((x:Rat)/(y:Rat)).den:Int)=(y.natAbs:Int)/(Int.gcd y x:Int):=by
  rw[<-yJ,Jp,if_neg h0];rfl
 rw[en,ed];refine Yd.bd (BQ hs)<|Yd.jn (fun t=>rE t.1 (y.sign*x)/\rE t.2 (y.natAbs:Int)) ?_<|fun k hk=>Yd.cond (fun hd=>?_)<|fun hd=>?_
 ·rintro⟨a,b⟩ ⟨ha,hb⟩;dsimp only at ha hb⊢;have hg:Int.gcd (y.sign*x) (y.natAbs:Int)=Int.gcd y x:=by
   rw[Int.gcd_comm];unfold Int.gcd;rw[uk,kP]
   congr 1
   rcases vS y 0 with h|h|h
   ·rw[sV h];simp
   ·exact absurd h h0
   ·rw[ru h];simp
  have hg0:0<Int.gcd y x:=M5 _ h0;have sa:uV (y.sign*x)=true:=Kh (y:=x) (by
   rw[uk];rcases vS y 0 with h|h|h
   ·rw[sV h];simp
   ·exact absurd h h0
   ·rw[ru h];simp) hx
  have sb:uV (y.natAbs:Int)=true:=Kh (y:=y) (by simp) hy;rw[rE.one hb];refine Yd.cond (fun hc=>?_)<|fun hc=>?_
  ·have hc:=bg hc;have h1:Int.gcd y x=1:=by
    unfold Int.gcd;rw[show y.natAbs=1 from by omega,Nat.gcd_one_left]
   rw[h1];refine Yd.mk ⟨?_,?_⟩
   ·dsimp only;rw[show((1:Nat):Int)=1 from rfl,Int.ediv_one];exact ha
   ·dsimp only;rw[show((1:Nat):Int)=1 from rfl,Int.ediv_one];exact hb
  ·refine Yd.kD (Yo ha hb sa sb) fun g hgr=>?_
   rw[hg] at hgr;have sg:uV (Int.gcd y x:Int)=true:=Kh (y:=y) (by
    rw[kP];exact Nat.le_of_dvd (by omega)<|Nat.gcd_dvd_left _ _) hy
   refine Yd.kD (Sn ha hgr sa sg (by omega)) fun p hp=>Yd.kD (Sn hb hgr sb sg (by omega)) fun q hq=>Yd.mk ⟨?_,?_⟩
   ·dsimp only;rw[JB _ (by omega)] at hp;exact hp
   ·dsimp only;rw[JB _ (by omega)] at hq;exact hq
 ·have hd:=bg hd;have hn:y<0:=by
   rcases vS y 0 with h|h|h
   ·exact h
   ·exact absurd h h0
   ·rw[ru h] at hd;omega
  refine Yd.kD (Ao hr) fun a ha=>Yd.kD (Ao hs) fun b hb=>hk _ ⟨?_,?_⟩
  ·rw[sV hn];simpa using ha
  ·rw[show(y.natAbs:Int)= -y from by omega];exact hb
 ·have hd:=bV hd;have hn:0<y:=by
   rcases vS y 0 with h|h|h
   ·rw[sV h] at hd;omega
   ·exact absurd h h0
   ·exact h
  refine hk _ ⟨?_,?_⟩
  ·rw[ru hn,Int.one_mul];exact hr
  ·rw[show(y.natAbs:Int)=y from by omega];exact hs
def Y5:∀(f n:Nat) (acc:aev),n<f->ad2 f n acc=Lib.decDigits n++acc
 |0,n,_,h=>by omega
 |f+1,n,acc,h=>by
  unfold ad2;by_cases h1:n<10
  ·rw[show Nat.blt n 10=true from oG h1,Lib.decDigits_one h1];rfl
  ·have:Nat.blt n 10=false:=by
    cases hb:Nat.blt n 10 with
    |false=>rfl
    |true=>exact absurd (gP hb) h1
   rw[this];show ad2 f (n/10) _=_;rw[Y5 f (n/10) _ (by omega)]
   conv=>rhs;rw[Lib.decDigits,dif_neg h1]
   simp
def FY(n:Nat):dw n=Lib.decDigits n:=by unfold dw;rw[Y5 _ _ _ (by omega)];simp
def qj(h:n<10):dw n=[UInt8.ofNat<|48+n]:=by rw[FY,Lib.decDigits_one h]
def tv(h: ¬n<10):dw n=dw (n/10)++[UInt8.ofNat<|48+n%10]:=by
 rw[FY,FY,Lib.decDigits,dif_neg h]
def nu:∀(k n:Nat),0<k->n<10^k->(dw n).length<=k
 |0,_,h,_=>by omega
 |k+1,n,_,h=>by
  by_cases h1:n<10
  ·rw[qj h1];simp
  ·rw[tv h1,List.length_append];rcases xD k with h0|h0
   ·subst h0;simp at h;omega
   ·have:=nu k (n/10) h0 (by rw[CG] at h;omega);simp;omega
def ze(k r:Nat):aev:=List.replicate (k-(dw r).length) 48++dw r
def Z8{r:Nat}(hk:0<k)(hr:r/10<10^k):ze (k+1) r=ze k (r/10)++[UInt8.ofNat<|48+r%10]:=by
 unfold ze;by_cases h:r<10
 ·rw[show r/10=0 from by omega,qj h,qj (show 0<10 by omega),show r%10=r from by omega];have:List.replicate (k+1-1) (48:UInt8)=List.replicate (k-1) 48++[48]:=by
   rw[show k+1-1=(k-1)+1 from by omega,List.replicate_succ']
  simp only[List.length_singleton];rw[this];rfl
 ·rw[tv h,List.length_append,List.length_singleton,show k+1-((dw<|r/10).length+1)=k-(dw<|r/10).length from by omega,rq]
def HE:∀(k q r:Nat),0<q->0<k->r<10^k->dw (q*10^k+r)=dw q++ze k r
 |0,_,_,_,h,_=>by omega
 |k+1,q,r,hq,_,hr=>by
  rw[CG] at hr⊢;have hp:0<10^k:=Fv (by omega);have JK:10^k<=q*10^k:=Nat.le_mul_of_pos_left _ hq;rw[<-Nat.mul_assoc];rw[tv (by omega),show(q*10^k*10+r)/10=q*10^k+r/10 from by omega,show(q*10^k*10+r)%10=r%10 from by omega];rcases xD k with h0|h0
  ·subst h0;have h9:r<10:=by simpa using hr
   rw[show r/10=0 from by omega,Nat.pow_zero,Nat.mul_one,ux];unfold ze;rw[qj h9,show r%10=r from by omega];rfl
  ·rw[HE k q (r/10) hq h0 (by omega),Z8 h0 (by omega),rq]
def Ya(c:Nat):afK [48] c=List.replicate c 48:=by
 induction c with
 |zero=>rfl
 |succ c ih=>rw[List.replicate_succ,<-ih];rfl
def Norm.pos{w:asv Int}(h:Norm w)(h0:w≠[]):0<aL w:=by
 have:=vr h.1 h0 h.2;have:=oy<|w.length-1
 omega
def Xn{r:Nat}(h:r<1000000000000000000):(dw r).length<=18:=nu 18 r (by omega) (by simpa using h)
def adY{l:asv aev}{x:aev}(h:l[n]? =some x):(l.drop n).reverse.flatten=(l.drop<|n+1).reverse.flatten++x:=by
 obtain⟨hn,e⟩:=jk.1 h;rw[CE hn,e,List.reverse_cons,List.flatten_append];simp
def Vq{l:asv aev}(h:∀x∈l,x.length<=18):l.flatten.length<=18*l.length:=by
 induction l with
 |nil=>simp
 |cons a l ih=>
  rw[List.flatten_cons,List.length_append,List.length_cons];have h1:=h a (by simp);have h2:=ih fun x hx=>h x (by simp[hx])
  omega
def WA(h:rE r z)(hz:uV z=true):Yd (fun s=>s=ff z) (vP r):=by
 unfold vP;have hlen:=h.len hz;refine Yd.cond (fun hc=>?_)<|fun hc=>?_
 ·rcases h with⟨h1,h2,h3⟩|⟨h1,_⟩
  ·have e:OG z=some (ff z):=by
    unfold OG;have:B0 z=true:=by
     unfold DP at h3;unfold B0;rw[bp h3.1,bp h3.2];rfl
    rw[this];rfl
   rw[h2];exact Yd.bd e<|Yd.mk rfl
  ·exact absurd (CQ.1 hc) h1
 have JK:z.natAbs≠0:=by
  rcases h with⟨h1,_⟩|⟨h0,h1,h2,h3,h4,h5⟩
  ·rw[h1] at hc;simp at hc
  ·rcases h1 with e|e<;>rw[h4,e]<;>omega
 have aaD:Nat.log2 z.natAbs<1099511627776:=gP hz;refine Yd.kD (qG h) ?_;rintro⟨neg,w0⟩ ⟨p1,p2,p3,p4⟩;dsimp only at p1 p2 p3 p4⊢;refine Yd.lp (fun t:asv Int×asv aev=>Norm t.1/\(∀x∈t.2,x.length<=18)/\∃v:Nat,aL t.1=(v:Int)/\v<=z.natAbs/\t.2.length+(if v=0 then 0 else Nat.log2 v+1)<=Nat.log2 z.natAbs+1/\dw z.natAbs=(if v=0 then [] else dw v)++t.2.reverse.flatten)
  (fun t:asv Int×asv aev=>if aL t.1=0 then 0 else Nat.log2 (aL t.1).toNat+1) ?_ _ _ ⟨p2,by simp,z.natAbs,p3,bG _,by dsimp only;rw[if_neg JK];simp,by dsimp only;rw[if_neg JK];simp⟩ (by
   dsimp only;rw[p3,Int.toNat_natCast];split<;>omega)
 rintro next ⟨w,l⟩ ⟨h1,h2,v,h3,h4,h5,h6⟩ hn
 dsimp only at h1 h2 h3 h4 h5 h6 hn⊢;refine Yd.cond (fun hd=>?_)<|fun hd=>?_
 ·have hd:=bg hd;have hw0:w≠[]:=by intro e;rw[e] at hd;simp at hd
  have L7:v≠0:=by have:=h1.pos hw0;omega
  rw[if_neg L7] at h5 h6;have hwl:w.length<=w0.length:=h1.len (by have:=(dU p2.1).2;omega);have adr:Norm ([1000000000000000000]:asv Int):=⟨by rw[rQ];exact⟨⟨by omega,by unfold BB;omega⟩,IX⟩,by simp⟩;refine Yd.kD (OC h1 adr (by simp) (by omega) (by simp)) ?_;rintro⟨q,m⟩ ⟨⟨d1,d2⟩,d3,d4⟩;dsimp only at d1 d2 d3 d4⊢;have evb:aL ([1000000000000000000]:asv Int)=1000000000000000000:=by simp[aL]
  rw[evb,h3] at d2 d4;have d2:aL q=((v/1000000000000000000:Nat):Int):=by rw[d2];rfl
  have d4:aL m=((v%1000000000000000000:Nat):Int):=by rw[d4];rfl
  have Mb:v%1000000000000000000<1000000000000000000:=uv _ (by omega)
  generalize hR:v%1000000000000000000=R at*
  refine Yd.jn (fun s=>s=dw R) ?_ ?_
  rotate_left
  ·intro k hk;refine Yd.cond (fun he=>?_)<|fun he=>?_
   ·have he:=bg he;have hm1:m.length<=1:=d3.len (n:=1) (by rw[d4];unfold ie;unfold BB;omega);obtain⟨x,rfl⟩:∃x,m=[x]:=by
     cases m with
     |nil=>simp at he
     |cons x t=>cases t with
      |nil=>exact⟨x,rfl⟩
      |cons _ _=>simp at hm1
    have ex:x=(R:Int):=by rw[<-d4];simp[aL]
    subst ex;have ef:Su (R:Int) 10=some (dw R):=by
     unfold Su w8;rw[bp (show(0:Int)<=(R:Int) by omega),bp (show((R:Nat):Int)<18446744073709551616 by omega)]
     rfl
    exact Yd.bd (show bj [(R:Int)] 0=some (R:Int) from rfl)<|Yd.bd ef<|hk _ rfl
   ·have he:=bV he;have hm0:m=[]:=sW (by omega);subst hm0;have:R=0:=by
     have:(0:Int)=(R:Int):=d4;omega
    subst this;exact hk _ rfl
  rintro s rfl;have hsl:=Xn Mb;refine Yd.jn (fun s=>s.length<=18/\dw v=(if v/1000000000000000000=0 then [] else dw (v/1000000000000000000))++s) ?_ ?_
  rotate_left
  ·intro k hk;refine Yd.cond (fun he=>?_)<|fun he=>?_
   ·have he:=bg he;have hq0:v/1000000000000000000≠0:=by
     intro e;have:=d1.pos (by intro e';rw[e'] at he;simp at he);rw[d2,e] at this;simp at this
    have er:St [48] ((18:Int)-((dw R).length:Int))=some (List.replicate (18-(dw R).length) 48):=by
     unfold St;rw[bp (show(0:Int)<=(18:Int)-((dw R).length:Int) by omega),bp (show(18:Int)-((dw R).length:Int)<=64 by omega)];show some (afK [48] ((18:Int)-((dw R).length:Int)).toNat)=_;rw[Ya]
     congr 2
     omega
    have es:y7 (List.replicate (18-(dw R).length) 48) (dw R)=some (ze 18 R):=by
     unfold y7;rw[bp (by rw[vW];omega)];rfl
    refine Yd.bd (aM ⟨by omega,by omega⟩)<|Yd.bd er<|Yd.bd es<|hk _ ⟨?_,?_⟩
    ·unfold ze;rw[List.length_append,vW];omega
    ·rw[if_neg hq0];have:=HE 18 (v/1000000000000000000) R (by omega) (by omega) (by simpa using Mb);rw[show(10:Nat)^18=1000000000000000000 from rfl] at this;rw[<-this]
     congr 1
     omega
   ·have he:=bV he;have hq:q=[]:=sW (by omega);subst hq;have hq0:v/1000000000000000000=0:=by
     have:(0:Int)=((v/1000000000000000000:Nat):Int):=d2;omega
    refine hk _ ⟨hsl,?_⟩;rw[if_pos hq0,AF]
    congr 1
    omega
  rintro s ⟨s1,s2⟩;have ea:fB 16 l [s]=some (l++[s]):=by
   unfold fB;simp only[List.length_singleton];rw[bp (by omega),bp (by omega)];rfl
  have agJ:v/1000000000000000000≠0->Nat.log2 (v/1000000000000000000)+1<=Nat.log2 v:=by
   intro hne;have:=(BY hne).1;have h2:2^(Nat.log2 (v/1000000000000000000)+1)<=v:=by rw[CG];omega
   exact Sw h2
  refine Yd.bd ea (hn _ ⟨d1,?_,v/1000000000000000000,d2,by omega,?_,?_⟩ ?_)
  ·intro x hx;rcases mw.1 hx with hx|hx
   ·exact h2 x hx
   ·rw[vT] at hx;rw[hx];exact s1
  ·dsimp only;rw[List.length_append,List.length_singleton];split
   ·omega
   ·have:=agJ (by assumption);omega
  ·dsimp only;rw[h6,s2,List.reverse_append];simp
  ·dsimp only;rw[d2,h3,if_neg (show¬((v:Nat):Int)=0 by omega),Int.toNat_natCast,Int.toNat_natCast];split
   ·omega
   ·have:=agJ (by omega);omega
 ·have hd:=bV hd;have hw0:w=[]:=sW (by omega);subst hw0;have L7:v=0:=by
   have:(0:Int)=(v:Int):=h3;omega
  subst L7;rw[if_pos rfl] at h5 h6;rw[AF] at h6;have hfl:=Vq (l:=l.reverse)<|fun x hx=>h2 x<|List.mem_reverse.1 hx
  rw[List.length_reverse] at hfl;have bw:∀a b:aev,a.length+b.length<=140737488355328->zF a b=some (a++b,(b.length:Int),()):=by
   intro a b hab;unfold zF;rw[show Nat.ble (a.length+b.length) 140737488355328=true from oG hab];rfl
  refine Yd.jn (fun s=>s.length<=1/\s++dw z.natAbs=ff z) ?_ ?_
  rotate_left
  ·intro k hk;cases Bl:decide (z<0) with
   |true=>
    rw[Bl] at p1;subst p1;have et:ff z=45::dw z.natAbs:=by unfold ff;rw[Bl];rfl
    refine Yd.cond (fun _=>Yd.bd (bw [] [45] (by simp)) (hk ([]++[45]) ⟨by simp,by rw[et];rfl⟩)) (fun h=>by cases h)
   |false=>
    rw[Bl] at p1;subst p1;have et:ff z=dw z.natAbs:=by unfold ff;rw[Bl];rfl
    exact Yd.cond (fun h=>by cases h) (fun _=>hk [] ⟨by simp,by rw[et];rfl⟩)
  rintro pre ⟨e1,e2⟩;refine Yd.bd (aM ⟨by omega,by omega⟩) ?_;refine Yd.lp (fun t:aev×Int=> -1<=t.2/\t.2<l.length/\t.1=pre++(l.drop (t.2+1).toNat).reverse.flatten) (fun t:aev×Int=>(t.2+1).toNat) ?_ _ _ ⟨by dsimp only;omega,by dsimp only;omega,?_⟩ (by dsimp only;omega)
  rotate_left
  ·dsimp only;rw[show((l.length:Int)-1+1).toNat=l.length from by omega,yH];simp
  rintro acE ⟨b,i⟩ ⟨g1,g2,g3⟩ Qm;dsimp only at g1 g2 g3 Qm⊢;refine Yd.cond (fun hp=>?_)<|fun hp=>?_
  ·have hp:=bg hp;obtain⟨n,rfl⟩:=gQ hp;have Lx:n<l.length:=by omega
   have ex:bj l (n:Int)=some l[n]:=by
    show l[n]? =_;exact kQ Lx
   have asV:l[n].length<=18:=h2 _<|rp Lx
   have apA:=Vq (l:=(l.drop (((n:Nat):Int)+1).toNat).reverse)<|fun x hx=>h2 x<|zK<|List.mem_reverse.1 hx
   rw[List.length_reverse,nD] at apA;refine Yd.bd ex (Yd.bd ex (Yd.bd (bw b l[n] (by rw[g3,List.length_append];omega)) (Yd.bd (aM ⟨by omega,by omega⟩) (Qm _ ⟨by dsimp only;omega,by dsimp only;omega,?_⟩ (by dsimp only;omega)))));dsimp only;rw[show(((n:Nat):Int)-1+1).toNat=n from by omega,g3,show(((n:Nat):Int)+1).toNat=n+1 from by omega,adY (x:=l[n])<|kQ Lx,rq]
  ·have hp:=bV hp;have hi:i= -1:=by omega
   subst hi;have g3:b=pre++l.reverse.flatten:=g3;have eb:b=ff z:=by rw[g3,<-h6,e2]
   have hne:(!b.isEmpty)=true:=by
    rw[eb];have hd:dw z.natAbs≠[]:=fun e=>by
     by_cases h:z.natAbs<10
     ·rw[qj h] at e;cases e
     ·rw[tv h] at e;simp at e
    unfold ff;cases decide (z<0) with
    |true=>rfl
    |false=>
     show(!(dw z.natAbs).isEmpty)=true;cases h:dw z.natAbs with
     |nil=>exact absurd h hd
     |cons _ _=>rfl
   refine Yd.bd (show yQ b=some b by unfold yQ;rw[hne];rfl)<|Yd.mk ?_
   exact eb
def It(n:Nat)(k:Nat):Prop:=Nat.log2 n<k
def afi(ha:It a j)(hb:It b k):It (a*b) (j+k+1):=by
 unfold It at*;by_cases h0:a=0
 ·subst h0;simp
 by_cases h1:b=0
 ·subst h1;simp
 have h2:=(BY h0).2;have h3:=(BY h1).2;have h4:a*b<2^(Nat.log2 a+1)*2^(Nat.log2 b+1):=Nat.mul_lt_mul'' h2 h3;rw[<-qO] at h4;have:=(yA<|Nat.mul_ne_zero h0 h1).2 h4;omega
def afj(ha:It a k)(hb:It b k):It (a+b) (k+1):=by
 unfold It at*;by_cases h0:a+b=0
 ·rw[h0];simp
 have h2:a<2^k:=by
  by_cases h:a=0
  ·subst h;exact FH _
  ·exact(yA h).1 ha
 have h3:b<2^k:=by
  by_cases h:b=0
  ·subst h;exact FH _
  ·exact(yA h).1 hb
 exact(yA h0).2 (by rw[CG];omega)
def NX(h:a<=b)(hb:It b k):It a k:=SA (Yy h) hb
def K4(h:It z.natAbs k)(hk:k<=1099511627776):uV z=true:=by
 unfold uV;exact oG<|fZ h hk
def wQ{q:Rat}(h:DO q=true):It q.num.natAbs 68719476736/\It q.den 68719476736:=by
 unfold DO at h;obtain⟨h1,h2⟩:=eM h;exact⟨gP h1,gP h2⟩
def tO{q:Rat}(h:It q.den k):It ((q.den:Int)).natAbs k:=by rw[kP];exact h
def Cf{a b:Int}(ha:It a.natAbs 68719476736)(hb:It b.natAbs 68719476736):It (a*b).natAbs 137438953473:=by
 rw[uk];exact afi ha hb
def aid{a b:Int}(ha:It a.natAbs 137438953473)(hb:It b.natAbs 137438953473):It (a+b).natAbs 137438953474:=
 NX (Int.natAbs_add_le a b) (afj ha hb)
def Zc{x y:Int}(hx:It x.natAbs j)(hy:It y.natAbs k)(hj:j<=1099511627776)(hk:k<=1099511627776):VG x y=some (x+y):=by
 unfold VG;rw[K4 hx hj,K4 hy hk];rfl
def Dh{x y:Int}(hx:It x.natAbs j)(hy:It y.natAbs k)(hj:j<=1099511627776)(hk:k<=1099511627776):DM x y=some (x*y):=by
 unfold DM;rw[K4 hx hj,K4 hy hk];rfl
def aha{x y:Int}(hx:It x.natAbs j)(hy:It y.natAbs k)(hj:j<=1099511627776)(hk:k<=1099511627776):aet x y=some (Vy x y):=by
 unfold aet;rw[K4 hx hj,K4 hy hk];rfl
def PC{x y:Int}(hx:It x.natAbs j)(hy:It y.natAbs k)(hj:j<=1099511627776)(hk:k<=1099511627776)(h0:y≠0):GW x y=some ((x:Rat)/(y:Rat)):=by
 unfold GW;rw[K4 hx hj,K4 hy hk,bU h0];rfl
def UE(q:Rat):mkq q.num q.den=some q:=by
 obtain⟨d,hd⟩:∃d,q.den=d+1:=⟨q.den-1,by have:=q.den_pos;omega⟩;unfold mkq;have hr:=q.reduced;unfold Nat.Coprime at hr;rw[hd] at hr⊢;show z7 (Nat.beq (Nat.gcd q.num.natAbs<|d+1) 1) (mkRat q.num<|d+1)=_;rw[hr,<-hd,FB];rfl
def Mw(x y:Rat):(((x.num*y.den+y.num*x.den:Int)):Rat)/(((x.den:Int)*(y.den:Int):Int):Rat)=x+y:=by
 have h:=Rat.mkRat_add_mkRat x.num y.num x.den_nz y.den_nz;rw[FB,FB,Rat.mkRat_eq_div] at h;rw[h,<-uo];rfl
def Mv(x y:Rat):(((x.num*y.num:Int)):Rat)/(((x.den:Int)*(y.den:Int):Int):Rat)=x*y:=by
 have h:=Rat.mkRat_mul_mkRat x.num y.num x.den y.den;rw[FB,FB,Rat.mkRat_eq_div] at h;rw[h,<-uo];rfl
def QT(h:x.den=1):x=(x.num:Rat):=by
 have h1:=FB x;rw[h] at h1;rw[<-Rat.mkRat_one,h1]
def xJ(x:Rat):(x.den:Int)≠0:=by have:=x.den_pos;omega
def adL(x:Rat):zp x=some (-x):=by
 unfold zp;show bd (mkq (-x.num) x.den) _=_;have:=UE<| -x
 rw[Jl,Jk] at this;rw[this];rfl
def Xi(z:Int):ED z=some (z:Rat):=by
 unfold ED;show bd (mkq z 1) _=_;have:=UE (z:Rat);rw[Rat.num_intCast,Rat.den_intCast] at this;rw[show((1:Nat):Int)=1 from rfl] at this;rw[this];rfl
def adQ(hx:DO x=true)(hy:DO y=true):zx x y=some (x+y):=by
 obtain⟨a1,a2⟩:=wQ hx;obtain⟨b1,b2⟩:=wQ hy;have YZ:(bd (DM x.num (y.den:Int)) fun eF=>
  bd (DM y.num (x.den:Int)) fun fJ=>
  bd (VG eF fJ) fun gH=>
  bd (DM (x.den:Int) (y.den:Int)) fun ib=>
  bd (GW gH ib) fun jG=>
  some jG)=some (x+y):=by
  rw[Dh a1 (tO b2) (by omega) (by omega)];show bd (DM y.num (x.den:Int)) _=_;rw[Dh b1 (tO a2) (by omega) (by omega)];show bd (VG _ _) _=_;rw[Zc (Cf a1<|tO b2) (Cf b1<|tO a2) (by omega) (by omega)];show bd (DM (x.den:Int) (y.den:Int)) _=_;rw[Dh (tO a2) (tO b2) (by omega) (by omega)];show bd (GW _ _) _=_;rw[PC (aid (Cf a1<|tO b2)<|Cf b1<|tO a2) (Cf (tO a2)<|tO b2) (by omega) (by omega)<|FG (xJ x)<|xJ y,Mw];rfl
 unfold zx;by_cases h1:x.den=1
 ·by_cases h2:y.den=1
  ·have e1:mC x=some true:=by unfold mC;rw[bp h1]
   have e2:mC y=some true:=by unfold mC;rw[bp h2]
   rw[e1,e2];show bd (VG x.num y.num) _=_;rw[Zc a1 b1 (by omega) (by omega)];show some ((x.num+y.num:Int):Rat)=_;rw[Rat.intCast_add,<-QT h1,<-QT h2]
  ·have e1:mC x=some true:=by unfold mC;rw[bp h1]
   have e2:mC y=some false:=by unfold mC;rw[bU h2]
   rw[e1,e2];exact YZ
 ·have e1:mC x=some false:=by unfold mC;rw[bU h1]
  rw[e1];exact YZ
def adM(hx:DO x=true)(hy:DO y=true):zq x y=some (x*y):=by
 obtain⟨a1,a2⟩:=wQ hx;obtain⟨b1,b2⟩:=wQ hy;unfold zq;rw[Dh a1 b1 (by omega) (by omega)];show bd (DM (x.den:Int) (y.den:Int)) _=_;rw[Dh (tO a2) (tO b2) (by omega) (by omega)];show bd (GW _ _) _=_;rw[PC (Cf a1 b1) (Cf (tO a2)<|tO b2) (by omega) (by omega)<|FG (xJ x)<|xJ y,Mv];rfl
def afg(y:Rat):DO (-y)=DO y:=by
 unfold DO;rw[Jl,Jk,FC]
def adK(hx:DO x=true)(hy:DO y=true):zo x y=some (x-y):=by
 unfold zo;show bd (Cj x<| -y) _=_;unfold Cj;rw[hx,afg,hy];show some (x+ -y)=_;rw[Sz]
def adN(hx:DO x=true)(h0:x≠0):zt x=some x⁻¹ :=by
 obtain⟨a1,a2⟩:=wQ hx;unfold zt;rw[PC (tO a2) a1 (by omega) (by omega) (by intro e;exact h0<|FF.1 e),Rat.inv_def,yJ];rfl
def afh(h:DO y=true)(h0:y≠0):DO y⁻¹ =true:=by
 obtain⟨a1,a2⟩:=wQ h;have hn:y.num≠0:=fun e=>h0<|FF.1 e
 have e:=Rat.inv_def y;have hg:Int.gcd y.num (y.den:Int)=1:=by
  have:=y.reduced;unfold Nat.Coprime at this;unfold Int.gcd;rw[kP];exact this
 have en:(y⁻¹).num.natAbs<=y.den:=by
  rw[e,Jq,hg,show((1:Nat):Int)=1 from rfl,Int.ediv_one,uk,kP];have:y.num.sign.natAbs<=1:=by
   rcases vS y.num 0 with h|h|h
   ·rw[sV h];simp
   ·rw[h];simp
   ·rw[ru h];simp
  calc y.num.sign.natAbs*y.den<=1*y.den:=nE _ this
   _=y.den:=uw _
 have ed:(y⁻¹).den<=y.num.natAbs:=by
  rw[e,Jp,if_neg hn,hg];simp
 unfold DO;rw[show Nat.blt (Nat.log2 (y⁻¹).num.natAbs) 68719476736=true from oG (NX en a2),show Nat.blt (Nat.log2 (y⁻¹).den) 68719476736=true from oG (NX ed a1)]
 rfl
def adO(hx:DO x=true)(hy:DO y=true)(h0:y≠0):zu x y=some (x/y):=by
 unfold zu;have e1:afS y=some y⁻¹ :=by unfold afS;rw[hy,bU h0];rfl
 have e2:oe x y⁻¹ =some (x*y⁻¹):=by unfold oe;rw[hx,afh hy h0];rfl
 rw[e1];show bd (oe x y⁻¹) _=_;rw[e2,Rat.div_def];rfl
def adP(hx:DO x=true)(hy:DO y=true):zw x y=some (bif decide (x<y) then -1 else bif decide (y<x) then 1 else 0):=by
 obtain⟨a1,a2⟩:=wQ hx;obtain⟨b1,b2⟩:=wQ hy;unfold zw;rw[Dh a1 (tO b2) (by omega) (by omega)];show bd (DM y.num (x.den:Int)) _=_;rw[Dh b1 (tO a2) (by omega) (by omega)];show bd (aet _ _) _=_;rw[aha (Cf a1<|tO b2) (Cf b1<|tO a2) (by omega) (by omega)];show some (Vy _ _)=_;unfold Vy;have e1:decide (x.num*(y.den:Int)<y.num*(x.den:Int))=decide (x<y):=yI.2 (Rat.lt_iff x y).symm;have e2:decide (y.num*(x.den:Int)<x.num*(y.den:Int))=decide (y<x):=yI.2 (Rat.lt_iff y x).symm;rw[e1,e2]
def aaS(hx:DO x=true)(hy:DO y=true):xA x y=some (decide<|x=y):=by
 unfold xA;have e:pK x y=some (bif decide (x<y) then -1 else bif decide (y<x) then 1 else 0):=by unfold pK;rw[hx,hy];rfl
 rw[e];show some (decide<|(bif decide (x<y) then(-1:Int) else bif decide (y<x) then 1 else 0)=0)=_
 congr 1
 by_cases h1:x<y
 ·rw[bp h1,bU (show¬x=y from fun e=>by subst e;exact absurd h1<|Rat.lt_irrefl)];rfl
 ·by_cases h2:y<x
  ·rw[bU h1,bp h2,bU (show¬x=y from fun e=>by subst e;exact absurd h2<|Rat.lt_irrefl)];rfl
  ·rw[bU h1,bU h2,bp<|show x=y from Rat.le_antisymm (Rat.not_lt.1 h2) (Rat.not_lt.1 h1)];rfl
end
end Trn
namespace Te
section
open Go.Shelf Go.Sort Go.Lib
def U9(w:World)(T:TypeId)(nd:Nat)(hs:nd<=24):Holds (fun(b:UInt8)=>Value.int .u8 (b.toNat:Int)) (w.alloc<| .cells zeros24 T) w.heap.size 0 (Array.replicate nd (0:UInt8)):=fun j hj=>by
 have hj':j<nd:=by simpa using hj
 refine⟨?_,World.frozen?_alloc_new _ _ _ _⟩;rw[World.cell?_alloc_new,Nat.zero_add,zeros24_at _ (by omega),getElem!_pos _ j hj];simp
def adU(w:World)(o:Obj)(dk:Array UInt8)(k:Nat):∃os,(putRow (fun(b:UInt8)=>Value.int .u8 (b.toNat:Int)) (w.alloc o) w.heap.size 0 dk).drewN k=Go.Sort.grow (w.drewN k) os:=by
 rw[alloc_eq_grow];obtain⟨os',_,e⟩:=putRow_grow_new (fun(b:UInt8)=>Value.int .u8 (b.toNat:Int)) w #[o] w.heap.size 0 dk (Nat.le_refl _);exact⟨os',by rw[e];rfl⟩
set_option maxHeartbeats 6400000 in
set_option maxRecDepth 100000 in
def Xj(u:Nat)(hu64:u<18446744073709551616)(w:World)
  (htab:Lib.TabIs prog w "internal/strconv.uint64pow10" .u64 Lib.pow10Tab):
  Calls prog 354 #[.int .u64 u,.int .i64 10] w fun e w'=>e= .returned (.string ⟨(Lib.decDigits u).toArray⟩)/\∃k os,w'=Go.Sort.grow (w.drewN k) os:=by
 have L:=UM;have mixed:=L.mixed;have t2:prog.underlying 3=some (.int .i64):=L.t3;have t446:prog.underlying 480=some (.array 24 5):=L.t171;have a446:∀w:World,(isAgg 480).run prog w= .ok true w:=L.a171;have z446:∀w:World,(Go.sizeOf 480).run prog w= .ok 24 w:=L.z171;have v446:=L.v171;have v446:∀w:World,(zeroValue 480).run prog w= .ok (.agg #[.int .u8 0,.int .u8 0,.int .u8 0,.int .u8 0,.int .u8 0,.int .u8 0,.int .u8 0,.int .u8 0,.int .u8 0,.int .u8 0,.int .u8 0,.int .u8 0,.int .u8 0,.int .u8 0,.int .u8 0,.int .u8 0,.int .u8 0,.int .u8 0,.int .u8 0,.int .u8 0,.int .u8 0,.int .u8 0,.int .u8 0,.int .u8 0]) w:=v446;have t9:=L.t9;have t154:prog.underlying 131=some (.slice 5):=L.t37;have e283:∀args w,(callFunc 397 args).run prog w= .ok (.enter 397 args) w:=enters_of L.f283 Trn.ax rfl;have e284:∀args w,(callFunc 398 args).run prog w= .ok (.enter 398 args) w:=enters_of L.f284 Trn.ax rfl;have e285:∀args w,(callFunc 399 args).run prog w= .ok (.enter 399 args) w:=enters_of L.f285 Trn.ax rfl;by_cases hs:u<100
 ·go_enter func354,ntmps354
  go_wp2_with (go_at_fn (397);refine(internal_strconv_small u hs _).mono ?_;rintro e w' ⟨rfl,rfl⟩)
  go_ret
  exact⟨rfl,0,#[],by simp[World.drewN_zero]⟩
 ·have hu1:1<=u:=by omega
  have hnd20:Lib.nDigits u<=20:=by have:=Lib.numDigits_eq u hu1 hu64;split at this<;>omega
  have hb3:Lib.nDigits u<=23:=by omega
  have hal:prog.arrayLen 480=24:=by simp[Program.arrayLen,t446]
  have hsl:∀W,(Instr.sliceAt 480 (.pointer<|some ⟨w.heap.size,0,none⟩) none (some<| .int .i64 (Lib.nDigits u:Int)) none).run prog W= .ok (.slice (some ⟨w.heap.size,0,none⟩) (Lib.nDigits u) 24) W:=fun W=>by
   rw[run_sliceAt_array_h W 480 ⟨w.heap.size,0,none⟩ (by simp[Program.arrayLen,Program.elem,t446]) .i64 (Lib.nDigits u:Int) (by omega) (by rw[hal];omega)]
   go_simp
  have hH0:=U9 w 480 (Lib.nDigits u) (by omega);have hfmt:=internal_strconv_formatBase10 w.heap.size 0 24 u (Array.replicate (Lib.nDigits u) 0) (w.alloc<| .cells Lib.zeros24 480) hH0 (by rw[Array.size_replicate];exact Lib.lt_pow_nDigits u) hu64 (by rw[Array.size_replicate];omega);rw[Array.size_replicate] at hfmt;have HH0:=Lib.hid hH0;clear hH0 hal
  go_enter func354,ntmps354
  go_wp2_with (first
   |(go_at_fn (398);refine(Any.internal_strconv_numDigits {L with} u hu1 hu64 _<|Lib.tabIs_alloc htab _).mono ?_;rintro e w' ⟨rfl,rfl⟩))
  go_at_fn (399)
  refine hfmt.mono ?_;rintro e w' ⟨rfl,k,v',dk,rfl,hF⟩;have hcv:(convert 131 9<| .slice (some ⟨w.heap.size,0,none⟩) (Lib.nDigits u) 24).run prog ((putRow (fun(b:UInt8)=>Value.int .u8 (b.toNat:Int)) (w.alloc<| .cells Lib.zeros24 480) w.heap.size 0 dk).drewN k)= .ok (.string ⟨(Lib.decDigits u).toArray⟩) ((putRow (fun(b:UInt8)=>Value.int .u8 (b.toNat:Int)) (w.alloc<| .cells Lib.zeros24 480) w.heap.size 0 dk).drewN k):=by
   have h:=run_convert_bytes_back (P:=prog) ((putRow (fun(b:UInt8)=>Value.int .u8 (b.toNat:Int)) (w.alloc<| .cells Lib.zeros24 480) w.heap.size 0 dk).drewN k) 131 9 5 ⟨w.heap.size,0,none⟩ 24 (Lib.decDigits u) L.t37 L.t5 L.t9 (fun j hj=>by
    rw[Lib.row_is_numeral hF j hj,Lib.add_plain,World.cell?_drewN];exact cell?_putRow (fun(b:UInt8)=>Value.int .u8 (b.toNat:Int)) _ w.heap.size 0 _ dk HH0.out (by rw[hF.size,Array.size_replicate]) j (by rw[hF.size];rw[Lib.decDigits_length] at hj;exact hj))
   rw[Lib.decDigits_length] at h;exact h
  go_wp2
  go_ret
  obtain⟨os,eo⟩:=adU w (.cells Lib.zeros24 480) dk k;exact⟨rfl,k,os,eo⟩
set_option maxHeartbeats 6400000 in
set_option maxRecDepth 100000 in
def S1(u:Nat)(hu64:u<18446744073709551616)(w:World)
  (htab:Lib.TabIs prog w "internal/strconv.uint64pow10" .u64 Lib.pow10Tab):
  Calls prog 298 #[.int .u64 u,.int .i64 10] w fun e w'=>e= .returned (.string ⟨(Lib.decDigits u).toArray⟩)/\∃k os,w'=Go.Sort.grow (w.drewN k) os:=by
 have L:=UM;have mixed:=L.mixed;have e316:∀args w,(callFunc 354 args).run prog w= .ok (.enter 354 args) w:=enters_of func354 Trn.ax rfl;have h:=Xj u hu64 w htab
 go_enter func298,ntmps298
 go_wp2_with (go_at_fn (354);refine h.mono ?_;rintro e w' ⟨rfl,k,os,rfl⟩)
 go_ret
 exact⟨rfl,k,os,rfl⟩
def Pk(w:World):∀k,(w.drewN k).os=w.os/\(w.drewN k).tape=w.tape/\(w.drewN k).output=w.output/\(w.drewN k).heap=w.heap
 |0=>⟨rfl,rfl,rfl,rfl⟩
 |k+1=>Pk w.drew k
def Py{w:World}{k:Nat}{os:Array Obj}:Below w.heap.size w (Go.Sort.grow (w.drewN k) os):=by
 obtain⟨h1,h2,h3,h4⟩:=Pk w k;refine⟨h1,h2,h3,?_,fun i hi=>?_⟩
 ·show w.heap.size<=((w.drewN k).heap++os).size;rw[h4,Array.size_append];omega
 ·show((w.drewN k).heap++os)[i]? =_;rw[h4,Array.getElem?_append_left hi]
end
end Te
namespace Trn
section
variable{P:Program}
variable{T:asr}{α:Type}{dep off:Nat}{fs:asv (asr×Nat)}{J2:α->asv Ty}{eb:α->α->Bool}
structure xO(P:ast)(T:asr){α:Type}[DecidableEq α](f:α->Ty)(n:Nat)(agg:Bool)(dep:Nat):Prop where
 lay:eG P T n agg=true
 sz:∀x,(f x).n=n
 ag:∀x,(f x).agg=agg
 eq:∀(d:Nat) (H:HV) (u v:aq6) (x y:α),(f x).ok H u->(f y).ok H v->∀w:aq5,(Op.equalIn (d+dep) T u v).run P w= .ok (decide<|x=y) w
 chk:∀(d:Nat) (e:Bool) (H:HV) (u:aq6) (x:α),(f x).ok H u->∀w:aq5,(Instr.checkKey e (d+dep) T u).run P w= .ok () w
 uniq:∀(H:HV) (u v:aq6) (x:α),(f x).ok H u->(f x).ok H v->u=v
 leaf:∀(H:HV) (u:aq6) (x:α),(f x).ok H u->∀c∈u.cells.toList,∀m,Instr.sameBits m c c=true
def toList_inj{a b:aev}:((⟨a.toArray⟩:ByteArray).toList==(⟨b.toArray⟩:ByteArray).toList)=decide (a=b):=by
 rw[ByteArray.toList_eq,ByteArray.toList_eq];show(a.toArray.toList==b.toArray.toList)=_;simp only[List.toList_toArray];by_cases h:a=b
 ·subst h;simp
 ·rw[bU h];simpa using h
def aaq(hl:eG P T 1 false=true)(hu:P.underlying T=some .string):xO P T TS 1 false 1 where
 lay:=hl
 sz _:=rfl
 ag _:=rfl
 eq d H u v x y OQ WU w:=by
  have OQ:u= .string ⟨x.toArray⟩:=OQ;have WU:v= .string ⟨y.toArray⟩:=WU;subst OQ;subst WU;rw[run_equalIn_string w d T _ _ hu,toList_inj]
 chk d e H u x OQ w:=by
  have OQ:u= .string ⟨x.toArray⟩:=OQ;subst OQ;simp[Instr.checkKey,aP hu]
 uniq H u v x h1 h2:=Eq.trans h1<|Eq.symm h2
 leaf H u x h c hc m:=by
  have h:u= .string ⟨x.toArray⟩:=h;subst h;have hc:c= .string ⟨x.toArray⟩:=by simpa[Value.cells] using hc
  subst hc;simp only[Instr.sameBits];rw[beq_toListBytes];simp
def aiX{k:IntKind}(hl:eG P T 1 false=true)(hu:P.underlying T=some (.int k)):xO P T (TI k) 1 false 1 where
 lay:=hl
 sz _:=rfl
 ag _:=rfl
 eq d H u v x y OQ WU w:=by
  have OQ:u= .int k x:=OQ;have WU:v= .int k y:=WU;subst OQ;subst WU;rw[run_equalIn_int w d T k k _ _ hu]
  rfl
 chk d e H u x OQ w:=by
  have OQ:u= .int k x:=OQ;subst OQ;simp[Instr.checkKey,aP hu]
 uniq H u v x h1 h2:=Eq.trans h1<|Eq.symm h2
 leaf H u x h c hc m:=by
  have h:u= .int k x:=h;subst h;have hc:c= .int k x:=by simpa[Value.cells] using hc
  subst hc;simp[Instr.sameBits]
def ago(hl:eG P T 1 false=true)(hu:P.underlying T=some .bool):xO P T aZ 1 false 1 where
 lay:=hl
 sz _:=rfl
 ag _:=rfl
 eq d H u v x y OQ WU w:=by
  have OQ:u= .bool x:=OQ;have WU:v= .bool y:=WU;subst OQ;subst WU;rw[run_equalIn_bool' w d T _ _ hu];cases x<;>cases y<;>rfl
 chk d e H u x OQ w:=by
  have OQ:u= .bool x:=OQ;subst OQ;simp[Instr.checkKey,aP hu]
 uniq H u v x h1 h2:=Eq.trans h1<|Eq.symm h2
 leaf H u x h c hc m:=by
  have h:u= .bool x:=h;subst h;have hc:c= .bool x:=by simpa[Value.cells] using hc
  subst hc;simp[Instr.sameBits]
def xO.ad4[DecidableEq α]{f:α->Ty}{n:Nat}{agg:Bool}{aaZ:Nat}(h:xO P T f n agg dep)(hd:dep<=aaZ):xO P T f n agg aaZ where
 lay:=h.lay
 sz:=h.sz
 ag:=h.ag
 eq d H u v x y h1 h2 w:=by rw[show d+aaZ=(d+(aaZ-dep))+dep from by omega];exact h.eq _ H u v x y h1 h2 w
 chk d e H u x h1 w:=by rw[show d+aaZ=(d+(aaZ-dep))+dep from by omega];exact h.chk _ e H u x h1 w
 uniq:=h.uniq
 leaf:=h.leaf
inductive Rows(P:ast){α:Type}(dep:Nat):asv (asr×Nat)->Nat->(α->asv Ty)->(α->α->Bool)->Prop where
 |nil {off:Nat}:Rows P dep [] off (fun _=>[]) (fun _ _=>true)
 |cons {T:asr} {off n:Nat} {agg:Bool} {β:Type} [DecidableEq β] {g:β->Ty} {acc:α->β} {fs:asv (asr×Nat)} {J2:α->asv Ty} {eb:α->α->Bool}:
   xO P T g n agg dep->Rows P dep fs (off+n) J2 eb->Rows P dep ((T,off)::fs) off (fun x=>g (acc x)::J2 x) (fun x y=>decide (acc x=acc y)&&eb x y)
def eqL(d:Nat)(xs ys:auA aq6):asv (asr×Nat)->Sem Bool
 |[]=>pure true
 |(T,o)::fs=>do
  let a<-part T xs o
  let b<-part T ys o
  let r<-Op.equalIn d T a b
  if(!r)=true then pure false else eqL d xs ys fs
def Qt(e:Bool)(d:Nat)(xs:auA aq6):asv (asr×Nat)->Sem Unit
 |[]=>pure ()
 |(T,o)::fs=>do
  let a<-part T xs o
  Instr.checkKey e d T a
  Qt e d xs fs
def Kv{n:Nat}{agg:Bool}{τ:Ty}{l:asv Ty}{H:HV}{cs:auA aq6}(hl:eG P T n agg=true)(hn:τ.n=n)(ha:τ.agg=agg)(h:vH H (τ::l) (cs.toList.drop off))(ho:off<=cs.size):
  ∃v,(∀w,(part T cs off).run P w= .ok v w)/\τ.ok H v/\vH H l (cs.toList.drop<|off+n)/\off+n<=cs.size:=by
 have hlen:=oD h;rw[nD,gN] at hlen;have hc:dm (τ::l)=τ.n+dm l:=rfl;rw[hc,hn] at hlen;have hle:off+n<=cs.size:=by omega
 obtain⟨v,rest,e,hv,hr⟩:=h;have hs:=τ.shape hv;have e1:(cs.toList.drop off).take n=v.cells.toList:=by
  rw[e,<-hn,<-hs.size,<-gN,MK]
 refine⟨v,fun w=>?_,hv,?_,hle⟩
 ·rw[Oc hl hle,e1];have:=hs.eq;rw[ha] at this;rw[Array.toArray_toList];exact congrArg (fun z=>Result.ok z w) this.symm
 ·rw[<-ji,e,<-hn,<-hs.size,<-gN,FE];exact hr
def afG(h:Rows P dep fs off J2 eb):∀(d:Nat) (H:HV) (cs ds:auA aq6) (x y:α),vH H (J2 x) (cs.toList.drop off)->vH H (J2 y) (ds.toList.drop off)->off<=cs.size->off<=ds.size->
  ∀w:aq5,(eqL (d+dep) cs ds fs).run P w= .ok (eb x y) w:=by
 induction h with
 |nil=>intro d H cs ds x y _ _ _ _ w;rfl
 |cons hk hr ih=>
  intro d H cs ds x y h1 h2 o1 o2 w;obtain⟨u,p1,k1,r1,s1⟩:=Kv hk.lay (hk.sz _) (hk.ag _) h1 o1;obtain⟨v,p2,k2,r2,s2⟩:=Kv hk.lay (hk.sz _) (hk.ag _) h2 o2;unfold eqL;simp only[fh,p1,p2,hk.eq d H u v _ _ k1 k2,eQ];split
  ·rename_i hb;rw[jj] at hb;rw[hb];rfl
  ·rename_i hb;rw[jj,Bool.not_eq_false] at hb;rw[hb,sQ];exact ih d H cs ds x y r1 r2 s1 s2 w
def abZ(h:Rows P dep fs off J2 eb):∀(d:Nat) (e:Bool) (H:HV) (cs:auA aq6) (x:α),vH H (J2 x) (cs.toList.drop off)->off<=cs.size->
  ∀w:aq5,(Qt e (d+dep) cs fs).run P w= .ok () w:=by
 induction h with
 |nil=>intro d e H cs x _ _ w;rfl
 |cons hk hr ih=>
  intro d e H cs x h1 o1 w;obtain⟨u,p1,k1,r1,s1⟩:=Kv hk.lay (hk.sz _) (hk.ag _) h1 o1;unfold Qt;simp only[fh,p1,hk.chk d e H u _ k1,eQ];exact ih d e H cs x r1 s1 w
def ZW(h:Rows P dep fs off J2 eb):∀(H:HV) (cs ds:asv aq6) (x:α),vH H (J2 x) cs->vH H (J2 x) ds->cs=ds:=by
 induction h with
 |nil=>intro H cs ds x h1 h2;exact Eq.trans h1<|Eq.symm h2
 |cons hk hr ih=>
  rintro H cs ds x ⟨u,r1,e1,k1,o1⟩ ⟨v,r2,e2,k2,o2⟩;rw[e1,e2,hk.uniq H u v _ k1 k2,ih H r1 r2 x o1 o2]
def ZX(h:Rows P dep fs off J2 eb):∀(H:HV) (cs:asv aq6) (x:α),vH H (J2 x) cs->∀c∈cs,∀m,Instr.sameBits m c c=true:=by
 induction h with
 |nil=>intro H cs x h1 c hc;rw[show cs=[] from h1] at hc;cases hc
 |cons hk hr ih=>
  rintro H cs x ⟨u,r1,e1,k1,o1⟩ c hc m;rw[e1] at hc;rcases mw.1 hc with hc|hc
  ·exact hk.leaf H u _ k1 c hc m
  ·exact ih H r1 x o1 c hc m
def Ra(d:Nat)(e:asr)(c:Nat)(xs ys:auA aq6):∀is:asv Nat,Op.eqItems d e c xs ys is=eqL d xs ys (is.map fun i=>(e,i*c))
 |[]=>rfl
 |i::is=>by
  unfold Op.eqItems;rw[uy];unfold eqL;simp only[Ra d e c xs ys is]
def OE(fs:asv Field):Bool:=fs.all fun f=>decide<|f.name≠ "_"
def Pd(d:Nat)(xs ys:auA aq6):∀fs:asv Field,OE fs=true->Op.eqFields d xs ys fs=eqL d xs ys (fs.map fun f=>(f.type,f.offset))
 |[],_=>rfl
 |f::fs,h=>by
  unfold OE at h;rw[sE,cW,j4] at h;unfold Op.eqFields;rw[if_pos h.1,uy];unfold eqL;simp only[Pd d xs ys fs h.2]
def Xw(e:Bool)(d:Nat)(t:asr)(xs:auA aq6){w:aq5}(ht:P.underlying t=some (.struct<|P.fieldsOf t))(hn:OE (P.fieldsOf t).toList=true):
  (Instr.checkKey e (d+1) t<| .agg xs).run P w=(Qt e d xs<|(P.fieldsOf t).toList.map fun f=>(f.type,f.offset)).run P w:=by
 simp only[Instr.checkKey,fh,qc ht,eQ];rw[<-Array.forIn_toList]
 generalize (P.fieldsOf t).toList=fs at hn
 clear ht
 induction fs generalizing w with
 |nil=>simp[Qt]
 |cons f fs ih=>
  unfold OE at hn;rw[sE,cW,j4] at hn;simp only[List.forIn_cons,uy,Qt,fh,Sem.run_ite,if_pos hn.1]
  generalize (part f.type xs f.offset).run P w=r1
  cases r1 with
  |ok a w1=>
   simp only[eQ]
   generalize (Instr.checkKey e d f.type a).run P w1=r2
   cases r2 with
   |ok b w2=>
    simp only[eQ,pj];exact ih hn.2
   |halt x w2=>simp[Result.andThen]
  |halt x w1=>simp[Result.andThen]
end
end Trn
