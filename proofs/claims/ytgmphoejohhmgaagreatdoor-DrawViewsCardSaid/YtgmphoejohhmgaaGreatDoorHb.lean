/-
  Part of the proof of DrawViews.
-/
import Derived.Test.YtgmphoejohhmgaaGreatDoorHa
set_option maxRecDepth 100000
set_option maxHeartbeats 20000000
set_option linter.all false
open Go Go.RowKit Go.Proofs Go.Proofs.Tryz
namespace Trn
section
variable{r:Int×ard Int}{x y z:Int}{s:Int×ard Int}{l:ard Int}{k n:Nat}
def YH(h:l.length=k+3):aL l=aL (l.take k)+gM k*(l.getD k 0+BB*(l.getD (k+1) 0+BB*l.getD (k+2) 0)):=by
 have h1:aL (l.take<|k+3)=aL l:=by rw[eJ (by omega)]
 rw[<-h1,bj,bj,bj,jq<|k+1,jq,bp,bp,bp,iu (gM k) BB,iu (gM k) BB,iu (gM k) BB,eS,eS,eS];omega
def YI(h:l.length=k+2):aL l=aL (l.take k)+gM k*(l.getD k 0+BB*l.getD (k+1) 0):=by
 have h1:aL (l.take<|k+2)=aL l:=by rw[eJ (by omega)]
 rw[<-h1,bj,bj,jq,bp,iu (gM k) BB,eS];omega
def toNat_succ'(n:Nat):(((n:Nat):Int)+1).toNat=n+1:=by omega
def abt{u v:ard Int}(hu:okW u)(hv:okW v)(VY:u.length=k+3)(VW:v.length=k+2)(hk:k<2199023255552)(ZB:BB<=2*v.getD (k+1) 0)(hlt:aL u<BB*aL v):
  Yd (fun r=>okW r.1/\r.1.length=k+3/\(0<=r.2/\r.2<BB)/\aL u=r.2*aL v+aL r.1/\aL r.1<aL v) (BM u v):=by
 unfold BM;have eU:=YH VY;have eV:=YI VW;obtain⟨bU0,bU1⟩:=dw<|mc hu k
 obtain⟨bV0,bV1⟩:=dw<|mc hv k
 rw[List.length_take,fA (by omega)] at bU1 bV1;have hP:=nA k;have hu0:=eX hu k;have hu1:=eX hu<|k+1
 have hu2:=eX hu<|k+2
 have K7:=eX hv k;have hv1:=eX hv<|k+1
 have hVP:0<=aL v:=(dw hv).1;have hU0:0<=aL u:=(dw hu).1;have e1:((v.length:Int)-1)=((k+1:Nat):Int):=by omega
 have e2:((v.length:Int)-2)=((k:Nat):Int):=by omega
 have e0:(v.length:Int)=((k+2:Nat):Int):=by omega
 rw[e1,e2,e0];have gA:∀{l:ard Int},l.length=k+3->bm l ((k+2:Nat):Int)=some (l.getD (k+2) 0):=fun h=>bQ (by omega)
 refine Yd.bd (gA VY) (Yd.bd (gA VY) (Yd.bd (aM ⟨by omega,by omega⟩) (Yd.bd (bQ (by omega)) ?_)));have hV:aL v<gM (k+2):=by have:=(dw hv).2;rw[VW] at this;exact this
 refine Yd.jn (fun s:Int×Int×Int=>(0<=s.1/\s.1<BB)/\(0<=s.2.1/\s.2.1<BB)/\(s.2.2=0\/s.2.2=1)/\s.1*v.getD (k+1) 0+(s.2.1+BB*s.2.2)=u.getD (k+1) 0+BB*u.getD (k+2) 0/\aL u<(s.1+1)*aL v) ?_ ?_
 rotate_left
 ·intro OM ak4;refine Yd.cond (fun hc=>?_)<|fun hc=>?_
  ·have hc:=bf hc;obtain⟨r,d,a1,a2,a3,a4,a5⟩:=EX (X:=u.getD (k+1) 0) (Y:=v.getD (k+1) 0) (c:=0) hu1 hv1<| .inl rfl
   refine Yd.bd (aM ⟨by omega,by omega⟩) (Yd.bd (bQ (by omega)) (Yd.bd (bQ (by omega)) (Yd.bd (aM ⟨by omega,by omega⟩) (Yd.bd (bQ (by omega))<|Yd.bd a1 ?_))));have agw:u.getD (k+2) 0<=v.getD (k+1) 0:=ahQ hP bU0 hu0.1 hu1.1 bV1 K7.2 (by rw[<-eU,<-eV];exact hlt);refine ak4 _ ⟨⟨by dsimp only;omega,by dsimp only;unfold BB;omega⟩,⟨a2,a3⟩,a4,?_,?_⟩
   ·dsimp only;unfold BB at*;omega
   ·dsimp only;exact hlt
  ·have hc:=bP hc;refine Yd.bd (gA VY) (Yd.bd (gA VY) (Yd.bd (aM ⟨by omega,by omega⟩) (Yd.bd (bQ (by omega)) (Yd.bd (bQ (by omega)) (Yd.bd (aM ⟨by omega,by omega⟩) (Yd.bd (bQ (by omega)) ?_))))));refine Yd.jQ (Qq ⟨hu2.1,by omega⟩ hu1 hv1.2) ?_;rintro⟨q,r⟩ ⟨d1,d2,d3⟩;dsimp only at d1 d2 d3⊢;have ee:q*v.getD (k+1) 0+r=u.getD (k+1) 0+BB*u.getD (k+2) 0:=by rw[Int.mul_comm BB];omega
   refine ak4 _ ⟨d1,⟨d2.1,by dsimp only;omega⟩,.inl rfl,by dsimp only;omega,?_⟩;dsimp only;have:=XC hP bU1 bV0 (show 0<=q+1 by omega)<|afi ee d2.2 hu0.2 d1.1 K7.1
   rw[<-eU,<-eV] at this;exact this
 rintro⟨q1,r1,c1⟩ ⟨s1,s2,s3,s4,s5⟩;dsimp only at s1 s2 s3 s4 s5⊢;refine Yd.jn (fun q:Int=>(0<=q/\q<BB)/\(q-1)*aL v<=aL u/\aL u<(q+1)*aL v) ?_ ?_
 rotate_left
 ·intro k41 an8;refine Yd.lp (fun s:Int×Int×Int=>(0<=s.1/\s.1<BB)/\(0<=s.2.1/\s.2.1<BB)/\(s.2.2=0\/s.2.2=1)/\s.1*v.getD (k+1) 0+(s.2.1+BB*s.2.2)=u.getD (k+1) 0+BB*u.getD (k+2) 0/\aL u<(s.1+1)*aL v)
   (fun s:Int×Int×Int=>s.1.toNat) ?_ _ _ ⟨s1,s2,s3,s4,s5⟩ (by dsimp only;unfold BB at*;omega)
  rintro next ⟨q,r,c⟩ ⟨h1,h2,h3,h4,h5⟩ hn
  dsimp only at h1 h2 h3 h4 h5 hn⊢;have fin:(BB<=r+BB*c\/q*v.getD k 0<=BB*(r+BB*c)+u.getD k 0)->Yd _ (k41 q):=fun hh=>by
   refine an8 q ⟨h1,?_,h5⟩;have:=afj (P:=gM k) (UL:=aL<|u.take k) (VL:=aL<|v.take k) h4 h1 (by unfold BB at*;omega) K7 hu0.1 ZB hh hP bU0 bV1 bV0;rw[<-eU,<-eV] at this;exact this
  refine Yd.cond (fun hc=>?_)<|fun hc=>?_
  ·have hc:=bf hc;subst hc;obtain⟨hi,lo,m1,m2,m3,m4,m5,m6⟩:=LD h1 K7;refine Yd.bd (aM ⟨by omega,by omega⟩) (Yd.bd (bQ (by omega))<|Yd.bd m1 ?_);have key:Yd (fun r=>okW r.1/\r.1.length=k+3/\(0<=r.2/\r.2<BB)/\aL u=r.2*aL v+aL r.1/\aL r.1<aL v)
     (cond (((decide<|hi<r)||((decide<|hi=r)&&(decide<|lo<=u.getD k 0)))) (
     k41 q
    ) (
     bd (aF ((k+1:Nat):Int)) fun SA=>
     bd (bm v SA) fun Sz=>
     bd (nC r Sz (0:Int)) fun CX=>
     next (wr .u64<|q-(1:Int),CX.1,CX.2)
    )):=by
    refine Yd.cond (fun hd=>?_)<|fun hd=>?_
    ·refine fin (.inr ?_);rw[m6];rw[mY,bV,jJ,jJ,jJ] at hd;unfold BB at*;omega
    ·have IL:BB*r+u.getD k 0<q*v.getD k 0:=by
      rw[m6];rw[wI,Bool.and_eq_false_iff,kE,kE,kE] at hd;unfold BB at*;omega
     obtain⟨z,d,a1,a2,a3,a4,a5⟩:=EX (X:=r) (Y:=v.getD (k+1) 0) (c:=0) h2 hv1<| .inl rfl
     refine Yd.bd (aM ⟨by omega,by omega⟩) (Yd.bd (bQ (by omega))<|Yd.bd a1 ?_);have hUq:=XC hP bU1 bV0 h1.1 (afh (q:=q) (r:=r) (v1:=v.getD (k+1) 0) (U2:=u.getD (k+1) 0+BB*u.getD (k+2) 0) (by omega) IL);rw[<-eU,<-eV] at hUq;have hq1:1<=q:=by
      rcases(show 1<=q\/q=0 by omega) with h|h
      ·exact h
      ·rw[h,Im] at hUq;omega
     have ew:wr .u64 (q-1)=q-1:=OT ⟨by omega,by omega⟩;rw[ew];refine hn _ ⟨⟨by dsimp only;omega,by dsimp only;omega⟩,⟨a2,a3⟩,a4,?_,?_⟩ (by dsimp only;omega)
     ·dsimp only;rw[Int.sub_mul,Int.one_mul];omega
     ·dsimp only;rw[show q-1+1=q from by omega];exact hUq
   have gO:∀{g:Bool} {e:atg Int} {x:Int} {K:Int->atg (ard Int×Int)} {R:ard Int×Int->Prop},e=some x->(g=true->Yd R (K x))->(g=false->Yd R (K 0))->Yd R (fR g 0 e K):=fun h a b=>Yd.fR (fun hg=>⟨_,h,a hg⟩) b
   refine gO (aM ⟨by omega,by omega⟩) (fun hg=>gO (bQ (by omega)) (fun rW=>gO (bQ (by omega)) (fun hg2=>key) (fun h=>by rw[hg] at h;cases h)) (fun h=>by rw[hg] at h;cases h))<|fun hg=>?_
   refine Yd.fR (fun h=>by rw[hg] at h;cases h) (fun _=>Yd.fR (fun h=>by rw[hg] at h;cases h)<|fun _=>?_);have hgd:(decide (hi<r)||(decide (hi=r)&&decide (lo<=(0:Int))))=(decide (hi<r)||(decide (hi=r)&&decide (lo<=u.getD k 0))):=by
    cases ha:decide (hi<r)
    ·cases hb:decide (hi=r)
     ·rfl
     ·rw[ha,hb] at hg;exact absurd hg (by decide)
    ·rfl
   dsimp only at hgd⊢;rw[hgd];exact key
  ·have hc:=bP hc;have ZO:c=1:=by rcases h3 with h|h;exact absurd h hc;exact h
   exact fin (.inl (by rw[ZO];omega))
 rintro q ⟨hq,anY,anW⟩;refine Yd.lp (fun s:ard Int×Int×Int×Int=>okW s.1/\s.1.length=k+3/\(s.2.1=0\/s.2.1=1)/\(0<=s.2.2.1/\s.2.2.1<BB)/\0<=s.2.2.2/\s.2.2.2<=(k+2:Nat)/\(∀m,s.2.2.2.toNat<=m->s.1.getD m 0=u.getD m 0)/\
   aL (u.take s.2.2.2.toNat)-q*aL (v.take s.2.2.2.toNat)=aL (s.1.take s.2.2.2.toNat)-gM s.2.2.2.toNat*(s.2.2.1+s.2.1))
  (fun s:ard Int×Int×Int×Int=>k+2-s.2.2.2.toNat) ?_ _ _ ⟨hu,VY,.inl rfl,⟨by dsimp only;omega,by dsimp only;unfold BB;omega⟩,by dsimp only;omega,by dsimp only;omega,fun _ _=>rfl,by simp[aL]⟩ (by dsimp only;omega)
 rintro next ⟨p,b,c,i⟩ ⟨h1,h2,h3,h4,h5,h6,h7,h8⟩ hn
 dsimp only at h1 h2 h3 h4 h5 h6 h7 h8 hn⊢;obtain⟨n,rfl⟩:=gk h5;simp only[Int.toNat_natCast,tz] at*;refine Yd.cond (fun hc=>?_)<|fun hc=>?_
 ·have hc:=bf hc;obtain⟨hi,lo,m1,m2,m3,m4,m5,m6⟩:=LD hq<|eX hv n
  obtain⟨z,d,a1,a2,a3,a4,a5⟩:=EX (X:=lo) (Y:=c) (c:=0) ⟨m4,m5⟩ h4<| .inl rfl
  obtain⟨y,b',b1,b2,b3,b4,b5⟩:=QX (X:=p.getD n 0) (Y:=z) (c:=b) (eX h1 n) ⟨a2,a3⟩ h3;refine Yd.bd (bQ (by omega)) (Yd.bd m1 (Yd.bd a1 (Yd.bd (bQ (by omega)) (Yd.bd (bQ (by omega)) (Yd.bd b1 (Yd.bd (bQ (by omega)) (Yd.bd (bQ (by omega)) (Yd.bd (aM ⟨by omega,by omega⟩) ?_))))))));have ew:wr .u64 (hi+d)=hi+d:=OT ⟨by omega,by unfold BB at*;omega⟩;dsimp only;rw[ew];refine hn _ ⟨me h1 _ ⟨b2,b3⟩,by simpa using h2,b4,⟨by dsimp only;omega,by dsimp only;unfold BB at*;omega⟩,by dsimp only;omega,by dsimp only;omega,?_,?_⟩ (by dsimp only;omega)
  ·intro m hm;dsimp only at hm⊢;rw[getD_set_ne (by omega)];exact h7 m (by omega)
  ·simp only[toNat_succ',Int.toNat_natCast];rw[bj u,bj v,bj,dr<|bC _,dv (by omega),<-h7 n (bC _),jq];have k1:q*(aL (v.take n)+gM n*v.getD n 0)=q*aL (v.take n)+gM n*(q*v.getD n 0):=by rw[bp,iu q]
   have k2:gM n*(p.getD n 0)-gM n*(q*v.getD n 0)-gM n*(c+b)=gM n*y-BB*gM n*(hi+d+b'):=by
    rw[Int.mul_comm BB,eS,<-lX,<-lX,<-lX]
    congr 1
    unfold BB at*;omega
   rw[k1];omega
 ·have hc:=bP hc;have KA:n=k+2:=by omega
  subst KA;obtain⟨y,b',b1,b2,b3,b4,b5⟩:=QX (X:=p.getD (k+2) 0) (Y:=c) (c:=b) (eX h1 _) h4 h3;refine Yd.bd (gA h2)<|Yd.bd (gA h2)<|Yd.bd b1<|Yd.bd (gA h2)<|Yd.bd (gA h2) ?_
  simp only[Int.toNat_natCast];have okq:=me h1 (k+2) ⟨b2,b3⟩;have hlen:(p.set (k+2) y).length=k+3:=by rw[ou];exact h2
  have eW:aL (p.set (k+2) y)=aL (p.take<|k+2)+gM (k+2)*y:=by
   have:aL ((p.set (k+2) y).take<|k+3)=aL (p.set (k+2) y):=by rw[eJ (by omega)]
   rw[<-this,bj,dr<|bC _,dv (by omega)]
  have eU2:aL u=aL (u.take<|k+2)+gM (k+2)*p.getD (k+2) 0:=by
   have:aL (u.take<|k+3)=aL u:=by rw[eJ (by omega)]
   rw[<-this,bj,h7 _<|bC _]
  rw[eJ (l:=v) (by omega)] at h8;have main:aL u-q*aL v=aL (p.set (k+2) y)-gM (k+3)*b':=by
   have k2:gM (k+2)*p.getD (k+2) 0-gM (k+2)*(c+b)=gM (k+2)*y-BB*gM (k+2)*b':=by
    rw[Int.mul_comm BB,eS,<-lX,<-lX]
    congr 1
    omega
   rw[eW,eU2,show k+3=(k+2)+1 from rfl,jq<|k+2];omega
  have bW:=dw okq;rw[hlen] at bW
  generalize hR:p.set (k+2) y=R at*
  rw[kD,Int.one_mul] at anW;rw[Int.sub_mul,Int.one_mul] at anY;refine Yd.cond (fun hd=>?_)<|fun hd=>?_
  ·have hd:=bf hd;have hd:b'=0:=hd;rw[hd,zw] at main;refine Yd.mk ⟨okq,hlen,hq,?_,?_⟩
   ·dsimp only;omega
   ·dsimp only;omega
  ·have hd:=bP hd;have hd:b'=1:=by rcases b4 with h|h;exact absurd h hd;exact h
   rw[hd,po] at main;have hq1:1<=q:=by
    rcases(show 1<=q\/q=0 by omega) with h|h
    ·exact h
    ·rw[h,Im] at main;omega
   refine Yd.lp (fun s:ard Int×Int×Int=>okW s.1/\s.1.length=k+3/\(s.2.1=0\/s.2.1=1)/\0<=s.2.2/\s.2.2<=(k+2:Nat)/\(∀m,s.2.2.toNat<=m->s.1.getD m 0=R.getD m 0)/\
     aL (s.1.take s.2.2.toNat)+gM s.2.2.toNat*s.2.1=aL (R.take s.2.2.toNat)+aL (v.take s.2.2.toNat))
    (fun s:ard Int×Int×Int=>k+2-s.2.2.toNat) ?_ _ _ ⟨okq,hlen,.inl rfl,by dsimp only;omega,by dsimp only;omega,fun _ _=>rfl,by simp[aL]⟩ (by dsimp only;omega)
   rintro aqd ⟨t,e,j⟩ ⟨g1,g2,g3,g4,g5,g6,g7⟩ hn3;dsimp only at g1 g2 g3 g4 g5 g6 g7 hn3⊢;obtain⟨m,rfl⟩:=gk g4;simp only[Int.toNat_natCast,tz] at*;refine Yd.cond (fun hf=>?_)<|fun hf=>?_
   ·have hf:=bf hf;obtain⟨z,d,a1,a2,a3,a4,a5⟩:=EX (X:=t.getD m 0) (Y:=v.getD m 0) (c:=e) (eX g1 m) (eX hv m) g3;refine Yd.bd (bQ (by omega)) (Yd.bd (bQ (by omega)) (Yd.bd (bQ (by omega)) (Yd.bd a1 (Yd.bd (bQ (by omega)) (Yd.bd (bQ (by omega)) (Yd.bd (aM ⟨by omega,by omega⟩) ?_))))));refine hn3 _ ⟨me g1 _ ⟨a2,a3⟩,by simpa using g2,a4,by dsimp only;omega,by dsimp only;omega,?_,?_⟩ (by dsimp only;omega)
    ·intro m' hm;dsimp only at hm⊢;rw[getD_set_ne (by omega)];exact g6 m' (by omega)
    ·simp only[toNat_succ',Int.toNat_natCast];rw[bj R,bj v,bj,dr<|bC _,dv (by omega),<-g6 m (bC _),jq];have k2:gM m*t.getD m 0+gM m*v.getD m 0+gM m*e=gM m*z+BB*gM m*d:=by
      rw[Int.mul_comm BB,eS,<-bp,<-bp,<-bp]
      congr 1
     omega
   ·have hf:=bP hf;have hm':m=k+2:=by omega
    subst hm';have hT:=eX g1<|k+2
    refine Yd.bd (gA g2)<|Yd.bd (gA g2)<|Yd.bd (gA g2)<|Yd.bd (gA g2)<|Yd.mk ?_
    have ew:wr .u64 (q-1)=q-1:=OT ⟨by omega,by omega⟩;have ew2:wr .u64 (t.getD (k+2) 0+e)=(t.getD (k+2) 0+e)%BB:=wrW _;rw[ew,ew2];have hm0:=rP (t.getD (k+2) 0+e) (show BB≠0 by unfold BB;omega);have ZG:=qA (t.getD (k+2) 0+e) (show 0<BB by unfold BB;omega);have hdm:=yH (t.getD (k+2) 0+e) BB;have ht0:(t.getD (k+2) 0+e)/BB=0\/(t.getD (k+2) 0+e)/BB=1:=by unfold BB at*;omega
    generalize hM:(t.getD (k+2) 0+e)%BB=M at*
    generalize hT':(t.getD (k+2) 0+e)/BB=T at*
    have okz:=me g1 (k+2) ⟨hm0,ZG⟩;have hlz:(t.set (k+2) M).length=k+3:=by rw[ou];exact g2
    have eZ:aL (t.set (k+2) M)=aL (t.take<|k+2)+gM (k+2)*M:=by
     have:aL ((t.set (k+2) M).take<|k+3)=aL (t.set (k+2) M):=by rw[eJ (by omega)]
     rw[<-this,bj,dr<|bC _,dv (by omega)]
    have eR:aL R=aL (R.take<|k+2)+gM (k+2)*t.getD (k+2) 0:=by
     have:aL (R.take<|k+3)=aL R:=by rw[eJ (by omega)]
     rw[<-this,bj,g6 _<|bC _]
    rw[eJ (l:=v) (by omega)] at g7;have bZ:=dw okz;rw[hlz] at bZ;have sum:aL (t.set (k+2) M)+gM (k+3)*T=aL R+aL v:=by
     have k2:gM (k+2)*t.getD (k+2) 0+gM (k+2)*e=gM (k+2)*M+BB*gM (k+2)*T:=by
      rw[Int.mul_comm BB,eS,<-bp,<-bp,hdm]
     rw[eZ,eR,show k+3=(k+2)+1 from rfl,jq<|k+2];omega
    have hpp:gM (k+2)<=gM (k+3):=HJ (by omega);have hT1:T=1:=by
     rcases ht0 with h|h
     ·rw[h,zw] at sum;omega
     ·exact h
    rw[hT1,po] at sum;refine⟨okz,hlz,⟨by dsimp only;omega,by dsimp only;omega⟩,?_,?_⟩
    ·dsimp only;rw[Int.sub_mul,Int.one_mul];omega
    ·dsimp only;omega
def wh{A B q r:Int}(h:A=q*B+r)(h0:0<=r)(h1:r<B):q=A/B/\r=A%B:=by
 have hB:B≠0:=by omega
 subst h;constructor
 ·rw[Int.add_comm,Int.add_mul_ediv_right _ _ hB,Int.ediv_eq_zero_of_lt h0 h1];omega
 ·rw[Int.add_comm,Int.add_mul_emod_self_right,B3 h0 h1]
def ng(h:n<l.length):l.drop n=l.getD n 0::l.drop (n+1):=by
 rw[BQ h]
 congr 1
 simp[gy,h]
def vD(h:n<l.length)(x:Int):(l.set n x).drop n=x::l.drop (n+1):=by
 rw[ng (by rw[ou];exact h),dv h,LY (by omega)]
def Ry{b w:ard Int}{s:Nat}(hb:okW b)(hbl:b.length=k+2)(hs:s<=63)(h1:BB<=2*(b.getD (k+1) 0*2^s))(h2:b.getD (k+1) 0*2^s<BB)
 (hw:Norm w)(hv:aL w=aL b*2^s):w.length=k+2/\BB<=2*w.getD (k+1) 0/\aL w<gM (k+2)/\gM (k+1)*2^s<=aL w:=by
 have ps:=two_pos s;have hP:=nA<|k+1
 have K8:aL b=aL (b.take<|k+1)+gM (k+1)*b.getD (k+1) 0:=by
  have:aL (b.take<|k+2)=aL b:=by rw[eJ (by omega)]
  rw[<-this,bj]
 obtain⟨t0,t1⟩:=dw<|mc hb<|k+1
 rw[List.length_take,fA (by omega)] at t1;have ak8:=TE (s:=s) (lo:=b.getD (k+1) 0*2^s) (by omega) (Int.mul_emod_left _ _) h2;have hb0:=eX hb<|k+1
 have hbt:1<=b.getD (k+1) 0:=by
  rcases(show 1<=b.getD (k+1) 0\/b.getD (k+1) 0=0 by omega) with h|h
  ·exact h
  ·rw[h,Im] at h1;unfold BB at h1;omega
 generalize b.getD (k+1) 0=t at*
 generalize aL (b.take<|k+1)=L at*
 have e:aL w=L*2^s+gM (k+1)*(t*2^s):=by rw[hv,K8,kD,eS]
 have hL0:0<=L*2^s:=qx t0<|fH ps
 have hL1:L*2^s<gM (k+1)*2^s:=Int.mul_lt_mul_of_pos_right t1 ps;have hg2:=jB ak8<|fH hP
 rw[bp] at hg2;have e3:gM (k+2)=gM (k+1)*BB:=by rw[jq<|k+1,Int.mul_comm]
 have hlt:aL w<gM (k+2):=by rw[e,e3];omega
 have V8:gM (k+1)*2^s<=aL w:=by
  have h3:gM (k+1)*(1*2^s)<=gM (k+1)*(t*2^s):=jB (tE hbt<|fH ps)<|fH hP
  rw[Int.one_mul] at h3;omega
 have ak1:w.length<=k+2:=hw.len hlt;have NX:k+1<w.length:=by
  rcases jI (k+1) w.length with h|h
  ·exact h
  ·have h5:=(dw hw.1).2;have h6:=HJ h;have h7:gM (k+1)*1<=gM (k+1)*2^s:=jB (by omega)<|fH hP
   omega
 refine⟨by omega,?_,hlt,V8⟩;have hlen:w.length=k+2:=by omega
 have hsw:aL w=aL (w.take<|k+1)+gM (k+1)*w.getD (k+1) 0:=by
  have:aL (w.take<|k+2)=aL w:=by rw[eJ (by omega)]
  rw[<-this,bj]
 obtain⟨q0,q1⟩:=dw<|mc hw.1<|k+1
 rw[List.length_take,fA (by omega)] at q1
 generalize w.getD (k+1) 0=z at*
 rcases(show BB<=2*z\/2*(z+1)<=BB by unfold BB;omega) with h|h
 ·exact h
 ·exfalso;have h8:gM (k+1)*(2*(z+1))<=gM (k+1)*(2*(t*2^s)):=jB (by omega)<|fH hP
  rw[iu,iu _ 2,bp,po] at h8;omega
def aee(h:okW l)(n:Nat):aL (l.take n)<=aL l:=by
 rcases jI n l.length with h1|h1
 ·rw[o6 l n (by omega)];have:=qx (fH<|nA n) (dw<|vS h n).1;omega
 ·rw[eJ h1];exact Int.le_refl _
def drop_zero(h:okW l)(hl:n<=l.length)(hv:aL l<gM n):aL (l.drop n)=0:=by
 have h1:=o6 l n hl;have h2:=(dw<|vS h n).1;have h3:=(dw<|mc h n).1;rcases(show aL (l.drop n)=0\/1<=aL (l.drop n) by omega) with h4|h4
 ·exact h4
 ·have:=jB h4 (fH<|nA n);omega
def Vn{s:Nat}(ZC:0<s)(hs:s<=63)(hx:0<=x/\x<BB)(hy:0<=y/\y<BB):
  ∃lo:Int,Hv .u64 y ((64-s:Nat):Int)=some lo/\0<=mN .or .u64 (x/2^s) lo/\mN .or .u64 (x/2^s) lo<BB/\mN .or .u64 (x/2^s) lo*2^s=x-x%2^s+BB*(y%2^s):=by
 have h2:=qM (s:=s) (by omega);have p1:=two_pos s;have p2:=two_pos<|64-s
 have r0:=rP y (show(2:Int)^s≠0 by omega);have r1:=qA y p1;have elo:y*2^(64-s)%BB=2^(64-s)*(y%2^s):=by
  rw[<-h2,Int.mul_comm y,Int.mul_comm<|2^s,Int.mul_emod_mul_of_pos _ _ p2]
 refine⟨2^(64-s)*(y%2^s),by rw[aey (by omega),elo],?_⟩;have l0:0<=2^(64-s)*(y%2^s):=qx (fH p2) r0;have d0:0<=x/2^s:=qy hx.1<|fH p1
 have d1:x/2^s<2^(64-s):=by
  refine IB p1 ?_;rw[Int.mul_comm,h2];exact hx.2
 have hl:2^(64-s)*(y%2^s)+2^(64-s)<=BB:=by
  have:=jB (show y%2^s+1<=2^s by omega)<|fH p2
  rw[bp,po,Int.mul_comm _<|2^s,h2] at this;exact this
 rw[UC (s:=64-s) l0 d0 d1 (Int.mul_emod_right _ _) (by omega)];refine⟨by omega,by omega,?_⟩;have e:=yH x<|2^s
 rw[kD,LU,Int.mul_comm<|2^(64-s),h2,Int.mul_comm<|x/2^s];omega
def ND{a b:ard Int}(ha:Norm a)(hb:Norm b)(h0:b≠[])(ZJ:a.length<2199023255552)(ZI:b.length<2199023255552):
  Yd (fun r=>(Norm r.1/\aL r.1=aL a/aL b)/\Norm r.2/\aL r.2=aL a%aL b) (tn a b):=by
 unfold tn;have hbl:0<b.length:=by cases b;exact absurd rfl h0;simp
 have ha0:=(dw ha.1).1;refine Yd.jQ (AX ha hb (by omega) (by omega)) fun c hc=>?_
 refine Yd.cond (fun hlt=>?_)<|fun hlt=>?_
 ·have hlt:=bf hlt;have hv:aL a<aL b:=by rcases hc with h|h|h<;>omega
  exact Yd.mk ⟨⟨Norm.nil,by rw[Int.ediv_eq_zero_of_lt ha0 hv];rfl⟩,ha,by rw[B3 ha0 hv]⟩
 have hlt:=bP hlt;have hv:aL b<=aL a:=by rcases hc with h|h|h<;>omega
 have ar1:b.length<=a.length:=by
  rcases jI a.length b.length with h|h
  ·have:=xP ha.1 hb h;omega
  ·exact h
 refine Yd.cond (fun h1=>?_)<|fun h1=>?_
 ·
  have h1:=bf h1;have NY:b.length=1:=by omega
  obtain⟨y,rfl⟩:∃y,b=[y]:=by
   cases b with
   |nil=>cases NY
   |cons x t=>cases t with
    |nil=>exact⟨x,rfl⟩
    |cons _ _=>simp at NY
  have hy:0<y/\y<BB:=by
   have:=qR.1 hb.1;have h2:y≠0:=fun e=>hb.2 (by rw[e];rfl)
   omega
  have eV:aL [y]=y:=by simp[aL]
  rw[eV] at hv⊢;refine Yd.bd (HX (by omega) (by omega) (by omega)) (Yd.bd (aM ⟨by omega,by omega⟩) ?_);refine Yd.lp (fun s:ard Int×Int×Int=>okW s.1/\s.1.length=a.length/\(0<=s.2.1/\s.2.1<y)/\ -1<=s.2.2/\s.2.2<a.length/\aL (a.drop (s.2.2+1).toNat)=aL (s.1.drop (s.2.2+1).toNat)*y+s.2.1)
   (fun s:ard Int×Int×Int=>(s.2.2+1).toNat) ?_ _ _ ⟨nS _,by simp only[uQ];omega,⟨by dsimp only;omega,by dsimp only;omega⟩,by dsimp only;omega,by dsimp only;omega,?_⟩ (by dsimp only;omega)
  rotate_left
  ·have:((a.length:Int)-1+1).toNat=a.length:=by omega
   dsimp only;rw[this,xC,wK (by simp)];simp[aL]
  rintro next ⟨o,r,i⟩ ⟨g1,g2,g3,g4,g5,g6⟩ hn
  dsimp only at g1 g2 g3 g4 g5 g6 hn⊢;refine Yd.cond (fun hp=>?_)<|fun hp=>?_
  ·have hp:=bf hp;obtain⟨n,rfl⟩:=gk hp;simp only[toNat_succ',Int.toNat_natCast,tz] at*;refine Yd.bd (bQ (by omega))<|Yd.bd (show bm [y] 0=some y from rfl) ?_
   refine Yd.jQ (Qq g3 (eX ha.1 n) hy.2) ?_;rintro⟨q,z⟩ ⟨d1,d2,d3⟩;dsimp only at d1 d2 d3⊢;refine Yd.bd (bQ (by omega)) (Yd.bd (bQ (by omega)) (Yd.bd (aM ⟨by omega,by omega⟩) ?_));refine hn _ ⟨me g1 _ d1,by simpa using g2,d2,by dsimp only;omega,by dsimp only;omega,?_⟩ (by dsimp only;omega);have e:(((n:Nat):Int)-1+1).toNat=n:=by omega
   simp only[e];rw[ng (by omega),vD (by omega),l6,l6,g6,kD,bp,eS,Int.mul_comm BB r];omega
  ·have hp:=bP hp;have hi:i= -1:=by omega
   subst hi;have g6:aL a=aL o*y+r:=g6;refine Yd.jQ (vU g1 (by omega)) fun w ⟨w1,w2,_⟩=>?_
   refine Yd.jQ (vU (a:=[r]) (qR.2 ⟨⟨g3.1,by omega⟩,HR⟩) (by simp)) fun z ⟨z1,z2,_⟩=>?_
   have er:aL [r]=r:=by simp[aL]
   obtain⟨u1,u2⟩:=wh g6 g3.1 g3.2;exact Yd.mk ⟨⟨w1,by dsimp only;rw[w2,u1]⟩,z1,by dsimp only;rw[z2,er,u2]⟩
 ·
  have h1:=bP h1;obtain⟨k,hk⟩:∃k,b.length=k+2:=⟨b.length-2,by omega⟩;have hbt:0<b.getD (k+1) 0:=by
   have h3:=(eX hb.1<|k+1).1;rcases(show 0<b.getD (k+1) 0\/b.getD (k+1) 0=0 by omega) with h|h
   ·exact h
   ·refine absurd ?_ hb.2;rw[List.getLast?_eq_getElem?,show b.length-1=k+1 from by omega];rw[gy] at h;rw[kb (by omega)] at h⊢;simpa using h
  obtain⟨s,l1,l2,l3,l4⟩:=abC hbt (eX hb.1<|k+1).2;have e1:((b.length:Int)-1)=((k+1:Nat):Int):=by omega
  rw[e1];refine Yd.bd (aM ⟨by omega,by omega⟩) (Yd.bd (bQ (by omega))<|Yd.bd l1 ?_);refine Yd.jQ (Kp hb.1 l2 (by omega)) fun w0 ⟨p1,p2,p3⟩=>?_
  refine Yd.jQ (vU p1 (by omega)) fun v ⟨v1,v2,_⟩=>?_
  rw[p3] at v2;obtain⟨v3,v4,v5,v6⟩:=Ry hb.1 hk l2 l3 l4 v1 v2;refine Yd.jQ (Kp ha.1 l2 (by omega)) fun u0 ⟨q1,q2,q3⟩=>?_
  obtain⟨d,hd⟩:∃d,a.length=d+(k+2):=⟨a.length-(k+2),by omega⟩;have e2:((a.length:Int)-(v.length:Int))=((d:Nat):Int):=by omega
  rw[e2,v3];refine Yd.bd (aM ⟨by omega,by omega⟩) (Yd.bd (aM ⟨by omega,by omega⟩) (Yd.bd (HX (by omega) (by omega) (by omega)) (Yd.bd (aM ⟨by omega,by omega⟩) ?_)));have ps:=two_pos s;have hV0:0<aL v:=by
   have:=Int.mul_pos (nA<|k+1) ps;omega
  refine Yd.lp (fun t:ard Int×ard Int×Int=>okW t.1/\t.1.length=a.length+1/\okW t.2.1/\t.2.1.length=d+1/\ -1<=t.2.2/\t.2.2<=d/\aL (t.1.drop (t.2.2+1).toNat)<aL v/\
    aL a*2^s=aL v*(gM (t.2.2+1).toNat*aL (t.2.1.drop (t.2.2+1).toNat))+aL t.1)
   (fun t:ard Int×ard Int×Int=>(t.2.2+1).toNat) ?_ _ _ ⟨q1,q2,nS _,by simp only[uQ];omega,by dsimp only;omega,by dsimp only;omega,?_,?_⟩ (by dsimp only;omega)
  rotate_left
  ·dsimp only;rw[toNat_succ'];have h3:=o6 u0 (d+1) (by omega);have h4:=(dw<|mc q1<|d+1).1;rw[q3] at h3;have h5:=(dw ha.1).2;have h6:aL a*2^s<gM a.length*2^s:=Int.mul_lt_mul_of_pos_right h5 ps;rw[hd,show d+(k+2)=(d+1)+(k+1) from by omega,Lz,eS] at h6;have h7:aL (u0.drop<|d+1)<gM (k+1)*2^s:=by
    rcases(show aL (u0.drop<|d+1)<gM (k+1)*2^s\/gM (k+1)*2^s<=aL (u0.drop<|d+1) by omega) with h|h
    ·exact h
    ·have:=jB h (fH<|nA<|d+1);omega
   omega
  ·dsimp only;rw[toNat_succ',wK (by simp),<-q3];simp[aL]
  rintro next ⟨u,o,j⟩ ⟨g1,g2,g3,g4,g5,g6,g7,g8⟩ hn
  dsimp only at g1 g2 g3 g4 g5 g6 g7 g8 hn⊢;refine Yd.cond (fun hp=>?_)<|fun hp=>?_
  ·have hp:=bf hp;obtain⟨n,rfl⟩:=gk hp;simp only[toNat_succ',Int.toNat_natCast,tz] at*;have e3:(((n:Nat):Int)+((k+2:Nat):Int))=((n+(k+2):Nat):Int):=by omega
   have e4:(((n+(k+2):Nat):Int)+1)=((n+(k+3):Nat):Int):=by omega
   have e5:(((n+(k+3):Nat):Int)-((n:Nat):Int)).toNat=k+3:=by omega
   rw[e3];refine Yd.bd (aM ⟨by omega,by omega⟩) ?_;rw[e4];refine Yd.bd (aM ⟨by omega,by omega⟩)<|Yd.gC ?_ ?_
   ·rw[bD (show(0:Int)<=(n:Int) by omega),bD (show((n:Nat):Int)<((n+(k+3):Nat):Int) by omega),bD (show((n+(k+3):Nat):Int)<=(u.length:Int) by omega)]
    rfl
   rw[e5];have okd:=vS g1 n;have hdl:(u.drop n).length=a.length+1-n:=by rw[mG,g2]
   have hw:((u.drop n).take<|k+3).length=k+3:=by rw[List.length_take];omega
   have hdn:u.drop n=u.getD n 0::u.drop (n+1):=ng (by omega);have hun:=eX g1 n;have V8:aL ((u.drop n).take<|k+3)<BB*aL v:=by
    rw[hdn,show k+3=(k+2)+1 from rfl,LZ,l6];have h3:=aee (vS g1<|n+1)<|k+2
    unfold BB at*;omega
   have ab2:aL (u.drop<|n+(k+3))=0:=by
    have:=drop_zero (vS g1<|n+1) (n:=k+2) (by rw[mG];omega) (by omega);rw[iF] at this;rw[show n+(k+3)=n+1+(k+2) from by omega];exact this
   refine Yd.jQ (abt (k:=k) (mc okd _) v1.1 hw v3 (by omega) v4 V8) ?_;rintro⟨w,q⟩ ⟨s1,s2,s3,s4,s5⟩;dsimp only at s1 s2 s3 s4 s5⊢;refine Yd.gC ?_ ?_
   ·rw[s2,show Nat.blt 0 (k+3)=true from nE (by omega),show Nat.ble (n+(k+3)) u.length=true from nE (by omega),Nat.beq_refl]
    rfl
   refine Yd.bd (bQ (by omega)) (Yd.bd (bQ (by omega)) (Yd.bd (aM ⟨by omega,by omega⟩) ?_));have okt:=mc g1 n;have okz:=vS g1<|n+(k+3)
   have ON:(u.take n).length=n:=by rw[List.length_take];omega
   have e7:(((n:Nat):Int)-1+1).toNat=n:=by omega
   have evu:aL u=aL (u.take n)+gM n*aL ((u.drop n).take<|k+3):=by
    rw[o6 u n (by omega),o6 (u.drop n) (k+3) (by omega),iF,ab2,zw,Ev]
   have evn:aL (u.take n++w++u.drop (n+(k+3)))=aL (u.take n)+gM n*aL w:=by
    rw[sk,sk,ab2,zw,Ev,ON]
   have edn:(u.take n++w++u.drop (n+(k+3))).drop n=w++u.drop (n+(k+3)):=by
    rw[rQ,yE,wK (by omega),ON];simp
   refine hn _ ⟨Nz.2 ⟨Nz.2 ⟨okt,s1⟩,okz⟩,?_,me g3 _ s3,by simpa using g4,by dsimp only;omega,by dsimp only;omega,?_,?_⟩ (by dsimp only;omega)
   ·dsimp only;rw[List.length_append,List.length_append,ON,s2,mG,g2];omega
   ·dsimp only;rw[e7,edn,sk,ab2,zw,Ev];exact s5
   ·dsimp only;rw[e7,evn,vD (by omega),l6,g8,evu,s4,jq];have k1:aL v*(gM n*(q+BB*aL (o.drop<|n+1)))=gM n*(q*aL v)+aL v*(BB*gM n*aL (o.drop<|n+1)):=by
     rw[bp,bp,iu<|aL v,Int.mul_comm (aL v) q,iu (gM n) BB,eS BB]
    rw[k1,bp];omega
  ·have hp:=bP hp;have hj:j= -1:=by omega
   subst hj;have g7:aL u<aL v:=g7;have g8:aL a*2^s=aL v*(gM 0*aL o)+aL u:=g8;rw[Dy,Int.one_mul] at g8;have hu0:0<=aL u:=(dw g1).1;have hue:aL u=2^s*(aL a-aL b*aL o):=by
    rw[lX,Int.mul_comm _<|aL a,g8,v2,Int.mul_comm<|aL b,eS];omega
   have alk:∃c:Int,BB=2^s*c:=⟨_,(qM (s:=s) (by omega)).symm⟩;have anK:u.getD 0 0%2^s=0:=by
    obtain⟨c,hc⟩:=alk;have h3:u=u.getD 0 0::u.drop 1:=ng (n:=0) (l:=u) (by omega);have h4:aL u=u.getD 0 0+BB*aL (u.drop 1):=by rw[<-l6,<-h3]
    have h5:u.getD 0 0=2^s*(aL a-aL b*aL o-c*aL (u.drop 1)):=by
     rw[lX,<-hue,<-eS,<-hc];omega
    rw[h5,Int.mul_emod_right]
   refine Yd.lp (fun t:ard Int×Int=>okW t.1/\t.1.length=a.length+1/\0<=t.2/\t.2<=(k+2:Nat)/\(∀m,t.2.toNat<=m->t.1.getD m 0=u.getD m 0)/\
     aL (t.1.take t.2.toNat)*2^s=aL (u.take t.2.toNat)+gM t.2.toNat*(u.getD t.2.toNat 0%2^s))
    (fun t:ard Int×Int=>k+2-t.2.toNat) ?_ _ _ ⟨g1,g2,by dsimp only;omega,by dsimp only;omega,fun _ _=>rfl,?_⟩ (by dsimp only;omega)
   rotate_left
   ·show aL (u.take 0)*2^s=aL (u.take 0)+gM 0*(u.getD 0 0%2^s);rw[anK];simp[aL]
   rintro aby ⟨r,i⟩ ⟨f1,f2,f3,f4,f5,f6⟩ Pm;dsimp only at f1 f2 f3 f4 f5 f6 Pm⊢;obtain⟨m,rfl⟩:=gk f3;simp only[Int.toNat_natCast,tz] at*;refine Yd.cond (fun hf=>?_)<|fun hf=>?_
   ·have hf:=bf hf;refine Yd.jn (fun z:ard Int=>okW z/\z.length=a.length+1/\(∀x,m+1<=x->z.getD x 0=u.getD x 0)/\aL (z.take<|m+1)*2^s=aL (u.take<|m+1)+gM (m+1)*(u.getD (m+1) 0%2^s)) ?_ ?_
    ·rintro z ⟨z1,z2,z3,z4⟩;refine Yd.bd (aM ⟨by omega,by omega⟩) (Pm _ ⟨z1,z2,by dsimp only;omega,by dsimp only;omega,?_⟩ (by dsimp only;omega));dsimp only;rw[toNat_succ'];exact⟨z3,z4⟩
    ·intro k69 ak3;have hx:=eX f1 m;have hx2:=eX f1<|m+1
     have FT:0<=r.getD m 0/2^s/\r.getD m 0/2^s<BB:=⟨qy hx.1<|fH ps,Int.lt_of_le_of_lt (zA _ hx.1) hx.2⟩;refine Yd.bd (bQ (by omega)) (Yd.bd (bQ (by omega)) (Yd.bd (aex (by omega)) (Yd.bd (bQ (by omega)) (Yd.bd (bQ (by omega)) ?_))));have e8:(((m:Nat):Int)+1)=((m+1:Nat):Int):=by omega
     have Fb:∀z:Int,z*2^s=r.getD m 0-r.getD m 0%2^s+BB*(r.getD (m+1) 0%2^s)->(aL (r.take m)+gM m*z)*2^s=aL (u.take<|m+1)+gM (m+1)*(u.getD (m+1) 0%2^s):=by
      intro z hz;rw[<-f5 (m+1) (by omega),bj u,<-f5 m (bC _),kD,f6,eS,hz,<-f5 m (bC _),jq,bp,lX,iu (gM m) BB,eS BB];omega
     refine Yd.fR (fun hg=>?_)<|fun hg=>?_
     ·have hg:=bf hg;refine⟨_,aM ⟨by omega,by omega⟩,Yd.cond (fun hh=>?_)<|fun hh=>?_⟩
      ·obtain⟨lo,b1,b2,b3,b4⟩:=Vn (s:=s) (x:=r.getD m 0) (y:=r.getD (m+1) 0) (by omega) l2 hx hx2;have tX:(r.set m<|r.getD m 0/2^s).length=a.length+1:=by rw[ou];exact f2
       have e9:((64:Int)-(s:Int))=((64-s:Nat):Int):=by omega
       rw[e8,e9];refine Yd.bd (bQ (by omega)) (Yd.bd (bQ (by omega)) (Yd.bd (aM ⟨by omega,by omega⟩) (Yd.bd (bQ (by omega)) (Yd.bd (bQ (by omega)) (Yd.bd (aM ⟨by omega,by omega⟩) ?_)))));rw[getD_set_ne (show m+1≠m by omega),dv (show m<r.length by omega)];refine Yd.bd b1 (Yd.bd (bQ (by omega)) (Yd.bd (bQ (by omega)) ?_));refine ak3 _ ⟨me (me f1 _ FT) _ ⟨b2,b3⟩,by simpa using f2,?_,?_⟩
       ·intro x hxm;rw[getD_set_ne (by omega),getD_set_ne (by omega)];exact f5 x (by omega)
       ·rw[bj,dr<|bC _,dv (by omega),dr<|bC _];exact Fb _ b4
      ·rw[bD hg,pq] at hh;have:=bP hh;simp only[ou] at this;omega
     ·have hg:=bP hg;have ZC:s=0:=by omega
      subst ZC;refine Yd.cond (fun hh=>?_)<|fun hh=>?_
      ·exact absurd (bf (eK hh).1) hg
      ·refine ak3 _ ⟨me f1 _ FT,by simpa using f2,?_,?_⟩
       ·intro x hxm;rw[getD_set_ne (by omega)];exact f5 x (by omega)
       ·rw[bj,dr<|bC _,dv (by omega)];refine Fb _ ?_;simp[Int.emod_one]
   ·have hf:=bP hf;have hm':m=k+2:=by omega
    subst hm';have hz:=drop_zero g1 (n:=k+2) (by omega) (by omega);have hz2:u.getD (k+2) 0=0:=MU hz g1<|bC _
    have hu:aL u=aL (u.take<|k+2):=by
     rw[o6 u (k+2) (by omega),hz];omega
    rw[hz2,Int.zero_emod,zw,Ev,<-hu,hue,Int.mul_comm] at f6;have f7:aL (r.take<|k+2)=aL a-aL b*aL o:=Int.eq_of_mul_eq_mul_left (by omega) f6;have f8:aL (r.take<|k+2)<aL b:=by
     have h3:2^s*(aL a-aL b*aL o)<2^s*aL b:=by rw[<-hue,Int.mul_comm,<-v2];exact g7
     rw[f7];exact L6 h3<|fH ps
    refine Yd.jQ (vU g3 (by omega)) fun x ⟨x1,x2,_⟩=>?_
    refine Yd.bd (jE (by omega) (by omega) (by omega)) ?_;refine Yd.jQ (vU (vS (mc f1 _) _) (by rw[mG,List.length_take];omega)) fun z ⟨z1,z2,_⟩=>?_
    have z3:aL z=aL (r.take<|k+2):=z2;obtain⟨w1,w2⟩:=wh (A:=aL a) (B:=aL b) (q:=aL o) (r:=aL<|r.take<|k+2) (by rw[f7,Int.mul_comm];omega) (dw<|mc f1 _).1 f8;exact Yd.mk ⟨⟨x1,by dsimp only;rw[x2];exact w1⟩,z1,by dsimp only;rw[z3];exact w2⟩
def RF(h:2^k<=n):k<=Nat.log2 n:=by
 have h0:n≠0:=by have:=ED k;omega
 exact(Nat.le_log2 h0).2 h
def Q9:∀n:Nat,gM n=((2^(64*n):Nat):Int)
 |0=>rfl
 |n+1=>by
  rw[jq,Q9 n,show 64*(n+1)=64+64*n from by omega,qa,tw];rfl
def qI.len(h:qI r z)(hz:tV z=true):r.2.length<1099511627776:=by
 rcases h with⟨h,_⟩|⟨h0,h1,h2,h3,h4,h5⟩
 ·rw[h];simp
 ·have hl:=uo h2 h0 h3;have hz:=gj hz;have e:(z.natAbs:Int)=aL r.2:=by
   have:=(dw h2).1;rcases h1 with e|e<;>rw[h4,e]<;>omega
  rw[Q9,<-e] at hl;have hl:2^(64*(r.2.length-1))<=z.natAbs:=by exact_mod_cast hl
  have:=RF hl;omega
def NC{n:Int}(h:CU n):uJ n=some (n.natAbs:Int):=by
 unfold CU at h;unfold uJ;by_cases h0:n<0
 ·rw[bD h0];show some (wr .u64<|wr .i64<|0-n)=_;by_cases h1:n= -9223372036854775808
  ·subst h1;rfl
  ·have e1:wr .i64 (0-n)=0-n:=wrap_i64 ⟨by omega,by omega⟩;have e2:wr .u64 (0-n)=0-n:=wrap_u64 ⟨by omega,by omega⟩;rw[e1,e2]
   congr 1;omega
 ·rw[cr h0];show some (wr .u64 n)=_;have e2:wr .u64 n=n:=wrap_u64 ⟨by omega,by omega⟩;rw[e2]
  congr 1;omega
def pZ(h:qI r z):Yd (fun p=>p.1=decide (z<0)/\Norm p.2/\aL p.2=(z.natAbs:Int)/\p.2.length<=r.2.length+1) (fM r):=by
 unfold fM;rcases h with⟨h1,h2,h3⟩|⟨h0,h1,h2,h3,h4,h5⟩
 ·rw[h1];refine Yd.cond (fun hc=>by simp at hc)<|fun _=>?_
  rw[h2];refine Yd.cond (fun hc=>?_)<|fun hc=>?_
  ·have hc:=bf hc;subst hc;exact Yd.mk ⟨rfl,Norm.nil,rfl,by simp⟩
  ·have hc:=bP hc;refine Yd.bd (NC h3) (Yd.mk ⟨rfl,⟨?_,?_⟩,by simp[aL],by simp⟩)
   ·rw[qR];unfold CU at h3;exact⟨⟨by omega,by unfold BB;omega⟩,HR⟩
   ·simp;omega
 ·have hv:=(dw h2).1;refine Yd.cond (fun _=>Yd.mk ⟨?_,⟨h2,h3⟩,?_,by dsimp only;omega⟩)<|fun hc=>?_
  ·dsimp only;rcases h1 with e|e<;>rw[h4,e]<;>simp<;>omega
  ·dsimp only;rcases h1 with e|e<;>rw[h4,e]<;>omega
  ·simp at hc;exact absurd hc h0
def yf{w:ard Int}(h:Norm w)(neg:Bool):Yd (fun r=>qI r<|bif neg then -aL w else aL w) (mC neg w):=by
 unfold mC;obtain⟨hw,hl⟩:=h
 match w,hw,hl with
 |[],_,_=>
  refine Yd.cond (fun _=>Yd.mk (.inl ⟨rfl,by cases neg<;>rfl,by cases neg<;>(unfold CU;simp[aL])⟩)) (fun hc=>by simp at hc)
 |[x],hw,hl=>
  rw[qR] at hw;obtain⟨⟨UU,hx1⟩,_⟩:=hw;have ev:aL [x]=x:=by simp[aL]
  have hx:x≠0:=fun e=>hl (by rw[e];rfl)
  have g0:bm [x] (0:Int)=some x:=rfl;rw[ev];refine Yd.cond (fun hc=>by simp at hc)<|fun _=>?_
  refine Yd.fR (fun _=>⟨x,g0,?_⟩) (fun hc=>by simp[gd] at hc);refine Yd.cond (fun hc=>?_)<|fun hc=>?_
  ·obtain⟨hc,Au⟩:=eK hc;obtain⟨_,hc⟩:=eK hc;have hc:=bf hc;subst Au;have e1:wr .i64 x=x:=wrap_i64 ⟨by omega,by omega⟩;exact Yd.bd g0 (Yd.bd (aM (by rw[e1];exact⟨by omega,by omega⟩)) (Yd.mk (.inl ⟨rfl,by rw[e1];rfl,by unfold CU;simp only[fT];omega⟩)))
  ·refine Yd.fR (fun _=>⟨x,g0,?_⟩) (fun hc=>by simp[gd] at hc);refine Yd.cond (fun hd=>?_)<|fun hd=>?_
   ·obtain⟨_,hd'⟩:=eK hd;have asr:=bf hd';rw[hd] at hc;have Au:neg=false:=by simpa using hc
    subst Au;have e1:wr .i64 x=x:=wrap_i64 ⟨by omega,by omega⟩;exact Yd.bd g0 (Yd.mk (.inl ⟨rfl,by rw[e1];rfl,by unfold CU;simp only[fU];omega⟩))
   ·have IL:9223372036854775807<x:=by
     have:decide (([x].length:Int)=(1:Int))=true:=rfl;rw[this,pq] at hd;have:=bP hd;omega
    have gq:okW [x]:=by rw[qR];exact⟨⟨UU,hx1⟩,HR⟩
    refine Yd.cond (fun hn=>?_)<|fun hn=>?_
    ·subst hn;exact Yd.gC rfl (Yd.mk (.inr ⟨by simp,.inr rfl,gq,hl,by rw[ev];simp,by rw[ev];exact IL⟩))
    ·subst hn;exact Yd.gC rfl (Yd.mk (.inr ⟨by simp,.inl rfl,gq,hl,by rw[ev];simp,by rw[ev];exact IL⟩))
 |x::y::l,hw,hl=>
  have IL:9223372036854775807<aL (x::y::l):=by
   have h1:=uo hw (by simp) hl;have h2:gM 1<=gM ((x::y::l).length-1):=HJ (by simp);have h3:gM 1=BB:=rfl;unfold BB at h3;omega
  have V6:decide (((x::y::l).length:Int)=(1:Int))=false:=cr (by simp;omega);refine Yd.cond (fun hc=>by have:=bf hc;simp at this;omega)<|fun _=>?_
  refine Yd.fR (fun hc=>by simp only[gd] at hc;rw[V6] at hc;cases hc)<|fun _=>?_
  refine Yd.cond (fun hc=>by rw[V6] at hc;simp at hc)<|fun _=>?_
  refine Yd.fR (fun hc=>by simp only[gd] at hc;rw[V6] at hc;cases hc)<|fun _=>?_
  refine Yd.cond (fun hc=>by rw[V6] at hc;simp at hc)<|fun _=>?_
  refine Yd.cond (fun hn=>?_)<|fun hn=>?_
  ·subst hn;exact Yd.gC rfl (Yd.mk (.inr ⟨by simp,.inr rfl,hw,hl,by simp,IL⟩))
  ·subst hn;exact Yd.gC rfl (Yd.mk (.inr ⟨by simp,.inl rfl,hw,hl,by simp,IL⟩))
def AY(h:qI r z):js r=some z.sign:=by
 unfold js
 congr 1
 unfold mx_ mn_;rcases h with⟨h1,h2,h3⟩|⟨h0,h1,h2,h3,h4,h5⟩
 ·rw[h2];rcases uN z 0 with h|h|h
  ·rw[bD (show z<1 by omega),tD h];by_cases e:z= -1
   ·subst e;rfl
   ·rw[fT,cr (show¬(-1:Int)<z by omega)];rfl
  ·subst h;rfl
  ·rw[rR h];by_cases e:z=1
   ·subst e;rfl
   ·rw[cr (show¬z<1 by omega)];rfl
 ·have hp:0<aL r.2:=by omega
  rcases h1 with e|e
  ·rw[h4,e,Int.one_mul,rR hp];rfl
  ·rw[h4,e,tD (by omega)];rfl
def zh(h:qI r z):Yd (fun q=>qI q<| -z) (iE r):=by
 unfold iE;refine Yd.cond (fun hc=>?_)<|fun hc=>?_
 ·obtain⟨h1,h2⟩:=eK hc;rw[gY,kE] at h2;rcases h with⟨g1,g2,g3⟩|⟨h0,_⟩
  ·unfold CU at g3;exact Yd.bd (aM ⟨by omega,by omega⟩) (Yd.mk (.inl ⟨rfl,by dsimp only;omega,by unfold CU;omega⟩))
  ·rw[B1] at h1;exact absurd h1 h0
 ·refine Yd.jQ (pZ h) fun p ⟨p1,p2,p3,_⟩=>Yd.jQ (yf p2<| !p.1) fun q hq=>Yd.mk ?_
  rw[p1,p3] at hq;by_cases hz:z<0
  ·rw[bD hz] at hq;have:(z.natAbs:Int)= -z:=by omega
   simpa[this] using hq
  ·rw[cr hz] at hq;have: -(z.natAbs:Int)= -z:=by omega
   simp only[LM,fT] at hq;rwa [this] at hq
def Rx(h:qI r z):Yd (fun q=>qI q (z.natAbs:Int)) (ra r):=by
 unfold ra;have hs:r.1<0↔z<0:=by
  rcases h with⟨g1,g2,g3⟩|⟨h0,h1,h2,h3,h4,h5⟩
  ·rw[g2]
  ·rcases h1 with e|e<;>rw[h4,e]<;>omega
 refine Yd.cond (fun hc=>?_)<|fun hc=>?_
 ·have hc:=hs.1 (bf hc);refine Yd.jQ (zh h) fun q hq=>Yd.mk ?_
  rwa [show((z.natAbs:Nat):Int)= -z by omega]
 ·have hc:=bP hc;have: ¬z<0:=fun h=>hc<|hs.2 h
  refine Yd.mk ?_;rwa [show((z.natAbs:Nat):Int)=z by omega]
def LC(hr:qI r x)(hs:qI s y)(hlr:r.2.length<2199023255552)(hls:s.2.length<2199023255552):Yd (fun q=>qI q<|x+y) (mE r s):=by
 unfold mE;refine Yd.jn (fun _=>True) (fun _ _=>?_)<|fun k hk=>Yd.cond (fun hc=>?_)<|fun _=>hk _ trivial
 ·refine Yd.jQ (pZ hr) fun p ⟨p1,p2,p3,p4⟩=>Yd.jQ (pZ hs) fun q ⟨q1,q2,q3,q4⟩=>?_
  refine Yd.cond (fun hc=>?_)<|fun hc=>?_
  ·refine Yd.jQ (Rv p2.1 q2.1 (by omega) (by omega)) fun w ⟨w1,w2⟩=>Yd.jQ (yf w1 p.1) fun z hz=>Yd.mk ?_
   rw[w2,p3,q3,p1] at hz;rw[p1,q1,xw] at hc;by_cases h1:x<0
   ·have h2:y<0:=by simpa[h1] using hc.symm
    rw[bD h1] at hz;simp only[fT] at hz;rwa [show -((x.natAbs:Int)+(y.natAbs:Int))=x+y by omega] at hz
   ·have h2: ¬y<0:=by simpa[h1] using hc.symm
    rw[cr h1] at hz;simp only[fU] at hz;rwa [show((x.natAbs:Int)+(y.natAbs:Int))=x+y by omega] at hz
  ·have hne: ¬(x<0↔y<0):=by
    intro h;rw[p1,q1] at hc;simp[h] at hc
   refine Yd.jQ (AX p2 q2 (by omega) (by omega)) fun c hcmp=>Yd.cond (fun hd=>?_)<|fun hd=>?_
   ·have hd:=bf hd;have hle:aL q.2<=aL p.2:=by omega
    have hlen:q.2.length<=p.2.length:=by
     rcases jI p.2.length q.2.length with h|h
     ·have:=xP p2.1 q2 h;omega
     ·exact h
    refine Yd.jQ (HW p2.1 q2.1 hlen (by omega) hle) fun w ⟨w1,w2⟩=>Yd.jQ (yf w1 p.1) fun z hz=>Yd.mk ?_
    rw[w2,p3,q3,p1] at hz;by_cases h1:x<0
    ·have h2: ¬y<0:=fun h=>hne ⟨fun _=>h,fun _=>h1⟩
     rw[bD h1] at hz;simp only[fT] at hz;rwa [show -((x.natAbs:Int)-(y.natAbs:Int))=x+y by omega] at hz
    ·have h2:y<0:=nF fun h=>hne ⟨fun k=>absurd k h1,fun k=>absurd k h⟩
     rw[cr h1] at hz;simp only[fU] at hz;rwa [show((x.natAbs:Int)-(y.natAbs:Int))=x+y by omega] at hz
   ·have hd:=bP hd;have hle:aL p.2<=aL q.2:=by omega
    have hlen:p.2.length<=q.2.length:=by
     rcases jI q.2.length p.2.length with h|h
     ·have:=xP q2.1 p2 h;omega
     ·exact h
    refine Yd.jQ (HW q2.1 p2.1 hlen (by omega) hle) fun w ⟨w1,w2⟩=>Yd.jQ (yf w1 q.1) fun z hz=>Yd.mk ?_
    rw[w2,p3,q3,q1] at hz;by_cases h1:y<0
    ·have h2: ¬x<0:=fun h=>hne ⟨fun _=>h1,fun _=>h⟩
     rw[bD h1] at hz;simp only[fT] at hz;rwa [show -((y.natAbs:Int)-(x.natAbs:Int))=x+y by omega] at hz
    ·have h2:x<0:=nF fun h=>hne ⟨fun k=>absurd k h,fun k=>absurd k h1⟩
     rw[cr h1] at hz;simp only[fU] at hz;rwa [show((y.natAbs:Int)-(x.natAbs:Int))=x+y by omega] at hz
 ·obtain⟨h1,h2⟩:=eK hc;rw[B1] at h1 h2;rcases hr with⟨_,e1,i1⟩|⟨h0,_⟩
  ·rcases hs with⟨_,e2,i2⟩|⟨h0,_⟩
   ·rw[e1,e2];unfold CU at i1 i2;refine Yd.cond (fun hd=>Yd.mk<| .inl ⟨rfl,?_,?_⟩)<|fun _=>hk _ trivial
    all_goals
     by_cases afz: -9223372036854775808<=x+y/\x+y<=9223372036854775807
     ·first
      |exact wrap_i64 afz
      |exact afz
     ·exfalso;rw[xw] at hd;rcases Int.lt_or_lt_of_ne (show x+y≠0 by omega) with hlt|hgt
      ·have e3:wr .i64 (x+y)=x+y+18446744073709551616:=by
        have:wr .i64 (x+y)=wr .i64 (x+y+18446744073709551616):=by
         unfold wr IntKind.wrap;simp[IntKind.bits,IntKind.signed]
        rw[this];exact wrap_i64 ⟨by omega,by omega⟩
       rw[e3] at hd;have a1:x<x+y+18446744073709551616:=by omega
       have a2: ¬0<y:=by omega
       simp[a1,a2] at hd
      ·have e3:wr .i64 (x+y)=x+y-18446744073709551616:=by
        have:wr .i64 (x+y)=wr .i64 (x+y-18446744073709551616):=by
         unfold wr IntKind.wrap;simp[IntKind.bits,IntKind.signed]
        rw[this];exact wrap_i64 ⟨by omega,by omega⟩
       rw[e3] at hd;have a1: ¬x<x+y-18446744073709551616:=by omega
       have a2:0<y:=by omega
       simp[a1,a2] at hd
   ·exact absurd h2 h0
  ·exact absurd h1 h0
def QV(z:Int):tV (-z)=tV z:=by unfold tV;rw[EB]
def Ji(h:x.natAbs<=y.natAbs)(hy:tV y=true):tV x=true:=by
 unfold tV at*;refine nE ?_;have:=gj hy;by_cases h0:x.natAbs=0
 ·rw[h0];decide
 ·have h1:Nat.log2 x.natAbs<=Nat.log2 y.natAbs:=(Nat.le_log2 (by omega)).2 (fc ((Nat.le_log2 h0).1<|bC _) h);omega
def Xn(hr:qI r x)(hs:qI s y)(hx:tV x=true)(hy:tV y=true):Yd (fun q=>qI q<|x-y) (qX r s):=by
 unfold qX;refine Yd.jQ (zh hs) fun n hn=>Yd.jQ (LC hr hn (by have:=hr.len hx;omega) (by have:=hn.len (by rw[QV];exact hy);omega)) fun q hq=>Yd.mk ?_
 rwa [Int.sub_eq_add_neg]
def Xo(hr:qI r x)(hs:qI s y)(hx:tV x=true)(hy:tV y=true):Yd (fun q=>qI q<|x*y) (mD r s):=by
 have sgn:∀(b:Bool),b=(!(decide (x<0)==decide (y<0)))->(bif b then -((x.natAbs:Int)*(y.natAbs:Int)) else(x.natAbs:Int)*(y.natAbs:Int))=x*y:=by
  intro b hb;subst hb;rcases Int.lt_or_le x 0 with h1|h1<;>rcases Int.lt_or_le y 0 with h2|h2
  ·rw[bD h1,bD h2];show((x.natAbs:Int)*(y.natAbs:Int))=_;rw[show(x.natAbs:Int)= -x by omega,show(y.natAbs:Int)= -y by omega,Int.neg_mul_neg]
  ·rw[bD h1,cr (show¬y<0 by omega)];show -((x.natAbs:Int)*(y.natAbs:Int))=_;rw[show(x.natAbs:Int)= -x by omega,show(y.natAbs:Int)=y by omega,Int.neg_mul,Int.neg_neg]
  ·rw[cr (show¬x<0 by omega),bD h2];show -((x.natAbs:Int)*(y.natAbs:Int))=_;rw[show(x.natAbs:Int)=x by omega,show(y.natAbs:Int)= -y by omega,Int.mul_neg,Int.neg_neg]
  ·rw[cr (show¬x<0 by omega),cr (show¬y<0 by omega)];show((x.natAbs:Int)*(y.natAbs:Int))=_;rw[show(x.natAbs:Int)=x by omega,show(y.natAbs:Int)=y by omega]
 unfold mD;refine Yd.jn (fun _=>True) (fun _ _=>?_)<|fun k hk=>Yd.cond (fun hc=>?_)<|fun _=>hk _ trivial
 ·refine Yd.jQ (pZ hr) fun p ⟨p1,p2,p3,p4⟩=>Yd.jQ (pZ hs) fun q ⟨q1,q2,q3,q4⟩=>?_
  have l1:=hr.len hx;have l2:=hs.len hy;refine Yd.jQ (Ru p2.1 q2.1 (by omega) (by omega)) fun w ⟨w1,w2⟩=>Yd.jQ (yf w1<| !(p.1==q.1)) fun z hz=>Yd.mk ?_
  rw[w2,p3,q3,sgn _ (by rw[p1,q1])] at hz;exact hz
 ·obtain⟨h1,h2⟩:=eK hc;rw[B1] at h1 h2;rcases hr with⟨_,e1,i1⟩|⟨h0,_⟩
  ·rcases hs with⟨_,e2,i2⟩|⟨h0,_⟩
   ·rw[e1,e2];unfold CU at i1 i2;have bx:(0:Int)<=(x.natAbs:Int)/\(x.natAbs:Int)<BB:=⟨by omega,by unfold BB;omega⟩;have by':(0:Int)<=(y.natAbs:Int)/\(y.natAbs:Int)<BB:=⟨by omega,by unfold BB;omega⟩;obtain⟨hi,lo,m1,m2,m3,m4,m5,m6⟩:=LD bx by';refine Yd.bd (NC i1)<|Yd.bd (NC i2)<|Yd.bd m1<|Yd.cond (fun hd=>?_)<|fun _=>hk _ trivial
    obtain⟨d1,d2⟩:=eK hd;have d1:=bf d1;have d2:=bf d2;have e3:wr .i64 lo=lo:=wrap_i64 ⟨by omega,by omega⟩;have d1:hi=0:=d1;have hp:(x.natAbs:Int)*(y.natAbs:Int)=lo:=by rw[m6,d1];omega
    have s2:=sgn _ rfl;rw[hp] at s2;refine Yd.cond (fun hn=>?_)<|fun hn=>?_
    ·rw[hn] at s2;simp only[fT] at s2;rw[e3];exact Yd.bd (aM ⟨by omega,by omega⟩) (Yd.mk (.inl ⟨rfl,s2,by unfold CU;omega⟩))
    ·rw[hn] at s2;simp only[fU] at s2;rw[e3];exact Yd.mk (.inl ⟨rfl,s2,by unfold CU;omega⟩)
   ·exact absurd h2 h0
  ·exact absurd h1 h0
def ae4(hr:qI r x)(hs:qI s y)(hx:tV x=true)(hy:tV y=true):vr r s=some (UB x y):=by
 have key:Yd (fun q=>q=UB x y) (vr r s):=by
  unfold vr;refine Yd.cond (fun hc=>?_)<|fun _=>Yd.jQ (Xn hr hs hx hy) fun q hq=>Yd.bd (AY hq)<|Yd.mk ?_
  ·obtain⟨h1,h2⟩:=eK hc;rw[B1] at h1 h2;rcases hr with⟨_,e1,i1⟩|⟨h0,_⟩
   ·rcases hs with⟨_,e2,i2⟩|⟨h0,_⟩
    ·rw[e1,e2];unfold UB;refine Yd.cond (fun h=>Yd.mk (by rw[h];rfl)) (fun h=>Yd.cond (fun k=>Yd.mk (by rw[h,k];rfl)) (fun k=>Yd.mk (by rw[h,k];rfl)))
    ·exact absurd h2 h0
   ·exact absurd h1 h0
  ·unfold UB;rcases uN x y with h|h|h
   ·rw[bD h,tD (by omega)];rfl
   ·subst h;rw[cr<|Int.lt_irrefl _,Int.sub_self];rfl
   ·rw[cr (by omega),bD h,rR (by omega)];rfl
 obtain⟨q,e,rfl⟩:=key;exact e
def Zj(h:qI r z)(hz:z≠ -9223372036854775808):ru r=some (bif A6 z then(z,true) else(z.sign,false)):=by
 unfold ru
 congr 1
 rcases h with⟨h1,h2,h3⟩|⟨h0,h1,h2,h3,h4,h5⟩
 ·unfold CU at h3;have:A6 z=true:=by unfold A6;rw[bD h3.1,bD h3.2];rfl
  rw[this,h1,h2];rfl
 ·have:A6 z=false:=by
   unfold A6;rcases h1 with e|e
   ·rw[e,Int.one_mul] at h4;rw[cr (show¬z<=9223372036854775807 by omega)];simp
   ·rw[e] at h4;rw[cr (show¬ -9223372036854775808<=z by omega)];rfl
  rw[this];have hs:r.1=z.sign:=by
   rcases h1 with e|e
   ·rw[h4,e,Int.one_mul,rR (by omega)]
   ·rw[h4,e,tD (by omega)]
  have he:r.2.isEmpty=false:=by cases hr:r.2 with
   |nil=>exact absurd hr h0
   |cons _ _=>rfl
  rw[hs,he];rfl
def Lx{q r:Int}(h0:0<y)(h:r+y*q=x)(h1:0<=r)(h2:r<y):q=x/y/\r=x%y:=by
 obtain⟨h3,h4⟩:=(Int.ediv_emod_unique h0).2 ⟨h,h1,h2⟩;exact⟨h3.symm,h4.symm⟩
def Og(h0:0<y):(0<=x->0<=x/y/\x/y<=x)/\(x<0->x<=x/y/\x/y<0):=by
 constructor
 ·intro h;exact⟨qy h (by omega),zA y h⟩
 ·intro h;refine⟨(Int.le_ediv_iff_mul_le h0).2 ?_,Int.ediv_neg_of_neg_of_pos h h0⟩;have:x*y<=x*1:=Int.mul_le_mul_of_nonpos_left (by omega) (by omega);omega
def NF(hr:qI r x)(hs:qI s y)(hx:tV x=true)(hy:tV y=true)(h0:0<y):Yd (fun q=>qI q.1 (x/y)/\qI q.2 (x%y)) (mX r s):=by
 unfold mX;have hm0:=rP x (show y≠0 by omega);have ZG:=qA x h0;have hdm:=yH x y;refine Yd.cond (fun hc=>?_)<|fun hc=>?_
 ·obtain⟨hc,h3⟩:=eK hc;obtain⟨h1,h2⟩:=eK hc;rw[B1] at h1 h2;rw[gY,kE] at h3;rcases hr with⟨_,e1,i1⟩|⟨h0,_⟩
  ·rcases hs with⟨_,e2,i2⟩|⟨h0,_⟩
   ·rw[e1] at h3;rw[e1,e2];unfold CU at i1 i2;have t1:=Int.tmod_add_mul_tdiv x y;have hsm:=Og (x:=x) h0;have q1:uV x y=some (x.tdiv y):=by
     unfold uV;rw[cr (by omega)];refine aM ?_;have a1:=Int.natAbs_tdiv_le_natAbs x y;exact⟨by omega,by omega⟩
    have q2:sH x y=some (x.tmod y):=by
     unfold sH;rw[cr (by omega)];rfl
    have b2:(0<=x->0<=x.tmod y/\x.tmod y<y)/\(x<0-> -y<x.tmod y/\x.tmod y<=0):=by
     refine⟨fun h=>⟨Int.tmod_nonneg y h,Int.tmod_lt_of_pos x h0⟩,fun h=>?_⟩;have h5:=Int.tmod_lt_of_pos (-x) h0;have h6:=Int.tmod_nonneg y (show 0<= -x by omega);rw[Int.neg_tmod] at h5 h6;omega
    refine Yd.bd q1<|Yd.bd q2<|Yd.jn (fun s=>s.1=x/y/\s.2=x%y) (fun s ⟨s1,s2⟩=>Yd.mk ⟨.inl ⟨rfl,s1,?_⟩,.inl ⟨rfl,s2,?_⟩⟩)<|fun k hk=>Yd.cond (fun hd=>?_)<|fun hd=>?_
    ·unfold CU;omega
    ·unfold CU;omega
    ·have hd:=bf hd;obtain⟨e3,e4⟩:=Lx (x:=x) (q:=x.tdiv y-1) (r:=x.tmod y+y) h0 (by rw[lX,po];omega) (by omega) (by omega);refine Yd.bd (aM ⟨by omega,by omega⟩) (Yd.bd (aM ⟨by omega,by omega⟩)<|hk _ ⟨e3,e4⟩)
    ·have hd:=bP hd;obtain⟨e3,e4⟩:=Lx (x:=x) (q:=x.tdiv y) (r:=x.tmod y) h0 t1 (by omega) (by omega);exact hk _ ⟨e3,e4⟩
   ·exact absurd h2 h0
  ·exact absurd h1 h0
 ·have l1:=hr.len hx;have l2:=hs.len hy;refine Yd.jQ (pZ hr) fun p ⟨p1,p2,p3,p4⟩=>Yd.jQ (pZ hs) fun q ⟨q1,q2,q3,q4⟩=>?_
  have ZD:q.2≠[]:=fun e=>by rw[e] at q3;simp[aL] at q3;omega
  refine Yd.jQ (ND p2 q2 ZD (by omega) (by omega)) fun d ⟨⟨d1,d2⟩,d3,d4⟩=>Yd.jQ (yf d1 p.1) fun Q hQ=>Yd.jQ (yf d3 p.1) fun R hR=>?_
  rw[d2,p3,q3,p1] at hQ;rw[d4,p3,q3,p1] at hR;have ey:(y.natAbs:Int)=y:=by omega
  rw[ey] at hQ hR;have am0:=rP (x.natAbs:Int) (show y≠0 by omega);have am1:=qA (x.natAbs:Int) h0;have adm:=yH (x.natAbs:Int) y;refine Yd.bd (AY hR)<|Yd.jn (fun s=>qI s.1 (x/y)/\qI s.2 (x%y)) (fun s hs=>Yd.mk hs)<|fun k hk=>Yd.cond (fun hd=>?_)<|fun hd=>?_
  ·have hd:=bf hd;have Au:(bif decide (x<0) then -((x.natAbs:Int)%y) else(x.natAbs:Int)%y)<0:=by
    rcases uN (bif decide (x<0) then -((x.natAbs:Int)%y) else(x.natAbs:Int)%y) 0 with h|h|h
    ·exact h
    ·rw[h] at hd;exact absurd hd (by decide)
    ·rw[rR h] at hd;omega
   by_cases UU:x<0
   ·rw[bD UU] at hQ hR Au;simp only[fT] at hQ hR Au;have hab:(x.natAbs:Int)= -x:=by omega
    rw[hab] at hQ hR Au am0 am1 adm;obtain⟨e3,e4⟩:=Lx (x:=x) (q:= -(-x/y)-1) (r:= -(-x%y)+y) h0 (by rw[lX,po,Int.mul_neg];omega) (by omega) (by omega);have hof:pn 1=some (1,[]):=rfl;have h1r:qI (1,[]) 1:= .inl ⟨rfl,rfl,by unfold CU;omega⟩;have anP:tV (-(-x/y))=true:=by
     refine Ji ?_ hx;have:=(Og (x:= -x) h0).1 (by omega);omega
    have anO:tV (-(-x%y))=true:=by
     refine Ji ?_ hy;omega
    refine Yd.bd hof (Yd.jQ (Xn hQ h1r anP rfl) fun a ha=>Yd.jQ (LC hR hs (by have:=hR.len anO;omega) (by omega)) fun b hb=>hk _ ⟨?_,?_⟩)
    ·rwa [e3] at ha
    ·rwa [e4] at hb
   ·rw[cr UU] at Au;simp only[fU] at Au;omega
  ·have hd:=bP hd;refine hk _ ?_;by_cases UU:x<0
   ·rw[bD UU] at hQ hR hd;simp only[fT] at hQ hR hd;have hab:(x.natAbs:Int)= -x:=by omega
    rw[hab] at hQ hR hd am0 am1 adm;have hz: -x%y=0:=by
     rcases uN (-x%y) 0 with h|h|h
     ·omega
     ·exact h
     ·rw[tD (by omega)] at hd;omega
    obtain⟨e3,e4⟩:=Lx (x:=x) (q:= -(-x/y)) (r:= -(-x%y)) h0 (by rw[Int.mul_neg];omega) (by omega) (by omega);rw[e3] at hQ;rw[e4] at hR;exact⟨hQ,hR⟩
   ·rw[cr UU] at hQ hR;simp only[fU] at hQ hR;have hab:(x.natAbs:Int)=x:=by omega
    rw[hab] at hQ hR;exact⟨hQ,hR⟩
def Rw(hr:qI r x)(hs:qI s y)(hx:tV x=true)(hy:tV y=true)(h0:y≠0):Yd (fun q=>qI q<|x.fdiv y) (qY r s):=by
 unfold qY;refine Yd.bd (AY hs)<|Yd.jn (fun t=>∃a b:Int,qI t.1 a/\qI t.2 b/\tV a=true/\tV b=true/\0<b/\a/b=x.fdiv y) ?_<|fun k hk=>Yd.cond (fun hd=>?_)<|fun hd=>?_
 ·rintro t ⟨a,b,h1,h2,h3,h4,h5,h6⟩;refine Yd.jQ (NF h1 h2 h3 h4 h5) fun q ⟨hq,_⟩=>Yd.mk ?_
  rwa [h6] at hq
 ·have hd:=bf hd;have hn:y<0:=by
   rcases uN y 0 with h|h|h
   ·exact h
   ·exact absurd h h0
   ·rw[rR h] at hd;omega
  refine Yd.jQ (zh hr) fun a ha=>Yd.jQ (zh hs) fun b hb=>hk _ ⟨-x,-y,ha,hb,by rw[QV];exact hx,by rw[QV];exact hy,by omega,?_⟩
  rw[<-ID _ (show 0<= -y by omega),Int.neg_fdiv_neg]
 ·have hd:=bP hd;have hn:0<y:=by
   rcases uN y 0 with h|h|h
   ·rw[tD h] at hd;omega
   ·exact absurd h h0
   ·exact h
  exact hk _ ⟨x,y,hr,hs,hx,hy,hn,(ID _ (by omega)).symm⟩
def aeI(r:Int×ard Int):Int:=if r.2=[] then r.1 else r.1*aL r.2
def qI.val(h:qI r z):aeI r=z:=by
 unfold aeI;rcases h with⟨h1,h2,_⟩|⟨h0,_,_,_,h4,_⟩
 ·rw[if_pos h1,h2]
 ·rw[if_neg h0,h4]
def muG(a b:Nat):Nat:=if b=0 then 0 else Nat.log2 (a*b)+1+(if a<b then 1 else 0)
def Xy{m:Nat}(h:m<=n):Nat.log2 m<=Nat.log2 n:=by
 by_cases h0:m=0
 ·subst h0;simp
 ·exact RF<|fc ((Nat.le_log2 h0).1<|bC _) h
def NH{a b:Nat}(hb:b≠0):muG b (a%b)<muG a b:=by
 have hlt:=tF a (show b>0 by omega);unfold muG;rw[if_neg hb];by_cases h0:a%b=0
 ·rw[if_pos h0];omega
 ·rw[if_neg h0,if_neg (show¬b<a%b by omega)];by_cases hab:a<b
  ·rw[if_pos hab,zC hab,oI];omega
  ·rw[if_neg hab];have h1:2*(a%b)<=a:=by
    have:=Nat.mod_add_div a b;have h2:1<=a/b:=(Nat.one_le_div_iff (by omega)).2 (by omega);have h3:b*1<=b*(a/b):=EG _ h2;omega
   have h2:2*(b*(a%b))<=a*b:=by
    have:=EG b h1;rw[Nat.mul_left_comm,oI b a] at this;exact this
   have h3:b*(a%b)≠0:=Nat.mul_ne_zero hb h0;have h4:=Xy h2;have h5:Nat.log2 (2*(b*(a%b)))=Nat.log2 (b*(a%b))+1:=by
    rw[Nat.log2_two_mul h3]
   omega
def VG{a b:Nat}(ha:Nat.log2 a<1099511627776)(hb:Nat.log2 b<1099511627776):muG a b<18446744073709551616:=by
 unfold muG;have h1:a<2^(Nat.log2 a+1):=Nat.lt_log2_self;have h2:b<2^(Nat.log2 b+1):=Nat.lt_log2_self;have h3:Nat.log2 (a*b)<Nat.log2 a+1+(Nat.log2 b+1):=by
  by_cases h0:a*b=0
  ·rw[h0];simp;omega
  ·rw[xx h0,qa];exact Nat.mul_lt_mul'' h1 h2
 split
 ·omega
 ·split<;>omega
def Xp(hr:qI r x)(hs:qI s y)(hx:tV x=true)(hy:tV y=true):Yd (fun q=>qI q (Int.gcd x y:Int)) (Et r s):=by
 unfold Et;refine Yd.jQ (Rx hr) fun a ha=>Yd.jQ (Rx hs) fun b hb=>?_
 have hx':=gj hx;have hy':=gj hy;refine Yd.lp (fun t:(Int×ard Int)×(Int×ard Int)=>∃a b:Nat,qI t.1 (a:Int)/\qI t.2 (b:Int)/\Nat.gcd a b=Int.gcd x y/\tV a=true/\tV b=true) (fun t:(Int×ard Int)×(Int×ard Int)=>muG (aeI t.1).natAbs (aeI t.2).natAbs) ?_ _ _ ⟨x.natAbs,y.natAbs,ha,hb,rfl,by simpa[tV] using hx,by simpa[tV] using hy⟩ ?_
 ·rintro next ⟨p,q⟩ ⟨a,b,h1,h2,h3,h4,h5⟩ hn
  simp only at h1 h2 hn⊢;refine Yd.bd (AY h2)<|Yd.cond (fun hc=>?_)<|fun hc=>?_
  ·have hb0:b≠0:=fun e=>by subst e;simp at hc
   refine Yd.jQ (NF h1 h2 h4 h5 (by omega)) fun d ⟨_,hd⟩=>?_
   have hd':qI d.2 ((a%b:Nat):Int):=by rw[Int.natCast_emod];exact hd
   have hlt:=tF a (show b>0 by omega);refine hn _ ⟨b,a%b,h2,hd',?_,h5,Ji (by omega) h5⟩ ?_
   ·rw[<-h3,Ew b<|a%b,<-Nat.gcd_rec,Ew]
   ·dsimp only;rw[h2.val,hd'.val,h1.val];exact NH hb0
  ·have hb0:b=0:=by
    rw[LW,jJ] at hc;have:=Int.sign_eq_zero_iff_zero.1 hc;omega
   subst hb0;refine Yd.mk ?_;rw[Nat.gcd_zero_right] at h3;rw[<-h3];exact h1
 ·dsimp only;rw[ha.val,hb.val];exact VG (by show Nat.log2 x.natAbs<_;omega) (by show Nat.log2 y.natAbs<_;omega)
end
section
open Go.Shelf
variable[D:DR]
variable{x:Int}{l:adx}{H:HV}{c y:Int}{r:Int×Int}
def Nh{s:adx}{r:adx×Int×Unit}(hm:yC l s=some r):fF prog 85 [] (.GO 156 5<|lB l) (.GO 156 5<|lB r.1) [TS s] [TI .i64 r.2.1,ajB r.2.2]:=
 aaa (ρ:=zD) {Mb with} oK (by kernel_rfl) hm
def ahm{r:adx×Int}(hm:VK l=some r):fF prog 87 [] (.GO 156 5<|lB l) (.GO 156 5<|lB r.1) [] [TI .i64 r.2]:=
 adp XA (by kernel_rfl) hm
def PR{r:adx}(hm:xI l=some r):fF prog 88 [] (.GO 156 5<|lB l) .gone [] [TS r]:=
 WC (ρ:=zD) {Mb with} oK (by kernel_rfl) hm
def index_one(c:UInt8):∀s:adx,Lib.index s [c]= -1\/0<=Lib.index s [c]
 |[]=> .inl rfl
 |b::l=>by
  have:=Lib.index_ge (b::l) [c];omega
def ac6(c b:UInt8)(l:adx):Lib.cut (b::l) [c]=if c==b then([],l,true) else(b::(Lib.cut l [c]).1,(Lib.cut l [c]).2.1,(Lib.cut l [c]).2.2):=by
 have e:Lib.index (b::l) [c]=if c==b then 0 else if Lib.index l [c]== -1 then -1 else Lib.index l [c]+1:=by
  simp[Lib.index,List.isPrefixOf]
 unfold Lib.cut;rw[e];by_cases h:(c==b)=true
 ·simp[h]
 ·simp only[Bool.not_eq_true] at h;simp only[h];rcases index_one c l with h1|h1
  ·simp[h1]
  ·have h2: ¬Lib.index l [c]= -1:=by omega
   have h3:(0:Int)<=Lib.index l [c]+1:=by omega
   have h4:(Lib.index l [c]+1).toNat=(Lib.index l [c]).toNat+1:=by omega
   simp[h1,h2,h3,h4]
def IV(c:UInt8):∀(s pre:adx),cutAt c pre s=(pre.reverse++(Lib.cut s [c]).1,(Lib.cut s [c]).2.1,(Lib.cut s [c]).2.2)
 |[],pre=>by
  have:Lib.cut [] [c]=([],[],false):=by unfold Lib.cut;simp[Lib.index]
  simp[cutAt,this]
 |b::l,pre=>by
  rw[ac6];unfold cutAt;by_cases h:(c==b)=true
  ·have h':(b==c)=true:=by rw[xw] at h⊢;exact h.symm
   simp[h,h']
  ·have h':(b==c)=false:=by
    cases e:(b==c) with
    |false=>rfl
    |true=>exact absurd (by rw[xw] at e⊢;exact e.symm) h
   simp only[Bool.not_eq_true] at h;simp[h,h',IV c l (b::pre)]
def al3{w:apT}(sub:∀r o,H r=some o->w.heap[r]? =some o)(gl:pI prog H):∃m,w.cell? ⟨0,0,none⟩=some (.int .i64 m):=by
 have hT:(prog.globals[0]?).map (·.type)=some 3:=by kernel_rfl
 have:=gl 0 3 hT;have hu:prog.underlying 3=some (.int .i64):=by kernel_rfl
 unfold Ea at this;rw[hu] at this;obtain⟨m,E,fr,e⟩:=this;exact⟨m,by simp[World.cell?,sub _ _ e]⟩
def agj{x y:adx}{r:adx×adx×Bool}(hm:Xw x y=some r):al prog 152 [TS x,TS y] (.vs [TS r.1,TS r.2.1,aY r.2.2]):=by
 match y,hm with
 |[c],hm=>
  obtain⟨hb,rfl⟩:=iL hm;have hb:x.length<4294967281:=gj hb;refine qc (by kernel_rfl) fun w H vs sub gl ha=>?_
  obtain⟨u,v,rfl,hu,hv⟩:=BE ha;have hu:u= .string ⟨x.toArray⟩:=hu;have hv:v= .string ⟨#[c]⟩:=hv;subst hu;subst hv;obtain⟨m,hm⟩:=al3 sub gl;refine(strings_Cut ⟨x.toArray⟩ ⟨#[c]⟩ m w (by simpa[ByteArray.size] using hb) hm).mono ?_;rintro e w' ⟨rfl,n,rfl⟩;refine⟨_,rfl,⟨⟨rfl,rfl,rfl,bC _,fun _ _=>rfl⟩,GN.of<|B2 _ _⟩,_,rfl,_,_,rfl,?_,_,_,rfl,?_,_,_,rfl,?_,rfl⟩
  ·rw[IV];rfl
  ·rw[IV];rfl
  ·rw[IV];rfl
def TB{H:HV}:∀{l:ard adx} {cs:ard apU},uD H (lT TS l) cs->cs=l.map fun x=>Value.string ⟨x.toArray⟩
 |[],_,h=>h
 |x::l,_,⟨v,rest,e,hv,hr⟩=>by
  have hv:v= .string ⟨x.toArray⟩:=hv;subst hv;rw[e,TB hr];rfl
def join_eq(x:adx):∀(l:ard adx) (y:adx),l.foldl (fun s z=>s++(x++z)) y=y++Lib.joinTail x l
 |[],y=>by simp[Lib.joinTail]
 |z::l,y=>by
  rw[It,join_eq x l];simp[Lib.joinTail]
def aho[OI]{l:ard adx}{x r:adx}(hm:Xv l x=some r):al prog 86 [(TL TS) l,TS x] (.vs [TS r]):=by
 obtain⟨r0,h0,hm⟩:=ab hm;obtain⟨hb,rfl⟩:=iL hm;rw[bV] at hb;obtain⟨hb1,hb2⟩:=hb;have hb1:=gj hb1;have hb2:=gj hb2;refine qc (by kernel_rfl) fun w H vs sub gl ha=>?_
 obtain⟨u,v,rfl,hu,hv⟩:=BE ha;have hv:v= .string ⟨x.toArray⟩:=hv;subst hv;obtain⟨ad,cap,rfl,hc,hu⟩:=hu
 match l,h0,hb1,hc,hu with
 |[],h0,_,_,_=>
  have h0:=fj h0;subst h0;refine(strings_Join_none ad cap ⟨x.toArray⟩ w).mono ?_;rintro e w' ⟨rfl,rfl⟩;exact⟨_,rfl,E0.refl _ _,rfl⟩
 |y::l,h0,hb1,hc,hu=>
  have h0:=fj h0;obtain⟨b,off,cs,E,fr,rfl,hH,hs,ho⟩:=hu (by simp[lT]);have hw:=sub _ _ hH;have hcs:=TB ho;have hn:cw (lT TS (y::l))=(y::l).length:=by
   have:=nB ho;rw[hcs] at this;simpa using this.symm
  have hj:(Lib.join ((List.map (fun z:adx=>(⟨z.toArray⟩:ByteArray)) (y::l)).map (·.data.toList)) x)=r0:=by
   have:(List.map (fun z:adx=>(⟨z.toArray⟩:ByteArray)) (y::l)).map (·.data.toList)=y::l:=by simp[Io,Function.comp_def]
   rw[this,Lib.join_cons,<-h0,join_eq]
  obtain⟨xs,hxs⟩:∃xs:ard ByteArray,xs=(y::l).map fun z=>⟨z.toArray⟩:=⟨_,rfl⟩
  rw[<-hxs] at hj;have hl0:(lT TS (y::l)).length=xs.length:=by rw[hxs];simp[lT]
  have NY:(y::l).length=xs.length:=by rw[hxs];simp
  rw[hl0] at hc;have XU:∀(j:Nat) z,xs[j]? =some z->w.cell? ⟨b,off+j,none⟩=some (.string z):=by
   intro j z hz;have h1:((cs.toList.drop off).take<|cw<|lT TS (y::l))[j]? =some (.string z):=by
    rw[hcs,mH];rw[hxs,mH] at hz;cases hy:(y::l)[j]? with
    |none=>rw[hy] at hz;cases hz
    |some q=>rw[hy] at hz;cases hz;rfl
   rw[Ao] at h1;split at h1
   ·rw[yF] at h1;simp only[World.cell?,hw];rw[<-uR];exact h1
   ·cases h1
  have key:=strings_Join b off cap xs ⟨x.toArray⟩ w XU (lt_of_heap hw) (by rw[<-NY];exact hb1) hc (by rw[hj];exact hb2);have e2:([Value.slice (some ⟨b,off,none⟩) (lT TS (y::l)).length cap,.string ⟨x.toArray⟩]:ard apU).toArray= #[.slice (some ⟨b,off,none⟩) xs.length cap,.string ⟨x.toArray⟩]:=by rw[hl0]
  rw[e2];refine key.mono ?_;rintro e w' ⟨rfl,hbw⟩;exact⟨_,rfl,⟨hbw,GN.ane⟩,by show Value.string _=_;rw[hj]⟩
def Ox(w:apT)(e:aq9)(s:ByteArray):E0 w.heap.size w (Lib.bytesWorld w e s):=
 ⟨⟨by unfold Lib.bytesWorld World.freeze;split<;>rfl,by unfold Lib.bytesWorld World.freeze;split<;>rfl,by unfold Lib.bytesWorld World.freeze;split<;>rfl,by rw[Lib.bytesWorld_size];omega,fun k hk=>Lib.bytesWorld_at_old w e s k hk⟩,GN.of (by unfold Lib.bytesWorld World.freeze;split<;>exact vx _)⟩
def KE:∀(l:adx) (acc:Nat),l.all gZ=true->Lib.decFrom acc l=some (l.foldl (fun n b=>10*n+(b.toNat-48)) acc)
 |[],acc,_=>rfl
 |b::l,acc,h=>by
  rw[rz,bV] at h;obtain⟨h1,h2⟩:=h;unfold gZ at h1;rw[bV] at h1;have h3:=gj h1.1;have h4:=gj h1.2;unfold Lib.decFrom Lib.digitVal;rw[if_pos ⟨h3,h4⟩];simp only[It];rw[KE l _ h2,oI]
def UE{s:adx}(h0:s.isEmpty=false)(h:s.all gZ=true):Lib.atoi s=some (dD s:Int):=by
 match s,h0,h with
 |b::l,_,h=>
  have hb:gZ b=true:=by rw[rz,bV] at h;exact h.1
  unfold gZ at hb;rw[bV] at hb;have h3:=gj hb.1;have h5:(b==45)=false:=by
   cases e:b==45 with
   |false=>rfl
   |true=>rw[xw] at e;subst e;exact absurd h3 (by decide)
  have h6:(b==43)=false:=by
   cases e:b==43 with
   |false=>rfl
   |true=>rw[xw] at e;subst e;exact absurd h3 (by decide)
  have hd:Lib.decNat (b::l)=some (dD (b::l)):=by
   unfold Lib.decNat;rw[if_neg (by simp)];exact KE _ 0 h
  show(if(b==45)=true then(Lib.decNat l).map fun(m:Nat)=> -(m:Int) else if(b==43)=true then(Lib.decNat l).map fun(m:Nat)=>(m:Int) else(Lib.decNat (b::l)).map fun(m:Nat)=>(m:Int))=_;rw[h5,h6,hd]
  rfl
def ahr{x:adx}{r:Int×Unit}(hm:NJ x=some r):al prog 234 [TS x] (.vs [TI .i64 r.1,ajB r.2]):=by
 obtain⟨hb,rfl⟩:=iL hm;rw[bV,bV] at hb;obtain⟨⟨h1,h2⟩,h3⟩:=hb;have h1:x.isEmpty=false:=by simpa using h1
 have h2:=gj h2;refine qc (by kernel_rfl) fun w H vs sub gl ha=>?_
 obtain⟨u,rfl,hu⟩:=sZ ha;have hu:u= .string ⟨x.toArray⟩:=hu;subst hu;refine(strconv_Atoi ⟨x.toArray⟩ (dD x:Int) (by simpa[ByteArray.size] using h2) (UE h1 h3) w).mono ?_;rintro e w' ⟨rfl,t,rfl⟩;exact⟨_,rfl,Ox w 5 t,_,rfl,_,_,rfl,rfl,_,_,rfl,rfl,rfl⟩
def F7:ath apU->Sem apU:=fun args=>do
 let(x,y,b)<-Extern.MathBitsCarry.three "Sub64" args
 pure (Extern.MathBitsCarry.pair ((x+Extern.MathBitsCarry.m64-y-b)%Extern.MathBitsCarry.m64)<|if x<y+b then 1 else 0)
def Y2{P:arb}(X Y k:Nat)(hk:k<=1)(w:apT):(F7 #[.int .u64 (X:Int),.int .u64 (Y:Int),.int .u64 (k:Int)]).run P w=
  .ok (Extern.MathBitsCarry.pair ((X+18446744073709551616-Y-k)%18446744073709551616)<|if X<Y+k then 1 else 0) w:=by
 have:k=0\/k=1:=by omega
 rcases this with rfl|rfl<;>rfl
def sA(h:v8 x=true):∃n:Nat,x=n/\n<18446744073709551616:=by
 unfold v8 at h;rw[bV,jJ,jJ] at h;obtain⟨n,rfl⟩:=gk h.1;exact⟨n,rfl,by omega⟩
def Ov(h:(decide (c=0)||decide (c=1))=true):∃k:Nat,c=k/\k<=1:=by
 rw[mY,jJ,jJ] at h;rcases h with rfl|rfl
 ·exact⟨0,rfl,by omega⟩
 ·exact⟨1,rfl,by omega⟩
def P7{τ σ υ:Ty}{vs:ard apU}(h:BF H [τ,σ,υ] vs):∃v u t,vs=[v,u,t]/\τ.ok H v/\σ.ok H u/\υ.ok H t:=by
 obtain⟨v,rest,e,hv,hr⟩:=h;obtain⟨u,t,e2,hu,ht⟩:=BE hr;subst e2;exact⟨v,u,t,e,hv,hu,ht⟩
def aej(M X Y k:Nat)(hY:Y<M)(hk:k<=1):(((X+M-Y-k)%M:Nat):Int)=((X:Int)-Y-k)%(M:Int):=by
 have:((X+M-Y-k:Nat):Int)=((X:Int)-Y-k)+M:=by omega
 rw[Int.natCast_emod,this,Int.add_emod_right]
def sub_lt(X Y k:Nat):((if X<Y+k then 1 else 0:Nat):Int)=bif decide ((X:Int)<Y+k) then 1 else 0:=by
 by_cases h:X<Y+k
 ·have h':(X:Int)<(Y:Int)+(k:Int):=by omega
  simp[h,h']
 ·have h': ¬(X:Int)<(Y:Int)+(k:Int):=by omega
  simp[h,h']
def Bs(hm:nC x y c=some r):Sm prog 289 [TI .u64 x,TI .u64 y,TI .u64 c] [TI .u64 r.1,TI .u64 r.2]:=by
 unfold nC at hm;cases hb:((v8 x&&v8 y)&&(decide (c=0)||decide (c=1)))
 ·rw[hb] at hm;cases hm
 rw[hb] at hm;have hm:=fj hm;subst hm;rw[bV,bV] at hb;obtain⟨⟨h1,h2⟩,h3⟩:=hb;obtain⟨X,rfl,hX⟩:=sA h1;obtain⟨Y,rfl,hY⟩:=sA h2;obtain⟨k,rfl,hk⟩:=Ov h3;refine⟨fun w H vs ha=>?_⟩;obtain⟨u,v,t,rfl,hu,hv,ht⟩:=P7 ha;have hu:u= .int .u64 (X:Int):=hu;have hv:v= .int .u64 (Y:Int):=hv;have ht:t= .int .u64 (k:Int):=ht;subst hu;subst hv;subst ht;refine⟨.tuple #[.int .u64<|((X:Int)+Y+k)%18446744073709551616,.int .u64<|((X:Int)+Y+k)/18446744073709551616],w,?_,⟨Below.refl _ _,bC _⟩,?_⟩
 ·rw[run_callFunc_extern func289 (by kernel_rfl) (by kernel_rfl) (by kernel_rfl) (e:=add64Entry) (by kernel_rfl)];show Result.andThen ((add64Entry #[.int .u64 (X:Int),.int .u64 (Y:Int),.int .u64 (k:Int)]).run prog w) _=_;rw[run_add64 _ _ _ (by omega) (by omega) (by omega) (by omega) w]
  rfl
 ·exact⟨_,rfl,_,_,rfl,rfl,_,_,rfl,rfl,rfl⟩
def Q4(hm:zu x y c=some r):Sm prog 291 [TI .u64 x,TI .u64 y,TI .u64 c] [TI .u64 r.1,TI .u64 r.2]:=by
 unfold zu at hm;cases hb:((v8 x&&v8 y)&&(decide (c=0)||decide (c=1)))
 ·rw[hb] at hm;cases hm
 rw[hb] at hm;have hm:=fj hm;subst hm;rw[bV,bV] at hb;obtain⟨⟨h1,h2⟩,h3⟩:=hb;obtain⟨X,rfl,hX⟩:=sA h1;obtain⟨Y,rfl,hY⟩:=sA h2;obtain⟨k,rfl,hk⟩:=Ov h3;refine⟨fun w H vs ha=>?_⟩;obtain⟨u,v,t,rfl,hu,hv,ht⟩:=P7 ha;have hu:u= .int .u64 (X:Int):=hu;have hv:v= .int .u64 (Y:Int):=hv;have ht:t= .int .u64 (k:Int):=ht;subst hu;subst hv;subst ht;refine⟨Extern.MathBitsCarry.pair ((X+18446744073709551616-Y-k)%18446744073709551616)<|if X<Y+k then 1 else 0,w,?_,⟨Below.refl _ _,bC _⟩,?_⟩
 ·rw[run_callFunc_extern func291 (by kernel_rfl) (by kernel_rfl) (by kernel_rfl) (e:=F7) (by kernel_rfl)];show Result.andThen ((F7 #[.int .u64 (X:Int),.int .u64 (Y:Int),.int .u64 (k:Int)]).run prog w) _=_;rw[Y2 _ _ _ hk w]
  rfl
 ·refine⟨_,rfl,_,_,rfl,?_,_,_,rfl,?_,rfl⟩
  ·exact congrArg (Value.int .u64)<|aej 18446744073709551616 X Y k hY hk
  ·exact congrArg (Value.int .u64)<|sub_lt X Y k
def Lt(hm:xv x y=some r):al prog 223 [TI .u64 x,TI .u64 y] (.vs [TI .u64 r.1,TI .u64 r.2]):=by
 unfold xv at hm;cases hb:(v8 x&&v8 y)
 ·rw[hb] at hm;cases hm
 rw[hb] at hm;have hm:=fj hm;subst hm;rw[bV] at hb;obtain⟨X,rfl,hX⟩:=sA hb.1;obtain⟨Y,rfl,hY⟩:=sA hb.2;refine qc (by kernel_rfl) fun w H vs sub gl ha=>?_
 obtain⟨u,v,rfl,hu,hv⟩:=BE ha;have hu:u= .int .u64 (X:Int):=hu;have hv:v= .int .u64 (Y:Int):=hv;subst hu;subst hv;refine(bits_Mul64 X Y hX hY w).mono ?_;rintro e w' ⟨rfl,rfl⟩;exact⟨_,rfl,E0.refl _ _,_,rfl,_,_,rfl,congrArg (Value.int .u64) (by rw[Int.natCast_ediv,tw];rfl),_,_,rfl,congrArg (Value.int .u64) (by rw[Int.natCast_emod,tw];rfl),rfl⟩
def IX:∀(f n:Nat),n<2^f->Lib.bitLenAux f n=CF n
 |0,n,h=>by
  have:n=0:=by simpa using h
  subst this;rfl
 |f+1,n,h=>by
  unfold Lib.bitLenAux CF;by_cases h0:n=0
  ·subst h0;rfl
  ·rw[if_neg h0,IX f (n/2) (by rw[BS] at h;omega)];have hb:Nat.beq n 0=false:=by
    cases e:Nat.beq n 0 with
    |false=>rfl
    |true=>exact absurd (fB e) h0
   rw[hb];unfold CF;by_cases h1:n/2=0
   ·have:n=1:=by omega
    subst this;rfl
   ·have hb2:Nat.beq (n/2) 0=false:=by
     cases e:Nat.beq (n/2) 0 with
     |false=>rfl
     |true=>exact absurd (fB e) h1
    rw[hb2];show 1+(Nat.log2 (n/2)+1)=Nat.log2 n+1
    conv=>rhs;rw[Nat.log2_def,if_pos (by omega)]
    omega
def bitLen_eq{n:Nat}(h:n<18446744073709551616):Lib.bitLen n=CF n:=IX 64 n h
def aeB{r:Int}(hm:Ii x=some r):al prog 245 [TI .u64 x] (.vs [TI .i64 r]):=by
 unfold Ii at hm;cases hb:v8 x
 ·rw[hb] at hm;cases hm
 rw[hb] at hm;have hm:=fj hm;subst hm;obtain⟨X,rfl,hX⟩:=sA hb;refine qc (by kernel_rfl) fun w H vs sub gl ha=>?_
 obtain⟨u,rfl,hu⟩:=sZ ha;have hu:u= .int .u64 (X:Int):=hu;subst hu;refine(bits_Len64 (X:Int) w (by omega) (by omega)).mono ?_;rintro e w' ⟨rfl,rfl⟩;exact⟨_,rfl,E0.refl _ _,congrArg (Value.int .i64) (by rw[Int.toNat_natCast,bitLen_eq hX])⟩
def aaY{r:Int}(hm:JG x=some r):al prog 313 [TI .u64 x] (.vs [TI .i64 r]):=by
 unfold JG at hm;cases hb:v8 x
 ·rw[hb] at hm;cases hm
 rw[hb] at hm;have hm:=fj hm;subst hm;obtain⟨X,rfl,hX⟩:=sA hb;refine qc (by kernel_rfl) fun w H vs sub gl ha=>?_
 obtain⟨u,rfl,hu⟩:=sZ ha;have hu:u= .int .u64 (X:Int):=hu;subst hu;refine(bits_LeadingZeros64 (X:Int) w (by omega) (by omega)).mono ?_;rintro e w' ⟨rfl,rfl⟩;exact⟨_,rfl,E0.refl _ _,congrArg (Value.int .i64) (by rw[Int.toNat_natCast,bitLen_eq hX])⟩
end
section
variable{k:Nat}{x y:Rat}{z:Int}{n j:Nat}{r:Int×ard Int}{a b:Nat}
def ahv:Bool:=(List.range 19).all fun k=>decide<|qZ (10,[]) (k:Int)=some ((10:Int)^k,[])
def Za:ahv=true:=by kernel_rfl
def Zk(h:k<=18):qZ (10,[]) (k:Int)=some ((10:Int)^k,[]):=by
 have:=db.1 Za k (rA.2 (by omega));exact bf this
def Ei:∀(l:adx) (n:Nat),l.foldl (fun n b=>10*n+(b.toNat-48)) n=n*10^l.length+dD l
 |[],n=>by simp[dD]
 |b::l,n=>by
  have e:dD (b::l)=(b.toNat-48)*10^l.length+dD l:=by
   show l.foldl (fun n b=>10*n+(b.toNat-48)) (10*0+(b.toNat-48))=_;rw[Ei l,Nat.mul_zero,vy]
  rw[It,Ei l,e,om,List.length_cons,BS];have:10*n*10^l.length=n*(10^l.length*10):=by rw[oI 10 n,Nat.mul_assoc,oI 10]
  omega
def vJ(l m:adx):dD (l++m)=dD l*10^m.length+dD m:=by
 show(l++m).foldl _ 0=_;rw[List.foldl_append,Ei m];rfl
def Zz{b:UInt8}(h:gZ b=true):b.toNat-48<=9:=by
 unfold gZ at h;obtain⟨_,h2⟩:=eK h;have:=gj h2;omega
def xi:∀(l:adx),l.all gZ=true->dD l<10^l.length
 |[],_=>by simp[dD]
 |b::l,h=>by
  rw[rz] at h;obtain⟨h1,h2⟩:=eK h;have:=xi l h2;have hb:=Zz h1;show(b::l).foldl _ 0<_;rw[It,Ei l,List.length_cons,BS];have:(10*0+(b.toNat-48))*10^l.length<=9*10^l.length:=mI _ (by omega);omega
def xj(h:z.natAbs<10^n)(hn:n<=1000000):tV z=true:=by
 unfold tV;refine nE ?_;rcases wH z.natAbs with h0|h0
 ·rw[h0];exact nE (by simp)|>gj
 ·have h1:(10:Nat)^n<=(2^4)^n:=Nat.pow_le_pow_left (by omega) n;rw[<-Nat.pow_mul] at h1;have:Nat.log2 z.natAbs<4*n:=(xx (by omega)).2 (by omega);omega
def abu{s:adx}(h:tT s=some z):Yd (fun q=>qI q z) (BN s):=by
 have core:∀(ds:adx) (neg:Bool) (w:Int),(ds.all gZ&&Nat.blt ds.length 1000000)=true->w=(bif neg then -(dD ds:Int) else(dD ds:Int))->
   Yd (fun q=>qI q w) (lp 18446744073709551616 (fun(k6:(adx×(Int×ard Int))->atg _) (s5:adx×(Int×ard Int))=>
    cond (decide<|(0:Int)<(s5.1.length:Int)) (
     bd (im s5.1 0<|mn_ (18:Int) (s5.1.length:Int)) fun x8=>
     bd (NJ x8) fun dz=>
     bd (pn (10:Int)) fun fp=>
     bd (qZ fp<|mn_ (18:Int) (s5.1.length:Int)) fun gp=>
     bd (mD s5.2 gp) fun gS=>
     bd (pn dz.1) fun iZ=>
     bd (mE gS iZ) fun kR=>
     bd (im s5.1 (mn_ (18:Int) (s5.1.length:Int)) (s5.1.length:Int)) fun my=>
     k6 (my,kR)
    ) (
     cond neg (
      bd (iE s5.2) fun nZ=>
      some nZ
     ) (
      some s5.2
     )
    )
   ) (ds,(0,[]))):=by
  intro ds neg w hds hw;obtain⟨hd,hl⟩:=eK hds;have hl:ds.length<1000000:=gj hl;refine Yd.lp (fun t:adx×(Int×ard Int)=>t.1.all gZ=true/\t.1.length<=ds.length/\∃v:Nat,qI t.2 (v:Int)/\v<10^(ds.length-t.1.length)/\v*10^t.1.length+dD t.1=dD ds)
   (fun t:adx×(Int×ard Int)=>t.1.length) ?_ _ _ ⟨hd,bC _,0,.inl ⟨rfl,rfl,by unfold CU;omega⟩,by dsimp only;rw[Nat.sub_self];decide,by dsimp only;omega⟩ (by dsimp only;omega)
  rintro next ⟨ss,r⟩ ⟨h1,h2,v,h3,h4,h5⟩ hn
  dsimp only at h1 h2 h3 h4 h5 hn⊢;have hsv:tV (v:Int)=true:=xj (n:=ds.length-ss.length) (by simpa using h4) (by omega);refine Yd.cond (fun hc=>?_)<|fun hc=>?_
  ·have hc:=bf hc;obtain⟨m,hm,ZG,hm2,hm3⟩:∃m:Nat,mn_ 18 (ss.length:Int)=(m:Int)/\m<=18/\m<=ss.length/\0<m:=by
    unfold mn_;by_cases h:(ss.length:Int)<18
    ·rw[bD h];exact⟨ss.length,rfl,by omega,by omega,by omega⟩
    ·rw[cr h];exact⟨18,rfl,by omega,by omega,by omega⟩
   rw[hm];have hss:ss=ss.take m++ss.drop m:=(yI m ss).symm;have hall:=h1;rw[hss,LQ] at hall;obtain⟨a1,a2⟩:=eK hall;have hlt:(ss.take m).length=m:=by rw[List.length_take];omega
   have hld:(ss.drop m).length=ss.length-m:=mG;have Fb:=vJ (ss.take m)<|ss.drop m
   rw[<-hss,hld] at Fb;have hb:=xi _ a1;rw[hlt] at hb;have ZP:dD (ss.take m)<10^18:=nD hb (uP (by omega) ZG);have arS:(10:Nat)^m<=10^18:=uP (by omega) ZG;have alr:((10:Int)^m)=((10^m:Nat):Int):=by rw[Int.natCast_pow];rfl
   have Sx:NJ (ss.take m)=some ((dD (ss.take m):Int),()):=by
    unfold NJ;have e1:(ss.take m).isEmpty=false:=by
     cases he:(ss.take m) with
     |nil=>rw[he] at hlt;simp at hlt;omega
     |cons _ _=>rfl
    have e2:Nat.ble (ss.take m).length 18=true:=nE (by omega);rw[e1,e2,a1];rfl
   refine Yd.bd (jE (by omega) (by omega) (by omega)) ?_;have e0:(ss.take ((m:Nat):Int).toNat).drop ((0:Int)).toNat=ss.take m:=by simp
   rw[e0];refine Yd.bd Sx<|Yd.bd (show pn 10=some (10,[]) from rfl)<|Yd.bd (Zk ZG) ?_
   have hp:0<(10:Nat)^m:=Nat.pow_pos (by omega);have hrp:qI ((10:Int)^m,[]) ((10^m:Nat):Int):= .inl ⟨rfl,by dsimp only;exact alr,by unfold CU;omega⟩;have qi:(10:Nat)^18<10^19:=by decide
   have anN:tV ((10^m:Nat):Int)=true:=xj (n:=19) (by simp only[jd];omega) (by omega);refine Yd.jQ (Xo h3 hrp hsv anN) fun q hq=>?_
   refine Yd.bd (show pn (dD (ss.take m):Int)=some ((dD (ss.take m):Int),[]) from rfl) ?_;have UW:qI ((dD (ss.take m):Int),[]) (dD (ss.take m):Int):= .inl ⟨rfl,rfl,by unfold CU;omega⟩;have aov:ds.length-(ss.drop m).length=(ds.length-ss.length)+m:=by rw[hld];omega
   have RY:v*10^m+dD (ss.take m)<10^(ds.length-(ss.drop m).length):=by
    rw[aov,qa];have:(v+1)*10^m<=10^(ds.length-ss.length)*10^m:=mI _ (by omega);rw[om,vw] at this;omega
   have anM:tV ((v:Int)*((10^m:Nat):Int))=true:=by
    rw[<-tw];exact xj (n:=ds.length-(ss.drop m).length) (by simp only[jd];omega) (by omega)
   have hlq:=hq.len anM;refine Yd.jQ (LC hq UW (by omega) (by simp)) fun q2 hq2=>?_
   refine Yd.bd (jE (by omega) (by omega) (by omega)) ?_;have e1:(ss.take ((ss.length:Nat):Int).toNat).drop ((m:Nat):Int).toNat=ss.drop m:=by simp
   rw[e1];refine hn _ ⟨a2,by dsimp only;omega,v*10^m+dD (ss.take m),?_,RY,?_⟩ (by dsimp only;omega)
   ·dsimp only;rw[Int.natCast_add,tw];exact hq2
   ·dsimp only;rw[<-h5,Fb,om,Nat.mul_assoc,<-qa,hld,show m+(ss.length-m)=ss.length from by omega];omega
  ·have hc:=bP hc;have h0:ss=[]:=rT (by omega);subst h0;have h5:v=dD ds:=by simpa[dD] using h5
   subst h5;subst hw;cases neg
   ·exact Yd.cond (fun h=>by cases h)<|fun _=>Yd.mk h3
   ·exact Yd.cond (fun _=>Yd.jQ (zh h3) fun q hq=>Yd.mk hq) (fun h=>by cases h)
 have hp:∀b:Bool,(decide ((([45]:adx).length:Int)<=(s.length:Int))&&(s.take 1==[45]))=b->br s [45]=some b:=by
  intro b hb;unfold br;cases hc:decide ((([45]:adx).length:Int)<=(s.length:Int)) with
  |false=>
   rw[hc] at hb;rw[EA] at hb;subst hb;rfl
  |true=>
   rw[hc] at hb;have hc:=bf hc;show bd (im s 0<|(([45]:adx).length:Int)) _=_;rw[jE (by omega) (by omega) hc];exact congrArg some hb
 have pre:∀(b:Bool) (ds:adx),br s [45]=some b->(b=true->s=45::ds)->(b=false->ds=s)->(ds.all gZ&&Nat.blt ds.length 1000000)=true->z=(bif b then -(dD ds:Int) else(dD ds:Int))->Yd (fun q=>qI q z) (BN s):=by
  intro b ds e1 e2 e2' e3 e4;unfold BN;refine Yd.bd (x:=b) ?_<|Yd.bd (x:=ds) ?_<|core ds b z e3 e4
  ·unfold qq;rw[e1];rfl
  ·unfold gX fh;rw[e1];cases b
   ·rw[e2' rfl];rfl
   ·rw[e2 rfl];show bd (bd (im (45::ds) 1 (((45::ds:adx).length:Nat):Int)) _) _=_;rw[jE (by omega) (by rw[List.length_cons];omega)<|Int.le_refl _];show some _=some _;simp
 unfold tT at h;split at h
 ·rename_i ds;obtain⟨hb,rfl⟩:=iL h;refine pre true ds (hp true ?_) (fun _=>rfl) (fun h=>by cases h) hb rfl;rw[bD (show((([45]:adx).length:Nat):Int)<=(((45::ds:adx).length:Nat):Int) by simp only[List.length_cons,BY];omega)]
  rfl
 ·rename_i hne;obtain⟨hb,rfl⟩:=iL h;refine pre false s (hp false ?_) (fun h=>by cases h) (fun _=>rfl) hb rfl;cases s with
  |nil=>rfl
  |cons c l=>
   have:c≠45:=fun e=>hne l (by rw[e])
   have h2:((c::l).take 1==[45])=false:=by
    simp[this]
   rw[h2,Is]
def Zq(h0:n≠0)(h1:2^k<=n)(h2:n<2^(k+1)):Nat.log2 n=k:=(Nat.log2_eq_iff h0).2 ⟨h1,h2⟩
def aaJ{w:ard Int}{t:Nat}(hw:okW w)(hl:w.length=k+1)(ht:w.getD k 0=(t:Int))(h0:t≠0):((aL w).toNat).log2=64*k+t.log2:=by
 have hs:aL w=aL (w.take k)+gM k*(t:Int):=by
  have:aL (w.take<|k+1)=aL w:=by rw[eJ (by omega)]
  rw[<-this,bj,ht]
 obtain⟨b0,b1⟩:=dw<|mc hw k
 rw[List.length_take,fA (by omega)] at b1;rw[Q9] at hs b1;obtain⟨L,hL⟩:=gk b0;rw[hL] at hs b1;have e:(aL w).toNat=L+2^(64*k)*t:=by
  rw[hs,<-tw];omega
 have hL':L<2^(64*k):=by exact_mod_cast b1
 obtain⟨l1,l2⟩:=A4 h0;have hp:0<2^(64*k):=ED _;have m1:2^(64*k)*2^t.log2<=2^(64*k)*t:=EG _ l1;have m2:2^(64*k)*(t+1)<=2^(64*k)*2^(t.log2+1):=EG _ l2;rw[<-qa] at m1 m2;rw[Nat.mul_add,Nat.mul_one] at m2;have Ss:0<2^(64*k+t.log2):=ED _;rw[e];exact Zq (by omega) (by omega) (by rw[tu];omega)
def abw(h:qI r z)(hz:tV z=true):tp r=some (bif decide (z=0) then 0 else(Nat.log2 z.natAbs:Int)+1):=by
 have key:Yd (fun n=>n=(bif decide (z=0) then 0 else(Nat.log2 z.natAbs:Int)+1)) (tp r):=by
  unfold tp;have hlen:=h.len hz;refine Yd.jQ (pZ h) ?_;rintro⟨neg,w⟩ ⟨_,hw,hv,hl⟩;dsimp only at hw hv hl⊢;refine Yd.cond (fun hc=>?_)<|fun hc=>?_
  ·have hc:=bf hc;have h0:w=[]:=rT (by omega);subst h0;have:z=0:=by
    have:(0:Int)=(z.natAbs:Int):=hv;omega
   subst this;exact Yd.mk rfl
  ·have hc:=bP hc;obtain⟨k,hk⟩:∃k,w.length=k+1:=⟨w.length-1,by omega⟩;have e1:((w.length:Int)-1)=((k:Nat):Int):=by omega
   rw[e1];have ht:=eX hw.1 k;obtain⟨t,ht'⟩:=gk ht.1;have h0:t≠0:=by
    intro e;subst e;refine hw.2 ?_;rw[List.getLast?_eq_getElem?,show w.length-1=k from by omega];rw[gy,kb (by omega)] at ht';rw[kb (by omega)];simpa using ht'
   have ZH:=aaJ hw.1 hk ht' h0;rw[hv,Int.toNat_natCast] at ZH;have hz0:z≠0:=by
    intro e;subst e;have:=uo hw.1 (by intro e;rw[e] at hk;simp at hk) hw.2;have hp:=nA<|w.length-1
    rw[hv] at this;simp at this;omega
   have ht2:t<2^64:=by have:=ht.2;rw[ht'] at this;unfold BB at this;omega
   have aia:Ii (t:Int)=some ((t.log2:Int)+1):=by
    unfold Ii v8;rw[bD (show(0:Int)<=(t:Int) by omega),bD (show((t:Nat):Int)<18446744073709551616 by omega)];show some ((CF ((t:Nat):Int).toNat:Nat):Int)=_;have:CF t=Nat.log2 t+1:=by
     unfold CF;have:Nat.beq t 0=false:=by
      cases hb:Nat.beq t 0 with
      |false=>rfl
      |true=>exact absurd (fB hb) h0
     rw[this];rfl
    rw[Int.toNat_natCast,this];rfl
   have hlt:t.log2<64:=(xx h0).2 ht2;refine Yd.bd (aM ⟨by omega,by omega⟩) (Yd.bd (aM ⟨by omega,by omega⟩) (Yd.bd (aM ⟨by omega,by omega⟩) (Yd.bd (bQ (by omega)) ?_)));rw[ht'];refine Yd.bd aia (Yd.bd (aM ⟨by omega,by omega⟩)<|Yd.mk ?_);rw[cr hz0,ZH];simp only[fU];omega
 obtain⟨n,e,rfl⟩:=key;exact e
def qI.one(h:qI r z):((List.isEmpty r.2)&&decide (r.1=(1:Int)))=decide (z=1):=by
 rcases h with⟨h1,h2,h3⟩|⟨h0,h1,h2,h3,h4,h5⟩
 ·rw[h1,h2];rfl
 ·have e:List.isEmpty r.2=false:=by
   cases hr:r.2 with
   |nil=>exact absurd hr h0
   |cons _ _=>rfl
  rw[e,EA]
  symm
  rw[kE];rcases h1 with e|e<;>rw[h4,e]<;>omega
def abv{s:Int×ard Int}{x y:Int}(hr:qI r x)(hs:qI s y)(hx:tV x=true)(hy:tV y=true)(h0:y≠0):Yd (fun q=>qI q.1 ((x:Rat)/(y:Rat)).num/\qI q.2 (((x:Rat)/(y:Rat)).den:Int)) (Ge r s):=by
 unfold Ge;have en:((x:Rat)/(y:Rat)).num=(y.sign*x)/(Int.gcd y x:Int):=by rw[<-vC,Ir]
 have ed:(((x:Rat)/(y:Rat)).den:Int)=(y.natAbs:Int)/(Int.gcd y x:Int):=by
  rw[<-vC,Iq,if_neg h0];rfl
 rw[en,ed];refine Yd.bd (AY hs)<|Yd.jn (fun t=>qI t.1 (y.sign*x)/\qI t.2 (y.natAbs:Int)) ?_<|fun k hk=>Yd.cond (fun hd=>?_)<|fun hd=>?_
 ·rintro⟨a,b⟩ ⟨ha,hb⟩;dsimp only at ha hb⊢;have hg:Int.gcd (y.sign*x) (y.natAbs:Int)=Int.gcd y x:=by
   rw[Int.gcd_comm];unfold Int.gcd;rw[qw,jd]
   congr 1
   rcases uN y 0 with h|h|h
   ·rw[tD h];simp
   ·exact absurd h h0
   ·rw[rR h];simp
  have hg0:0<Int.gcd y x:=Ma _ h0;have sa:tV (y.sign*x)=true:=Ji (y:=x) (by
   rw[qw];rcases uN y 0 with h|h|h
   ·rw[tD h];simp
   ·exact absurd h h0
   ·rw[rR h];simp) hx
  have sb:tV (y.natAbs:Int)=true:=Ji (y:=y) (by simp) hy;rw[qI.one hb];refine Yd.cond (fun hc=>?_)<|fun hc=>?_
  ·have hc:=bf hc;have h1:Int.gcd y x=1:=by
    unfold Int.gcd;rw[show y.natAbs=1 from by omega,Nat.gcd_one_left]
   rw[h1];refine Yd.mk ⟨?_,?_⟩
   ·dsimp only;rw[show((1:Nat):Int)=1 from rfl,Int.ediv_one];exact ha
   ·dsimp only;rw[show((1:Nat):Int)=1 from rfl,Int.ediv_one];exact hb
  ·refine Yd.jQ (Xp ha hb sa sb) fun g hgr=>?_
   rw[hg] at hgr;have sg:tV (Int.gcd y x:Int)=true:=Ji (y:=y) (by
    rw[jd];exact Nat.le_of_dvd (by omega)<|Nat.gcd_dvd_left _ _) hy
   refine Yd.jQ (Rw ha hgr sa sg (by omega)) fun p hp=>Yd.jQ (Rw hb hgr sb sg (by omega)) fun q hq=>Yd.mk ⟨?_,?_⟩
   ·dsimp only;rw[ID _ (by omega)] at hp;exact hp
   ·dsimp only;rw[ID _ (by omega)] at hq;exact hq
 ·have hd:=bf hd;have hn:y<0:=by
   rcases uN y 0 with h|h|h
   ·exact h
   ·exact absurd h h0
   ·rw[rR h] at hd;omega
  refine Yd.jQ (zh hr) fun a ha=>Yd.jQ (zh hs) fun b hb=>hk _ ⟨?_,?_⟩
  ·rw[tD hn];simpa using ha
  ·rw[show(y.natAbs:Int)= -y from by omega];exact hb
 ·have hd:=bP hd;have hn:0<y:=by
   rcases uN y 0 with h|h|h
   ·rw[tD h] at hd;omega
   ·exact absurd h h0
   ·exact h
  refine hk _ ⟨?_,?_⟩
  ·rw[rR hn,Int.one_mul];exact hr
  ·rw[show(y.natAbs:Int)=y from by omega];exact hs
def Yb:∀(f n:Nat) (acc:adx),n<f->ac3 f n acc=Lib.decDigits n++acc
 |0,n,_,h=>by omega
 |f+1,n,acc,h=>by
  unfold ac3;by_cases h1:n<10
  ·rw[show Nat.blt n 10=true from nE h1,Lib.decDigits_one h1];rfl
  ·have:Nat.blt n 10=false:=by
    cases hb:Nat.blt n 10 with
    |false=>rfl
    |true=>exact absurd (gj hb) h1
   rw[this];show ac3 f (n/10) _=_;rw[Yb f (n/10) _ (by omega)]
   conv=>rhs;rw[Lib.decDigits,dif_neg h1]
   simp
def EV(n:Nat):dc n=Lib.decDigits n:=by unfold dc;rw[Yb _ _ _ (by omega)];simp
def pE(h:n<10):dc n=[UInt8.ofNat<|48+n]:=by rw[EV,Lib.decDigits_one h]
def sC(h: ¬n<10):dc n=dc (n/10)++[UInt8.ofNat<|48+n%10]:=by
 rw[EV,EV,Lib.decDigits,dif_neg h]
def mw:∀(k n:Nat),0<k->n<10^k->(dc n).length<=k
 |0,_,h,_=>by omega
 |k+1,n,_,h=>by
  by_cases h1:n<10
  ·rw[pE h1];simp
  ·rw[sC h1,List.length_append];rcases wH k with h0|h0
   ·subst h0;simp at h;omega
   ·have:=mw k (n/10) h0 (by rw[BS] at h;omega);simp;omega
def xY(k r:Nat):adx:=List.replicate (k-(dc r).length) 48++dc r
def Ze{r:Nat}(hk:0<k)(hr:r/10<10^k):xY (k+1) r=xY k (r/10)++[UInt8.ofNat<|48+r%10]:=by
 unfold xY;by_cases h:r<10
 ·rw[show r/10=0 from by omega,pE h,pE (show 0<10 by omega),show r%10=r from by omega];have:List.replicate (k+1-1) (48:UInt8)=List.replicate (k-1) 48++[48]:=by
   rw[show k+1-1=(k-1)+1 from by omega,List.replicate_succ']
  simp only[List.length_singleton];rw[this];rfl
 ·rw[sC h,List.length_append,List.length_singleton,show k+1-((dc<|r/10).length+1)=k-(dc<|r/10).length from by omega,rQ]
def GB:∀(k q r:Nat),0<q->0<k->r<10^k->dc (q*10^k+r)=dc q++xY k r
 |0,_,_,_,h,_=>by omega
 |k+1,q,r,hq,_,hr=>by
  rw[BS] at hr⊢;have hp:0<10^k:=Nat.pow_pos (by omega);have IL:10^k<=q*10^k:=Nat.le_mul_of_pos_left _ hq;rw[<-Nat.mul_assoc];rw[sC (by omega),show(q*10^k*10+r)/10=q*10^k+r/10 from by omega,show(q*10^k*10+r)%10=r%10 from by omega];rcases wH k with h0|h0
  ·subst h0;have h9:r<10:=by simpa using hr
   rw[show r/10=0 from by omega,Nat.pow_zero,Nat.mul_one,tG];unfold xY;rw[pE h9,show r%10=r from by omega];rfl
  ·rw[GB k q (r/10) hq h0 (by omega),Ze h0 (by omega),rQ]
def Xc(c:Nat):aeJ [48] c=List.replicate c 48:=by
 induction c with
 |zero=>rfl
 |succ c ih=>rw[List.replicate_succ,<-ih];rfl
def Norm.pos{w:ard Int}(h:Norm w)(h0:w≠[]):0<aL w:=by
 have:=uo h.1 h0 h.2;have:=nA<|w.length-1
 omega
def Wm{r:Nat}(h:r<1000000000000000000):(dc r).length<=18:=mw 18 r (by omega) (by simpa using h)
def acZ{l:ard adx}{x:adx}(h:l[n]? =some x):(l.drop n).reverse.flatten=(l.drop<|n+1).reverse.flatten++x:=by
 obtain⟨hn,e⟩:=iG.1 h;rw[BQ hn,e,List.reverse_cons,List.flatten_append];simp
def Ut{l:ard adx}(h:∀x∈l,x.length<=18):l.flatten.length<=18*l.length:=by
 induction l with
 |nil=>simp
 |cons a l ih=>
  rw[List.flatten_cons,List.length_append,List.length_cons];have h1:=h a (by simp);have h2:=ih fun x hx=>h x (by simp[hx])
  omega
def VD(h:qI r z)(hz:tV z=true):Yd (fun s=>s=eL z) (uL r):=by
 unfold uL;have hlen:=h.len hz;refine Yd.cond (fun hc=>?_)<|fun hc=>?_
 ·rcases h with⟨h1,h2,h3⟩|⟨h1,_⟩
  ·have e:NI z=some (eL z):=by
    unfold NI;have:A6 z=true:=by
     unfold CU at h3;unfold A6;rw[bD h3.1,bD h3.2];rfl
    rw[this];rfl
   rw[h2];exact Yd.bd e<|Yd.mk rfl
  ·exact absurd (B1.1 hc) h1
 have IL:z.natAbs≠0:=by
  rcases h with⟨h1,_⟩|⟨h0,h1,h2,h3,h4,h5⟩
  ·rw[h1] at hc;simp at hc
  ·rcases h1 with e|e<;>rw[h4,e]<;>omega
 have ZH:Nat.log2 z.natAbs<1099511627776:=gj hz;refine Yd.jQ (pZ h) ?_;rintro⟨neg,w0⟩ ⟨p1,p2,p3,p4⟩;dsimp only at p1 p2 p3 p4⊢;refine Yd.lp (fun t:ard Int×ard adx=>Norm t.1/\(∀x∈t.2,x.length<=18)/\∃v:Nat,aL t.1=(v:Int)/\v<=z.natAbs/\t.2.length+(if v=0 then 0 else Nat.log2 v+1)<=Nat.log2 z.natAbs+1/\dc z.natAbs=(if v=0 then [] else dc v)++t.2.reverse.flatten)
  (fun t:ard Int×ard adx=>if aL t.1=0 then 0 else Nat.log2 (aL t.1).toNat+1) ?_ _ _ ⟨p2,by simp,z.natAbs,p3,bC _,by dsimp only;rw[if_neg IL];simp,by dsimp only;rw[if_neg IL];simp⟩ (by
   dsimp only;rw[p3,Int.toNat_natCast];split<;>omega)
 rintro next ⟨w,l⟩ ⟨h1,h2,v,h3,h4,h5,h6⟩ hn
 dsimp only at h1 h2 h3 h4 h5 h6 hn⊢;refine Yd.cond (fun hd=>?_)<|fun hd=>?_
 ·have hd:=bf hd;have hw0:w≠[]:=by intro e;rw[e] at hd;simp at hd
  have K7:v≠0:=by have:=h1.pos hw0;omega
  rw[if_neg K7] at h5 h6;have hwl:w.length<=w0.length:=h1.len (by have:=(dw p2.1).2;omega);have acq:Norm ([1000000000000000000]:ard Int):=⟨by rw[qR];exact⟨⟨by omega,by unfold BB;omega⟩,HR⟩,by simp⟩;refine Yd.jQ (ND h1 acq (by simp) (by omega) (by simp)) ?_;rintro⟨q,m⟩ ⟨⟨d1,d2⟩,d3,d4⟩;dsimp only at d1 d2 d3 d4⊢;have evb:aL ([1000000000000000000]:ard Int)=1000000000000000000:=by simp[aL]
  rw[evb,h3] at d2 d4;have d2:aL q=((v/1000000000000000000:Nat):Int):=by rw[d2];rfl
  have d4:aL m=((v%1000000000000000000:Nat):Int):=by rw[d4];rfl
  have Lc:v%1000000000000000000<1000000000000000000:=tF _ (by omega)
  generalize hR:v%1000000000000000000=R at*
  refine Yd.jn (fun s=>s=dc R) ?_ ?_
  rotate_left
  ·intro k hk;refine Yd.cond (fun he=>?_)<|fun he=>?_
   ·have he:=bf he;have ZG:m.length<=1:=d3.len (n:=1) (by rw[d4];unfold gM;unfold BB;omega);obtain⟨x,rfl⟩:∃x,m=[x]:=by
     cases m with
     |nil=>simp at he
     |cons x t=>cases t with
      |nil=>exact⟨x,rfl⟩
      |cons _ _=>simp at ZG
    have ex:x=(R:Int):=by rw[<-d4];simp[aL]
    subst ex;have ef:RD (R:Int) 10=some (dc R):=by
     unfold RD v8;rw[bD (show(0:Int)<=(R:Int) by omega),bD (show((R:Nat):Int)<18446744073709551616 by omega)]
     rfl
    exact Yd.bd (show bm [(R:Int)] 0=some (R:Int) from rfl)<|Yd.bd ef<|hk _ rfl
   ·have he:=bP he;have hm0:m=[]:=rT (by omega);subst hm0;have:R=0:=by
     have:(0:Int)=(R:Int):=d4;omega
    subst this;exact hk _ rfl
  rintro s rfl;have hsl:=Wm Lc;refine Yd.jn (fun s=>s.length<=18/\dc v=(if v/1000000000000000000=0 then [] else dc (v/1000000000000000000))++s) ?_ ?_
  rotate_left
  ·intro k hk;refine Yd.cond (fun he=>?_)<|fun he=>?_
   ·have he:=bf he;have ZD:v/1000000000000000000≠0:=by
     intro e;have:=d1.pos (by intro e';rw[e'] at he;simp at he);rw[d2,e] at this;simp at this
    have er:RC [48] ((18:Int)-((dc R).length:Int))=some (List.replicate (18-(dc R).length) 48):=by
     unfold RC;rw[bD (show(0:Int)<=(18:Int)-((dc R).length:Int) by omega),bD (show(18:Int)-((dc R).length:Int)<=64 by omega)];show some (aeJ [48] ((18:Int)-((dc R).length:Int)).toNat)=_;rw[Xc]
     congr 2
     omega
    have es:xS (List.replicate (18-(dc R).length) 48) (dc R)=some (xY 18 R):=by
     unfold xS;rw[bD (by rw[uQ];omega)];rfl
    refine Yd.bd (aM ⟨by omega,by omega⟩)<|Yd.bd er<|Yd.bd es<|hk _ ⟨?_,?_⟩
    ·unfold xY;rw[List.length_append,uQ];omega
    ·rw[if_neg ZD];have:=GB 18 (v/1000000000000000000) R (by omega) (by omega) (by simpa using Lc);rw[show(10:Nat)^18=1000000000000000000 from rfl] at this;rw[<-this]
     congr 1
     omega
   ·have he:=bP he;have hq:q=[]:=rT (by omega);subst hq;have ZD:v/1000000000000000000=0:=by
     have:(0:Int)=((v/1000000000000000000:Nat):Int):=d2;omega
    refine hk _ ⟨hsl,?_⟩;rw[if_pos ZD,zz]
    congr 1
    omega
  rintro s ⟨s1,s2⟩;have ea:fe 16 l [s]=some (l++[s]):=by
   unfold fe;simp only[List.length_singleton];rw[bD (by omega),bD (by omega)];rfl
  have afD:v/1000000000000000000≠0->Nat.log2 (v/1000000000000000000)+1<=Nat.log2 v:=by
   intro hne;have:=(A4 hne).1;have h2:2^(Nat.log2 (v/1000000000000000000)+1)<=v:=by rw[BS];omega
   exact RF h2
  refine Yd.bd ea (hn _ ⟨d1,?_,v/1000000000000000000,d2,by omega,?_,?_⟩ ?_)
  ·intro x hx;rcases lN.1 hx with hx|hx
   ·exact h2 x hx
   ·rw[uO] at hx;rw[hx];exact s1
  ·dsimp only;rw[List.length_append,List.length_singleton];split
   ·omega
   ·have:=afD (by assumption);omega
  ·dsimp only;rw[h6,s2,List.reverse_append];simp
  ·dsimp only;rw[d2,h3,if_neg (show¬((v:Nat):Int)=0 by omega),Int.toNat_natCast,Int.toNat_natCast];split
   ·omega
   ·have:=afD (by omega);omega
 ·have hd:=bP hd;have hw0:w=[]:=rT (by omega);subst hw0;have K7:v=0:=by
   have:(0:Int)=(v:Int):=h3;omega
  subst K7;rw[if_pos rfl] at h5 h6;rw[zz] at h6;have hfl:=Ut (l:=l.reverse)<|fun x hx=>h2 x<|List.mem_reverse.1 hx
  rw[List.length_reverse] at hfl;have bw:∀a b:adx,a.length+b.length<=140737488355328->yC a b=some (a++b,(b.length:Int),()):=by
   intro a b hab;unfold yC;rw[show Nat.ble (a.length+b.length) 140737488355328=true from nE hab];rfl
  refine Yd.jn (fun s=>s.length<=1/\s++dc z.natAbs=eL z) ?_ ?_
  rotate_left
  ·intro k hk;cases Au:decide (z<0) with
   |true=>
    rw[Au] at p1;subst p1;have et:eL z=45::dc z.natAbs:=by unfold eL;rw[Au];rfl
    refine Yd.cond (fun _=>Yd.bd (bw [] [45] (by simp)) (hk ([]++[45]) ⟨by simp,by rw[et];rfl⟩)) (fun h=>by cases h)
   |false=>
    rw[Au] at p1;subst p1;have et:eL z=dc z.natAbs:=by unfold eL;rw[Au];rfl
    exact Yd.cond (fun h=>by cases h) (fun _=>hk [] ⟨by simp,by rw[et];rfl⟩)
  rintro pre ⟨e1,e2⟩;refine Yd.bd (aM ⟨by omega,by omega⟩) ?_;refine Yd.lp (fun t:adx×Int=> -1<=t.2/\t.2<l.length/\t.1=pre++(l.drop (t.2+1).toNat).reverse.flatten) (fun t:adx×Int=>(t.2+1).toNat) ?_ _ _ ⟨by dsimp only;omega,by dsimp only;omega,?_⟩ (by dsimp only;omega)
  rotate_left
  ·dsimp only;rw[show((l.length:Int)-1+1).toNat=l.length from by omega,xC];simp
  rintro aby ⟨b,i⟩ ⟨g1,g2,g3⟩ Pm;dsimp only at g1 g2 g3 Pm⊢;refine Yd.cond (fun hp=>?_)<|fun hp=>?_
  ·have hp:=bf hp;obtain⟨n,rfl⟩:=gk hp;have KA:n<l.length:=by omega
   have ex:bm l (n:Int)=some l[n]:=by
    show l[n]? =_;exact kb KA
   have arG:l[n].length<=18:=h2 _<|qz KA
   have aoq:=Ut (l:=(l.drop (((n:Nat):Int)+1).toNat).reverse)<|fun x hx=>h2 x<|yG<|List.mem_reverse.1 hx
   rw[List.length_reverse,mG] at aoq;refine Yd.bd ex (Yd.bd ex (Yd.bd (bw b l[n] (by rw[g3,List.length_append];omega)) (Yd.bd (aM ⟨by omega,by omega⟩) (Pm _ ⟨by dsimp only;omega,by dsimp only;omega,?_⟩ (by dsimp only;omega)))));dsimp only;rw[show(((n:Nat):Int)-1+1).toNat=n from by omega,g3,show(((n:Nat):Int)+1).toNat=n+1 from by omega,acZ (x:=l[n])<|kb KA,rQ]
  ·have hp:=bP hp;have hi:i= -1:=by omega
   subst hi;have g3:b=pre++l.reverse.flatten:=g3;have eb:b=eL z:=by rw[g3,<-h6,e2]
   have hne:(!b.isEmpty)=true:=by
    rw[eb];have hd:dc z.natAbs≠[]:=fun e=>by
     by_cases h:z.natAbs<10
     ·rw[pE h] at e;cases e
     ·rw[sC h] at e;simp at e
    unfold eL;cases decide (z<0) with
    |true=>rfl
    |false=>
     show(!(dc z.natAbs).isEmpty)=true;cases h:dc z.natAbs with
     |nil=>exact absurd h hd
     |cons _ _=>rfl
   refine Yd.bd (show xI b=some b by unfold xI;rw[hne];rfl)<|Yd.mk ?_
   exact eb
def Hl(n:Nat)(k:Nat):Prop:=Nat.log2 n<k
def aeh(ha:Hl a j)(hb:Hl b k):Hl (a*b) (j+k+1):=by
 unfold Hl at*;by_cases h0:a=0
 ·subst h0;simp
 by_cases h1:b=0
 ·subst h1;simp
 have h2:=(A4 h0).2;have h3:=(A4 h1).2;have h4:a*b<2^(Nat.log2 a+1)*2^(Nat.log2 b+1):=Nat.mul_lt_mul'' h2 h3;rw[<-qa] at h4;have:=(xx<|Nat.mul_ne_zero h0 h1).2 h4;omega
def aei(ha:Hl a k)(hb:Hl b k):Hl (a+b) (k+1):=by
 unfold Hl at*;by_cases h0:a+b=0
 ·rw[h0];simp
 have h2:a<2^k:=by
  by_cases h:a=0
  ·subst h;exact ED _
  ·exact(xx h).1 ha
 have h3:b<2^k:=by
  by_cases h:b=0
  ·subst h;exact ED _
  ·exact(xx h).1 hb
 exact(xx h0).2 (by rw[BS];omega)
def M1(h:a<=b)(hb:Hl b k):Hl a k:=EF (Xy h) hb
def J9(h:Hl z.natAbs k)(hk:k<=1099511627776):tV z=true:=by
 unfold tV;exact nE<|fc h hk
def vK{q:Rat}(h:CT q=true):Hl q.num.natAbs 68719476736/\Hl q.den 68719476736:=by
 unfold CT at h;obtain⟨h1,h2⟩:=eK h;exact⟨gj h1,gj h2⟩
def sT{q:Rat}(h:Hl q.den k):Hl ((q.den:Int)).natAbs k:=by rw[jd];exact h
def Bo{a b:Int}(ha:Hl a.natAbs 68719476736)(hb:Hl b.natAbs 68719476736):Hl (a*b).natAbs 137438953473:=by
 rw[qw];exact aeh ha hb
def ag8{a b:Int}(ha:Hl a.natAbs 137438953473)(hb:Hl b.natAbs 137438953473):Hl (a+b).natAbs 137438953474:=
 M1 (Int.natAbs_add_le a b) (aei ha hb)
def Yj{x y:Int}(hx:Hl x.natAbs j)(hy:Hl y.natAbs k)(hj:j<=1099511627776)(hk:k<=1099511627776):UJ x y=some (x+y):=by
 unfold UJ;rw[J9 hx hj,J9 hy hk];rfl
def Co{x y:Int}(hx:Hl x.natAbs j)(hy:Hl y.natAbs k)(hj:j<=1099511627776)(hk:k<=1099511627776):CR x y=some (x*y):=by
 unfold CR;rw[J9 hx hj,J9 hy hk];rfl
def af2{x y:Int}(hx:Hl x.natAbs j)(hy:Hl y.natAbs k)(hj:j<=1099511627776)(hk:k<=1099511627776):adv x y=some (UB x y):=by
 unfold adv;rw[J9 hx hj,J9 hy hk];rfl
def OE{x y:Int}(hx:Hl x.natAbs j)(hy:Hl y.natAbs k)(hj:j<=1099511627776)(hk:k<=1099511627776)(h0:y≠0):FV x y=some ((x:Rat)/(y:Rat)):=by
 unfold FV;rw[J9 hx hj,J9 hy hk,cr h0];rfl
def TG(q:Rat):Zm q.num q.den=some q:=by
 obtain⟨d,hd⟩:∃d,q.den=d+1:=⟨q.den-1,by have:=q.den_pos;omega⟩;unfold Zm;have hr:=q.reduced;unfold Nat.Coprime at hr;rw[hd] at hr⊢;show yW (Nat.beq (Nat.gcd q.num.natAbs<|d+1) 1) (mkRat q.num<|d+1)=_;rw[hr,<-hd,Ez];rfl
def Lw(x y:Rat):(((x.num*y.den+y.num*x.den:Int)):Rat)/(((x.den:Int)*(y.den:Int):Int):Rat)=x+y:=by
 have h:=Rat.mkRat_add_mkRat x.num y.num x.den_nz y.den_nz;rw[Ez,Ez,Rat.mkRat_eq_div] at h;rw[h,<-tw];rfl
def HD(x y:Rat):(((x.num*y.num:Int)):Rat)/(((x.den:Int)*(y.den:Int):Int):Rat)=x*y:=by
 have h:=Rat.mkRat_mul_mkRat x.num y.num x.den y.den;rw[Ez,Ez,Rat.mkRat_eq_div] at h;rw[h,<-tw];rfl
def PV(h:x.den=1):x=(x.num:Rat):=by
 have h1:=Ez x;rw[h] at h1;rw[<-Rat.mkRat_one,h1]
def tR(x:Rat):(x.den:Int)≠0:=by have:=x.den_pos;omega
def acL(x:Rat):yo x=some (-x):=by
 unfold yo;show bd (Zm (-x.num) x.den) _=_;have:=TG<| -x
 rw[Il,Ik] at this;rw[this];rfl
def Wh(z:Int):DH z=some (z:Rat):=by
 unfold DH;show bd (Zm z 1) _=_;have:=TG (z:Rat);rw[Rat.num_intCast,Rat.den_intCast] at this;rw[show((1:Nat):Int)=1 from rfl] at this;rw[this];rfl
def acQ(hx:CT x=true)(hy:CT y=true):yv x y=some (x+y):=by
 obtain⟨a1,a2⟩:=vK hx;obtain⟨b1,b2⟩:=vK hy;have XZ:(bd (CR x.num (y.den:Int)) fun dz=>
  bd (CR y.num (x.den:Int)) fun fp=>
  bd (UJ dz fp) fun gp=>
  bd (CR (x.den:Int) (y.den:Int)) fun gS=>
  bd (FV gp gS) fun iZ=>
  some iZ)=some (x+y):=by
  rw[Co a1 (sT b2) (by omega) (by omega)];show bd (CR y.num (x.den:Int)) _=_;rw[Co b1 (sT a2) (by omega) (by omega)];show bd (UJ _ _) _=_;rw[Yj (Bo a1<|sT b2) (Bo b1<|sT a2) (by omega) (by omega)];show bd (CR (x.den:Int) (y.den:Int)) _=_;rw[Co (sT a2) (sT b2) (by omega) (by omega)];show bd (FV _ _) _=_;rw[OE (ag8 (Bo a1<|sT b2)<|Bo b1<|sT a2) (Bo (sT a2)<|sT b2) (by omega) (by omega)<|BW (tR x)<|tR y,Lw];rfl
 unfold yv;by_cases h1:x.den=1
 ·by_cases h2:y.den=1
  ·have e1:lQ x=some true:=by unfold lQ;rw[bD h1]
   have e2:lQ y=some true:=by unfold lQ;rw[bD h2]
   rw[e1,e2];show bd (UJ x.num y.num) _=_;rw[Yj a1 b1 (by omega) (by omega)];show some ((x.num+y.num:Int):Rat)=_;rw[Rat.intCast_add,<-PV h1,<-PV h2]
  ·have e1:lQ x=some true:=by unfold lQ;rw[bD h1]
   have e2:lQ y=some false:=by unfold lQ;rw[cr h2]
   rw[e1,e2];exact XZ
 ·have e1:lQ x=some false:=by unfold lQ;rw[cr h1]
  rw[e1];exact XZ
def acM(hx:CT x=true)(hy:CT y=true):yp x y=some (x*y):=by
 obtain⟨a1,a2⟩:=vK hx;obtain⟨b1,b2⟩:=vK hy;unfold yp;rw[Co a1 b1 (by omega) (by omega)];show bd (CR (x.den:Int) (y.den:Int)) _=_;rw[Co (sT a2) (sT b2) (by omega) (by omega)];show bd (FV _ _) _=_;rw[OE (Bo a1 b1) (Bo (sT a2)<|sT b2) (by omega) (by omega)<|BW (tR x)<|tR y,HD];rfl
def aef(y:Rat):CT (-y)=CT y:=by
 unfold CT;rw[Il,Ik,EB]
def acK(hx:CT x=true)(hy:CT y=true):yn x y=some (x-y):=by
 unfold yn;show bd (Bv x<| -y) _=_;unfold Bv;rw[hx,aef,hy];show some (x+ -y)=_;rw[RH]
def acN(hx:CT x=true)(h0:x≠0):yr x=some x⁻¹ :=by
 obtain⟨a1,a2⟩:=vK hx;unfold yr;rw[OE (sT a2) a1 (by omega) (by omega) (by intro e;exact h0<|zy.1 e),Rat.inv_def,vC];rfl
def aeg(h:CT y=true)(h0:y≠0):CT y⁻¹ =true:=by
 obtain⟨a1,a2⟩:=vK h;have hn:y.num≠0:=fun e=>h0<|zy.1 e
 have e:=Rat.inv_def y;have hg:Int.gcd y.num (y.den:Int)=1:=by
  have:=y.reduced;unfold Nat.Coprime at this;unfold Int.gcd;rw[jd];exact this
 have en:(y⁻¹).num.natAbs<=y.den:=by
  rw[e,Ir,hg,show((1:Nat):Int)=1 from rfl,Int.ediv_one,qw,jd];have:y.num.sign.natAbs<=1:=by
   rcases uN y.num 0 with h|h|h
   ·rw[tD h];simp
   ·rw[h];simp
   ·rw[rR h];simp
  calc y.num.sign.natAbs*y.den<=1*y.den:=mI _ this
   _=y.den:=vw _
 have ed:(y⁻¹).den<=y.num.natAbs:=by
  rw[e,Iq,if_neg hn,hg];simp
 unfold CT;rw[show Nat.blt (Nat.log2 (y⁻¹).num.natAbs) 68719476736=true from nE (M1 en a2),show Nat.blt (Nat.log2 (y⁻¹).den) 68719476736=true from nE (M1 ed a1)]
 rfl
def acO(hx:CT x=true)(hy:CT y=true)(h0:y≠0):yt x y=some (x/y):=by
 unfold yt;have e1:aeQ y=some y⁻¹ :=by unfold aeQ;rw[hy,cr h0];rfl
 have e2:nr x y⁻¹ =some (x*y⁻¹):=by unfold nr;rw[hx,aeg hy h0];rfl
 rw[e1];show bd (nr x y⁻¹) _=_;rw[e2,Rat.div_def];rfl
def acP(hx:CT x=true)(hy:CT y=true):yu x y=some (bif decide (x<y) then -1 else bif decide (y<x) then 1 else 0):=by
 obtain⟨a1,a2⟩:=vK hx;obtain⟨b1,b2⟩:=vK hy;unfold yu;rw[Co a1 (sT b2) (by omega) (by omega)];show bd (CR y.num (x.den:Int)) _=_;rw[Co b1 (sT a2) (by omega) (by omega)];show bd (adv _ _) _=_;rw[af2 (Bo a1<|sT b2) (Bo b1<|sT a2) (by omega) (by omega)];show some (UB _ _)=_;unfold UB;have e1:decide (x.num*(y.den:Int)<y.num*(x.den:Int))=decide (x<y):=zB.2 (Rat.lt_iff x y).symm;have e2:decide (y.num*(x.den:Int)<x.num*(y.den:Int))=decide (y<x):=zB.2 (Rat.lt_iff y x).symm;rw[e1,e2]
def ZV(hx:CT x=true)(hy:CT y=true):wD x y=some (decide<|x=y):=by
 unfold wD;have e:oR x y=some (bif decide (x<y) then -1 else bif decide (y<x) then 1 else 0):=by unfold oR;rw[hx,hy];rfl
 rw[e];show some (decide<|(bif decide (x<y) then(-1:Int) else bif decide (y<x) then 1 else 0)=0)=_
 congr 1
 by_cases h1:x<y
 ·rw[bD h1,cr (show¬x=y from fun e=>by subst e;exact absurd h1<|Rat.lt_irrefl)];rfl
 ·by_cases h2:y<x
  ·rw[cr h1,bD h2,cr (show¬x=y from fun e=>by subst e;exact absurd h2<|Rat.lt_irrefl)];rfl
  ·rw[cr h1,cr h2,bD<|show x=y from Rat.le_antisymm (Rat.not_lt.1 h2) (Rat.not_lt.1 h1)];rfl
end
end Trn
namespace Sk
section
open Go.Shelf Go.Sort Go.Lib
def Ue(w:World)(T:TypeId)(nd:Nat)(hs:nd<=24):Holds (fun(b:UInt8)=>Value.int .u8 (b.toNat:Int)) (w.alloc<| .cells zeros24 T) w.heap.size 0 (Array.replicate nd (0:UInt8)):=fun j hj=>by
 have hj':j<nd:=by simpa using hj
 refine⟨?_,World.frozen?_alloc_new _ _ _ _⟩;rw[World.cell?_alloc_new,Nat.zero_add,zeros24_at _ (by omega),getElem!_pos _ j hj];simp
def acW(w:World)(o:Obj)(dk:Array UInt8)(k:Nat):∃os,(putRow (fun(b:UInt8)=>Value.int .u8 (b.toNat:Int)) (w.alloc o) w.heap.size 0 dk).drewN k=Go.Sort.grow (w.drewN k) os:=by
 rw[alloc_eq_grow];obtain⟨os',_,e⟩:=putRow_grow_new (fun(b:UInt8)=>Value.int .u8 (b.toNat:Int)) w #[o] w.heap.size 0 dk (Nat.le_refl _);exact⟨os',by rw[e];rfl⟩
set_option maxHeartbeats 6400000 in
set_option maxRecDepth 100000 in
def Wi(u:Nat)(hu64:u<18446744073709551616)(w:World)
  (htab:Lib.TabIs prog w "internal/strconv.uint64pow10" .u64 Lib.pow10Tab):
  Calls prog 316 #[.int .u64 u,.int .i64 10] w fun e w'=>e= .returned (.string ⟨(Lib.decDigits u).toArray⟩)/\∃k os,w'=Go.Sort.grow (w.drewN k) os:=by
 have L:=TR;have mixed:=L.mixed;have t2:prog.underlying 3=some (.int .i64):=L.t3;have t446:prog.underlying 446=some (.array 24 5):=L.t171;have a446:∀w:World,(isAgg 446).run prog w= .ok true w:=L.a171;have z446:∀w:World,(Go.sizeOf 446).run prog w= .ok 24 w:=L.z171;have v446:=L.v171;have v446:∀w:World,(zeroValue 446).run prog w= .ok (.agg #[.int .u8 0,.int .u8 0,.int .u8 0,.int .u8 0,.int .u8 0,.int .u8 0,.int .u8 0,.int .u8 0,.int .u8 0,.int .u8 0,.int .u8 0,.int .u8 0,.int .u8 0,.int .u8 0,.int .u8 0,.int .u8 0,.int .u8 0,.int .u8 0,.int .u8 0,.int .u8 0,.int .u8 0,.int .u8 0,.int .u8 0,.int .u8 0]) w:=v446;have t9:=L.t9;have t154:prog.underlying 154=some (.slice 5):=L.t37;have e283:∀args w,(callFunc 368 args).run prog w= .ok (.enter 368 args) w:=enters_of L.f283 (by kernel_rfl) rfl;have e284:∀args w,(callFunc 369 args).run prog w= .ok (.enter 369 args) w:=enters_of L.f284 (by kernel_rfl) rfl;have e285:∀args w,(callFunc 370 args).run prog w= .ok (.enter 370 args) w:=enters_of L.f285 (by kernel_rfl) rfl;by_cases hs:u<100
 ·go_enter func316,ntmps316
  go_wp2_with (go_at_fn (368);refine(internal_strconv_small u hs _).mono ?_;rintro e w' ⟨rfl,rfl⟩)
  go_ret
  exact⟨rfl,0,#[],by simp[World.drewN_zero]⟩
 ·have hu1:1<=u:=by omega
  have hnd20:Lib.nDigits u<=20:=by have:=Lib.numDigits_eq u hu1 hu64;split at this<;>omega
  have hb3:Lib.nDigits u<=23:=by omega
  have hal:prog.arrayLen 446=24:=by simp[Program.arrayLen,t446]
  have hsl:∀W,(Instr.sliceAt 446 (.pointer<|some ⟨w.heap.size,0,none⟩) none (some<| .int .i64 (Lib.nDigits u:Int)) none).run prog W= .ok (.slice (some ⟨w.heap.size,0,none⟩) (Lib.nDigits u) 24) W:=fun W=>by
   rw[run_sliceAt_array_h W 446 ⟨w.heap.size,0,none⟩ (by simp[Program.arrayLen,Program.elem,t446]) .i64 (Lib.nDigits u:Int) (by omega) (by rw[hal];omega)]
   go_simp
  have hH0:=Ue w 446 (Lib.nDigits u) (by omega);have hfmt:=internal_strconv_formatBase10 w.heap.size 0 24 u (Array.replicate (Lib.nDigits u) 0) (w.alloc<| .cells Lib.zeros24 446) hH0 (by rw[Array.size_replicate];exact Lib.lt_pow_nDigits u) hu64 (by rw[Array.size_replicate];omega);rw[Array.size_replicate] at hfmt;have HH0:=Lib.hid hH0;clear hH0 hal
  go_enter func316,ntmps316
  go_wp2_with (first
   |(go_at_fn (369);refine(Any.internal_strconv_numDigits {L with} u hu1 hu64 _<|Lib.tabIs_alloc htab _).mono ?_;rintro e w' ⟨rfl,rfl⟩))
  go_at_fn (370)
  refine hfmt.mono ?_;rintro e w' ⟨rfl,k,v',dk,rfl,hF⟩;have hcv:(convert 154 9<| .slice (some ⟨w.heap.size,0,none⟩) (Lib.nDigits u) 24).run prog ((putRow (fun(b:UInt8)=>Value.int .u8 (b.toNat:Int)) (w.alloc<| .cells Lib.zeros24 446) w.heap.size 0 dk).drewN k)= .ok (.string ⟨(Lib.decDigits u).toArray⟩) ((putRow (fun(b:UInt8)=>Value.int .u8 (b.toNat:Int)) (w.alloc<| .cells Lib.zeros24 446) w.heap.size 0 dk).drewN k):=by
   have h:=run_convert_bytes_back (P:=prog) ((putRow (fun(b:UInt8)=>Value.int .u8 (b.toNat:Int)) (w.alloc<| .cells Lib.zeros24 446) w.heap.size 0 dk).drewN k) 154 9 5 ⟨w.heap.size,0,none⟩ 24 (Lib.decDigits u) L.t37 L.t5 L.t9 (fun j hj=>by
    rw[Lib.row_is_numeral hF j hj,Lib.add_plain,World.cell?_drewN];exact cell?_putRow (fun(b:UInt8)=>Value.int .u8 (b.toNat:Int)) _ w.heap.size 0 _ dk HH0.out (by rw[hF.size,Array.size_replicate]) j (by rw[hF.size];rw[Lib.decDigits_length] at hj;exact hj))
   rw[Lib.decDigits_length] at h;exact h
  go_wp2
  go_ret
  obtain⟨os,eo⟩:=acW w (.cells Lib.zeros24 446) dk k;exact⟨rfl,k,os,eo⟩
set_option maxHeartbeats 6400000 in
set_option maxRecDepth 100000 in
def R8(u:Nat)(hu64:u<18446744073709551616)(w:World)
  (htab:Lib.TabIs prog w "internal/strconv.uint64pow10" .u64 Lib.pow10Tab):
  Calls prog 255 #[.int .u64 u,.int .i64 10] w fun e w'=>e= .returned (.string ⟨(Lib.decDigits u).toArray⟩)/\∃k os,w'=Go.Sort.grow (w.drewN k) os:=by
 have L:=TR;have mixed:=L.mixed;have e316:∀args w,(callFunc 316 args).run prog w= .ok (.enter 316 args) w:=enters_of func316 (by kernel_rfl) rfl;have h:=Wi u hu64 w htab
 go_enter func255,ntmps255
 go_wp2_with (go_at_fn (316);refine h.mono ?_;rintro e w' ⟨rfl,k,os,rfl⟩)
 go_ret
 exact⟨rfl,k,os,rfl⟩
def Oi(w:World):∀k,(w.drewN k).os=w.os/\(w.drewN k).tape=w.tape/\(w.drewN k).output=w.output/\(w.drewN k).heap=w.heap
 |0=>⟨rfl,rfl,rfl,rfl⟩
 |k+1=>Oi w.drew k
def OB{w:World}{k:Nat}{os:Array Obj}:Below w.heap.size w (Go.Sort.grow (w.drewN k) os):=by
 obtain⟨h1,h2,h3,h4⟩:=Oi w k;refine⟨h1,h2,h3,?_,fun i hi=>?_⟩
 ·show w.heap.size<=((w.drewN k).heap++os).size;rw[h4,Array.size_append];omega
 ·show((w.drewN k).heap++os)[i]? =_;rw[h4,Array.getElem?_append_left hi]
end
end Sk
namespace Trn
section
variable{P:Program}
variable{T:aq9}{α:Type}{dep off:Nat}{fs:ard (aq9×Nat)}{I5:α->ard Ty}{eb:α->α->Bool}
structure wT(P:arb)(T:aq9){α:Type}[DecidableEq α](f:α->Ty)(n:Nat)(agg:Bool)(dep:Nat):Prop where
 lay:dR P T n agg=true
 sz:∀x,(f x).n=n
 ag:∀x,(f x).agg=agg
 eq:∀(d:Nat) (H:HV) (u v:apU) (x y:α),(f x).ok H u->(f y).ok H v->∀w:apT,(Op.equalIn (d+dep) T u v).run P w= .ok (decide<|x=y) w
 chk:∀(d:Nat) (e:Bool) (H:HV) (u:apU) (x:α),(f x).ok H u->∀w:apT,(Instr.checkKey e (d+dep) T u).run P w= .ok () w
 uniq:∀(H:HV) (u v:apU) (x:α),(f x).ok H u->(f x).ok H v->u=v
 leaf:∀(H:HV) (u:apU) (x:α),(f x).ok H u->∀c∈u.cells.toList,∀m,Instr.sameBits m c c=true
def toList_inj{a b:adx}:((⟨a.toArray⟩:ByteArray).toList==(⟨b.toArray⟩:ByteArray).toList)=decide (a=b):=by
 rw[ByteArray.toList_eq,ByteArray.toList_eq];show(a.toArray.toList==b.toArray.toList)=_;simp only[List.toList_toArray];by_cases h:a=b
 ·subst h;simp
 ·rw[cr h];simpa using h
def Zu(hl:dR P T 1 false=true)(hu:P.underlying T=some .string):wT P T TS 1 false 1 where
 lay:=hl
 sz _:=rfl
 ag _:=rfl
 eq d H u v x y NR VX w:=by
  have NR:u= .string ⟨x.toArray⟩:=NR;have VX:v= .string ⟨y.toArray⟩:=VX;subst NR;subst VX;rw[run_equalIn_string w d T _ _ hu,toList_inj]
 chk d e H u x NR w:=by
  have NR:u= .string ⟨x.toArray⟩:=NR;subst NR;simp[Instr.checkKey,aO hu]
 uniq H u v x h1 h2:=Eq.trans h1<|Eq.symm h2
 leaf H u x h c hc m:=by
  have h:u= .string ⟨x.toArray⟩:=h;subst h;have hc:c= .string ⟨x.toArray⟩:=by simpa[Value.cells] using hc
  subst hc;simp only[Instr.sameBits];rw[beq_toListBytes];simp
def ahR{k:IntKind}(hl:dR P T 1 false=true)(hu:P.underlying T=some (.int k)):wT P T (TI k) 1 false 1 where
 lay:=hl
 sz _:=rfl
 ag _:=rfl
 eq d H u v x y NR VX w:=by
  have NR:u= .int k x:=NR;have VX:v= .int k y:=VX;subst NR;subst VX;rw[run_equalIn_int w d T k k _ _ hu]
  rfl
 chk d e H u x NR w:=by
  have NR:u= .int k x:=NR;subst NR;simp[Instr.checkKey,aO hu]
 uniq H u v x h1 h2:=Eq.trans h1<|Eq.symm h2
 leaf H u x h c hc m:=by
  have h:u= .int k x:=h;subst h;have hc:c= .int k x:=by simpa[Value.cells] using hc
  subst hc;simp[Instr.sameBits]
def afk(hl:dR P T 1 false=true)(hu:P.underlying T=some .bool):wT P T aY 1 false 1 where
 lay:=hl
 sz _:=rfl
 ag _:=rfl
 eq d H u v x y NR VX w:=by
  have NR:u= .bool x:=NR;have VX:v= .bool y:=VX;subst NR;subst VX;rw[run_equalIn_bool' w d T _ _ hu];cases x<;>cases y<;>rfl
 chk d e H u x NR w:=by
  have NR:u= .bool x:=NR;subst NR;simp[Instr.checkKey,aO hu]
 uniq H u v x h1 h2:=Eq.trans h1<|Eq.symm h2
 leaf H u x h c hc m:=by
  have h:u= .bool x:=h;subst h;have hc:c= .bool x:=by simpa[Value.cells] using hc
  subst hc;simp[Instr.sameBits]
def wT.ac5[DecidableEq α]{f:α->Ty}{n:Nat}{agg:Bool}{Z1:Nat}(h:wT P T f n agg dep)(hd:dep<=Z1):wT P T f n agg Z1 where
 lay:=h.lay
 sz:=h.sz
 ag:=h.ag
 eq d H u v x y h1 h2 w:=by rw[show d+Z1=(d+(Z1-dep))+dep from by omega];exact h.eq _ H u v x y h1 h2 w
 chk d e H u x h1 w:=by rw[show d+Z1=(d+(Z1-dep))+dep from by omega];exact h.chk _ e H u x h1 w
 uniq:=h.uniq
 leaf:=h.leaf
inductive Rows(P:arb){α:Type}(dep:Nat):ard (aq9×Nat)->Nat->(α->ard Ty)->(α->α->Bool)->Prop where
 |nil {off:Nat}:Rows P dep [] off (fun _=>[]) (fun _ _=>true)
 |cons {T:aq9} {off n:Nat} {agg:Bool} {β:Type} [DecidableEq β] {g:β->Ty} {acc:α->β} {fs:ard (aq9×Nat)} {I5:α->ard Ty} {eb:α->α->Bool}:
   wT P T g n agg dep->Rows P dep fs (off+n) I5 eb->Rows P dep ((T,off)::fs) off (fun x=>g (acc x)::I5 x) (fun x y=>decide (acc x=acc y)&&eb x y)
def eqL(d:Nat)(xs ys:ath apU):ard (aq9×Nat)->Sem Bool
 |[]=>pure true
 |(T,o)::fs=>do
  let a<-part T xs o
  let b<-part T ys o
  let r<-Op.equalIn d T a b
  if(!r)=true then pure false else eqL d xs ys fs
def Pt(e:Bool)(d:Nat)(xs:ath apU):ard (aq9×Nat)->Sem Unit
 |[]=>pure ()
 |(T,o)::fs=>do
  let a<-part T xs o
  Instr.checkKey e d T a
  Pt e d xs fs
def Jz{n:Nat}{agg:Bool}{τ:Ty}{l:ard Ty}{H:HV}{cs:ath apU}(hl:dR P T n agg=true)(hn:τ.n=n)(ha:τ.agg=agg)(h:uD H (τ::l) (cs.toList.drop off))(ho:off<=cs.size):
  ∃v,(∀w,(part T cs off).run P w= .ok v w)/\τ.ok H v/\uD H l (cs.toList.drop<|off+n)/\off+n<=cs.size:=by
 have hlen:=nB h;rw[mG,gi] at hlen;have hc:cw (τ::l)=τ.n+cw l:=rfl;rw[hc,hn] at hlen;have hle:off+n<=cs.size:=by omega
 obtain⟨v,rest,e,hv,hr⟩:=h;have hs:=τ.shape hv;have e1:(cs.toList.drop off).take n=v.cells.toList:=by
  rw[e,<-hn,<-hs.size,<-gi,LO]
 refine⟨v,fun w=>?_,hv,?_,hle⟩
 ·rw[Nk hl hle,e1];have:=hs.eq;rw[ha] at this;rw[Array.toArray_toList];exact congrArg (fun z=>Result.ok z w) this.symm
 ·rw[<-iF,e,<-hn,<-hs.size,<-gi,EC];exact hr
def aeF(h:Rows P dep fs off I5 eb):∀(d:Nat) (H:HV) (cs ds:ath apU) (x y:α),uD H (I5 x) (cs.toList.drop off)->uD H (I5 y) (ds.toList.drop off)->off<=cs.size->off<=ds.size->
  ∀w:apT,(eqL (d+dep) cs ds fs).run P w= .ok (eb x y) w:=by
 induction h with
 |nil=>intro d H cs ds x y _ _ _ _ w;rfl
 |cons hk hr ih=>
  intro d H cs ds x y h1 h2 o1 o2 w;obtain⟨u,p1,k1,r1,s1⟩:=Jz hk.lay (hk.sz _) (hk.ag _) h1 o1;obtain⟨v,p2,k2,r2,s2⟩:=Jz hk.lay (hk.sz _) (hk.ag _) h2 o2;unfold eqL;simp only[eN,p1,p2,hk.eq d H u v _ _ k1 k2,eE];split
  ·rename_i hb;rw[gY] at hb;rw[hb];rfl
  ·rename_i hb;rw[gY,Bool.not_eq_false] at hb;rw[hb,pq];exact ih d H cs ds x y r1 r2 s1 s2 w
def aa0(h:Rows P dep fs off I5 eb):∀(d:Nat) (e:Bool) (H:HV) (cs:ath apU) (x:α),uD H (I5 x) (cs.toList.drop off)->off<=cs.size->
  ∀w:apT,(Pt e (d+dep) cs fs).run P w= .ok () w:=by
 induction h with
 |nil=>intro d e H cs x _ _ w;rfl
 |cons hk hr ih=>
  intro d e H cs x h1 o1 w;obtain⟨u,p1,k1,r1,s1⟩:=Jz hk.lay (hk.sz _) (hk.ag _) h1 o1;unfold Pt;simp only[eN,p1,hk.chk d e H u _ k1,eE];exact ih d e H cs x r1 s1 w
def Y4(h:Rows P dep fs off I5 eb):∀(H:HV) (cs ds:ard apU) (x:α),uD H (I5 x) cs->uD H (I5 x) ds->cs=ds:=by
 induction h with
 |nil=>intro H cs ds x h1 h2;exact Eq.trans h1<|Eq.symm h2
 |cons hk hr ih=>
  rintro H cs ds x ⟨u,r1,e1,k1,o1⟩ ⟨v,r2,e2,k2,o2⟩;rw[e1,e2,hk.uniq H u v _ k1 k2,ih H r1 r2 x o1 o2]
def Y5(h:Rows P dep fs off I5 eb):∀(H:HV) (cs:ard apU) (x:α),uD H (I5 x) cs->∀c∈cs,∀m,Instr.sameBits m c c=true:=by
 induction h with
 |nil=>intro H cs x h1 c hc;rw[show cs=[] from h1] at hc;cases hc
 |cons hk hr ih=>
  rintro H cs x ⟨u,r1,e1,k1,o1⟩ c hc m;rw[e1] at hc;rcases lN.1 hc with hc|hc
  ·exact hk.leaf H u _ k1 c hc m
  ·exact ih H r1 x o1 c hc m
def Qg(d:Nat)(e:aq9)(c:Nat)(xs ys:ath apU):∀is:ard Nat,Op.eqItems d e c xs ys is=eqL d xs ys (is.map fun i=>(e,i*c))
 |[]=>rfl
 |i::is=>by
  unfold Op.eqItems;rw[tH];unfold eqL;simp only[Qg d e c xs ys is]
def NG(fs:ard Field):Bool:=fs.all fun f=>decide<|f.name≠ "_"
def Oc(d:Nat)(xs ys:ath apU):∀fs:ard Field,NG fs=true->Op.eqFields d xs ys fs=eqL d xs ys (fs.map fun f=>(f.type,f.offset))
 |[],_=>rfl
 |f::fs,h=>by
  unfold NG at h;rw[rz,bV,jJ] at h;unfold Op.eqFields;rw[if_pos h.1,tH];unfold eqL;simp only[Oc d xs ys fs h.2]
def Wu(e:Bool)(d:Nat)(t:aq9)(xs:ath apU){w:apT}(ht:P.underlying t=some (.struct<|P.fieldsOf t))(hn:NG (P.fieldsOf t).toList=true):
  (Instr.checkKey e (d+1) t<| .agg xs).run P w=(Pt e d xs<|(P.fieldsOf t).toList.map fun f=>(f.type,f.offset)).run P w:=by
 simp only[Instr.checkKey,eN,pt ht,eE];rw[<-Array.forIn_toList]
 generalize (P.fieldsOf t).toList=fs at hn
 clear ht
 induction fs generalizing w with
 |nil=>simp[Pt]
 |cons f fs ih=>
  unfold NG at hn;rw[rz,bV,jJ] at hn;simp only[List.forIn_cons,tH,Pt,eN,Sem.run_ite,if_pos hn.1]
  generalize (part f.type xs f.offset).run P w=r1
  cases r1 with
  |ok a w1=>
   simp only[eE]
   generalize (Instr.checkKey e d f.type a).run P w1=r2
   cases r2 with
   |ok b w2=>
    simp only[eE,ot];exact ih hn.2
   |halt x w2=>simp[Result.andThen]
  |halt x w1=>simp[Result.andThen]
end
end Trn
