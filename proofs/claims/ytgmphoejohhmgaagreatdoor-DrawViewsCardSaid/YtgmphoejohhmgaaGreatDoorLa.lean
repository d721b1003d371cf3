/-
  Part of the proof of DrawViews.
-/
import Derived.Test.YtgmphoejohhmgaaGreatDoorHc
set_option maxRecDepth 100000
set_option maxHeartbeats 20000000
set_option linter.all false
open Go Go.RowKit Go.Proofs Go.Proofs.Tryz
namespace Trn
section
variable{n:Nat}{l:ard Int}{k:Nat}{x:Int}{a:ard Int}{p:Bool×ard Int}{b:ard Int}{z:Int}{j m:Nat}{y:Int}{u:ard Int}{ρ:Type}{w v:ard Int}{q:Rat}{u0 v0 v1:Int}{R:ρ->Prop}{U2:Int}{i:Nat}{f:Int}
abbrev BT:Int:=1000000000
def aG:ard Int->Int
 |[]=>0
 |x::l=>x+BT*aG l
def qS(l:ard Int):Prop:=∀x∈l,0<=x/\x<BT
def iY(n:Nat):Int:=BT^n
def xX:iY 0=1:=rfl
def jM(n:Nat):iY (n+1)=BT*iY n:=by unfold iY;rw[Int.pow_succ,Int.mul_comm]
def rp:∀n,0<iY n
 |0=>by rw[xX];omega
 |n+1=>by rw[jM];have:=rp n;unfold BT;omega
def Ly(m n:Nat):iY (m+n)=iY m*iY n:=by unfold iY;rw[Int.pow_add]
def lq(x:Int)(l:ard Int):aG (x::l)=x+BT*aG l:=rfl
def nu:∀(l m:ard Int),aG (l++m)=aG l+iY l.length*aG m
 |[],m=>by simp[aG,xX]
 |x::l,m=>by
  rw[LS,lq,lq,nu l m,List.length_cons,jM,bp,eS];omega
def LB:qS []:=by intro x h;cases h
def HU:qS (x::l)↔(0<=x/\x<BT)/\qS l:=by
 unfold qS;simp only[bM,forall_eq_or_imp]
def BI{m:ard Int}:qS (l++m)↔qS l/\qS m:=by
 unfold qS;constructor
 ·exact fun h=>⟨fun x hx=>h x<|B7 _ hx,fun x hx=>h x<|Ap _ hx⟩
 ·rintro⟨h1,h2⟩ x hx;rcases lN.1 hx with h|h
  ·exact h1 x h
  ·exact h2 x h
def mf(h:qS l)(n:Nat):qS (l.take n):=fun x hx=>h x<|tC hx
def ye(h:qS l)(n:Nat):qS (l.drop n):=fun x hx=>h x<|yG hx
def gN(h:qS l)(n:Nat):0<=l.getD n 0/\l.getD n 0<BT:=by
 by_cases hn:n<l.length
 ·have:l.getD n 0=l[n]:=by simp[gy,hn]
  rw[this];exact h _<|qz hn
 ·have:l.getD n 0=0:=by simp[gy,hn]
  rw[this];unfold BT;omega
def Ag(n:Nat):qS (List.replicate n 0):=fun x hx=>by
 rw[(List.mem_replicate.1 hx).2];unfold BT;omega
def HT(h:qS l)(n:Nat)(hx:0<=x/\x<BT):qS (l.set n x):=fun y hy=>by
 rcases List.mem_or_eq_of_mem_set hy with h'|h'
 ·exact h y h'
 ·subst h';exact hx
def De:∀n,aG (List.replicate n 0)=0
 |0=>rfl
 |n+1=>by rw[List.replicate_succ,lq,De n];omega
def bX:∀{l:ard Int},qS l->0<=aG l/\aG l<iY l.length
 |[],_=>by simp[aG,xX]
 |x::l,h=>by
  rw[HU] at h;obtain⟨h1,h2⟩:=bX h.2;rw[lq,List.length_cons,jM];have:=h.1;unfold BT at*;omega
def mT(h:n<l.length):aG (l.take<|n+1)=aG (l.take n)+iY n*l.getD n 0:=by
 rw[sR h,nu,List.length_take,fA (by omega)];simp[aG]
def o7(l:ard Int)(n:Nat)(h:n<=l.length):aG l=aG (l.take n)+iY n*aG (l.drop n):=by
 conv=>lhs;rw[<-yI n l]
 rw[nu,List.length_take,fA h]
def uq:∀{l:ard Int},qS l->l≠[]->l.getLast?≠some 0->iY (l.length-1)<=aG l
 |[],_,h,_=>absurd rfl h
 |[x],h,_,hl=>by
  rw[HU] at h;have:x≠0:=fun e=>hl (by rw[e];rfl)
  simp[aG,xX];omega
 |x::y::l,h,_,hl=>by
  rw[HU] at h;have:=uq (l:=y::l) h.2 (by simp) (by simpa using hl);rw[lq,show(x::y::l).length-1=(y::l).length-1+1 from by simp,jM];have:=h.1;unfold BT at*;omega
def se(w:ard Int):Prop:=qS w/\w.getLast?≠some 0
def se.nil:se []:=⟨LB,by simp⟩
def se.len(h:se w)(hv:aG w<iY n):w.length<=n:=by
 by_cases h0:w=[]
 ·subst h0;simp
 ·have h1:=uq h.1 h0 h.2;rcases jI n w.length with h2|h2
  ·have:iY n<=iY (w.length-1):=by
    obtain⟨k,hk⟩:∃k,w.length-1=n+k:=⟨w.length-1-n,by omega⟩;rw[hk,Ly];have a:=rp n;have b:=rp k;have:iY n*1<=iY n*iY k:=jB (by omega) (by omega);omega
   omega
  ·exact h2
def WR(h:n<l.length):aG l=aG (l.take n)+iY n*(l.getD n 0+BT*aG (l.drop<|n+1)):=by
 rw[o7 l n (by omega)]
 congr 2
 rw[BQ h,lq]
 congr 1
 simp[gy,h]
def To(h:m<=n):iY m<=iY n:=by
 obtain⟨k,rfl⟩:∃k,n=m+k:=⟨n-m,by omega⟩;rw[Ly];have a:=rp m;have b:=rp k;have:iY m*1<=iY m*iY k:=jB (by omega) (by omega);omega
def Bm(ha:qS a)(hb:se b)(h:a.length<b.length):aG a<aG b:=by
 have h1:=(bX ha).2;have h2:=uq hb.1 (by intro e;subst e;simp at h) hb.2;have h3:=To (show a.length<=b.length-1 by omega);omega
def di(l:ard Int)(n:Nat):aG (l.take<|n+1)=aG (l.take n)+iY n*l.getD n 0:=by
 rcases jI n l.length with h|h
 ·exact mT h
 ·rw[zH h,eJ (by omega),eJ h];omega
def MW(h:aG (l.drop n)=0)(hk:qS l)(hm:n<=m):l.getD m 0=0:=by
 have key:∀(l:ard Int) (j:Nat),qS l->aG l=0->l.getD j 0=0:=by
  intro l
  induction l with
  |nil=>intro j _ _;simp
  |cons x l ih=>
   intro j hk hv;rw[HU] at hk;rw[lq] at hv;have h1:=(bX hk.2).1;have hx:=hk.1;unfold BT at*;cases j with
   |zero=>simp;omega
   |succ j=>simpa using ih j hk.2 (by omega)
 have:=key (l.drop n) (m-n) (ye hk n) h;simpa[gy,yF,show n+(m-n)=m by omega] using this
def afe{q r:Int}(e:q*v1+r=U2)(h:BT*r+u0<q*v0):(u0+BT*U2)+1<=q*(v0+BT*v1):=by
 rw[bp,iu q BT v1,<-e,bp];omega
def aff{q r:Int}(e:q*v1+r=U2)(hr:r<v1)(hu:u0<BT)(hq:0<=q)(hv:0<=v0):(u0+BT*U2)+1<=(q+1)*(v0+BT*v1):=by
 rw[bp,iu _ BT v1,<-e,kD q 1 v1,Int.one_mul];have:0<=(q+1)*v0:=qx (by omega) hv;unfold BT at*;omega
def afg{q R P UL VL:Int}(e:q*v1+R=U2)(hq:0<=q/\q<BT)(hR:0<=R)(K7:0<=v0/\v0<BT)(hu0:0<=u0)(hv1:BT<=2*v1)(h:BT<=R\/q*v0<=BT*R+u0)
 (hP:0<P)(hU:0<=UL)(hV:VL<P)(hV0:0<=VL):(q-1)*(VL+P*(v0+BT*v1))<=UL+P*(u0+BT*U2):=by
 have hY:q*(v0+BT*v1)<=u0+BT*U2:=by
  rw[bp,iu q BT v1,<-e,bp];have:q*v0<=BT*R+u0:=by
   rcases h with h|h
   ·have:q*v0<=(BT-1)*(BT-1):=vz (by omega) (by omega) K7.1 (by unfold BT;omega);unfold BT at*;omega
   ·exact h
  omega
 have h1:=jB hY<|fH hP
 have h2:q*VL<=BT*P:=vz (by omega) (by omega) hV0 (by unfold BT;omega);have h3:P*BT<=P*(v0+BT*v1):=jB (by unfold BT at*;omega)<|fH hP
 rw[Int.sub_mul,Int.one_mul,bp q,iu q P];rw[Int.mul_comm P BT] at h3;omega
def ahP{u1 u2 P UL VL:Int}(hP:0<P)(hU:0<=UL)(hu0:0<=u0)(hu1:0<=u1)(hV:VL<P)(K7:v0<BT)(h:UL+P*(u0+BT*(u1+BT*u2))<BT*(VL+P*(v0+BT*v1))):u2<=v1:=by
 rcases(show v1<u2\/u2<=v1 by omega) with h'|h'
 ·exfalso;have h1:BT*(v0+BT*v1+1)<=u0+BT*(u1+BT*u2):=by unfold BT at*;omega
  have h2:=jB h1<|fH hP
  rw[iu P BT,bp P _ 1,po] at h2;rw[bp BT VL] at h;rw[bp BT _ P] at h2;have h3:BT*VL<=BT*P:=jB (by omega) (by unfold BT;omega);omega
 ·exact h'
def YJ(h:l.length=k+3):aG l=aG (l.take k)+iY k*(l.getD k 0+BT*(l.getD (k+1) 0+BT*l.getD (k+2) 0)):=by
 have h1:aG (l.take<|k+3)=aG l:=by rw[eJ (by omega)]
 rw[<-h1,di,di,di,jM<|k+1,jM,bp,bp,bp,iu (iY k) BT,iu (iY k) BT,iu (iY k) BT,eS,eS,eS];omega
def YK(h:l.length=k+2):aG l=aG (l.take k)+iY k*(l.getD k 0+BT*l.getD (k+1) 0):=by
 have h1:aG (l.take<|k+2)=aG l:=by rw[eJ (by omega)]
 rw[<-h1,di,di,jM,bp,iu (iY k) BT,eS];omega
def Oh(h:qS l)(hl:n<=l.length)(hv:aG l<iY n):aG (l.drop n)=0:=by
 have h1:=o7 l n hl;have h2:=(bX<|ye h n).1;have h3:=(bX<|mf h n).1;rcases(show aG (l.drop n)=0\/1<=aG (l.drop n) by omega) with h4|h4
 ·exact h4
 ·have:=jB h4 (fH<|rp n);omega
def div_pos(hx:0<=x)(hy:0<y)(hb:x<=9223372036854775807):uV x y=some (x/y):=by
 unfold uV;rw[cr (by omega),Int.tdiv_eq_ediv_of_nonneg hx];have h1:=qy hx<|fH hy
 have h2:=zA y hx;exact aM ⟨by omega,by omega⟩
def xW(ha:qS a)(hl:a.length<1099511627776):Yd (fun w=>se w/\aG w=aG a/\w.length<=a.length) (j4 a):=by
 unfold j4;refine Yd.lp (fun s:ard Int=>qS s/\aG s=aG a/\s.length<=a.length) (fun s=>s.length) ?_ _ _ ⟨ha,rfl,bC _⟩ (by omega);rintro next s ⟨h1,h2,h3⟩ hn
 refine Yd.fR (fun hg=>?_)<|fun hg=>?_
 ·have hs:(0:Int)<s.length:=bf hg;obtain⟨n,KA⟩:∃n,s.length=n+1:=⟨s.length-1,by omega⟩;have e1:(s.length:Int)-1=(n:Int):=by omega
  rw[e1];refine⟨(n:Int),aM ⟨by omega,by omega⟩,Yd.fR (fun _=>⟨s.getD n 0,bQ (by omega),Yd.cond (fun hc=>?_)<|fun hc=>?_⟩) (fun h=>by rw[hg] at h;cases h)⟩
  ·obtain⟨_,hz⟩:=eK hc;have hz:=bf hz;refine Yd.bd (aM ⟨by omega,by omega⟩) (Yd.bd (jE (by omega) (by omega) (by omega)) ?_);have e:(s.take ((n:Nat):Int).toNat).drop (0:Int).toNat=s.take n:=by simp
   rw[e];have hv:aG s=aG (s.take n):=by
    have:=mT (l:=s) (n:=n) (by omega);rw[hz,zw,Ev,eJ (by omega)] at this;exact this
   exact hn _ ⟨mf h1 n,by rw[<-hv];exact h2,by simp;omega⟩ (by simp;omega)
  ·refine Yd.mk ⟨⟨h1,?_⟩,h2,h3⟩;rw[bD hs,pq] at hc;have hz:=bP hc;have e:s=s.take n++[s.getD n 0]:=by rw[<-sR (by omega),eJ (by omega)]
   rw[e];simpa using hz
 ·have hs: ¬(0:Int)<s.length:=bP hg;have hs:s=[]:=rT (by omega);subst hs;exact Yd.fR (fun h=>by rw[hg] at h;cases h) (fun _=>Yd.cond (fun hc=>by simp at hc)<|fun _=>Yd.mk ⟨se.nil,h2,h3⟩)
def rj(p:Bool×ard Int)(z:Int):Prop:=se p.2/\aG p.2=(z.natAbs:Int)/\p.1=decide (z<0)
def se.pos(h:se w)(h0:w≠[]):0<aG w:=by
 have:=uq h.1 h0 h.2;have:=rp<|w.length-1
 omega
def Nn{b:Bool}(ha:qS a)(hl:a.length<1099511627776):Yd (fun p=>rj p (bif b then -aG a else aG a)/\p.2.length<=a.length) (fa b a):=by
 unfold fa;refine Yd.jQ (xW ha hl) fun w ⟨h1,h2,h3⟩=>Yd.mk ⟨⟨h1,?_,?_⟩,h3⟩
 ·have:=(bX h1.1).1;rw[<-h2];cases b
  ·show aG w=((aG w).natAbs:Int);omega
  ·show aG w=((-aG w).natAbs:Int);omega
 ·have hz:=(bX h1.1).1;by_cases hw:w=[]
  ·subst hw;have:aG a=0:=h2.symm;rw[this];cases b<;>rfl
  ·have hp:=h1.pos hw;have hlw:0<w.length:=B5.2 hw;rw[<-h2];cases b
   ·have e2:decide (aG w<0)=false:=cr (by omega);show false=decide (aG w<0);rw[e2]
   ·show(true&&decide ((0:Int)<w.length))=decide (-aG w<0);have e1:decide ((0:Int)<w.length)=true:=bD (by omega);have e2:decide (-aG w<0)=true:=bD (by omega);rw[e1,e2];rfl
def zb(ha:se a)(hb:se b)(ZJ:a.length<4398046511104)(ZI:b.length<4398046511104):
  Yd (fun r=>(r= -1/\aG a<aG b)\/(r=0/\aG a=aG b)\/(r=1/\aG b<aG a)) (jO a b):=by
 unfold jO;refine Yd.cond (fun hc=>Yd.cond (fun hd=>?_)<|fun hd=>?_)<|fun hc=>?_
 ·have hd:=bf hd;exact Yd.mk (.inl ⟨rfl,Bm ha.1 hb (by omega)⟩)
 ·have hd:=bP hd;rw[gY,kE] at hc;exact Yd.mk (.inr (.inr ⟨rfl,Bm hb.1 ha (by omega)⟩))
 ·rw[LW,jJ] at hc;have hl:a.length=b.length:=by omega
  refine Yd.bd (aM ⟨by omega,by omega⟩) ?_;refine Yd.lp (fun s:Int=> -1<=s/\s<a.length/\a.drop (s+1).toNat=b.drop (s+1).toNat) (fun s:Int=>(s+1).toNat) ?_ _ _ ⟨by omega,by omega,?_⟩ (by omega)
  ·rintro next s ⟨h0,h1,h2⟩ hn
   refine Yd.cond (fun hp=>?_)<|fun hp=>?_
   ·have hp:=bf hp;obtain⟨n,rfl⟩:=gk hp;have en:(((n:Nat):Int)+1).toNat=n+1:=by omega
    rw[en] at h2;have gA:bm a (n:Int)=some (a.getD n 0):=bQ (by omega);have gB:bm b (n:Int)=some (b.getD n 0):=bQ (by omega);refine Yd.bd gA<|Yd.bd gB ?_
    have eA:=WR (l:=a) (n:=n) (by omega);have eB:=WR (l:=b) (n:=n) (by omega);rw[h2] at eA;obtain⟨tA0,tA⟩:=bX<|mf ha.1 n
    obtain⟨tB0,tB⟩:=bX<|mf hb.1 n
    rw[List.length_take,fA (by omega)] at tA tB;have hpw:=rp n;have dA:=ng (l:=a) (n:=n) (by omega);have dB:=ng (l:=b) (n:=n) (by omega)
    generalize a.getD n 0=X at*
    generalize b.getD n 0=Y at*
    have eA':aG a=aG (a.take n)+iY n*X+iY n*(BT*aG (b.drop<|n+1)):=by rw[eA,bp];omega
    have eB':aG b=aG (b.take n)+iY n*Y+iY n*(BT*aG (b.drop<|n+1)):=by rw[eB,bp];omega
    refine Yd.cond (fun hlt=>?_)<|fun hlt=>Yd.bd gA<|Yd.bd gB<|Yd.cond (fun hgt=>?_)<|fun hgt=>?_
    ·have hlt:=bf hlt;have:iY n*(X+1)<=iY n*Y:=jB (by omega) (by omega);rw[bp,po] at this;exact Yd.mk (.inl ⟨rfl,by omega⟩)
    ·have hgt:=bf hgt;have:iY n*(Y+1)<=iY n*X:=jB (by omega) (by omega);rw[bp,po] at this;exact Yd.mk (.inr (.inr ⟨rfl,by omega⟩))
    ·have hlt:=bP hlt;have hgt:=bP hgt;have hx:X=Y:=by omega
     refine Yd.bd (aM ⟨by omega,by omega⟩) (hn _ ⟨by omega,by omega,?_⟩ (by omega));have:(((n:Nat):Int)-1+1).toNat=n:=by omega
     rw[this,dA,dB,hx,h2]
   ·have hp:=bP hp;have:s= -1:=by omega
    subst this;exact Yd.mk (.inr (.inl ⟨rfl,by simpa using congrArg aG h2⟩))
  ·have:((a.length:Int)-1+1).toNat=a.length:=by omega
   rw[this,xC,hl,xC]
def Ju:nV a (n:Int)=some (a.getD n 0):=by
 unfold nV;by_cases h:n<a.length
 ·rw[bD (by omega)];show bd (bm a (n:Int)) _=_;rw[bQ h];rfl
 ·rw[cr (by omega),zH (by omega)];rfl
def adq(h:l.length<1099511627776):fe 8 l [x]=some (l++[x]):=by
 unfold fe;rw[List.length_singleton,bD (by omega),bD (by omega)];rfl
def Ph(ha:qS a)(hb:qS b)(ZJ:a.length<4398046511)(ZI:b.length<4398046511):Yd (fun w=>qS w/\aG w=aG a+aG b/\w.length<=max a.length b.length+1) (oG a b):=by
 unfold oG;refine Yd.lp (fun s:ard Int×Int×Int=>qS s.1/\(s.2.1=0\/s.2.1=1)/\s.2.2=s.1.length/\s.1.length<=max a.length b.length+1/\(s.1.length=max a.length b.length+1->s.2.1=0)/\
   aG s.1+iY s.1.length*s.2.1=aG (a.take s.1.length)+aG (b.take s.1.length)) (fun s=>max a.length b.length+1-s.1.length) ?_ _ _ ⟨LB,.inl rfl,rfl,by simp,fun _=>rfl,by simp[aG]⟩ (by dsimp only;simp;omega)
 rintro next ⟨o,c,i⟩ ⟨h1,h2,h3,h4,h5,h6⟩ hn
 dsimp only at h1 h2 h3 h4 h5 h6 hn⊢;subst h3;refine Yd.cond (fun hc=>?_)<|fun hc=>?_
 ·obtain⟨xa,xb⟩:=gN ha o.length;obtain⟨ya,yb⟩:=gN hb o.length;have hlt:o.length<=max a.length b.length:=by
   rcases jI (max a.length b.length) o.length with h|h
   ·have:=h5 (by omega);rw[mY,mY,jJ,jJ,jJ] at hc;omega
   ·exact h
  have hz:o.length=max a.length b.length->a.getD o.length 0=0/\b.getD o.length 0=0:=fun h=>⟨zH (by omega),zH (by omega)⟩
  have hS:0<=a.getD o.length 0+b.getD o.length 0+c/\a.getD o.length 0+b.getD o.length 0+c<2000000000:=by unfold BT at*;omega
  refine Yd.bd Ju (Yd.bd Ju (Yd.bd (aM ⟨by omega,by unfold BT at*;omega⟩) (Yd.bd (aM ⟨by omega,by omega⟩) (Yd.bd (xm hS.1 (by omega)) (Yd.bd (adq (by omega)) (Yd.bd (div_pos hS.1 (by omega) (by omega)) (Yd.bd (aM ⟨by omega,by omega⟩)<|hn _ ⟨?_,?_,?_,?_,?_,?_⟩ ?_)))))))
  ·rw[BI];exact⟨h1,fun x hx=>by rw[uO] at hx;subst hx;unfold BT;omega⟩
  ·dsimp only;omega
  ·dsimp only;rw[List.length_append,List.length_singleton];omega
  ·dsimp only;rw[List.length_append,List.length_singleton];omega
  ·dsimp only;rw[List.length_append,List.length_singleton];intro h;have:=hz (by omega);omega
  ·dsimp only;rw[List.length_append,List.length_singleton,nu,di,di,jM];have e:aG [(a.getD o.length 0+b.getD o.length 0+c)%1000000000]=(a.getD o.length 0+b.getD o.length 0+c)%1000000000:=by simp[aG]
   rw[e,Int.mul_comm BT,eS,<-Int.add_assoc]
   generalize a.getD o.length 0=X at*
   generalize b.getD o.length 0=Y at*
   have hd:X+Y+c=(X+Y+c)%1000000000+BT*((X+Y+c)/1000000000):=by unfold BT;omega
   have:iY o.length*((X+Y+c)%1000000000)+iY o.length*(BT*((X+Y+c)/1000000000))=iY o.length*X+iY o.length*Y+iY o.length*c:=by
    rw[<-bp,<-bp,<-bp,<-hd]
   omega
  ·dsimp only;rw[List.length_append,List.length_singleton];omega
 ·rw[wI,wI,kE,kE,kE] at hc;have hc0:c=0:=by omega
  subst hc0;refine Yd.mk ⟨h1,?_,h4⟩;rw[eJ (by omega),eJ (by omega)] at h6;omega
def FF(ha:qS a)(hb:qS b)(hl:b.length<=a.length)(ZJ:a.length<4398046511)(hv:aG b<=aG a):Yd (fun w=>se w/\aG w=aG a-aG b/\w.length<=a.length) (mj a b):=by
 unfold mj;refine Yd.lp (fun s:ard Int×Int×Int=>qS s.1/\(s.2.1=0\/s.2.1=1)/\s.2.2=s.1.length/\s.1.length<=a.length/\
   aG s.1=aG (a.take s.1.length)-aG (b.take s.1.length)+iY s.1.length*s.2.1) (fun s=>a.length-s.1.length) ?_ _ _ ⟨LB,.inl rfl,rfl,by simp,by simp[aG]⟩ (by dsimp only;simp;omega)
 rintro next ⟨o,c,i⟩ ⟨h1,h2,h3,h4,h5⟩ hn
 dsimp only at h1 h2 h3 h4 h5 hn⊢;subst h3;refine Yd.cond (fun hc=>?_)<|fun hc=>?_
 ·have hc:=bf hc;obtain⟨xa,xb⟩:=gN ha o.length;obtain⟨ya,yb⟩:=gN hb o.length;refine Yd.bd (bQ (by omega)) (Yd.bd Ju (Yd.bd (aM ⟨by unfold BT at*;omega,by unfold BT at*;omega⟩) (Yd.bd (aM ⟨by unfold BT at*;omega,by unfold BT at*;omega⟩) ?_)));have step:∀d x:Int,(d=0\/d=1)->0<=x->x<1000000000->x=a.getD o.length 0-b.getD o.length 0-c+BT*d->Yd (fun w=>se w/\aG w=aG a-aG b/\w.length<=a.length) (bd (fe 8 o [x]) fun iP=>bd (aF<|(o.length:Int)+1) fun ju=>next (iP,d,ju)):=by
   intro d x hd UU hx1 hx;refine Yd.bd (adq (by omega)) (Yd.bd (aM ⟨by omega,by omega⟩)<|hn _ ⟨?_,hd,?_,?_,?_⟩ ?_)
   ·rw[BI];exact⟨h1,fun y hy=>by rw[uO] at hy;subst hy;unfold BT;omega⟩
   ·dsimp only;rw[List.length_append,List.length_singleton];omega
   ·dsimp only;rw[List.length_append,List.length_singleton];omega
   ·dsimp only;rw[List.length_append,List.length_singleton,nu,di,di,jM,h5];have e:aG [x]=x:=by simp[aG]
    rw[e,Int.mul_comm BT,eS,hx]
    generalize a.getD o.length 0=X at*
    generalize b.getD o.length 0=Y at*
    have:iY o.length*(X-Y-c+BT*d)=iY o.length*X-iY o.length*Y-iY o.length*c+iY o.length*(BT*d):=by
     rw[bp,lX,lX]
    omega
   ·dsimp only;rw[List.length_append,List.length_singleton];omega
  refine Yd.jn (fun p:Int×Int=>(p.1=0\/p.1=1)/\0<=p.2/\p.2<1000000000/\p.2=a.getD o.length 0-b.getD o.length 0-c+BT*p.1) (fun p hp=>step p.1 p.2 hp.1 hp.2.1 hp.2.2.1 hp.2.2.2) fun k hk=>Yd.cond (fun hd=>?_)<|fun hd=>?_
  ·have hd:=bf hd;refine Yd.bd (aM ⟨by unfold BT at*;omega,by unfold BT at*;omega⟩) (hk _ ⟨.inr rfl,?_,?_,?_⟩)<;>(dsimp only;unfold BT at*;omega)
  ·have hd:=bP hd;refine hk _ ⟨.inl rfl,?_,?_,?_⟩<;>(dsimp only;unfold BT at*;omega)
 ·have hc:=bP hc;have hlen:o.length=a.length:=by omega
  rw[eJ (by omega),eJ (by omega)] at h5;obtain⟨z1,z2⟩:=bX h1;have hc0:c=0:=by
   rcases h2 with h|h
   ·exact h
   ·subst h;omega
  subst hc0;refine Yd.jQ (xW h1 (by omega)) fun w ⟨g1,g2,g3⟩=>Yd.mk ⟨g1,by rw[g2,h5];omega,by omega⟩
def HC{d:Int}(ha:qS a)(hd:0<d/\d<1000000000)(hl:a.length<1099511627776):Yd (fun p=>se p.1/\aG p.1=aG a/d/\p.2=aG a%d/\p.1.length<=a.length) (mV a d):=by
 unfold mV;refine Yd.bd (HX (by omega) (by omega) (by omega)) (Yd.bd (aM ⟨by omega,by omega⟩) ?_);refine Yd.lp (fun s:ard Int×Int×Int=>qS s.1/\s.1.length=a.length/\(0<=s.2.1/\s.2.1<d)/\ -1<=s.2.2/\s.2.2<a.length/\aG (a.drop (s.2.2+1).toNat)=aG (s.1.drop (s.2.2+1).toNat)*d+s.2.1) (fun s=>(s.2.2+1).toNat) ?_ _ _
  ⟨Ag _,by simp only[uQ];omega,⟨by dsimp only;omega,by dsimp only;omega⟩,by dsimp only;omega,by dsimp only;omega,?_⟩ (by dsimp only;omega)
 rotate_left
 ·have e:((a.length:Int)-1+1).toNat=a.length:=by omega
  dsimp only;rw[e,xC,wK (by simp only[uQ];omega)];simp[aG]
 rintro next ⟨o,r,i⟩ ⟨h1,h2,⟨h3,h3'⟩,h4,h5,h6⟩ hn
 dsimp only at h1 h2 h3 h3' h4 h5 h6 hn⊢;refine Yd.cond (fun hc=>?_)<|fun hc=>?_
 ·have hc:=bf hc;obtain⟨n,rfl⟩:=gk hc;have en:(((n:Nat):Int)+1).toNat=n+1:=by omega
  rw[en] at h6;obtain⟨xa,xb⟩:=gN ha n;have hx:0<=r*1000000000+a.getD n 0/\r*1000000000+a.getD n 0<d*1000000000:=by unfold BT at*;omega
  have ZD:=qy hx.1<|fH hd.1
  have hq1:(r*1000000000+a.getD n 0)/d<1000000000:=by
   apply IB hd.1;omega
  have VZ:=rP (r*1000000000+a.getD n 0) (show d≠0 by omega);have hr1:=qA (r*1000000000+a.getD n 0) hd.1;refine Yd.bd (aM ⟨by omega,by omega⟩) (Yd.bd (bQ (by omega)) (Yd.bd (aM ⟨by omega,by omega⟩) (Yd.bd (div_pos hx.1 hd.1 (by omega)) (Yd.bd (bQ (by omega)) (Yd.bd (bQ (by omega)) (Yd.bd (xm hx.1 hd.1) (Yd.bd (aM ⟨by omega,by omega⟩) (hn _ ⟨HT h1 _ ⟨ZD,hq1⟩,by simpa using h2,⟨VZ,hr1⟩,by dsimp only;omega,by dsimp only;omega,?_⟩ ?_))))))))
  ·dsimp only;have e2:(((n:Nat):Int)-1+1).toNat=n:=by omega
   rw[e2,Int.toNat_natCast,vD (by omega),ng (show n<a.length by omega),lq,lq,h6];have hdm:=Int.mul_ediv_add_emod (r*1000000000+a.getD n 0) d
   generalize (r*1000000000+a.getD n 0)/d=q at*
   generalize (r*1000000000+a.getD n 0)%d=m at*
   rw[kD,bp,eS BT,Int.mul_comm q d];unfold BT;omega
  ·dsimp only;omega
 ·have hc:=bP hc;have:i= -1:=by omega
  subst this;have h6:aG a=aG o*d+r:=by simpa using h6
  refine Yd.jQ (xW h1 (by omega)) fun w ⟨g1,g2,g3⟩=>Yd.mk ⟨g1,?_,?_,by dsimp only;omega⟩
  ·dsimp only;rw[g2];exact(wh h6 h3 h3').1
  ·exact(wh h6 h3 h3').2
def z8(ha:qS a)(hb:qS b)(ZJ:a.length<4398046511)(ZI:b.length<4398046511):Yd (fun w=>se w/\aG w=aG a*aG b/\w.length<=a.length+b.length) (kn a b):=by
 unfold kn;refine Yd.bd (aM ⟨by omega,by omega⟩) (Yd.bd (HX (by omega) (by omega) (by omega)) ?_);refine Yd.lp (fun s:ard Int×Int=>qS s.1/\s.1.length=a.length+b.length/\0<=s.2/\s.2<=a.length/\(∀m,s.2.toNat+b.length<=m->s.1.getD m 0=0)/\aG (s.1.take<|s.2.toNat+b.length)=aG (a.take s.2.toNat)*aG b)
  (fun s:ard Int×Int=>a.length-s.2.toNat) ?_ _ _ ⟨Ag _,by simp only[uQ];omega,by dsimp only;omega,by dsimp only;omega,fun m _=>N7,?_⟩ (by dsimp only;omega)
 rotate_left
 ·dsimp only;rw[Iz,De];simp[aG]
 rintro next ⟨o,i⟩ ⟨h1,h2,h3,h4,hz,h5⟩ hn
 simp only at h1 h2 h3 h4 hz h5 hn⊢;obtain⟨n,rfl⟩:=gk h3;simp only[Int.toNat_natCast,tz] at*;refine Yd.cond (fun hc=>?_)<|fun hc=>?_
 ·have hc:=bf hc;refine Yd.lp (fun s:ard Int×Int×Int=>qS s.1/\s.1.length=a.length+b.length/\(0<=s.2.1/\s.2.1<BT)/\0<=s.2.2/\s.2.2<=b.length/\s.1.drop (n+s.2.2.toNat)=o.drop (n+s.2.2.toNat)/\
    aG (s.1.take<|n+s.2.2.toNat)+iY (n+s.2.2.toNat)*s.2.1=aG (o.take<|n+s.2.2.toNat)+iY n*(a.getD n 0*aG (b.take s.2.2.toNat)))
   (fun s:ard Int×Int×Int=>b.length-s.2.2.toNat) ?_ _ _ ⟨h1,h2,⟨by dsimp only;omega,by dsimp only;unfold BT;omega⟩,by dsimp only;omega,by dsimp only;omega,rfl,by simp[aG]⟩ (by dsimp only;omega)
  rintro aby ⟨p,c,j⟩ ⟨g1,g2,g3,g4,g5,g6,g7⟩ Pm;simp only at g1 g2 g3 g4 g5 g6 g7 Pm⊢;obtain⟨m,rfl⟩:=gk g4;simp only[Int.toNat_natCast,tz] at*;have eo:p.getD (n+m) 0=o.getD (n+m) 0:=by
   have:=congrArg (fun l=>l.getD 0 0) g6;simpa[gy,yF] using this
  refine Yd.cond (fun hd=>?_)<|fun hd=>?_
  ·have hd:=bf hd;have enm:((n:Nat):Int)+((m:Nat):Int)=((n+m:Nat):Int):=by omega
   obtain⟨xa,xb⟩:=gN ha n;obtain⟨ya,yb⟩:=gN hb m;obtain⟨oa,ob⟩:=gN g1<|n+m
   have wN:a.getD n 0*b.getD m 0<=(BT-1)*(BT-1):=vz (by omega) (by omega) ya (by unfold BT;omega);have arX:0<=a.getD n 0*b.getD m 0:=qx xa ya;have hS:0<=p.getD (n+m) 0+a.getD n 0*b.getD m 0+c/\p.getD (n+m) 0+a.getD n 0*b.getD m 0+c<BT*BT:=by
    generalize a.getD n 0*b.getD m 0=q at*
    unfold BT at*;omega
   rw[enm];refine Yd.bd (aM ⟨by omega,by omega⟩) (Yd.bd (bQ (by omega)) (Yd.bd (bQ (by omega)) (Yd.bd (bQ (by omega)) (Yd.bd (bQ (by omega)) (Yd.bd (aM ⟨by omega,by unfold BT at*;omega⟩) (Yd.bd (aM ⟨by omega,by unfold BT at*;omega⟩) (Yd.bd (aM ⟨by omega,by unfold BT at*;omega⟩) (Yd.bd (aM ⟨by omega,by omega⟩) (Yd.bd (xm hS.1 (by omega)) (Yd.bd (bQ (by omega)) (Yd.bd (bQ (by omega)) (Yd.bd (div_pos hS.1 (by omega) (by unfold BT at*;omega)) (Yd.bd (aM ⟨by omega,by omega⟩) ?_)))))))))))));have hdm:p.getD (n+m) 0+a.getD n 0*b.getD m 0+c=(p.getD (n+m) 0+a.getD n 0*b.getD m 0+c)%1000000000+BT*((p.getD (n+m) 0+a.getD n 0*b.getD m 0+c)/1000000000):=by unfold BT;omega
   have hr:0<=(p.getD (n+m) 0+a.getD n 0*b.getD m 0+c)%1000000000/\(p.getD (n+m) 0+a.getD n 0*b.getD m 0+c)%1000000000<BT:=by unfold BT;omega
   have hq:0<=(p.getD (n+m) 0+a.getD n 0*b.getD m 0+c)/1000000000/\(p.getD (n+m) 0+a.getD n 0*b.getD m 0+c)/1000000000<BT:=by unfold BT at*;omega
   refine Pm _ ⟨HT g1 _ hr,by simpa using g2,hq,by dsimp only;omega,by dsimp only;omega,?_,?_⟩ (by dsimp only;omega)
   ·have e:(((m:Nat):Int)+1).toNat=m+1:=by omega
    simp only[e,Int.toNat_natCast];rw[LY (by omega),<-tu];have:=congrArg (List.drop 1) g6;rwa [iF,iF] at this
   ·have e:(((m:Nat):Int)+1).toNat=m+1:=by omega
    simp only[e,Int.toNat_natCast];rw[<-tu,di,dr<|bC _,dv (by omega),di o,di b,<-eo,jM]
    generalize (p.getD (n+m) 0+a.getD n 0*b.getD m 0+c)%1000000000=R at*
    generalize (p.getD (n+m) 0+a.getD n 0*b.getD m 0+c)/1000000000=Q at*
    have k1:iY n*(a.getD n 0*(aG (b.take m)+iY m*b.getD m 0))=iY n*(a.getD n 0*aG (b.take m))+iY (n+m)*(a.getD n 0*b.getD m 0):=by
     rw[bp,bp,Ly,iu (a.getD n 0)<|iY m,eS]
    have k2:iY (n+m)*R+BT*iY (n+m)*Q=iY (n+m)*(a.getD n 0*b.getD m 0)+iY (n+m)*p.getD (n+m) 0+iY (n+m)*c:=by
     rw[Int.mul_comm BT,eS,<-bp,<-bp,<-bp]
     congr 1;omega
    rw[k1];omega
  ·have hd:=bP hd;have hm':m=b.length:=by omega
   subst hm';have enm:((n:Nat):Int)+((b.length:Nat):Int)=((n+b.length:Nat):Int):=by omega
   have hz0:p.getD (n+b.length) 0=0:=by rw[eo];exact hz _<|bC _
   rw[enm];refine Yd.bd (aM ⟨by omega,by omega⟩) (Yd.bd (aM ⟨by omega,by omega⟩) (Yd.bd (bQ (by omega)) (Yd.bd (bQ (by omega)) (Yd.bd (aM ⟨by omega,by unfold BT at*;omega⟩) (Yd.bd (bQ (by omega)) (Yd.bd (bQ (by omega)) (Yd.bd (aM ⟨by omega,by omega⟩) ?_)))))));rw[hz0,Int.zero_add];refine hn _ ⟨HT g1 _ g3,by simpa using g2,by dsimp only;omega,by dsimp only;omega,?_,?_⟩ (by dsimp only;omega)
   ·intro m hm;have e:(((n:Nat):Int)+1).toNat=n+1:=by omega
    simp only[e,Int.toNat_natCast] at hm⊢;rw[getD_set_ne (by omega)];have:=congrArg (fun l=>l.getD (m-(n+b.length)) 0) g6;have h':p.getD m 0=o.getD m 0:=by simpa[gy,yF,show n+b.length+(m-(n+b.length))=m by omega] using this
    rw[h'];exact hz m (by omega)
   ·have e:(((n:Nat):Int)+1).toNat=n+1:=by omega
    simp only[e,Int.toNat_natCast];rw[show n+1+b.length=n+b.length+1 by omega,di,dr<|bC _,dv (by omega),g7,h5,di a,eJ<|bC _,kD,eS]
 ·have hc:=bP hc;have KA:n=a.length:=by omega
  subst KA;refine Yd.jQ (xW h1 (by omega)) fun w ⟨q1,q2,q3⟩=>Yd.mk ⟨q1,?_,by omega⟩
  rw[q2];rw[eJ (l:=o) (by omega),eJ (l:=a) (by omega)] at h5;exact h5
def GV(h:i<n):((u.drop j).take n).getD i 0=u.getD (j+i) 0:=by
 simp[gy,Ao,h,yF]
def oD{α:Type}{g:Bool}{d:α}{e:atg α}{K:α->atg ρ}(h:g=false):fR g d e K=K d:=by subst h;rfl
def fZ{α:Type}{g:Bool}{d:α}{e:atg α}{K:α->atg ρ}(h:g=true):fR g d e K=bd e K:=by subst h;rfl
def Y8(hu:qS u)(hv:qS v)(VW:v.length=k+2)(VY:j+(k+3)<=u.length)(hlen:u.length<4398046511)(ZB:BT<=2*v.getD (k+1) 0)
 (hw:w=(u.drop j).take (k+3))(hlt:aG w<BT*aG v):
  Yd (fun q=>(0<=q/\q<BT)/\(q-1)*aG v<=aG w/\aG w<(q+1)*aG v) (qV u v (j:Int)):=by
 unfold qV;have hwo:qS w:=by rw[hw];exact mf (ye hu _) _
 have hwl:w.length=k+3:=by rw[hw,List.length_take,mG];omega
 have eU:=YJ hwl;have eV:=YK VW;obtain⟨bU0,bU1⟩:=bX<|mf hwo k
 obtain⟨bV0,bV1⟩:=bX<|mf hv k
 rw[List.length_take,fA (by omega)] at bU1 bV1;have hP:=rp k;have hu0:=gN hwo k;have hu1:=gN hwo<|k+1
 have hu2:=gN hwo<|k+2
 have K7:=gN hv k;have hv1:=gN hv<|k+1
 have w0:u.getD (j+k) 0=w.getD k 0:=by rw[hw,GV (by omega)]
 have w1:u.getD (j+(k+1)) 0=w.getD (k+1) 0:=by rw[hw,GV (by omega)]
 have w2:u.getD (j+(k+2)) 0=w.getD (k+2) 0:=by rw[hw,GV (by omega)]
 have hVP:0<=aG v:=(bX hv).1;have hU0:0<=aG w:=(bX hwo).1;have agw:w.getD (k+2) 0<=v.getD (k+1) 0:=ahP hP bU0 hu0.1 hu1.1 bV1 K7.2 (by rw[<-eU,<-eV];exact hlt);have e1:((v.length:Int)-1)=((k+1:Nat):Int):=by omega
 have e2:((v.length:Int)-2)=((k:Nat):Int):=by omega
 have e3:((j:Int)+(v.length:Int))=((j+(k+2):Nat):Int):=by omega
 have e4:(((j+(k+2):Nat):Int)-1)=((j+(k+1):Nat):Int):=by omega
 have e5:(((j+(k+2):Nat):Int)-2)=((j+k:Nat):Int):=by omega
 rw[e1,e2,e3];have i2:bm u ((j+(k+2):Nat):Int)=some (w.getD (k+2) 0):=by rw[<-w2];exact bQ (by omega)
 have i1:bm u ((j+(k+1):Nat):Int)=some (w.getD (k+1) 0):=by rw[<-w1];exact bQ (by omega)
 have i0:bm u ((j+k:Nat):Int)=some (w.getD k 0):=by rw[<-w0];exact bQ (by omega)
 have v1:bm v ((k+1:Nat):Int)=some (v.getD (k+1) 0):=bQ (by omega);have v0:bm v ((k:Nat):Int)=some (v.getD k 0):=bQ (by omega);clear w0 w1 w2 hw
 generalize w.getD (k+2) 0=U2 at*
 generalize w.getD (k+1) 0=U1 at*
 generalize w.getD k 0=U0 at*
 generalize v.getD (k+1) 0=V1 at*
 generalize v.getD k 0=V0 at*
 have hV1:0<V1:=by unfold BT at*;omega
 have hT:0<=U2*1000000000+U1/\U2*1000000000+U1<1000000000000000000:=by unfold BT at*;omega
 refine Yd.bd (aM ⟨by omega,by omega⟩) (Yd.bd i2 (Yd.bd (aM ⟨by omega,by unfold BT at*;omega⟩) (Yd.bd (aM ⟨by omega,by omega⟩) ?_)));rw[e4];refine Yd.bd (aM ⟨by omega,by omega⟩) (Yd.bd i1 (Yd.bd (aM ⟨by omega,by omega⟩) (Yd.bd (aM ⟨by omega,by omega⟩) (Yd.bd v1 (Yd.bd (div_pos hT.1 hV1 (by omega)) (Yd.bd (aM ⟨by omega,by omega⟩)<|Yd.bd v1<|Yd.bd (xm hT.1 hV1) ?_))))));have ht0:=qy hT.1<|fH hV1
 have VZ:=rP (U2*1000000000+U1) (show V1≠0 by omega);have hr1:=qA (U2*1000000000+U1) hV1;have hdm:=Int.mul_ediv_add_emod (U2*1000000000+U1) V1;have ht1:(U2*1000000000+U1)/V1<=1000000001:=by
  apply Int.le_of_lt_add_one;apply IB hV1;have:(1000000001+1)*V1=1000000000*V1+2*V1:=by omega
  unfold BT at*;omega
 have ah0:∀t r:Int,t*V1+r=U1+BT*U2->BT<=r->t<BT:=fun t r e h=>by
  refine Int.lt_of_mul_lt_mul_right (a:=V1) ?_<|fH hV1
  have:BT*U2<=BT*V1:=jB agw (by unfold BT;omega);unfold BT at*;omega
 refine Yd.lp (fun s:Int×Int=>(0<=s.1/\s.1<=1000000001)/\(0<=s.2/\s.2<BT)/\s.1*V1+s.2=U1+BT*U2/\aG w<(s.1+1)*aG v) (fun s=>s.1.toNat) ?_ _ _ ⟨⟨ht0,ht1⟩,⟨VZ,by unfold BT at*;dsimp only;omega⟩,?_,?_⟩ (by dsimp only;omega)
 rotate_left
 ·dsimp only;rw[Int.mul_comm _ V1,hdm];unfold BT;omega
 ·dsimp only;have:=aff (u0:=U0) (v0:=V0) (q:=(U2*1000000000+U1)/V1) (r:=(U2*1000000000+U1)%V1) (U2:=U1+BT*U2) (v1:=V1) (by rw[Int.mul_comm _ V1,hdm];unfold BT;omega) hr1 hu0.2 ht0 K7.1;have:=XC hP bU1 bV0 (show 0<=(U2*1000000000+U1)/V1+1 by omega) this;rw[<-eU,<-eV] at this;exact this
 clear ht0 VZ hr1 hdm ht1 hT;rintro next ⟨t,r⟩ ⟨⟨h1,h1'⟩,⟨h2,h2'⟩,h3,h4⟩ hn
 dsimp only at h1 h1' h2 h2' h3 h4 hn⊢;have fin:∀q R:Int,(0<=q/\q<BT)->0<=R->q*V1+R=U1+BT*U2->aG w<(q+1)*aG v->(BT<=R\/q*V0<=BT*R+U0)->Yd (fun q=>(0<=q/\q<BT)/\(q-1)*aG v<=aG w/\aG w<(q+1)*aG v) (some q):=fun q R hq hR e hup hh=>by
  refine Yd.mk ⟨hq,?_,hup⟩;have:=afg (P:=iY k) (UL:=aG<|w.take k) (VL:=aG<|v.take k) e hq hR K7 hu0.1 ZB hh hP bU0 bV1 bV0;rw[<-eU,<-eV] at this;exact this
 have step:aG w<t*aG v->Yd (fun q=>(0<=q/\q<BT)/\(q-1)*aG v<=aG w/\aG w<(q+1)*aG v) (bd (aF<|t-1) fun PF=>bd (aF ((k+1:Nat):Int)) fun Eh=>bd (bm v Eh) fun SD=>bd (aF<|r+SD) fun OJ=>cond (decide<|1000000000<=OJ) (some PF)<|next (PF,OJ)):=fun hUq=>by
  have hq1:1<=t:=by
   rcases(show 1<=t\/t=0 by omega) with h|h
   ·exact h
   ·rw[h,Im] at hUq;omega
  refine Yd.bd (aM ⟨by omega,by omega⟩) (Yd.bd (aM ⟨by omega,by omega⟩) (Yd.bd v1 (Yd.bd (aM ⟨by omega,by unfold BT at*;omega⟩)<|Yd.cond (fun hc=>?_)<|fun hc=>?_)))
  ·have hc:=bf hc;have hc:BT<=r+V1:=hc;have e:(t-1)*V1+(r+V1)=U1+BT*U2:=by rw[Int.sub_mul,Int.one_mul];omega
   exact fin (t-1) (r+V1) ⟨by omega,ah0 _ _ e hc⟩ (by omega) e (by rw[show t-1+1=t by omega];exact hUq)<| .inl hc
  ·have hc:=bP hc;have hc: ¬BT<=r+V1:=hc;refine hn _ ⟨⟨by dsimp only;omega,by dsimp only;omega⟩,⟨by dsimp only;omega,by dsimp only;omega⟩,?_,?_⟩ (by dsimp only;omega)
   ·dsimp only;rw[Int.sub_mul,Int.one_mul];omega
   ·dsimp only;rw[show t-1+1=t by omega];exact hUq
 by_cases hb:(1000000000:Int)<=t
 ·have hd:=bD hb;have g1:gd (decide<|(1000000000:Int)<=t) false=false:=by rw[hd];rfl
  repeat rw[oD g1]
  refine Yd.cond (fun _=>step ?_) (fun h=>by rw[hd,Ey] at h;cases h);have:BT*aG v<=t*aG v:=tE (by unfold BT;omega) hVP;omega
 ·have hd:=cr hb;have g1:gd (decide<|(1000000000:Int)<=t) false=true:=by rw[hd];rfl
  have hb0:0<=t*V0/\t*V0<=1000000000*1000000000:=⟨qx h1 K7.1,vz (by omega) (by unfold BT at*;omega) K7.1 (by omega)⟩;rw[fZ g1];refine Yd.bd (aM ⟨by omega,by omega⟩) ?_;rw[fZ g1];refine Yd.bd v0 ?_;rw[fZ g1];refine Yd.bd (aM ⟨by omega,by omega⟩) ?_;rw[fZ g1];refine Yd.bd (aM ⟨by omega,by unfold BT at*;omega⟩) ?_;rw[fZ g1];refine Yd.bd (aM ⟨by omega,by omega⟩) ?_;rw[e5,fZ g1];refine Yd.bd (aM ⟨by omega,by omega⟩) ?_;rw[fZ g1];refine Yd.bd i0 ?_;rw[fZ g1];refine Yd.bd (aM ⟨by omega,by unfold BT at*;omega⟩)<|Yd.cond (fun hc=>?_)<|fun hc=>?_
  ·rw[hd,BV] at hc;have hc:=bf hc;refine step ?_;have hUq:=XC hP bU1 bV0 h1 (afe (q:=t) (r:=r) (v1:=V1) (U2:=U1+BT*U2) (u0:=U0) (v0:=V0) h3 (by unfold BT;omega));rw[<-eU,<-eV] at hUq;exact hUq
  ·rw[hd,BV] at hc;have hc:=bP hc;exact fin t r ⟨h1,by unfold BT;omega⟩ h2 h3 h4 (.inr (by unfold BT;omega))
def afS:(l.set (j+i) x).drop j=(l.drop j).set i x:=by
 rw[List.drop_set,if_neg (by omega),Nat.add_sub_cancel_left]
def Qs:(l.drop j).getD i 0=l.getD (j+i) 0:=by
 simp[gy,yF]
def Vt{t:Int}{adB:ard Int×Int×Int->atg ρ}(hu:qS u)(hv:qS v)(VW:v.length=n)(hj:j+n<=u.length)(hl:u.length<4398046511)(ht:0<=t/\t<BT)
 (h:∀u2 b,qS u2->u2.length=u.length->u2.take j=u.take j->(∀m,j+n<=m->u2.getD m 0=u.getD m 0)->(0<=b/\b<BT)->aG ((u2.drop j).take n)=aG ((u.drop j).take n)-t*aG v+iY n*b->Yd R (adB (u2,b,(n:Int)))):
  Yd R (lp 18446744073709551616 (fun(Zw:(ard Int×Int×Int)->atg ρ) (qG:ard Int×Int×Int)=>
        cond (decide<|qG.2.2<(v.length:Int)) (
         bd (bm v qG.2.2) fun Eh=>
         bd (aF<|t*Eh) fun SD=>
         bd (aF<|SD+qG.2.1) fun OJ=>
         bd (aF<|qG.2.2+(j:Int)) fun SC=>
         bd (bm qG.1 SC) fun SB=>
         bd (bm qG.1 SC) fun SA=>
         bd (sH OJ (1000000000:Int)) fun Sz=>
         bd (aF<|SA-Sz) fun CX=>
         bd (uV OJ (1000000000:Int)) fun QC=>
         jn (fun(s66:Int×Int)=>
          bd (aF<|qG.2.2+(j:Int)) fun KG=>
          bd (bm qG.1 KG) fun x75=>
          bd (bm qG.1 KG) fun x77=>
          bd (aF<|qG.2.2+(1:Int)) fun PD=>
          Zw ((qG.1.set (KG).toNat s66.2),s66.1,PD)
         ) fun k67=>
         cond (decide<|CX<(0:Int)) (
          bd (aF<|CX+(1000000000:Int)) fun Yw=>
          bd (aF<|QC+(1:Int)) fun Yv=>
          k67 (Yv,Yw)
         ) (
          k67 (QC,CX)
         )
        ) (adB qG)) (u,(0:Int),(0:Int))):=by
 subst VW;refine Yd.lp (fun s:ard Int×Int×Int=>qS s.1/\s.1.length=u.length/\s.1.take j=u.take j/\(∀m,j+s.2.2.toNat<=m->s.1.getD m 0=u.getD m 0)/\(0<=s.2.1/\s.2.1<BT)/\(0<=s.2.2/\s.2.2<=v.length)/\aG ((s.1.drop j).take s.2.2.toNat)=aG ((u.drop j).take s.2.2.toNat)-t*aG (v.take s.2.2.toNat)+iY s.2.2.toNat*s.2.1)
  (fun s=>v.length-s.2.2.toNat) ?_ _ _ ⟨hu,rfl,rfl,fun _ _=>rfl,⟨by dsimp only;omega,by dsimp only;unfold BT;omega⟩,⟨by dsimp only;omega,by dsimp only;omega⟩,by simp[aG]⟩ (by dsimp only;omega)
 rintro next ⟨p,c,z⟩ ⟨g1,g2,g3,g4,g5,⟨g6,g6'⟩,g7⟩ hn
 dsimp only at g1 g2 g3 g4 g5 g6 g6' g7 hn⊢;obtain⟨i,rfl⟩:=gk g6;simp only[Int.toNat_natCast,tz] at*;refine Yd.cond (fun hc=>?_)<|fun hc=>?_
 ·have hc:=bf hc;have hi:i<v.length:=by omega
  have hx:=gN hv i;have hy:=gN g1<|j+i
  have hm0:0<=t*v.getD i 0:=qx ht.1 hx.1;have ZG:t*v.getD i 0<=(BT-1)*(BT-1):=vz (by omega) (by omega) hx.1 (by unfold BT;omega);have ej:(((i:Nat):Int)+((j:Nat):Int))=((j+i:Nat):Int):=by omega
  have gu:p.getD (j+i) 0=u.getD (j+i) 0:=g4 _<|bC _
  refine Yd.bd (bQ hi) (Yd.bd (aM ⟨by omega,by unfold BT at*;omega⟩) (Yd.bd (aM ⟨by omega,by unfold BT at*;omega⟩) (Yd.bd (aM ⟨by omega,by omega⟩) ?_)));rw[ej];have step:∀d x:Int,(0<=d/\d<BT)->(0<=x/\x<BT)->x=u.getD (j+i) 0-(t*v.getD i 0+c)+BT*d->
    Yd R (bd (aF ((j+i:Nat):Int)) fun KG=>bd (bm p KG) fun x75=>bd (bm p KG) fun x77=>bd (aF<|((i:Nat):Int)+(1:Int)) fun PD=>next ((p.set (KG).toNat x),d,PD)):=by
   intro d x hd UU hxe;refine Yd.bd (aM ⟨by omega,by omega⟩) (Yd.bd (bQ (by omega)) (Yd.bd (bQ (by omega)) (Yd.bd (aM ⟨by omega,by omega⟩)<|hn _ ⟨HT g1 _ UU,?_,?_,?_,hd,⟨?_,?_⟩,?_⟩ ?_)))
   ·simpa using g2
   ·rw[Int.toNat_natCast,dr (by omega)];exact g3
   ·intro m hm;dsimp only at hm⊢;rw[Int.toNat_natCast,getD_set_ne (by omega)];exact g4 m (by omega)
   ·dsimp only;omega
   ·dsimp only;omega
   ·dsimp only;have e:(((i:Nat):Int)+1).toNat=i+1:=by omega
    rw[e,Int.toNat_natCast,afS,di,dr<|bC _,dv (by rw[mG];omega),di,di,g7,Qs,jM,hxe]
    generalize u.getD (j+i) 0=X at*
    generalize v.getD i 0=Y at*
    rw[bp t,iu t];have:iY i*(X-(t*Y+c)+BT*d)=iY i*X-iY i*(t*Y)-iY i*c+BT*iY i*d:=by
     generalize t*Y=q
     rw[bp,lX,bp (iY i) q c,iu (iY i) BT d,<-eS BT];omega
    omega
   ·dsimp only;omega
  rw[gu] at hy;refine Yd.bd (bQ (by omega)) (Yd.bd (bQ (by omega)) (Yd.bd (xm (by omega) (by omega)) ?_));rw[gu]
  generalize hq:t*v.getD i 0=q at*
  refine Yd.bd (aM ⟨by unfold BT at*;omega,by unfold BT at*;omega⟩) (Yd.bd (div_pos (by omega) (by omega) (by unfold BT at*;omega)) ?_);refine Yd.jn (fun s:Int×Int=>(0<=s.1/\s.1<BT)/\(0<=s.2/\s.2<BT)/\s.2=u.getD (j+i) 0-(q+c)+BT*s.1) (fun s hs=>step s.1 s.2 hs.1 hs.2.1 hs.2.2) fun k hk=>Yd.cond (fun hd=>?_)<|fun hd=>?_
  ·have hd:=bf hd;refine Yd.bd (aM ⟨by unfold BT at*;omega,by unfold BT at*;omega⟩) (Yd.bd (aM ⟨by unfold BT at*;omega,by unfold BT at*;omega⟩)<|hk _ ⟨?_,?_,?_⟩)<;>(dsimp only;unfold BT at*;omega)
  ·have hd:=bP hd;refine hk _ ⟨?_,?_,?_⟩<;>(dsimp only;unfold BT at*;omega)
 ·have hc:=bP hc;have hi:i=v.length:=by omega
  subst hi;refine h p c g1 g2 g3 g4 g5 ?_;rw[eJ (l:=v)<|bC _] at g7;exact g7
def Tn{adB:ard Int×Int×Int->atg ρ}(hu:∀m,m≠j+n->0<=u.getD m 0/\u.getD m 0<BT)(hv:qS v)(VW:v.length=n)(hj:j+n<u.length)(hl:u.length<4398046511)
 (h:∀u2 b,u2.length=u.length->u2.take j=u.take j->(∀m,j+n<=m->u2.getD m 0=u.getD m 0)->(∀m,m≠j+n->0<=u2.getD m 0/\u2.getD m 0<BT)->(b=0\/b=1)->aG ((u2.drop j).take n)+iY n*b=aG ((u.drop j).take n)+aG v->Yd R (adB (u2,b,(n:Int)))):
  Yd R (lp 18446744073709551616 (fun(Zy:(ard Int×Int×Int)->atg ρ) (j8:ard Int×Int×Int)=>
           cond (decide<|j8.2.2<(v.length:Int)) (
            bd (aF<|j8.2.2+(j:Int)) fun Mu=>
            bd (bm j8.1 Mu) fun YC=>
            bd (bm j8.1 Mu) fun SG=>
            bd (bm v j8.2.2) fun QD=>
            bd (aF<|SG+QD) fun SF=>
            bd (aF<|SF+j8.2.1) fun Mt=>
            bd (aF<|j8.2.2+(j:Int)) fun KI=>
            bd (sH Mt (1000000000:Int)) fun YB=>
            bd (bm j8.1 KI) fun ag2=>
            bd (bm j8.1 KI) fun ag1=>
            bd (uV Mt (1000000000:Int)) fun YA=>
            bd (aF<|j8.2.2+(1:Int)) fun Yz=>
            Zy ((j8.1.set (KI).toNat YB),YA,Yz)
           ) (adB j8)) (u,(0:Int),(0:Int))):=by
 subst VW;refine Yd.lp (fun s:ard Int×Int×Int=>s.1.length=u.length/\s.1.take j=u.take j/\(∀m,j+s.2.2.toNat<=m->s.1.getD m 0=u.getD m 0)/\(∀m,m≠j+v.length->0<=s.1.getD m 0/\s.1.getD m 0<BT)/\(s.2.1=0\/s.2.1=1)/\(0<=s.2.2/\s.2.2<=v.length)/\aG ((s.1.drop j).take s.2.2.toNat)+iY s.2.2.toNat*s.2.1=aG ((u.drop j).take s.2.2.toNat)+aG (v.take s.2.2.toNat))
  (fun s=>v.length-s.2.2.toNat) ?_ _ _ ⟨rfl,rfl,fun _ _=>rfl,hu,.inl rfl,⟨by dsimp only;omega,by dsimp only;omega⟩,by simp[aG]⟩ (by dsimp only;omega)
 rintro next ⟨p,c,z⟩ ⟨g2,g3,g4,g1,g5,⟨g6,g6'⟩,g7⟩ hn
 dsimp only at g1 g2 g3 g4 g5 g6 g6' g7 hn⊢;obtain⟨i,rfl⟩:=gk g6;simp only[Int.toNat_natCast,tz] at*;refine Yd.cond (fun hc=>?_)<|fun hc=>?_
 ·have hc:=bf hc;have hi:i<v.length:=by omega
  have hx:=gN hv i;have hy:=g1 (j+i) (by omega);have ej:(((i:Nat):Int)+((j:Nat):Int))=((j+i:Nat):Int):=by omega
  have gu:p.getD (j+i) 0=u.getD (j+i) 0:=g4 _<|bC _
  rw[ej];rw[gu] at hy;have hS:0<=u.getD (j+i) 0+v.getD i 0+c/\u.getD (j+i) 0+v.getD i 0+c<2000000000:=by unfold BT at*;omega
  have i1:bm p ((j+i:Nat):Int)=some (u.getD (j+i) 0):=by rw[<-gu];exact bQ (by omega)
  have hdm:u.getD (j+i) 0+v.getD i 0+c=(u.getD (j+i) 0+v.getD i 0+c)%1000000000+BT*((u.getD (j+i) 0+v.getD i 0+c)/1000000000):=by unfold BT;omega
  have hr:0<=(u.getD (j+i) 0+v.getD i 0+c)%1000000000/\(u.getD (j+i) 0+v.getD i 0+c)%1000000000<BT:=by unfold BT;omega
  have hd:(u.getD (j+i) 0+v.getD i 0+c)/1000000000=0\/(u.getD (j+i) 0+v.getD i 0+c)/1000000000=1:=by omega
  refine Yd.bd (aM ⟨by omega,by omega⟩) (Yd.bd i1 (Yd.bd i1 (Yd.bd (bQ hi) (Yd.bd (aM ⟨by omega,by unfold BT at*;omega⟩) (Yd.bd (aM ⟨by omega,by omega⟩) (Yd.bd (aM ⟨by omega,by omega⟩) (Yd.bd (xm hS.1 (by omega)) (Yd.bd i1 (Yd.bd i1 (Yd.bd (div_pos hS.1 (by omega) (by omega)) (Yd.bd (aM ⟨by omega,by omega⟩)<|hn _ ⟨?_,?_,?_,?_,hd,⟨?_,?_⟩,?_⟩ ?_)))))))))))
  ·simpa using g2
  ·rw[Int.toNat_natCast,dr (by omega)];exact g3
  ·intro m hm;dsimp only at hm⊢;rw[Int.toNat_natCast,getD_set_ne (by omega)];exact g4 m (by omega)
  ·intro m hm;dsimp only;rw[Int.toNat_natCast];by_cases e:m=j+i
   ·subst e;rw[dv (by omega)];exact hr
   ·rw[getD_set_ne e];exact g1 m hm
  ·dsimp only;omega
  ·dsimp only;omega
  ·dsimp only;have e:(((i:Nat):Int)+1).toNat=i+1:=by omega
   rw[e,Int.toNat_natCast,afS,di,dr<|bC _,dv (by rw[mG];omega),di,di,Qs,jM]
   generalize (u.getD (j+i) 0+v.getD i 0+c)%1000000000=r at*
   generalize (u.getD (j+i) 0+v.getD i 0+c)/1000000000=d at*
   generalize u.getD (j+i) 0=X at*
   generalize v.getD i 0=Y at*
   have:iY i*r+BT*iY i*d=iY i*X+iY i*Y+iY i*c:=by
    rw[Int.mul_comm BT,eS,<-bp,<-bp,<-bp,<-hdm]
   omega
  ·dsimp only;omega
 ·have hc:=bP hc;have hi:i=v.length:=by omega
  subst hi;refine h p c g2 g3 g4 g1 g5 ?_;rw[eJ (l:=v)<|bC _] at g7;exact g7
def WT{t:Int}(h1:1<=t)(h2:t<1000000000)(hf:f=1000000000/(t+1)):1<=f/\f<=500000000/\(t+1)*f<=1000000000/\1000000000<=2*(t*f):=by
 have hp:(0:Int)<t+1:=by omega
 have a1:(t+1)*f<=1000000000:=by rw[hf,Int.mul_comm];exact Int.ediv_mul_le _ (by omega)
 have a2:1000000000<(f+1)*(t+1):=by rw[hf];exact Int.lt_ediv_add_one_mul_self _ hp
 have a3:1<=f:=by
  rw[hf];exact(Int.le_ediv_iff_mul_le hp).2 (by omega)
 have a4:f<=500000000:=by
  have:2*f<=(t+1)*f:=tE (by omega) (by omega);omega
 refine⟨a3,a4,a1,?_⟩;rw[kD,Int.one_mul] at a2;have e:(t+1)*f=t*f+f:=by rw[kD,Int.one_mul]
 have e2:f*(t+1)=t*f+f:=by rw[bp,po,Int.mul_comm f t]
 rw[e] at a1;rw[e2] at a2;have hP:t<=t*f:=by
  have:t*1<=t*f:=jB a3 (by omega);omega
 rcases(show t=1\/1000000000<=2*t\/(2<=t/\2*t<=999999998) by omega) with h|h|⟨h,h'⟩
 ·subst h;omega
 ·omega
 ·rcases(show 1000000000<=2*(t*f)\/2*(t*f)<=999999999 by omega) with h3|h3
  ·exact h3
  ·exfalso;have b1:t*(1000000000-t)<=t*(t*f+f):=jB (by omega) (by omega);have b2:t*(2*(t*f))<=t*999999999:=jB h3 (by omega);have b3:0<(t-1)*(999999999-2*t):=Int.mul_pos (by omega) (by omega);rw[lX] at b1;rw[bp] at b1;rw[iu] at b2;rw[Int.sub_mul,Int.one_mul,lX,iu t 2 t] at b3
   generalize t*t=T at*
   generalize t*(t*f)=Q at*
   generalize t*f=P at*
   omega
def ahH(hb:se b)(hbl:b.length=k+2)(hf:f=1000000000/(b.getD (k+1) 0+1))(hv:se v)(hvv:aG v=aG b*f):
  v.length=k+2/\BT<=2*v.getD (k+1) 0/\iY (k+1)*f<=aG v/\1<=f/\f<=500000000:=by
 have hP:=rp<|k+1
 have hb0:b≠[]:=by intro e;subst e;simp at hbl
 have l1:=uq hb.1 hb0 hb.2;rw[hbl,show k+2-1=k+1 by omega] at l1;have l2:=mT (l:=b) (n:=k+1) (by omega);rw[eJ (by omega)] at l2;obtain⟨l3,l4⟩:=bX<|mf hb.1<|k+1
 rw[List.length_take,fA (by omega)] at l4;have ht:=gN hb.1<|k+1
 generalize b.getD (k+1) 0=t at*
 have h1:1<=t:=by
  rcases(show 1<=t\/t=0 by omega) with h|h
  ·exact h
  ·rw[h] at l2;omega
 obtain⟨f1,f2,f3,f4⟩:=WT h1 (by unfold BT at ht;omega) hf;have u1:(aG b+1)*f<=(iY (k+1)*(t+1))*f:=tE (by rw[bp,po];omega) (by omega);rw[kD,Int.one_mul,eS] at u1;have u2:iY (k+1)*((t+1)*f)<=iY (k+1)*BT:=jB (by unfold BT;omega) (by omega);have u3:(iY (k+1)*t)*f<=aG b*f:=tE (by omega) (by omega);rw[eS] at u3;have u4:iY (k+1)*1<=iY (k+1)*(t*f):=jB (by omega) (by omega);have u5:iY (k+1)*f<=iY (k+1)*(t*f):=jB (by
  have:1*f<=t*f:=tE h1 (by omega);omega) (by omega)
 rw[<-hvv] at u1 u3;have ak1:v.length<=k+2:=hv.len (by rw[jM,Int.mul_comm];omega);have NX:k+2<=v.length:=by
  rcases jI v.length (k+2) with h|h
  ·have a:=(bX hv.1).2;have b:=To (show v.length<=k+1 by omega);omega
  ·exact h
 have hlen:v.length=k+2:=by omega
 refine⟨hlen,?_,by omega,f1,f2⟩;have m2:=mT (l:=v) (n:=k+1) (by omega);rw[eJ (by omega)] at m2;obtain⟨m3,m4⟩:=bX<|mf hv.1<|k+1
 rw[List.length_take,fA (by omega)] at m4;have m5:iY (k+1)*(t*f)<iY (k+1)*(v.getD (k+1) 0+1):=by rw[bp,po];omega
 have m6:=L6 m5<|fH hP
 unfold BT;omega
def aeK{x:ard Int}{L:Nat}{K:ard Int->atg ρ}(hx:qS x)(hl:x.length<=L+1)(hL:L<109951162)(h:∀u,qS u->u.length=L+1->aG u=aG x->Yd R (K u)):
  Yd R (lp 18446744073709551616 (fun(NO:(ard Int)->atg ρ) (qn:(ard Int))=>
    bd (aF<|(L:Int)+(1:Int)) fun oN=>
    cond (decide<|(qn.length:Int)<oN) (bd (fe 8 qn ([(0:Int)]:ard Int)) fun qE=>NO qE) (K qn)) x):=by
 refine Yd.lp (fun s:ard Int=>qS s/\s.length<=L+1/\aG s=aG x) (fun s=>L+1-s.length) ?_ _ _ ⟨hx,hl,rfl⟩ (by omega);rintro next s ⟨h1,h2,h3⟩ hn
 refine Yd.bd (aM ⟨by omega,by omega⟩)<|Yd.cond (fun hc=>?_)<|fun hc=>?_
 ·have hc:=bf hc;refine Yd.bd (adq (by omega)) (hn _ ⟨?_,by rw[List.length_append,List.length_singleton];omega,?_⟩ (by rw[List.length_append,List.length_singleton];omega))
  ·rw[BI];exact⟨h1,fun y hy=>by rw[uO] at hy;subst hy;unfold BT;omega⟩
  ·rw[nu];simp[aG,h3]
 ·have hc:=bP hc;exact h s h1 (by omega) h3
def abr(h:∀m,0<=l.getD m 0/\l.getD m 0<BT):qS l:=fun x hx=>by
 obtain⟨i,hi,rfl⟩:=List.getElem_of_mem hx;have:=h i;rwa [gy,kb hi] at this
def MV:∀{l:ard Int},(∀m,l.getD m 0=0)->aG l=0
 |[],_=>rfl
 |x::l,h=>by
  have h0:x=0:=by simpa using h 0
  have:=MV (l:=l) fun m=>by simpa using h (m+1)
  rw[lq,h0,this];omega
def top_lt{A V:Int}{L:Nat}(hu:qS u)(VY:u.length=L+1)(hm:m+(k+2)=L+1)(hv:aG u=A*f)(hA:A<iY L)(hf:1<=f)(hV:iY (k+1)*f<=V):aG (u.drop m)<V:=by
 have h1:=o7 u m (by omega);obtain⟨b0,b1⟩:=bX<|mf hu m
 have hP:=rp m;have e:iY L=iY m*iY (k+1):=by rw[<-Ly];congr 1;omega
 have h2:(A+1)*f<=iY L*f:=tE (by omega) (by omega);rw[kD,Int.one_mul,e,eS] at h2;have h3:iY m*(iY (k+1)*f)<=iY m*V:=jB hV (by omega);have h4:iY m*aG (u.drop m)<iY m*V:=by omega
 exact L6 h4 (by omega)
def aa5{K:ard Int×Int->atg ρ}(hu:qS u)(hv:qS v)(VW:v.length=k+2)(hj:j+(k+3)<=u.length)(hlen:u.length<439804651)(ZB:BT<=2*v.getD (k+1) 0)(hlt:aG (u.drop<|j+1)<aG v)
 (h:∀l t,qS l->l.length=u.length->l.take j=u.take j->0<=t->t<BT->aG (l.drop j)=aG (u.drop j)-t*aG v->aG (l.drop j)<aG v->Yd R (K (l,t))):
  Yd R (bd (qV u v (j:Int)) fun AE=>
       lp 18446744073709551616 (fun(Zw:(ard Int×Int×Int)->atg ρ) (qG:ard Int×Int×Int)=>
        cond (decide<|qG.2.2<(v.length:Int)) (
         bd (bm v qG.2.2) fun Eh=>
         bd (aF<|AE*Eh) fun SD=>
         bd (aF<|SD+qG.2.1) fun OJ=>
         bd (aF<|qG.2.2+(j:Int)) fun SC=>
         bd (bm qG.1 SC) fun SB=>
         bd (bm qG.1 SC) fun SA=>
         bd (sH OJ (1000000000:Int)) fun Sz=>
         bd (aF<|SA-Sz) fun CX=>
         bd (uV OJ (1000000000:Int)) fun QC=>
         jn (fun(s66:Int×Int)=>
          bd (aF<|qG.2.2+(j:Int)) fun KG=>
          bd (bm qG.1 KG) fun x75=>
          bd (bm qG.1 KG) fun x77=>
          bd (aF<|qG.2.2+(1:Int)) fun PD=>
          Zw ((qG.1.set (KG).toNat s66.2),s66.1,PD)
         ) fun k67=>
         cond (decide<|CX<(0:Int)) (
          bd (aF<|CX+(1000000000:Int)) fun Yw=>
          bd (aF<|QC+(1:Int)) fun Yv=>
          k67 (Yv,Yw)
         ) (
          k67 (QC,CX)
         )
        ) (
         bd (aF<|(j:Int)+(v.length:Int)) fun yS=>
         bd (aF<|(j:Int)+(v.length:Int)) fun x83=>
         bd (bm qG.1 x83) fun x85=>
         bd (bm qG.1 x83) fun x87=>
         bd (aF<|x87-qG.2.1) fun Ja=>
         bd (bm qG.1 yS) fun WL=>
         bd (bm qG.1 yS) fun WK=>
         bd (aF<|(j:Int)+(v.length:Int)) fun UO=>
         bd (bm (qG.1.set (yS).toNat Ja) UO) fun x97=>
         bd (bm (qG.1.set (yS).toNat Ja) UO) fun U6=>
         jn (fun(Tg:ard Int×Int)=>K Tg) fun VS=>
         cond (decide<|U6<(0:Int)) (
          bd (aF<|AE-(1:Int)) fun SH=>
          lp 18446744073709551616 (fun(Zy:(ard Int×Int×Int)->atg ρ) (j8:ard Int×Int×Int)=>
           cond (decide<|j8.2.2<(v.length:Int)) (
            bd (aF<|j8.2.2+(j:Int)) fun Mu=>
            bd (bm j8.1 Mu) fun YC=>
            bd (bm j8.1 Mu) fun SG=>
            bd (bm v j8.2.2) fun QD=>
            bd (aF<|SG+QD) fun SF=>
            bd (aF<|SF+j8.2.1) fun Mt=>
            bd (aF<|j8.2.2+(j:Int)) fun KI=>
            bd (sH Mt (1000000000:Int)) fun YB=>
            bd (bm j8.1 KI) fun ag2=>
            bd (bm j8.1 KI) fun ag1=>
            bd (uV Mt (1000000000:Int)) fun YA=>
            bd (aF<|j8.2.2+(1:Int)) fun Yz=>
            Zy ((j8.1.set (KI).toNat YB),YA,Yz)
           ) (
            bd (aF<|(j:Int)+(v.length:Int)) fun SE=>
            bd (aF<|(j:Int)+(v.length:Int)) fun Yy=>
            bd (bm j8.1 Yy) fun akb=>
            bd (bm j8.1 Yy) fun ad8=>
            bd (aF<|ad8+j8.2.1) fun ad7=>
            bd (bm j8.1 SE) fun aka=>
            bd (bm j8.1 SE) fun aj9=>
            VS ((j8.1.set (SE).toNat ad7),SH)
           )
          ) ((qG.1.set (yS).toNat Ja),(0:Int),(0:Int))
         ) (
          VS ((qG.1.set (yS).toNat Ja),AE)
         )
        )
       ) (u,(0:Int),(0:Int))):=by
 have hVb:=bX hv;rw[VW] at hVb;have hP:=rp<|k+2
 have eW:aG (u.drop j)=u.getD j 0+BT*aG (u.drop<|j+1):=by rw[ng (by omega),lq]
 have hj0:=gN hu j;have hW0:0<=aG (u.drop j):=(bX<|ye hu j).1;have aoW:aG (u.drop j)<BT*aG v:=by unfold BT at*;omega
 have hzero:aG ((u.drop j).drop<|k+3)=0:=Oh (ye hu j) (by rw[mG];omega) (by
  rw[jM];have:BT*aG v<BT*iY (k+2):=by unfold BT;omega
  omega)
 have eWw:aG (u.drop j)=aG ((u.drop j).take<|k+3):=by
  have:=o7 (u.drop j) (k+3) (by rw[mG];omega);rw[hzero] at this;omega
 have hz:∀m,j+(k+3)<=m->u.getD m 0=0:=fun m hm=>by
  have:=MW (l:=u.drop j) hzero (ye hu j) (m:=m-j) (by omega);rwa [Qs,show j+(m-j)=m by omega] at this
 have as6:aG ((u.drop j).take<|k+3)=aG ((u.drop j).take<|k+2)+iY (k+2)*u.getD (j+(k+2)) 0:=by rw[di,Qs]
 refine Yd.jQ (Y8 (k:=k) (j:=j) hu hv VW hj (by omega) ZB rfl (by rw[<-eWw];exact aoW)) ?_;rintro t ⟨⟨ht0,ht1⟩,FU,hup⟩;rw[<-eWw] at FU hup;refine Vt (j:=j) (n:=k+2) hu hv VW (by omega) (by omega) ⟨ht0,ht1⟩ ?_;intro u2 b g1 g2 g3 g4 g5 g6;dsimp only;have en:((j:Int)+(v.length:Int))=((j+(k+2):Nat):Int):=by omega
 rw[en];have gt:u2.getD (j+(k+2)) 0=u.getD (j+(k+2)) 0:=g4 _<|bC _
 have hb2:=gN hu<|j+(k+2)
 have i2:bm u2 ((j+(k+2):Nat):Int)=some (u.getD (j+(k+2)) 0):=by rw[<-gt];exact bQ (by omega)
 have hS:=bX<|mf (ye g1 j)<|k+2
 rw[List.length_take,mG,fA (by omega)] at hS;refine Yd.bd (aM ⟨by omega,by omega⟩) (Yd.bd (aM ⟨by omega,by omega⟩) (Yd.bd i2 (Yd.bd i2 (Yd.bd (aM ⟨by unfold BT at*;omega,by unfold BT at*;omega⟩) (Yd.bd i2 (Yd.bd i2 (Yd.bd (aM ⟨by omega,by omega⟩) ?_)))))));rw[Int.toNat_natCast];have i3:bm (u2.set (j+(k+2))<|u.getD (j+(k+2)) 0-b) ((j+(k+2):Nat):Int)=some (u.getD (j+(k+2)) 0-b):=by
  rw[bQ (by rw[ou];omega),dv (by omega)]
 refine Yd.bd i3<|Yd.bd i3 ?_
 have eD:aG (u.drop j)-t*aG v=aG ((u2.drop j).take<|k+2)+iY (k+2)*(u.getD (j+(k+2)) 0-b):=by
  rw[lX];omega
 rw[Int.sub_mul,Int.one_mul] at FU;rw[kD,Int.one_mul] at hup
 generalize u.getD (j+(k+2)) 0-b=y at*
 have hy1: -1<=y:=by
  rcases(show -1<=y\/y<= -2 by omega) with h|h
  ·exact h
  ·have:=jB h (fH hP);omega
 have hy2:y<=0:=by
  rcases(show y<=0\/1<=y by omega) with h|h
  ·exact h
  ·have:=jB h (fH hP);omega
 have fin:∀(l:ard Int) (t':Int),l.length=u.length->l.take j=u.take j->(∀m,j+(k+2)<m->l.getD m 0=u.getD m 0)->(∀m,m≠j+(k+2)->0<=l.getD m 0/\l.getD m 0<BT)->0<=t'->t'<BT->
   aG ((l.drop j).take<|k+2)=aG (u.drop j)-t'*aG v->aG ((l.drop j).take<|k+2)<aG v->∀l2,l2=l.set (j+(k+2)) 0->Yd R (K (l2,t')):=by
  intro l t' q1 q2 q3 q4 q5 q6 q7 q8 l2 St;have ok2:qS l2:=abr fun m=>by
   by_cases e:m=j+(k+2)
   ·subst e;rw[St,dv (by omega)];unfold BT;omega
   ·rw[St,getD_set_ne e];exact q4 m e
  have ev:aG (l2.drop j)=aG ((l.drop j).take<|k+2):=by
   have e1:=o7 (l2.drop j) (k+2) (by rw[mG,St,ou];omega);have e2:(l2.drop j).take (k+2)=(l.drop j).take (k+2):=by rw[St,afS,dr<|bC _]
   have e3:aG ((l2.drop j).drop<|k+2)=0:=MV fun m=>by
    rw[Qs,Qs,St];by_cases e:m=0
    ·subst e;rw[tG,dv (by omega)]
    ·rw[<-tu,getD_set_ne (by omega),q3 _ (by omega)];exact hz _ (by omega)
   rw[e1,e2,e3];omega
  exact h l2 t' ok2 (by rw[St,ou];exact q1) (by rw[St,dr (by omega)];exact q2) q5 q6 (by rw[ev];exact q7) (by rw[ev];exact q8)
 refine Yd.jn (fun s:ard Int×Int=>∃l:ard Int,(l.length=u.length/\l.take j=u.take j/\(∀m,j+(k+2)<m->l.getD m 0=u.getD m 0)/\(∀m,m≠j+(k+2)->0<=l.getD m 0/\l.getD m 0<BT))/\(0<=s.2/\s.2<BT)/\aG ((l.drop j).take<|k+2)=aG (u.drop j)-s.2*aG v/\aG ((l.drop j).take<|k+2)<aG v/\s.1=l.set (j+(k+2)) 0) ?_ ?_
 ·rintro⟨l2,t'⟩ ⟨l,⟨q1,q2,q3,q4⟩,⟨q5,q6⟩,q7,q8,q9⟩;exact fin l t' q1 q2 q3 q4 q5 q6 q7 q8 l2 q9
 intro VS hk;refine Yd.cond (fun hc=>?_)<|fun hc=>?_
 ·have hc:=bf hc;have hy:y= -1:=by omega
  subst hy;have ht2:1<=t:=by
   rcases(show 1<=t\/t=0 by omega) with h|h
   ·exact h
   ·rw[h,Im] at eD;omega
  refine Yd.bd (aM ⟨by omega,by unfold BT at*;omega⟩) ?_;refine Tn (j:=j) (n:=k+2) ?_ hv VW (by rw[ou];omega) (by rw[ou];omega) ?_
  ·intro m hm;rw[getD_set_ne hm];exact gN g1 m
  intro u4 c r1 r2 r3 r4 r5 r6;dsimp only;rw[ou] at r1;rw[dr (by omega)] at r2;have e6:((u2.set (j+(k+2))<| -1).drop j).take (k+2)=(u2.drop j).take (k+2):=by rw[afS,dr<|bC _]
  rw[e6] at r6;have r4':u4.getD (j+(k+2)) 0= -1:=by rw[r3 _<|bC _,dv (by omega)]
  have i4:bm u4 ((j+(k+2):Nat):Int)=some (-1):=by rw[<-r4'];exact bQ (by omega)
  have N5:0<=aG ((u4.drop j).take<|k+2)/\aG ((u4.drop j).take<|k+2)<iY (k+2):=by
   have ok:qS ((u4.drop j).take<|k+2):=abr fun m=>by
    by_cases e:m<k+2
    ·rw[GV e];exact r4 _ (by omega)
    ·rw[zH (by rw[List.length_take];omega)];unfold BT;omega
   have:=bX ok;rwa [List.length_take,mG,fA (by omega)] at this
  have ZO:c=1:=by
   rcases r5 with h|h
   ·rw[h] at r6;omega
   ·exact h
  subst ZO;refine Yd.bd (aM ⟨by omega,by omega⟩) (Yd.bd (aM ⟨by omega,by omega⟩) (Yd.bd i4 (Yd.bd i4 (Yd.bd (aM ⟨by omega,by omega⟩) (Yd.bd i4 (Yd.bd i4 (hk _ ⟨u4,⟨by omega,by rw[r2,g3],?_,r4⟩,⟨by dsimp only;omega,by dsimp only;omega⟩,?_,?_,?_⟩)))))))
  ·intro m hm;rw[r3 m (by omega),getD_set_ne (by omega),g4 m (by omega)]
  ·dsimp only;rw[Int.sub_mul,Int.one_mul];omega
  ·omega
  ·dsimp only;rw[Int.toNat_natCast];rfl
 ·have hc:=bP hc;have hy:y=0:=by omega
  subst hy;refine hk _ ⟨u2,⟨g2,g3,fun m hm=>g4 m (by omega),fun m _=>gN g1 m⟩,⟨ht0,ht1⟩,?_,?_,rfl⟩
  ·dsimp only;omega
  ·omega
def afZ(h:l.length<1099511627776):fe 8 ([]:ard Int) l=some l:=by
 unfold fe;rw[BY,vy,bD (by omega),bD (by omega)];rfl
def Aa(ha:se a)(hb:se b)(h0:b≠[])(ZJ:a.length<43980465)(ZI:b.length<43980465):
  Yd (fun p=>(se p.1/\se p.2)/\aG p.1=aG a/aG b/\aG p.2=aG a%aG b) (ko a b):=by
 unfold ko;have hbp:=hb.pos h0;have ha0:=(bX ha.1).1;refine Yd.jQ (zb ha hb (by omega) (by omega)) fun c hcmp=>Yd.cond (fun hc=>?_)<|fun hc=>Yd.cond (fun h1=>?_)<|fun h1=>?_
 ·have hc:=bf hc;have hlt:aG a<aG b:=by rcases hcmp with⟨_,h⟩|⟨h,_⟩|⟨h,_⟩<;>omega
  exact Yd.mk ⟨⟨se.nil,ha⟩,by rw[Int.ediv_eq_zero_of_lt ha0 hlt];rfl,(B3 ha0 hlt).symm⟩
 ·have h1:=bf h1;obtain⟨d,rfl⟩:∃d,b=[d]:=L3.1 (by omega);have hd:aG [d]=d:=by simp[aG]
  rw[hd] at hbp⊢;have hd2:=hb.1 d (by simp);refine Yd.bd (x:=d) rfl (Yd.jQ (HC ha.1 ⟨hbp,by unfold BT at hd2;omega⟩ (by omega)) ?_);rintro⟨w,r⟩ ⟨g1,g2,g3,g4⟩;dsimp only at g1 g2 g3⊢;have VZ:=rP (aG a) (show d≠0 by omega);have hr1:=qA (aG a) hbp;have okr:qS [r]:=fun x hx=>by rw[uO] at hx;subst hx;omega
  refine Yd.jQ (xW okr (by simp)) fun z ⟨q1,q2,_⟩=>Yd.mk ⟨⟨g1,q1⟩,g2,?_⟩
  rw[q2,<-g3];simp[aG]
 ·have h1:=bP h1;have hc:=bP hc;have Ui:aG b<=aG a:=by rcases hcmp with⟨h,_⟩|⟨_,h⟩|⟨_,h⟩<;>omega
  have asx:0<b.length:=B5.2 h0;obtain⟨k,hk⟩:∃k,b.length=k+2:=⟨b.length-2,by omega⟩;have hal:k+2<=a.length:=by
   rcases jI a.length (k+2) with h|h
   ·have:=Bm ha.1 hb (by omega);omega
   ·exact h
  have e1:((b.length:Int)-1)=((k+1:Nat):Int):=by omega
  rw[e1];have hbt:=gN hb.1<|k+1
  generalize hf:1000000000/(b.getD (k+1) 0+1)=f
  have hdv:uV 1000000000 (b.getD (k+1) 0+1)=some f:=by rw[<-hf];exact div_pos (by omega) (by omega) (by omega)
  have hf0:0<=f/\f<=1000000000:=by rw[<-hf];exact⟨qy (by omega) (by omega),zA _ (by omega)⟩
  refine Yd.bd (aM ⟨by omega,by omega⟩) (Yd.bd (bQ (by omega)) (Yd.bd (aM ⟨by omega,by unfold BT at*;omega⟩)<|Yd.bd hdv ?_));have hf1:1<=f/\f<=500000000:=by
   have hb1:b.getD (k+1) 0≠0:=fun e=>by
    have l1:=uq hb.1 h0 hb.2;have l2:=mT (l:=b) (n:=k+1) (by omega);rw[eJ (by omega),e] at l2;have l3:=(bX<|mf hb.1<|k+1).2;rw[List.length_take,fA (by omega)] at l3;rw[hk,show k+2-1=k+1 by omega] at l1;omega
   have:=WT (t:=b.getD (k+1) 0) (by omega) (by unfold BT at hbt;omega) hf.symm;exact⟨this.1,this.2.1⟩
  have okf:qS [f]:=fun x hx=>by rw[uO] at hx;subst hx;unfold BT;omega
  have vf:aG [f]=f:=by simp[aG]
  refine Yd.jQ (z8 hb.1 okf (by omega) (by simp)) fun v ⟨v1,v2,v3⟩=>?_
  rw[vf] at v2;obtain⟨n1,n2,n3,_,_⟩:=ahH hb hk hf.symm v1 v2;refine Yd.jQ (z8 ha.1 okf (by omega) (by simp)) fun u0 ⟨w1,w2,w3⟩=>?_
  rw[vf] at w2;rw[List.length_singleton] at w3;refine Yd.bd (afZ (by omega)) (aeK w1.1 w3 (by omega) ?_);intro u hu VY huv;rw[w2] at huv;obtain⟨m,hm⟩:∃m,m+1+(k+2)=a.length+1:=⟨a.length-(k+2),by omega⟩;have em:((u.length:Int)-(v.length:Int))=((m+1:Nat):Int):=by omega
  rw[em];refine Yd.bd (aM ⟨by omega,by omega⟩) (Yd.bd (HX (by omega) (by omega) (by omega)) (Yd.bd (aM ⟨by omega,by omega⟩) (Yd.bd (aM ⟨by omega,by omega⟩) ?_)));rw[Int.toNat_natCast];have hAp:aG a<iY a.length:=(bX ha.1).2;have ON:=top_lt hu VY hm huv hAp hf1.1 n3;refine Yd.lp (fun s:ard Int×ard Int×Int=>qS s.1/\s.1.length=u.length/\qS s.2.1/\s.2.1.length=m+1/\ -1<=s.2.2/\s.2.2<(m+1:Nat)/\aG (s.1.drop (s.2.2+1).toNat)<aG v/\
    aG u=aG s.1+aG v*(iY (s.2.2+1).toNat*aG (s.2.1.drop (s.2.2+1).toNat))) (fun s=>(s.2.2+1).toNat) ?_ _ _
   ⟨hu,rfl,Ag _,by simp,by dsimp only;omega,by dsimp only;omega,?_,?_⟩ (by dsimp only;omega)
  rotate_left
  ·dsimp only;have e:(((m+1:Nat):Int)-1+1).toNat=m+1:=by omega
   rw[e];exact ON
  ·dsimp only;have e:(((m+1:Nat):Int)-1+1).toNat=m+1:=by omega
   rw[e,wK (by simp)];simp[aG]
  rintro next ⟨u',q,z⟩ ⟨s1,s2,s3,s4,s5,s6,s7,s8⟩ hn
  dsimp only at s1 s2 s3 s4 s5 s6 s7 s8 hn⊢;refine Yd.cond (fun hz=>?_)<|fun hz=>?_
  ·have hz:=bf hz;obtain⟨j,rfl⟩:=gk hz;have ej:(((j:Nat):Int)+1).toNat=j+1:=by omega
   rw[ej] at s7 s8;refine aa5 (k:=k) (j:=j) s1 v1.1 n1 (by omega) (by omega) n2 s7 ?_;intro l t r1 r2 r3 r4 r5 r6 r7;refine Yd.bd (bQ (by omega)) (Yd.bd (bQ (by omega)) (Yd.bd (aM ⟨by omega,by omega⟩) (hn _ ⟨r1,by dsimp only;omega,HT s3 _ ⟨r4,r5⟩,by simpa using s4,by dsimp only;omega,by dsimp only;omega,?_,?_⟩ ?_)))
   ·dsimp only;have e:(((j:Nat):Int)-1+1).toNat=j:=by omega
    rw[e];exact r7
   ·dsimp only;have e:(((j:Nat):Int)-1+1).toNat=j:=by omega
    rw[e,Int.toNat_natCast,vD (by omega),lq,s8,o7 u' j (by omega),o7 l j (by omega),r3,r6,jM];have x1:iY j*(aG (u'.drop j)-t*aG v)=iY j*aG (u'.drop j)-aG v*(iY j*t):=by
     rw[lX,iu<|aG v,Int.mul_comm t]
    have x2:aG v*(iY j*(t+BT*aG (q.drop<|j+1)))=aG v*(iY j*t)+aG v*(BT*iY j*aG (q.drop<|j+1)):=by
     rw[bp,bp,<-eS (iY j),Int.mul_comm (iY j) BT]
    rw[x1,x2];omega
   ·dsimp only;omega
  ·have hz:=bP hz;have:z= -1:=by omega
   subst this;have s7:aG u'<aG v:=s7;have s8:aG u=aG u'+aG v*(iY 0*aG q):=s8;rw[xX,Int.one_mul] at s8;have u'0:=(bX s1).1;have hVb:=(bX v1.1).2;have htk:aG (u'.take v.length)=aG u':=by
    have:=o7 u' v.length (by omega);rw[Oh s1 (by omega) (by omega)] at this;omega
   refine Yd.bd (jE (by omega) (by omega) (by omega)) ?_;have et:((u'.take ((v.length:Nat):Int).toNat).drop (0:Int).toNat)=u'.take v.length:=by simp
   rw[et];refine Yd.jQ (xW (mf s1 _) (by rw[List.length_take];omega)) fun y ⟨y1,y2,y3⟩=>Yd.bd (x:=f) rfl ?_
   rw[List.length_take] at y3;refine Yd.jQ (HC y1.1 ⟨by omega,by omega⟩ (by omega)) ?_;rintro⟨w,r⟩ ⟨g1,g2,g3,g4⟩;dsimp only at g1 g2 g3⊢;refine Yd.jQ (xW s3 (by omega)) fun x ⟨x1,x2,_⟩=>Yd.mk ⟨⟨x1,g1⟩,?_⟩
   dsimp only;rw[x2,g2,y2,htk];have hR:aG u'=f*(aG a-aG b*aG q):=by
    rw[huv,v2] at s8;rw[lX,Int.mul_comm f<|aG a,Int.mul_comm (aG b) f] at*;rw[eS] at s8;omega
   have hRd:aG u'/f=aG a-aG b*aG q:=by rw[hR,Int.mul_ediv_cancel_left _ (by omega)]
   rw[hRd];have hR0:0<=aG a-aG b*aG q:=by rw[<-hRd];exact qy u'0 (by omega)
   have hR1:aG a-aG b*aG q<aG b:=by
    refine L6 (a:=f) ?_ (by omega);rw[<-hR,Int.mul_comm f];omega
   have:=wh (A:=aG a) (B:=aG b) (q:=aG q) (r:=aG a-aG b*aG q) (by rw[Int.mul_comm<|aG q];omega) hR0 hR1;exact this
def HI:∀n:Nat,iY n=((10^(9*n):Nat):Int)
 |0=>rfl
 |n+1=>by
  rw[jM,HI n,show 9*(n+1)=9*n+9 by omega,qa,tw];unfold BT;omega
def ags(ha:qS a)(hl:a.length<=100000):Nat.log2 (aG a).toNat<1099511627776:=by
 have h:=bX ha;rw[HI] at h;have h1:=uP (show 0<10 by omega) (show 9*a.length<=900000 by omega);have:tV ((aG a).toNat:Int)=true:=xj (n:=900000) (by
  rw[jd]
  generalize 10^(9*a.length)=P at*
  generalize 10^900000=Q at*
  omega) (by omega)
 have:=gj this;rw[jd] at this;omega
def Un(hx:0<=x)(hy:0<y):Int.gcd y (x%y)=Int.gcd x y:=by
 obtain⟨m,rfl⟩:=gk hx;obtain⟨n,rfl⟩:=gk<|fH hy
 show Nat.gcd n (((m%n:Nat):Int)).natAbs=Nat.gcd m n;rw[jd,Ew n,<-Nat.gcd_rec,Ew]
def No(ha:se a)(hb:se b)(ZJ:a.length<=100000)(ZI:b.length<=100000):Yd (fun w=>se w/\aG w=(Int.gcd (aG a) (aG b):Int)/\w.length<=100000) (pd a b):=by
 unfold pd;refine Yd.lp (fun s:ard Int×ard Int=>se s.1/\se s.2/\s.1.length<=100000/\s.2.length<=100000/\Int.gcd (aG s.1) (aG s.2)=Int.gcd (aG a) (aG b)) (fun s=>muG (aG s.1).toNat (aG s.2).toNat) ?_ _ _ ⟨ha,hb,ZJ,ZI,rfl⟩<|VG (ags ha.1 ZJ)<|ags hb.1 ZI
 rintro next ⟨x,y⟩ ⟨h1,h2,h3,h4,h5⟩ hn
 dsimp only at h1 h2 h3 h4 h5 hn⊢;refine Yd.cond (fun hc=>?_)<|fun hc=>?_
 ·have hc:=bf hc;have hy0:y≠[]:=by intro e;subst e;simp at hc
  have hyp:=h2.pos hy0;have UU:=(bX h1.1).1;refine Yd.jQ (Aa h1 h2 hy0 (by omega) (by omega)) ?_;rintro⟨q,r⟩ ⟨⟨g1,g2⟩,g3,g4⟩;dsimp only at g1 g2 g3 g4⊢;have hr:=qA (aG x) hyp;have hrl:r.length<=y.length:=g2.len (by rw[g4];have:=(bX h2.1).2;omega);refine hn _ ⟨h2,g2,h4,by dsimp only;omega,?_⟩ ?_
  ·dsimp only;rw[g4,<-h5,Un UU hyp]
  ·dsimp only;rw[g4];have e:(aG x%aG y).toNat=(aG x).toNat%(aG y).toNat:=by
    rw[Int.toNat_emod UU<|fH hyp]
   rw[e];exact NH (by omega)
 ·have hc:=bP hc;have hy0:y=[]:=rT (by omega);subst hy0;refine Yd.mk ⟨h1,?_,h3⟩;have UU:=(bX h1.1).1;rw[<-h5];show aG x=((Int.gcd (aG x) 0:Nat):Int);rw[Int.gcd_zero_right];omega
def aeL{a b:Int}(ha:0<=a/\a<=4000000000000000000)(hb:0<=b/\b<=4000000000000000000):sx a b=some (Int.gcd a b:Int):=by
 have key:Yd (fun r=>r=(Int.gcd a b:Int)) (sx a b):=by
  unfold sx;have ZH:∀x:Int,0<=x/\x<=4000000000000000000->Nat.log2 x.toNat<1099511627776:=fun x hx=>by
   have:=xj (z:=x) (n:=19) (by simp;omega) (by omega);have:=gj this;rw[show x.natAbs=x.toNat by omega] at this;omega
  refine Yd.lp (fun s:Int×Int=>(0<=s.1/\s.1<=4000000000000000000)/\(0<=s.2/\s.2<=4000000000000000000)/\Int.gcd s.1 s.2=Int.gcd a b) (fun s=>muG s.1.toNat s.2.toNat) ?_ _ _ ⟨ha,hb,rfl⟩<|VG (ZH a ha)<|ZH b hb
  rintro next ⟨x,y⟩ ⟨h1,h2,h5⟩ hn
  dsimp only at h1 h2 h5 hn⊢;refine Yd.cond (fun hc=>?_)<|fun hc=>?_
  ·have hc:=bf hc;have hr:=qA x hc;have VZ:=rP x (show y≠0 by omega);refine Yd.bd (xm h1.1 hc) (hn _ ⟨h2,⟨VZ,by dsimp only;omega⟩,?_⟩ ?_)
   ·dsimp only;rw[<-h5,Un h1.1 hc]
   ·dsimp only;rw[Int.toNat_emod h1.1<|fH hc];exact NH (by omega)
  ·have hc:=bP hc;have:y=0:=by omega
   subst this;refine Yd.mk ?_;rw[<-h5,Int.gcd_zero_right];omega
 obtain⟨r,e,rfl⟩:=key;exact e
def D6(n:Nat):0<(dc n).length:=by
 by_cases h:n<10
 ·rw[pE h];simp
 ·rw[sC h];simp
def Rb{r:Nat}(h:k<=(dc r).length):xY k r=dc r:=by
 unfold xY;rw[Nat.sub_eq_zero_of_le h];rfl
def Zd(h:0<m/10\/1<k):xY k m=xY (k-1) (m/10)++[UInt8.ofNat<|48+m%10]:=by
 by_cases hm:m<10
 ·have hk:1<k:=by omega
  obtain⟨j,rfl⟩:∃j,k=j+2:=⟨k-2,by omega⟩;unfold xY;rw[show m/10=0 by omega,pE hm,pE (show 0<10 by omega),show m%10=m by omega];simp only[List.length_singleton];rw[show j+2-1=j+1 by omega,show j+1-1=j by omega,List.replicate_succ'];rfl
 ·unfold xY;rw[sC hm,List.length_append,List.length_singleton,show k-((dc<|m/10).length+1)=k-1-(dc<|m/10).length by omega,rQ]
def abi(h1:m/10=0)(h2:k<=1):xY k m=[UInt8.ofNat<|48+m%10]:=by
 rw[Rb (by have:=D6 m;omega),pE (by omega),show m%10=m by omega]
def aiZ{d:Nat}(h:d<10):(([48,49,50,51,52,53,54,55,56,57]:adx).take<|d+1).drop d=[UInt8.ofNat<|48+d]:=by
 match d,h with
 |0,_=>rfl
 |1,_=>rfl
 |2,_=>rfl
 |3,_=>rfl
 |4,_=>rfl
 |5,_=>rfl
 |6,_=>rfl
 |7,_=>rfl
 |8,_=>rfl
 |9,_=>rfl
def sV{l m:adx}(h:l.length+m.length<=9223372036854775807):xS l m=some (l++m):=by
 unfold xS;rw[bD h];rfl
def Dx(hn:n<=9000000000000000000)(hk:1<=k/\k<=20):fw (n:Int) (k:Int)=some (xY k n):=by
 have key:Yd (fun r=>r=xY k n) (fw (n:Int) (k:Int)):=by
  unfold fw;refine Yd.lp (fun s:Int×adx=>∃m:Nat,s.1=m/\m<=n/\m+s.2.length<=n+20/\xY k n=(if 0<m\/s.2.length<k then xY (k-s.2.length) m++s.2 else s.2)) (fun s=>s.1.toNat+(k-s.2.length)) ?_ _ _ ⟨n,rfl,bC _,by simp,?_⟩ (by dsimp only;omega)
  ·rintro next ⟨z,s⟩ ⟨m,rfl,h0,h1,h2⟩ KA
   dsimp only at h1 h2 KA⊢;refine Yd.cond (fun hc=>?_)<|fun hc=>?_
   ·have hg:0<m\/s.length<k:=by
     rw[mY,jJ,jJ] at hc;omega
    rw[if_pos hg] at h2;have hr:((m:Int)%10)=((m%10:Nat):Int):=by omega
    have hq:((m:Int)/10)=((m/10:Nat):Int):=by omega
    have hd:m%10<10:=tF _ (by omega);have akN:sH (m:Int) 10=some ((m%10:Nat):Int):=by rw[xm (by omega) (by omega),hr]
    have hdiv:uV (m:Int) 10=some ((m/10:Nat):Int):=by rw[div_pos (by omega) (by omega) (by omega),hq]
    have bO:im ([48,49,50,51,52,53,54,55,56,57]:adx) ((m%10:Nat):Int) (((m%10:Nat):Int)+1)=some [UInt8.ofNat<|48+m%10]:=by
     rw[jE (by omega) (by omega) (by simp;omega),Int.toNat_natCast,show(((m%10:Nat):Int)+1).toNat=m%10+1 by omega,aiZ hd]
    refine Yd.bd akN (Yd.bd akN (Yd.bd (aM ⟨by omega,by omega⟩) (Yd.bd bO (Yd.bd (sV (by simp;omega)) (Yd.bd hdiv (KA _ ⟨m/10,rfl,by omega,?_,?_⟩ ?_))))))
    ·dsimp only;simp only[List.singleton_append,List.length_cons];omega
    ·dsimp only;simp only[List.singleton_append,List.length_cons];rw[h2];by_cases hg2:0<m/10\/s.length+1<k
     ·rw[if_pos hg2,Zd (by omega),rQ,show k-s.length-1=k-(s.length+1) by omega];rfl
     ·rw[if_neg hg2,abi (by omega) (by omega)];rfl
    ·dsimp only;simp only[List.singleton_append,List.length_cons];omega
   ·have hg: ¬(0<m\/s.length<k):=by
     rw[wI,kE,kE] at hc;omega
    rw[if_neg hg] at h2;exact Yd.mk h2.symm
  ·dsimp only;rw[if_pos (by simp;omega)];simp
 obtain⟨r,e,rfl⟩:=key;exact e
def abh{r:Nat}(hk:0<k)(h:r<10^k):(xY k r).length=k:=by
 have:=mw k r hk h;unfold xY;rw[List.length_append,uQ];omega
def Tl(h:rj p z)(hl:p.2.length<=100000):mi p=some (eL z):=by
 have key:Yd (fun r=>r=eL z) (mi p):=by
  obtain⟨h1,h2,h3⟩:=h;obtain⟨neg,w⟩:=p;dsimp only at h1 h2 h3 hl;unfold mi;dsimp only;refine Yd.cond (fun hc=>?_)<|fun hc=>?_
  ·have hc:=bf hc;have hw:w=[]:=rT (by omega);subst hw;have hz:z=0:=by
    have:(0:Int)=(z.natAbs:Int):=h2;omega
   subst hz;exact Yd.mk rfl
  ·have hc:=bP hc;obtain⟨n,hn⟩:∃n,w.length=n+1:=⟨w.length-1,by omega⟩;have hw0:w≠[]:=by intro e;subst e;simp at hn
   have e1:((w.length:Int)-1)=(n:Int):=by omega
   rw[e1];have ht:=gN h1.1 n;have ZB:0<w.getD n 0:=by
    have l1:=uq h1.1 hw0 h1.2;have l2:=mT (l:=w) (n:=n) (by omega);rw[eJ (by omega)] at l2;have l3:=(bX<|mf h1.1 n).2;rw[List.length_take,fA (by omega)] at l3;rw[hn,Nat.add_sub_cancel] at l1;rcases(show 0<w.getD n 0\/w.getD n 0=0 by omega) with h|h
    ·exact h
    ·rw[h] at l2;omega
   obtain⟨t,htt⟩:=gk ht.1;have hdt:fw (w.getD n 0) 1=some (xY 1 t):=by rw[htt];exact Dx (k:=1) (by unfold BT at*;omega) (by omega)
   refine Yd.bd (aM ⟨by omega,by omega⟩) (Yd.bd (bQ (by omega)) (Yd.bd hdt (Yd.bd (aM ⟨by omega,by omega⟩) ?_)));rw[Rb<|D6 t];have ON:(dc t).length<=9:=mw 9 t (by omega) (by unfold BT at*;omega);refine Yd.lp (fun s:adx×Int=> -1<=s.2/\s.2<n/\s.1=dc (aG<|w.drop (s.2+1).toNat).toNat/\0<aG (w.drop (s.2+1).toNat)/\s.1.length+9*(s.2+1).toNat<=1000000) (fun s=>(s.2+1).toNat) ?_ _ _ ⟨by dsimp only;omega,by dsimp only;omega,?_,?_,?_⟩ (by dsimp only;omega)
   ·rintro next ⟨s,i⟩ ⟨g1,g2,g3,g4,g5⟩ hnx
    dsimp only at g1 g2 g3 g4 g5 hnx⊢;refine Yd.cond (fun hd=>?_)<|fun hd=>?_
    ·have hd:=bf hd;obtain⟨j,rfl⟩:=gk hd;have ej:(((j:Nat):Int)+1).toNat=j+1:=by omega
     have ej':(((j:Nat):Int)-1+1).toNat=j:=by omega
     rw[ej] at g3 g4 g5;have hx:=gN h1.1 j;obtain⟨r,hr⟩:=gk hx.1;have hr9:r<1000000000:=by unfold BT at*;omega
     have XT:fw (w.getD j 0) 9=some (xY 9 r):=by rw[hr];exact Dx (k:=9) (by omega) (by omega)
     have Pk:(xY 9 r).length=9:=abh (by omega) (by omega);have Fb:aG (w.drop j)=r+BT*aG (w.drop<|j+1):=by rw[ng (by omega),lq,hr]
     refine Yd.bd (bQ (by omega)) (Yd.bd XT (Yd.bd (sV (by omega)) (Yd.bd (aM ⟨by omega,by omega⟩) (hnx _ ⟨by dsimp only;omega,by dsimp only;omega,?_,?_,?_⟩ (by dsimp only;omega)))))
     ·dsimp only;rw[ej',g3,Fb];have e:(((r:Nat):Int)+BT*aG (w.drop<|j+1)).toNat=(aG<|w.drop<|j+1).toNat*10^9+r:=by unfold BT;omega
      rw[e,GB 9 _ r (by omega) (by omega) (by omega)]
     ·dsimp only;rw[ej',Fb];unfold BT;omega
     ·dsimp only;rw[ej',List.length_append,Pk];omega
    ·have hd:=bP hd;have:i= -1:=by omega
     subst this;have g3:s=dc (aG w).toNat:=g3;have e2:(aG w).toNat=z.natAbs:=by rw[h2];omega
     rw[e2] at g3;have g5:s.length+0<=1000000:=g5;refine Yd.cond (fun Au=>?_)<|fun Au=>?_
     ·refine Yd.bd (sV (by simp only[List.length_singleton];omega)) (Yd.mk ?_);rw[Au] at h3;unfold eL;rw[<-h3,g3];rfl
     ·rw[Au] at h3;refine Yd.mk ?_;unfold eL;rw[<-h3,g3];rfl
   ·dsimp only;have e:(((w.length:Int)-2)+1).toNat=n:=by omega
    rw[e,ng (by omega),wK (by omega)];simp only[aG,htt];simp
   ·dsimp only;have e:(((w.length:Int)-2)+1).toNat=n:=by omega
    rw[e,ng (by omega),wK (by omega)];simp only[aG];omega
   ·dsimp only;omega
 obtain⟨r,e,rfl⟩:=key;exact e
def akC{l:adx}{b:UInt8}(h:l[n]? =some b):bm l (n:Int)=some b:=h
def EU{b:UInt8}(h:gZ b=true):48<=b.toNat/\b.toNat<=57:=by
 unfold gZ at h;obtain⟨h1,h2⟩:=eK h;exact⟨gj h1,gj h2⟩
def El{s:adx}(hd:s.all gZ=true)(hl:s.length<=18):ic s=some (dD s:Int):=by
 have key:Yd (fun r=>r=(dD s:Int)) (ic s):=by
  unfold ic;refine Yd.lp (fun t:Int×Int=>0<=t.2/\t.2<=s.length/\t.1=(dD (s.take t.2.toNat):Int)) (fun t=>s.length-t.2.toNat) ?_ _ _ ⟨by dsimp only;omega,by dsimp only;omega,by simp[dD]⟩ (by dsimp only;omega);rintro next ⟨v,i⟩ ⟨h1,h2,h3⟩ hn
  dsimp only at h1 h2 h3 hn⊢;obtain⟨n,rfl⟩:=gk h1;rw[Int.toNat_natCast] at h3;refine Yd.cond (fun hc=>?_)<|fun hc=>?_
  ·have hc:=bf hc;have hlt:n<s.length:=by omega
   have hdt:(s.take n).all gZ=true:=db.2 fun x hx=>db.1 hd x<|tC hx
   have hv:=xi _ hdt;rw[List.length_take,fA (by omega)] at hv;have hp:(10:Nat)^n<=10^17:=uP (by omega) (by omega);have hb:=EU<|db.1 hd _<|qz hlt
   have hw:wr .i64 ((s[n].toNat:Nat):Int)=(s[n].toNat:Int):=by
    show IntKind.wrap .i64 _=_;rw[IntKind.wrap_i64];omega
   refine Yd.bd (aM ⟨by omega,by omega⟩) (Yd.bd (akC<|kb hlt) (Yd.bd (aM ⟨by rw[hw];omega,by rw[hw];omega⟩) (Yd.bd (aM ⟨by rw[hw];omega,by rw[hw];omega⟩) (Yd.bd (aM ⟨by omega,by omega⟩) (hn _ ⟨by dsimp only;omega,by dsimp only;omega,?_⟩ (by dsimp only;omega))))));dsimp only;rw[hw,show(((n:Nat):Int)+1).toNat=n+1 by omega,LN,kb hlt,vJ,h3];have e:dD [s[n]]=s[n].toNat-48:=by simp[dD]
   simp only[Option.toList_some,List.length_singleton,e];omega
  ·have hc:=bP hc;have:n=s.length:=by omega
   subst this;refine Yd.mk ?_;rw[h3,eJ<|bC _]
 obtain⟨r,e,rfl⟩:=key;exact e
def Jt{ds:adx}(neg:Bool)(hd:ds.all gZ=true)(h0:ds≠[])(hl:ds.length<=800000):Yd (fun p=>rj p (bif neg then -(dD ds:Int) else(dD ds:Int))/\p.2.length<=ds.length) (lh (bif neg then 45::ds else ds)):=by
 unfold lh;have core:Yd (fun p=>rj p (bif neg then -(dD ds:Int) else(dD ds:Int))/\p.2.length<=ds.length)
  (lp 18446744073709551616 (fun(k9:(adx×ard Int)->atg _) (s8:adx×ard Int)=>
   cond (decide<|(9:Int)<(s8.1.length:Int)) (
    bd (aF<|(s8.1.length:Int)-(9:Int)) fun iM=>
    bd (im s8.1 iM (s8.1.length:Int)) fun iW=>
    bd (ic iW) fun kd=>
    bd (fe 8 s8.2 ([kd]:ard Int)) fun iP=>
    bd (aF<|(s8.1.length:Int)-(9:Int)) fun ju=>
    bd (im s8.1 0 ju) fun kQ=>
    k9 (kQ,iP)
   ) (
    bd (ic s8.1) fun kP=>
    bd (fe 8 s8.2 ([kP]:ard Int)) fun nZ=>
    bd (fa neg nZ) fun oN=>
    some oN
   )
  ) (ds,[])):=by
  refine Yd.lp (fun t:adx×ard Int=>t.1.all gZ=true/\t.1≠[]/\t.1.length<=800000/\qS t.2/\t.1.length+t.2.length<=ds.length/\(dD ds:Int)=dD t.1*iY t.2.length+aG t.2) (fun t=>t.1.length) ?_ _ _ ⟨hd,h0,hl,LB,by simp,by simp[xX,aG]⟩ (by dsimp only;omega);rintro next ⟨s,w⟩ ⟨g1,g2,g3,g4,g5,g6⟩ hn
  dsimp only at g1 g2 g3 g4 g5 g6 hn⊢;have okv:∀x:adx,x.all gZ=true->x.length<=9->0<=(dD x:Int)/\(dD x:Int)<BT:=fun x hx FT=>by
   have h1:=xi x hx;have h2:(10:Nat)^x.length<=10^9:=uP (by omega) FT;unfold BT;omega
  have ext:∀v:Int,0<=v/\v<BT->qS (w++[v]):=fun v hv=>by
   rw[BI];exact⟨g4,fun y hy=>by rw[uO] at hy;subst hy;exact hv⟩
  refine Yd.cond (fun hc=>?_)<|fun hc=>?_
  ·have hc:=bf hc;obtain⟨n,KA⟩:∃n,s.length=n+9:=⟨s.length-9,by omega⟩;have e1:((s.length:Int)-9)=(n:Int):=by omega
   rw[e1];have hda:(s.take n).all gZ=true:=db.2 fun x hx=>db.1 g1 x<|tC hx
   have hdb:(s.drop n).all gZ=true:=db.2 fun x hx=>db.1 g1 x<|yG hx
   have ZI:(s.drop n).length=9:=by rw[mG];omega
   have es:im s (n:Int) (s.length:Int)=some (s.drop n):=by rw[jE (by omega) (by omega) (by omega)];simp
   have et:im s 0 (n:Int)=some (s.take n):=by rw[jE (by omega) (by omega) (by omega)];simp
   have hv:=okv _ hdb (by omega);refine Yd.bd (aM ⟨by omega,by omega⟩) (Yd.bd es (Yd.bd (El hdb (by omega)) (Yd.bd (adq (by omega)) (Yd.bd (aM ⟨by omega,by omega⟩)<|Yd.bd et<|hn _ ⟨hda,?_,?_,ext _ hv,?_,?_⟩ ?_))))
   ·intro e;have:=congrArg List.length e;rw[List.length_take,BY] at this;omega
   ·dsimp only;rw[List.length_take];omega
   ·dsimp only;rw[List.length_take,List.length_append,List.length_singleton];omega
   ·dsimp only;have hs:dD s=dD (s.take n)*10^9+dD (s.drop n):=by
     conv=>lhs;rw[<-yI n s]
     rw[vJ,ZI]
    rw[g6,hs,List.length_append,List.length_singleton,jM,nu];have e:aG [(dD (s.drop n):Int)]=dD (s.drop n):=by simp[aG]
    rw[e,Int.natCast_add,tw,kD,eS];have:((10^9:Nat):Int)=BT:=rfl;rw[this,Int.mul_comm (dD (s.drop n):Int)];omega
   ·dsimp only;rw[List.length_take];omega
  ·have hc:=bP hc;have hv:=okv s g1 (by omega);have ZC:0<s.length:=B5.2 g2;refine Yd.bd (El g1 (by omega)) (Yd.bd (adq (by omega)) (Yd.jQ (Nn (ext _ hv) (by rw[List.length_append,List.length_singleton];omega)) fun p ⟨p1,p2⟩=>Yd.mk ?_));have e:aG (w++[(dD s:Int)])=(dD ds:Int):=by
    rw[nu,g6];have e:aG [(dD s:Int)]=dD s:=by simp[aG]
    rw[e,Int.mul_comm];omega
   rw[e] at p1;rw[List.length_append,List.length_singleton] at p2;exact⟨p1,by omega⟩
 cases neg with
 |true=>
  simp only[fT] at core⊢;refine Yd.fR (fun _=>⟨45,rfl,?_⟩) (fun h=>by simp[gd] at h);have hb:((decide<|(0:Int)<((45::ds).length:Int))&&(decide<|((45:UInt8).toNat:Int)=(45:Int)))=true:=by
   rw[bD (by simp only[List.length_cons];omega)];rfl
  rw[hb];have es:im (45::ds) (1:Int) ((45::ds).length:Int)=some ds:=by
   rw[jE (by omega) (by simp only[List.length_cons];omega) (by omega),Int.toNat_natCast,eJ<|bC _];rfl
  exact Yd.jn (fun s=>s=ds) (fun s hs=>by subst hs;exact core) fun k hk=>Yd.cond (fun _=>Yd.bd es<|hk _ rfl) (fun h=>by cases h)
 |false=>
  obtain⟨d,r,rfl⟩:∃d r,ds=d::r:=by
   cases ds with
   |nil=>exact absurd rfl h0
   |cons d r=>exact⟨d,r,rfl⟩
  have hdd:=EU (db.1 hd d (by simp));simp only[fU] at core⊢;refine Yd.fR (fun _=>⟨d,rfl,?_⟩) (fun h=>by simp[gd] at h);have hb:((decide<|(0:Int)<((d::r).length:Int))&&(decide<|(d.toNat:Int)=(45:Int)))=false:=by
   rw[cr (show¬(d.toNat:Int)=45 by omega),Is]
  rw[hb];exact Yd.jn (fun s=>s=d::r) (fun s hs=>by subst hs;exact core) fun k hk=>Yd.cond (fun h=>by cases h)<|fun _=>hk _ rfl
def PT{s:adx}(hk:k<=s.length)(h1:∀i,i<k->s[i]? ≠some 47)(h2:k<s.length->s[k]? =some 47)(hl:s.length<1099511627776):iD s=some (k:Int):=by
 have key:Yd (fun r=>r=(k:Int)) (iD s):=by
  unfold iD;refine Yd.lp (fun i:Int=>0<=i/\i<=k) (fun i=>s.length-i.toNat) ?_ _ _ ⟨by omega,by omega⟩ (by omega);rintro next i ⟨g1,g2⟩ hn
  obtain⟨n,rfl⟩:=gk g1;refine Yd.cond (fun hc=>?_)<|fun hc=>?_
  ·have hc:=bf hc;have hlt:n<s.length:=by omega
   have hg:=kb hlt;refine Yd.bd (akC hg)<|Yd.cond (fun hd=>?_)<|fun hd=>?_
   ·have hd:=bf hd;refine Yd.mk ?_;have hb:s[n]=47:=LP.1 (by show _=47;omega);rcases jI n k with h|h
    ·exact absurd (by rw[hg,hb])<|h1 n h
    ·omega
   ·have hd:=bP hd;rcases jI n k with h|h
    ·exact Yd.bd (aM ⟨by omega,by omega⟩) (hn _ ⟨by omega,by omega⟩ (by omega))
    ·have e:n=k:=by omega
     subst e;have:=h2 hlt;rw[hg] at this;have:=fj this;rw[this] at hd;exact absurd rfl hd
  ·have hc:=bP hc;exact Yd.mk (by omega)
 obtain⟨r,e,rfl⟩:=key;exact e
def cW(q:Rat):adx:=eL q.num++(bif decide (q.den=1) then [] else 47::dc q.den)
def nh(n:Nat):(dc n).all gZ=true/\dD (dc n)=n:=by
 induction n using Nat.strongRecOn with
 |ind n ih=>
  have one:∀d,d<10->gZ (UInt8.ofNat<|48+d)=true/\dD [UInt8.ofNat<|48+d]=d:=by
   intro d hd
   match d,hd with
   |0,_=>decide
   |1,_=>decide
   |2,_=>decide
   |3,_=>decide
   |4,_=>decide
   |5,_=>decide
   |6,_=>decide
   |7,_=>decide
   |8,_=>decide
   |9,_=>decide
  by_cases h:n<10
  ·rw[pE h];have:=one n h;exact⟨by rw[rz,this.1];rfl,this.2⟩
  ·rw[sC h];obtain⟨i1,i2⟩:=ih (n/10) (by omega);have:=one (n%10) (by omega);refine⟨by rw[LQ,i1,rz,this.1];rfl,?_⟩;rw[vJ,i2,this.2,List.length_singleton];omega
def Yc(n:Nat):dc n≠[]:=fun e=>by have:=D6 n;rw[e] at this;simp at this
def Ye(h:(dc n).length<=k):n<10^k:=by
 have:=xi _ (nh n).1;rw[(nh n).2] at this;have h2:(10:Nat)^(dc n).length<=10^k:=uP (by omega) h;omega
def aaK(z:Int):eL z=bif decide (z<0) then 45::dc z.natAbs else dc z.natAbs:=rfl
def F6(z:Int):∀x∈eL z,x≠47:=by
 intro x hx e;subst e;have hd:(47:UInt8)∉dc z.natAbs:=fun h=>by
  have:=db.1 (nh z.natAbs).1 _ h;simp[gZ] at this
 unfold eL at hx;cases hc:decide (z<0) with
 |true=>
  rw[hc] at hx;have hx:(47:UInt8)∈45::dc z.natAbs:=hx;rcases bM.1 hx with h|h
  ·cases h
  ·exact hd h
 |false=>rw[hc] at hx;exact hd hx
def Ht{u t:adx}(hu:∀x∈u,x≠47)(hl:(u++47::t).length<1099511627776):iD (u++47::t)=some (u.length:Int):=by
 refine PT (by simp) (fun i hi=>?_) (fun _=>by simp) hl;rw[wL hi,kb hi];intro e;exact hu _ (qz hi)<|fj e
def Nc{u:adx}(hu:∀x∈u,x≠47)(hl:u.length<1099511627776):iD u=some (u.length:Int):=by
 refine PT (bC _) (fun i hi=>?_) (fun h=>absurd h<|Nat.lt_irrefl _) hl;rw[kb hi];intro e;exact hu _ (qz hi)<|fj e
def xH(z:Int):(eL z).length<=(dc z.natAbs).length+1:=by
 unfold eL;cases decide (z<0)
 ·exact vx _
 ·exact bC _
def JB(hl:(dc z.natAbs).length<=800000):Yd (fun p=>rj p z/\p.2.length<=800000) (lh<|eL z):=by
 have h:=Jt (decide<|z<0) (nh z.natAbs).1 (Yc _) hl;rw[(nh _).2] at h;rw[<-aaK] at h;refine h.imp fun p hp=>⟨?_,by omega⟩
 have e:(bif decide (z<0) then -(z.natAbs:Int) else(z.natAbs:Int))=z:=by
  cases hc:decide (z<0) with
  |true=>have:=bf hc;show -(z.natAbs:Int)=z;omega
  |false=>have:=bP hc;show(z.natAbs:Int)=z;omega
 rw[e] at hp;exact hp.1
def Zc(hl:(dc n).length<=800000):Yd (fun p=>rj p (n:Int)/\p.2.length<=800000) (lh<|dc n):=by
 have h:=JB (z:=(n:Int)) (by simpa using hl);have e:eL (n:Int)=dc n:=by
  unfold eL;rw[cr (by omega)];simp
 rwa [e] at h
def YE:nU 1=some (false,[1]):=by kernel_rfl
def Y7(h1:(dc q.num.natAbs).length<=800000)(h2:(dc q.den).length<=800000):Yd (fun p=>(rj p.1 q.num/\rj p.2 (q.den:Int))/\p.1.2.length<=800000/\p.2.2.length<=800000) (ie<|cW q):=by
 have hlen:=xH q.num;unfold ie cW;cases hd:decide (q.den=1) with
 |true=>
  have hd:=bf hd;simp only[fT,vB];refine Yd.bd (Nc (F6 _) (by omega))<|Yd.cond (fun _=>?_)<|fun h=>absurd rfl<|bP h
  refine Yd.jQ (JB h1) fun p hp=>Yd.bd YE (Yd.mk ⟨⟨hp.1,?_⟩,hp.2,by simp⟩)
  rw[hd];refine⟨⟨fun x hx=>?_,by simp⟩,rfl,rfl⟩;rw[uO] at hx;subst hx;unfold BT;omega
 |false=>
  have hd:=bP hd;simp only[fU];have hlt:(eL q.num++47::dc q.den).length=(eL q.num).length+1+(dc q.den).length:=by simp;omega
  refine Yd.bd (Ht (F6 _) (by omega)) (Yd.cond (fun h=>by have:=bf h;omega)<|fun _=>?_);have es:im (eL q.num++47::dc q.den) 0 ((eL q.num).length:Int)=some (eL q.num):=by
   rw[jE (by omega) (by omega) (by omega)];simp
  have et:im (eL q.num++47::dc q.den) (((eL q.num).length:Int)+1) ((eL q.num++47::dc q.den).length:Int)=some (dc q.den):=by
   rw[jE (by omega) (by omega) (by omega),Int.toNat_natCast,eJ<|bC _,show(((eL q.num).length:Int)+1).toNat=(eL q.num).length+1 by omega,<-iF];simp
  refine Yd.bd es (Yd.jQ (JB h1) fun p hp=>Yd.bd (aM ⟨by omega,by omega⟩)<|Yd.bd et<|Yd.jQ (Zc h2) fun r hr=>Yd.mk ⟨⟨hp.1,hr.1⟩,hp.2,hr.2⟩)
def rj.len{p:Bool×ard Int}{z:Int}(h:rj p z){n:Nat}(hz:(z.natAbs:Int)<iY n):p.2.length<=n:=h.1.len (by rw[h.2.1];exact hz)
def rj.lt(h:rj p z):(z.natAbs:Int)<iY p.2.length:=by rw[<-h.2.1];exact(bX h.1.1).2
def ux{b:Bool}(hw:qS w)(hl:w.length<=4000000)(hz:(bif b then -aG w else aG w)=z):Yd (fun p=>rj p z/\p.2.length<=w.length) (fa b w):=by
 rw[<-hz];exact Nn hw (by omega)
def Hw(h:rj p z):(bif p.1 then -aG p.2 else aG p.2)=z:=by
 rw[h.2.1,h.2.2];cases hc:decide (z<0) with
 |true=>have:=bf hc;show -(z.natAbs:Int)=z;omega
 |false=>have:=bP hc;show(z.natAbs:Int)=z;omega
def PU(h:rj p z)(hl:p.2.length<=4000000):Yd (fun q=>rj q (-z)/\q.2.length<=p.2.length) (qU p):=by
 unfold qU;refine Yd.jQ (ux (z:= -z) h.1.1 hl ?_) fun q hq=>Yd.mk hq
 have:=Hw h;cases hp:p.1
 ·rw[hp] at this;show -aG p.2= -z;have:aG p.2=z:=this;omega
 ·rw[hp] at this;show aG p.2= -z;have: -aG p.2=z:=this;omega
def AU{q:Bool×ard Int}(hp:rj p x)(hq:rj q y)(hl:p.2.length<=1000000)(hm:q.2.length<=1000000):Yd (fun r=>rj r (x*y)/\r.2.length<=p.2.length+q.2.length) (lg p q):=by
 unfold lg;refine Yd.jQ (z8 hp.1.1 hq.1.1 (by omega) (by omega)) fun w ⟨w1,w2,w3⟩=>Yd.jQ (ux (z:=x*y) w1.1 (by omega) ?_) fun r hr=>Yd.mk ⟨hr.1,by omega⟩
 rw[w2,<-Hw hp,<-Hw hq]
 generalize aG p.2=a
 generalize aG q.2=b
 cases p.1<;>cases q.1<;>simp[Int.neg_mul,Int.mul_neg]
def aa6{q:Bool×ard Int}(hp:rj p x)(hq:rj q y)(hl:p.2.length<=1000000)(hm:q.2.length<=1000000):Yd (fun r=>rj r (x+y)/\r.2.length<=p.2.length+q.2.length+1) (xr p q):=by
 unfold xr;have sp:=Hw hp;have sq:=Hw hq;have a0:=(bX hp.1.1).1;have b0:=(bX hq.1.1).1;have agt:∀{a b:ard Int},se a->se b->aG a<=aG b->a.length<=b.length:=fun ha hb h=>by
  rcases jI (List.length _) (List.length _) with h'|h'
  ·have:=Bm hb.1 ha h';omega
  ·exact h'
 refine Yd.cond (fun hc=>?_)<|fun hc=>?_
 ·have hc:p.1=q.1:=by simpa using hc
  refine Yd.jQ (Ph hp.1.1 hq.1.1 (by omega) (by omega)) fun w ⟨w1,w2,w3⟩=>Yd.jQ (ux (z:=x+y) w1 (by omega) ?_) fun r hr=>Yd.mk ⟨hr.1,by omega⟩
  rw[w2,<-sp,<-sq,<-hc];cases p.1
  ·rfl
  ·show -(aG p.2+aG q.2)= -aG p.2+ -aG q.2;omega
 ·have hc:p.1= !q.1:=by
   cases h1:p.1<;>cases h2:q.1<;>rw[h1,h2] at hc<;>first|rfl|cases hc
  refine Yd.jQ (zb hp.1 hq.1 (by omega) (by omega)) fun c hcmp=>Yd.cond (fun hd=>?_)<|fun hd=>?_
  ·have hd:=bf hd;have Ui:aG q.2<=aG p.2:=by rcases hcmp with⟨h,_⟩|⟨_,h⟩|⟨_,h⟩<;>omega
   refine Yd.jQ (FF hp.1.1 hq.1.1 (agt hq.1 hp.1 Ui) (by omega) Ui) fun w ⟨w1,w2,w3⟩=>Yd.jQ (ux (z:=x+y) w1.1 (by omega) ?_) fun r hr=>Yd.mk ⟨hr.1,by omega⟩
   rw[w2,<-sp,<-sq,hc];cases q.1
   ·show -(aG p.2-aG q.2)= -aG p.2+aG q.2;omega
   ·show aG p.2-aG q.2=aG p.2+ -aG q.2;omega
  ·have hd:=bP hd;have Ui:aG p.2<=aG q.2:=by rcases hcmp with⟨_,h⟩|⟨h,_⟩|⟨h,_⟩<;>omega
   refine Yd.jQ (FF hq.1.1 hp.1.1 (agt hp.1 hq.1 Ui) (by omega) Ui) fun w ⟨w1,w2,w3⟩=>Yd.jQ (ux (z:=x+y) w1.1 (by omega) ?_) fun r hr=>Yd.mk ⟨hr.1,by omega⟩
   rw[w2,<-sp,<-sq,hc];cases q.1
   ·show aG q.2-aG p.2= -aG p.2+aG q.2;omega
   ·show -(aG q.2-aG p.2)=aG p.2+ -aG q.2;omega
def TQ(h:se w):(decide ((w.length:Int)=1)=true/\w.getD 0 0=1)↔aG w=1:=by
 constructor
 ·rintro⟨h1,h2⟩;have h1:=bf h1;obtain⟨d,rfl⟩:∃d,w=[d]:=L3.1 (by omega);have h2:d=1:=by simpa using h2
  subst h2;simp[aG]
 ·intro hv;have hl:w.length<=1:=h.len (by rw[hv,jM,xX];unfold BT;omega);have hl0:w≠[]:=by intro e;subst e;simp[aG] at hv
  have:0<w.length:=B5.2 hl0;obtain⟨d,rfl⟩:∃d,w=[d]:=L3.1 (by omega);have:d=1:=by simpa[aG] using hv
  subst this;exact⟨rfl,rfl⟩
def acX{g:Int}(hg:0<g)(hd:g∣x):(bif decide (x<0) then -((x.natAbs:Int)/g) else(x.natAbs:Int)/g)=x/g:=by
 cases hc:decide (x<0) with
 |true=>
  have:=bf hc;have e:(x.natAbs:Int)= -x:=by omega
  rw[e,Int.neg_ediv_of_dvd hd];simp
 |false=>
  have:=bP hc;have e:(x.natAbs:Int)=x:=by omega
  rw[e];rfl
def Bt{q:Bool×ard Int}(hp:rj p x)(hq:rj q y)(h0:y≠0)(hl:p.2.length<=80000)(hm:q.2.length<=80000):ik p q=some (cW<|(x:Rat)/(y:Rat)):=by
 have key:Yd (fun r=>r=cW ((x:Rat)/(y:Rat))) (ik p q):=by
  unfold ik;have en:((x:Rat)/(y:Rat)).num=(y.sign*x)/(Int.gcd y x:Int):=by rw[<-vC,Ir]
  have ed:(((x:Rat)/(y:Rat)).den:Int)=(y.natAbs:Int)/(Int.gcd y x:Int):=by
   rw[<-vC,Iq,if_neg h0];rfl
  have hg0:0<Int.gcd y x:=Ma _ h0;refine Yd.jn (fun t:(Bool×ard Int)×(Bool×ard Int)=>rj t.1 (y.sign*x)/\rj t.2 (y.natAbs:Int)/\t.1.2.length<=80000/\t.2.2.length<=80000) ?_<|fun k hk=>Yd.cond (fun hd=>?_)<|fun hd=>?_
  ·rintro⟨a,b⟩ ⟨ha,hb,la,lb⟩;dsimp only at ha hb la lb⊢;have hX:(y.sign*x).natAbs=x.natAbs:=by
    rw[qw];rcases uN y 0 with h|h|h
    ·rw[tD h];simp
    ·exact absurd h h0
    ·rw[rR h];simp
   have hg:Int.gcd (y.sign*x) (y.natAbs:Int)=Int.gcd y x:=by
    rw[Int.gcd_comm];unfold Int.gcd;rw[hX,jd]
   refine Yd.jQ (No ha.1 hb.1 (by omega) (by omega)) fun g ⟨g1,g2,g3⟩=>?_
   have hgv:aG g=(Int.gcd y x:Int):=by
    rw[g2,ha.2.1,hb.2.1,<-hg];unfold Int.gcd;simp
   have gne:g≠[]:=by
    intro e;subst e;have:(0:Int)=(Int.gcd y x:Int):=hgv;omega
   refine Yd.jQ (Aa ha.1 g1 gne (by omega) (by omega)) ?_;rintro⟨q1,r1⟩ ⟨⟨a1,_⟩,a2,_⟩;refine Yd.jQ (Aa hb.1 g1 gne (by omega) (by omega)) ?_;rintro⟨q2,r2⟩ ⟨⟨b1,_⟩,b2,_⟩;dsimp only at a1 a2 b1 b2⊢;rw[hgv,ha.2.1] at a2;rw[hgv,hb.2.1,jd] at b2;have apE:(0:Int)<(Int.gcd y x:Int):=by omega
   have dvX:(Int.gcd y x:Int)∣y.sign*x:=Int.dvd_trans (Int.gcd_dvd_right _ _)<|Int.dvd_mul_left _ _
   have arw:q1.length<=80000:=fc (a1.len (n:=a.2.length) (by
    rw[a2];have:=zA (b:=(Int.gcd y x:Int)) (a:=((y.sign*x).natAbs:Int)) (by omega);have:=ha.lt;omega)) la
   have arv:q2.length<=80000:=fc (b1.len (n:=b.2.length) (by
    rw[b2];have:=zA (b:=(Int.gcd y x:Int)) (a:=(y.natAbs:Int)) (by omega);have:=hb.lt;rw[jd] at this;omega)) lb
   have v1:(bif a.1 then -aG q1 else aG q1)=((x:Rat)/(y:Rat)).num:=by
    rw[en,a2,ha.2.2];exact acX apE dvX
   refine Yd.jQ (ux a1.1 (by omega) v1) fun s ⟨s1,s2⟩=>Yd.bd (Tl s1 (by omega)) ?_
   have v2:aG q2=(((x:Rat)/(y:Rat)).den:Int):=by rw[ed,b2]
   have Ud:=TQ b1;have hnl:(eL ((x:Rat)/(y:Rat)).num).length<=800000:=by
    have h1:=xH ((x:Rat)/(y:Rat)).num;have h2:=s1.lt;rw[HI] at h2;by_cases ZC:s.2.length=0
    ·rw[ZC] at h2;have:((x:Rat)/(y:Rat)).num.natAbs<10:=by
      have:(10:Nat)^(9*0)=1:=rfl;omega
     have:=mw 1 _ (by omega) (show _<10^1 by omega);omega
    ·have:=mw (9*s.2.length) ((x:Rat)/(y:Rat)).num.natAbs (by omega) (by omega);omega
   have hdl:(dc ((x:Rat)/(y:Rat)).den).length<=800000:=by
    have h2:=(bX b1.1).2;rw[v2,HI] at h2;by_cases ZC:q2.length=0
    ·rw[ZC] at h2;have hp:=((x:Rat)/(y:Rat)).den_pos;have:(10:Nat)^(9*0)=1:=rfl;omega
    ·have:=mw (9*q2.length) ((x:Rat)/(y:Rat)).den (by omega) (by omega);omega
   have apK:((x:Rat)/(y:Rat)).den=1->eL ((x:Rat)/(y:Rat)).num=cW ((x:Rat)/(y:Rat)):=fun h=>by
    unfold cW;rw[bD h];simp
   have two:((x:Rat)/(y:Rat)).den≠1->Yd (fun r=>r=cW ((x:Rat)/(y:Rat))) (bd (xS (eL ((x:Rat)/(y:Rat)).num) ([47]:adx)) fun kQ=>bd (fa false q2) fun kP=>bd (mi kP) fun nZ=>bd (xS kQ nZ) fun oN=>some oN):=fun h=>by
    refine Yd.bd (sV (by simp;omega)) (Yd.jQ (ux (b:=false) b1.1 (by omega) v2) fun t ⟨t1,t2⟩=>Yd.bd (Tl t1 (by omega)) ?_);have e:eL (((x:Rat)/(y:Rat)).den:Int)=dc ((x:Rat)/(y:Rat)).den:=by
     unfold eL;rw[cr (by omega)];simp
    rw[e];refine Yd.bd (sV (by simp;omega))<|Yd.mk ?_
    unfold cW;rw[cr h];simp
   by_cases hlen:(q2.length:Int)=1
   ·have hd:=bD hlen;have g1':gd (decide<|(q2.length:Int)=1) true=true:=by rw[hd];rfl
    rw[fZ g1'];refine Yd.bd (bQ (n:=0) (by omega))<|Yd.cond (fun hc=>?_)<|fun hc=>?_
    ·rw[bV] at hc;have h1:=Ud.1 ⟨hc.1,bf hc.2⟩;exact Yd.mk (apK (by omega))
    ·refine two fun e=>?_
     have h1:=Ud.2 (by rw[v2,e];rfl);rw[h1.1,bD h1.2] at hc;cases hc
   ·have hd:=cr hlen;have g1':gd (decide<|(q2.length:Int)=1) true=false:=by rw[hd];rfl
    rw[oD g1'];refine Yd.cond (fun hc=>by rw[hd,EA] at hc;cases hc)<|fun hc=>two fun e=>?_
    have h1:=Ud.2 (by rw[v2,e];rfl);exact hlen<|bf h1.1
  ·have hn:y<0:=by
    rw[hq.2.2] at hd;exact bf hd
   refine Yd.jQ (PU hp (by omega)) fun a ⟨ha,la⟩=>Yd.jQ (PU hq (by omega)) fun b ⟨hb,lb⟩=>hk _ ⟨?_,?_,by dsimp only;omega,by dsimp only;omega⟩
   ·rw[tD hn];simpa using ha
   ·rw[show(y.natAbs:Int)= -y from by omega];exact hb
  ·have hn: ¬y<0:=by
    rw[hq.2.2] at hd;exact bP hd
   refine hk _ ⟨?_,?_,hl,hm⟩
   ·rw[rR (by omega),Int.one_mul];exact hp
   ·rw[show(y.natAbs:Int)=y from by omega];exact hq
 obtain⟨r,e,rfl⟩:=key;exact e
def bq(q:Rat)(n:Nat):Prop:=q.num.natAbs<10^n/\q.den<10^n
def bq.mono(h:bq q m)(hn:m<=n):bq q n:=by
 have:=uP (show 0<10 by omega) hn;exact⟨nD h.1 this,nD h.2 this⟩
def JE(h0:y≠0):((x:Rat)/(y:Rat)).num.natAbs<=x.natAbs/\((x:Rat)/(y:Rat)).den<=y.natAbs:=by
 have en:((x:Rat)/(y:Rat)).num=(y.sign*x)/(Int.gcd y x:Int):=by rw[<-vC,Ir]
 have ed:((x:Rat)/(y:Rat)).den=y.natAbs/(Int.gcd y x):=by
  rw[<-vC,Iq,if_neg h0]
 have hg0:0<Int.gcd y x:=Ma _ h0;refine⟨?_,by rw[ed];exact Nat.div_le_self _ _⟩;rw[en];have hX:(y.sign*x).natAbs=x.natAbs:=by
  rw[qw];rcases uN y 0 with h|h|h
  ·rw[tD h];simp
  ·exact absurd h h0
  ·rw[rR h];simp
 have dvX:(Int.gcd y x:Int)∣y.sign*x:=Int.dvd_trans (Int.gcd_dvd_right _ _)<|Int.dvd_mul_left _ _
 rw[Int.natAbs_ediv_of_dvd dvX,hX,jd];exact Nat.div_le_self _ _
def ajk{x:Rat}(h:bq x n):bq (-x) n:=by
 refine⟨?_,?_⟩
 ·rw[Il,EB];exact h.1
 ·rw[Ik];exact h.2
def WB(h:bq q n)(hn:0<n):(dc q.num.natAbs).length<=n/\(dc q.den).length<=n:=⟨mw n _ hn h.1,mw n _ hn h.2⟩
def rj.bl(h:rj p z)(hz:z.natAbs<10^n):p.2.length<=n:=by
 refine h.len ?_;rw[HI];have:=uP (show 0<10 by omega) (show n<=9*n by omega);omega
def Dz(h:bq q n)(hn:0<n)(hm:n<=1000):Yd (fun p=>(rj p.1 q.num/\rj p.2 (q.den:Int))/\p.1.2.length<=n/\p.2.2.length<=n) (ie<|cW q):=by
 have hl:=WB h hn;refine(Y7 (by omega) (by omega)).imp fun p ⟨⟨p1,p2⟩,_,_⟩=>⟨⟨p1,p2⟩,p1.bl h.1,p2.bl (by rw[jd];exact h.2)⟩
def MZ(z:Int)(t:adx):∃c r,eL z++t=c::r/\((c.toNat:Int)=45↔z<0)/\(c=45->r=dc z.natAbs++t)/\(z<0->r=dc z.natAbs++t):=by
 unfold eL;cases hc:decide (z<0) with
 |true=>
  have:=bf hc;exact⟨45,dc z.natAbs++t,rfl,⟨fun _=>this,fun _=>rfl⟩,fun _=>rfl,fun _=>rfl⟩
 |false=>
  have hz:=bP hc;have hd:=(nh z.natAbs).1;obtain⟨d,l,e⟩:∃d l,dc z.natAbs=d::l:=by
   cases h:dc z.natAbs with
   |nil=>exact absurd h<|Yc _
   |cons d l=>exact⟨d,l,rfl⟩
  have hb:=EU (db.1 hd d (by rw[e];simp));refine⟨d,l++t,by show dc z.natAbs++t=_;rw[e];rfl,⟨fun h=>by omega,fun h=>absurd h hz⟩,fun h=>?_,fun h=>absurd h hz⟩;subst h;exact absurd hb.1 (by decide)
def Qr(n:Nat):∀x∈dc n,x≠47:=fun x hx e=>by
 subst e;have:=db.1 (nh n).1 _ hx;simp[gZ] at this
def ma(q:Rat):adx:=bif decide (q.den=1) then [] else 47::dc q.den
def Em(h:bq q n)(hn:0<n)(hm:n<=1000):Yd (fun r=>r.2.2=false\/(r=(q.num,(q.den:Int),true)/\q.num.natAbs<1000000000/\q.den<1000000000)) (mB<|cW q):=by
 have hl:=WB h hn;obtain⟨c,r,e,Pq,hr,Lb⟩:=MZ q.num<|ma q
 have et:cW q=c::r:=e;have hlr:r.length<=2002:=by
  have h1:=congrArg List.length e;have h2:=xH q.num;have h3:(ma q).length<=n+1:=by
   unfold ma;cases decide (q.den=1)
   ·simp;omega
   ·simp
  simp only[List.length_append,List.length_cons] at h1;omega
 unfold mB;rw[et];refine Yd.cond (fun _=>Yd.mk<| .inl rfl)<|fun _=>?_
 have g1:gd (decide<|(0:Int)<((c::r).length:Int)) true=true:=by rw[bD (by simp only[List.length_cons];omega)];rfl
 rw[fZ g1];refine Yd.bd (x:=c) rfl ?_;have hb:((decide<|(0:Int)<((c::r).length:Int))&&(decide<|(c.toNat:Int)=(45:Int)))=decide (q.num<0):=by
  rw[bD (show(0:Int)<((c::r).length:Int) by simp only[List.length_cons];omega),pq];exact zB.2 Pq
 rw[hb];refine Yd.jn (fun s=>s=dc q.num.natAbs++ma q) ?_<|fun k hk=>Yd.cond (fun hc=>?_)<|fun hc=>?_
 ·rintro s rfl;have hsl:iD (dc q.num.natAbs++ma q)=some ((dc q.num.natAbs).length:Int):=by
   unfold ma;cases hd:decide (q.den=1)
   ·exact Ht (Qr _) (by simp;omega)
   ·rw[fT,vB];exact Nc (Qr _) (by omega)
  have hlen:(dc q.num.natAbs++ma q).length=(dc q.num.natAbs).length+(ma q).length:=by simp
  have ON:(ma q).length<=n+1:=by
   unfold ma;cases decide (q.den=1)
   ·simp;omega
   ·simp
  refine Yd.bd hsl ?_;have rest:(dc q.num.natAbs).length<=9->(ma q).length<=10->Yd (fun r=>r.2.2=false\/(r=(q.num,(q.den:Int),true)/\q.num.natAbs<1000000000/\q.den<1000000000))
   (bd (im (dc q.num.natAbs++ma q) 0 ((dc q.num.natAbs).length:Int)) fun gp=>
    bd (ic gp) fun gS=>
    jn (fun(UQ:Int)=>
     jn (fun(Dq:Int)=>
      some (Dq,UQ,true)
     ) fun XD=>
     cond (decide<|q.num<0) (
      bd (aF<|(0:Int)-gS) fun qE=>
      XD qE
     ) (
      XD gS
     )
    ) fun XE=>
    cond (decide<|((dc q.num.natAbs).length:Int)<((dc q.num.natAbs++ma q).length:Int)) (
     bd (aF<|((dc q.num.natAbs).length:Int)+(1:Int)) fun kQ=>
     bd (im (dc q.num.natAbs++ma q) kQ ((dc q.num.natAbs++ma q).length:Int)) fun kP=>
     bd (ic kP) fun nZ=>
     XE nZ
    ) (
     XE (1:Int)
    )):=by
   intro h9 kG;have hN:q.num.natAbs<1000000000:=Ye h9;have es:im (dc q.num.natAbs++ma q) 0 ((dc q.num.natAbs).length:Int)=some (dc q.num.natAbs):=by
    rw[jE (by omega) (by omega) (by omega)];simp
   have hv:=El (nh q.num.natAbs).1 (by omega);rw[(nh _).2] at hv;refine Yd.bd es<|Yd.bd hv ?_
   refine Yd.jn (fun d=>d=(q.den:Int)/\q.den<1000000000) ?_<|fun k hk=>Yd.cond (fun hc=>?_)<|fun hc=>?_
   ·rintro d ⟨rfl,hD⟩;refine Yd.jn (fun z=>z=q.num) (fun z hz=>by subst hz;exact Yd.mk<| .inr ⟨rfl,hN,hD⟩)<|fun k hk=>Yd.cond (fun hc=>?_)<|fun hc=>?_
    ·have hc:=bf hc;exact Yd.bd (aM ⟨by omega,by omega⟩) (hk _ (by omega))
    ·have hc:=bP hc;exact hk _ (by omega)
   ·have hc:=bf hc;have hd:decide (q.den=1)=false:=by
     cases hd:decide (q.den=1) with
     |false=>rfl
     |true=>
      unfold ma at hlen hc;rw[hd] at hlen hc;simp at hc
    have etl:ma q=47::dc q.den:=by unfold ma;rw[hd];rfl
    rw[etl,List.length_cons] at kG;have eu:im (dc q.num.natAbs++ma q) (((dc q.num.natAbs).length:Int)+1) ((dc q.num.natAbs++ma q).length:Int)=some (dc q.den):=by
     rw[jE (by omega) (by omega) (by omega),Int.toNat_natCast,eJ<|bC _,show(((dc q.num.natAbs).length:Int)+1).toNat=(dc q.num.natAbs).length+1 by omega,<-iF,etl];simp
    have hw:=El (nh q.den).1 (by omega);rw[(nh _).2] at hw;exact Yd.bd (aM ⟨by omega,by omega⟩) (Yd.bd eu (Yd.bd hw (hk _ ⟨rfl,Ye (k:=9) (by omega)⟩)))
   ·have hc:=bP hc;have hd:q.den=1:=by
     cases hd:decide (q.den=1) with
     |true=>exact bf hd
     |false=>
      unfold ma at hlen hc;rw[hd] at hlen hc;simp at hc;omega
    exact hk _ ⟨by rw[hd];rfl,by omega⟩
  by_cases hx:(9:Int)<((dc q.num.natAbs).length:Int)
  ·have hd:=bD hx;have g2:gd (decide<|(9:Int)<((dc q.num.natAbs).length:Int)) false=false:=by rw[hd];rfl
   rw[oD g2];exact Yd.cond (fun _=>Yd.mk<| .inl rfl) (fun h=>by rw[hd,Ey] at h;cases h)
  ·have hd:=cr hx;have g2:gd (decide<|(9:Int)<((dc q.num.natAbs).length:Int)) false=true:=by rw[hd];rfl
   rw[fZ g2];refine Yd.bd (aM ⟨by omega,by omega⟩)<|Yd.cond (fun _=>Yd.mk<| .inl rfl)<|fun h=>?_
   rw[hd,BV] at h;have h:=bP h;exact rest (by omega) (by omega)
 ·have hc:=bf hc;have es:im (c::r) (1:Int) ((c::r).length:Int)=some r:=by
   rw[jE (by omega) (by simp only[List.length_cons];omega) (by omega),Int.toNat_natCast,eJ<|bC _];rfl
  exact Yd.bd es<|hk _<|Lb hc
 ·have hc:=bP hc;refine hk _ ?_;rw[<-e];unfold eL;rw[cr hc];rfl
def abz(z:Int):mx_ z (0-z)=(z.natAbs:Int):=by
 unfold mx_;cases hc:decide (z<0-z) with
 |true=>have:=bf hc;show 0-z=_;omega
 |false=>have:=bP hc;show z=_;omega
def Ya{g:Int}(hg:0<g)(hd:g∣x)(hx: -9000000000000000000<=x/\x<=9000000000000000000):uV x g=some (x/g):=by
 unfold uV;rw[cr (by omega),Int.tdiv_eq_ediv_of_dvd hd];obtain⟨k,rfl⟩:=hd;rw[Int.mul_ediv_cancel_left _ (by omega)];refine aM ⟨?_,?_⟩
 ·rcases(show 0<=k\/k<0 by omega) with h|h
  ·omega
  ·have:g*k<=1*k:=Int.mul_le_mul_of_nonpos_right (by omega) (by omega);omega
 ·rcases(show 0<=k\/k<0 by omega) with h|h
  ·have:1*k<=g*k:=tE (by omega) h;omega
  ·omega
def ama(h:n<=9000000000000000000):fw (n:Int) 1=some (dc n):=by
 have:=Dx (k:=1) h (by omega);rw[Rb<|D6 _] at this;exact this
def aa8{a b:Int}(ha: -4000000000000000000<=a/\a<=4000000000000000000)(hb:0<b/\b<=4000000000000000000):uH a b=some (cW<|(a:Rat)/(b:Rat)):=by
 have key:Yd (fun r=>r=cW ((a:Rat)/(b:Rat))) (uH a b):=by
  unfold uH;have h0:b≠0:=by omega
  have en:((a:Rat)/(b:Rat)).num=a/(Int.gcd b a:Int):=by
   rw[<-vC,Ir,rR hb.1,Int.one_mul]
  have ed:(((a:Rat)/(b:Rat)).den:Int)=b/(Int.gcd b a:Int):=by
   rw[<-vC,Iq,if_neg h0];have:(b.natAbs:Int)=b:=by omega
   conv=>rhs;rw[<-this]
   rfl
  have hg0:0<Int.gcd b a:=Ma _ h0;refine Yd.cond (fun hc=>?_)<|fun _=>?_
  ·exfalso;rw[mY,mY,mY,jJ,jJ,jJ,jJ] at hc;omega
  refine Yd.jn (fun s:Int×Int=>s=(a,b)) ?_ (fun k hk=>Yd.cond (fun hc=>by have:=bf hc;omega)<|fun _=>hk _ rfl);rintro s rfl;dsimp only;have aof:sx (mx_ a<|0-a) b=some (Int.gcd b a:Int):=by
   rw[abz,aeL ⟨by omega,by omega⟩ ⟨by omega,hb.2⟩]
   congr 2
   unfold Int.gcd;rw[jd,Ew]
  have d1:(Int.gcd b a:Int)∣a:=Int.gcd_dvd_right _ _;have d2:(Int.gcd b a:Int)∣b:=Int.gcd_dvd_left _ _;refine Yd.bd (aM ⟨by omega,by omega⟩) (Yd.bd aof (Yd.bd (Ya (by omega) d1 (by omega)) (Yd.bd (Ya (by omega) d2 (by omega)) ?_)));rw[<-en,<-ed];have hle:=JE (x:=a) (y:=b) h0
  generalize hz:((a:Rat)/(b:Rat))=q at*
  have hN:q.num.natAbs<=4000000000000000000:=by omega
  have hD:q.den<=4000000000000000000:=by omega
  have hD0:=q.den_pos;have afD:fw (mx_ q.num<|0-q.num) 1=some (dc q.num.natAbs):=by
   rw[abz,ama (by omega)]
  have alm:fw (q.den:Int) 1=some (dc q.den):=by
   exact ama (by omega)
  have NY:=mw 19 q.num.natAbs (by omega) (by omega);have St:=mw 19 q.den (by omega) (by omega);refine Yd.jn (fun s:adx=>s=bif decide (q.num<0) then [45] else []) ?_ (fun k hk=>Yd.cond (fun hc=>hk _ (by rw[hc];rfl)) (fun hc=>hk _ (by rw[hc];rfl)));intro s hs;have hsl:s.length<=1:=by rw[hs];cases decide (q.num<0)<;>simp
  have est:s++dc q.num.natAbs=eL q.num:=by
   rw[hs];unfold eL;cases decide (q.num<0)<;>rfl
  refine Yd.bd (aM ⟨by omega,by omega⟩) (Yd.bd afD (Yd.bd (sV (by omega)) ?_));rw[est];have ON:=xH q.num;refine Yd.jn (fun s=>s=cW q) (fun s hs=>by subst hs;exact Yd.mk rfl)<|fun k hk=>Yd.cond (fun hc=>?_)<|fun hc=>?_
  ·have hc:=bf hc;refine Yd.bd (sV (by simp;omega)) (Yd.bd alm (Yd.bd (sV (by simp;omega))<|hk _ ?_));unfold cW;rw[cr (show¬q.den=1 by omega)];simp
  ·have hc:=bP hc;refine hk _ ?_;unfold cW;rw[bD (show q.den=1 by omega)];simp
 obtain⟨r,e,rfl⟩:=key;exact e
end
end Trn
