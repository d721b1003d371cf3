/-
  Part of the proof of SolidNormals.
-/
import Derived.Test.YtflhfjdapojoiaaGreatDoorLa
set_option maxRecDepth 100000
set_option maxHeartbeats 20000000
set_option linter.all false
open Go Go.RowKit Go.Proofs Go.Proofs.Tryz
namespace Trn
section
variable{n k:Nat}{a:att Int}{x:Int}{p:Bool×att Int}{l:att Int}{z:Int}{q:Rat}{b:att Int}{j m:Nat}{y:Int}{u:att Int}{ρ:Type}{v w:att Int}{R:ρ->Prop}{i:Nat}{f:Int}
def Y3(h:l.length=k+3):aJ l=aJ (l.take k)+js k*(l.getD k 0+BT*(l.getD (k+1) 0+BT*l.getD (k+2) 0)):=by
 have h1:aJ (l.take<|k+3)=aJ l:=by rw[eF (by omega)]
 rw[<-h1,db,db,db,jV<|k+1,jV,bt,bt,bt,iT (js k) BT,iT (js k) BT,iT (js k) BT,eP,eP,eP];omega
def Y4(h:l.length=k+2):aJ l=aJ (l.take k)+js k*(l.getD k 0+BT*l.getD (k+1) 0):=by
 have h1:aJ (l.take<|k+2)=aJ l:=by rw[eF (by omega)]
 rw[<-h1,db,db,jV,bt,iT (js k) BT,eP];omega
def NN(h:sA l)(hl:n<=l.length)(hv:aJ l<js n):aJ (l.drop n)=0:=by
 have h1:=qw l n hl;have h2:=(bP<|zg h n).1;have h3:=(bP<|mX h n).1;rcases(show aJ (l.drop n)=0\/1<=aJ (l.drop n) by omega) with h4|h4
 ·exact h4
 ·have:=gM h4 (fU<|sW n);omega
def div_pos(hx:0<=x)(hy:0<y)(hb:x<=9223372036854775807):wo x y=some (x/y):=by
 unfold wo;rw[bC (by omega),Int.tdiv_eq_ediv_of_nonneg hx];have h1:=rV hx<|fU hy
 have h2:=As y hx;exact aM ⟨by omega,by omega⟩
def za(ha:sA a)(hl:a.length<1099511627776):Yd (fun w=>tK w/\aJ w=aJ a/\w.length<=a.length) (kj a):=by
 unfold kj;refine Yd.lp (fun s:att Int=>sA s/\aJ s=aJ a/\s.length<=a.length) (fun s=>s.length) ?_ _ _ ⟨ha,rfl,bp _⟩ (by omega);rintro next s ⟨h1,h2,h3⟩ hn
 refine Yd.iJ (fun hg=>?_)<|fun hg=>?_
 ·have hs:(0:Int)<s.length:=aZ hg;obtain⟨n,Kf⟩:∃n,s.length=n+1:=⟨s.length-1,by omega⟩;have e1:(s.length:Int)-1=(n:Int):=by omega
  rw[e1];refine⟨(n:Int),aM ⟨by omega,by omega⟩,Yd.iJ (fun _=>⟨s.getD n 0,bJ (by omega),Yd.cond (fun hc=>?_)<|fun hc=>?_⟩) (fun h=>by rw[hg] at h;cases h)⟩
  ·obtain⟨_,hz⟩:=eT hc;have hz:=aZ hz;refine Yd.bd (aM ⟨by omega,by omega⟩) (Yd.bd (im (by omega) (by omega) (by omega)) ?_);have e:(s.take ((n:Nat):Int).toNat).drop (0:Int).toNat=s.take n:=by simp
   rw[e];have hv:aJ s=aJ (s.take n):=by
    have:=om (l:=s) (n:=n) (by omega);rw[hz,Aj,EM,eF (by omega)] at this;exact this
   exact hn _ ⟨mX h1 n,by rw[<-hv];exact h2,by simp;omega⟩ (by simp;omega)
  ·refine Yd.mk ⟨⟨h1,?_⟩,h2,h3⟩;rw[aW hs,rQ] at hc;have hz:=br hc;have e:s=s.take n++[s.getD n 0]:=by rw[<-uz (by omega),eF (by omega)]
   rw[e];simpa using hz
 ·have hs: ¬(0:Int)<s.length:=br hg;have hs:s=[]:=pZ (by omega);subst hs;exact Yd.iJ (fun h=>by rw[hg] at h;cases h) (fun _=>Yd.cond (fun hc=>by simp at hc)<|fun _=>Yd.mk ⟨tK.nil,h2,h3⟩)
def qT(p:Bool×att Int)(z:Int):Prop:=tK p.2/\aJ p.2=(z.natAbs:Int)/\p.1=decide (z<0)
def tK.pos(h:tK w)(h0:w≠[]):0<aJ w:=by
 have:=vQ h.1 h0 h.2;have:=sW<|w.length-1
 omega
def MS{b:Bool}(ha:sA a)(hl:a.length<1099511627776):Yd (fun p=>qT p (bif b then -aJ a else aJ a)/\p.2.length<=a.length) (eE b a):=by
 unfold eE;refine Yd.iG (za ha hl) fun w ⟨h1,h2,h3⟩=>Yd.mk ⟨⟨h1,?_,?_⟩,h3⟩
 ·have:=(bP h1.1).1;rw[<-h2];cases b
  ·show aJ w=((aJ w).natAbs:Int);omega
  ·show aJ w=((-aJ w).natAbs:Int);omega
 ·have hz:=(bP h1.1).1;by_cases hw:w=[]
  ·subst hw;have:aJ a=0:=h2.symm;rw[this];cases b<;>rfl
  ·have hp:=h1.pos hw;have hlw:0<w.length:=E3.2 hw;rw[<-h2];cases b
   ·have e2:decide (aJ w<0)=false:=bC (by omega);show false=decide (aJ w<0);rw[e2]
   ·show(true&&decide ((0:Int)<w.length))=decide (-aJ w<0);have e1:decide ((0:Int)<w.length)=true:=aW (by omega);have e2:decide (-aJ w<0)=true:=aW (by omega);rw[e1,e2];rfl
def z6(ha:tK a)(hb:tK b)(hla:a.length<4398046511104)(Z9:b.length<4398046511104):
  Yd (fun r=>(r= -1/\aJ a<aJ b)\/(r=0/\aJ a=aJ b)\/(r=1/\aJ b<aJ a)) (jX a b):=by
 unfold jX;refine Yd.cond (fun hc=>Yd.cond (fun hd=>?_)<|fun hd=>?_)<|fun hc=>?_
 ·have hd:=aZ hd;exact Yd.mk (.inl ⟨rfl,B3 ha.1 hb (by omega)⟩)
 ·have hd:=br hd;rw[jl,me] at hc;exact Yd.mk (.inr (.inr ⟨rfl,B3 hb.1 ha (by omega)⟩))
 ·rw[Ib,jc] at hc;have hl:a.length=b.length:=by omega
  refine Yd.bd (aM ⟨by omega,by omega⟩) ?_;refine Yd.lp (fun s:Int=> -1<=s/\s<a.length/\a.drop (s+1).toNat=b.drop (s+1).toNat) (fun s:Int=>(s+1).toNat) ?_ _ _ ⟨by omega,by omega,?_⟩ (by omega)
  ·rintro next s ⟨h0,h1,h2⟩ hn
   refine Yd.cond (fun hp=>?_)<|fun hp=>?_
   ·have hp:=aZ hp;obtain⟨n,rfl⟩:=gL hp;have en:(((n:Nat):Int)+1).toNat=n+1:=by omega
    rw[en] at h2;have gA:bo a (n:Int)=some (a.getD n 0):=bJ (by omega);have gB:bo b (n:Int)=some (b.getD n 0):=bJ (by omega);refine Yd.bd gA<|Yd.bd gB ?_
    have eA:=Xl (l:=a) (n:=n) (by omega);have eB:=Xl (l:=b) (n:=n) (by omega);rw[h2] at eA;obtain⟨tA0,tA⟩:=bP<|mX ha.1 n
    obtain⟨tB0,tB⟩:=bP<|mX hb.1 n
    rw[List.length_take,fW (by omega)] at tA tB;have hpw:=sW n;have dA:=oQ (l:=a) (n:=n) (by omega);have dB:=oQ (l:=b) (n:=n) (by omega)
    generalize a.getD n 0=X at*
    generalize b.getD n 0=Y at*
    have eA':aJ a=aJ (a.take n)+js n*X+js n*(BT*aJ (b.drop<|n+1)):=by rw[eA,bt];omega
    have eB':aJ b=aJ (b.take n)+js n*Y+js n*(BT*aJ (b.drop<|n+1)):=by rw[eB,bt];omega
    refine Yd.cond (fun hlt=>?_)<|fun hlt=>Yd.bd gA<|Yd.bd gB<|Yd.cond (fun hgt=>?_)<|fun hgt=>?_
    ·have hlt:=aZ hlt;have:js n*(X+1)<=js n*Y:=gM (by omega) (by omega);rw[bt,ni] at this;exact Yd.mk (.inl ⟨rfl,by omega⟩)
    ·have hgt:=aZ hgt;have:js n*(Y+1)<=js n*X:=gM (by omega) (by omega);rw[bt,ni] at this;exact Yd.mk (.inr (.inr ⟨rfl,by omega⟩))
    ·have hlt:=br hlt;have hgt:=br hgt;have hx:X=Y:=by omega
     refine Yd.bd (aM ⟨by omega,by omega⟩) (hn _ ⟨by omega,by omega,?_⟩ (by omega));have:(((n:Nat):Int)-1+1).toNat=n:=by omega
     rw[this,dA,dB,hx,h2]
   ·have hp:=br hp;have:s= -1:=by omega
    subst this;exact Yd.mk (.inr (.inl ⟨rfl,by simpa using congrArg aJ h2⟩))
  ·have:((a.length:Int)-1+1).toNat=a.length:=by omega
   rw[this,Au,hl,Au]
def Jf:pO a (n:Int)=some (a.getD n 0):=by
 unfold pO;by_cases h:n<a.length
 ·rw[aW (by omega)];show bd (bo a (n:Int)) _=_;rw[bJ h];rfl
 ·rw[bC (by omega),AG (by omega)];rfl
def adV(h:l.length<1099511627776):fX 8 l [x]=some (l++[x]):=by
 unfold fX;rw[List.length_singleton,aW (by omega),aW (by omega)];rfl
def OO(ha:sA a)(hb:sA b)(hla:a.length<4398046511)(Z9:b.length<4398046511):Yd (fun w=>sA w/\aJ w=aJ a+aJ b/\w.length<=max a.length b.length+1) (qd a b):=by
 unfold qd;refine Yd.lp (fun s:att Int×Int×Int=>sA s.1/\(s.2.1=0\/s.2.1=1)/\s.2.2=s.1.length/\s.1.length<=max a.length b.length+1/\(s.1.length=max a.length b.length+1->s.2.1=0)/\
   aJ s.1+js s.1.length*s.2.1=aJ (a.take s.1.length)+aJ (b.take s.1.length)) (fun s=>max a.length b.length+1-s.1.length) ?_ _ _ ⟨Lf,.inl rfl,rfl,by simp,fun _=>rfl,by simp[aJ]⟩ (by dsimp only;simp;omega)
 rintro next ⟨o,c,i⟩ ⟨h1,h2,h3,h4,h5,h6⟩ hn
 dsimp only at h1 h2 h3 h4 h5 h6 hn⊢;subst h3;refine Yd.cond (fun hc=>?_)<|fun hc=>?_
 ·obtain⟨xa,xb⟩:=hZ ha o.length;obtain⟨ya,yb⟩:=hZ hb o.length;have hlt:o.length<=max a.length b.length:=by
   rcases kQ (max a.length b.length) o.length with h|h
   ·have:=h5 (by omega);rw[rX,rX,jc,jc,jc] at hc;omega
   ·exact h
  have hz:o.length=max a.length b.length->a.getD o.length 0=0/\b.getD o.length 0=0:=fun h=>⟨AG (by omega),AG (by omega)⟩
  have hS:0<=a.getD o.length 0+b.getD o.length 0+c/\a.getD o.length 0+b.getD o.length 0+c<2000000000:=by unfold BT at*;omega
  refine Yd.bd Jf (Yd.bd Jf (Yd.bd (aM ⟨by omega,by unfold BT at*;omega⟩) (Yd.bd (aM ⟨by omega,by omega⟩) (Yd.bd (yk hS.1 (by omega)) (Yd.bd (adV (by omega)) (Yd.bd (div_pos hS.1 (by omega) (by omega)) (Yd.bd (aM ⟨by omega,by omega⟩)<|hn _ ⟨?_,?_,?_,?_,?_,?_⟩ ?_)))))))
  ·rw[Ci];exact⟨h1,fun x hx=>by rw[cr] at hx;subst hx;unfold BT;omega⟩
  ·dsimp only;omega
  ·dsimp only;rw[List.length_append,List.length_singleton];omega
  ·dsimp only;rw[List.length_append,List.length_singleton];omega
  ·dsimp only;rw[List.length_append,List.length_singleton];intro h;have:=hz (by omega);omega
  ·dsimp only;rw[List.length_append,List.length_singleton,oY,db,db,jV];have e:aJ [(a.getD o.length 0+b.getD o.length 0+c)%1000000000]=(a.getD o.length 0+b.getD o.length 0+c)%1000000000:=by simp[aJ]
   rw[e,Int.mul_comm BT,eP,<-Int.add_assoc]
   generalize a.getD o.length 0=X at*
   generalize b.getD o.length 0=Y at*
   have hd:X+Y+c=(X+Y+c)%1000000000+BT*((X+Y+c)/1000000000):=by unfold BT;omega
   have:js o.length*((X+Y+c)%1000000000)+js o.length*(BT*((X+Y+c)/1000000000))=js o.length*X+js o.length*Y+js o.length*c:=by
    rw[<-bt,<-bt,<-bt,<-hd]
   omega
  ·dsimp only;rw[List.length_append,List.length_singleton];omega
 ·rw[se,se,me,me,me] at hc;have hc0:c=0:=by omega
  subst hc0;refine Yd.mk ⟨h1,?_,h4⟩;rw[eF (by omega),eF (by omega)] at h6;omega
def FO(ha:sA a)(hb:sA b)(hl:b.length<=a.length)(hla:a.length<4398046511)(hv:aJ b<=aJ a):Yd (fun w=>tK w/\aJ w=aJ a-aJ b/\w.length<=a.length) (na a b):=by
 unfold na;refine Yd.lp (fun s:att Int×Int×Int=>sA s.1/\(s.2.1=0\/s.2.1=1)/\s.2.2=s.1.length/\s.1.length<=a.length/\
   aJ s.1=aJ (a.take s.1.length)-aJ (b.take s.1.length)+js s.1.length*s.2.1) (fun s=>a.length-s.1.length) ?_ _ _ ⟨Lf,.inl rfl,rfl,by simp,by simp[aJ]⟩ (by dsimp only;simp;omega)
 rintro next ⟨o,c,i⟩ ⟨h1,h2,h3,h4,h5⟩ hn
 dsimp only at h1 h2 h3 h4 h5 hn⊢;subst h3;refine Yd.cond (fun hc=>?_)<|fun hc=>?_
 ·have hc:=aZ hc;obtain⟨xa,xb⟩:=hZ ha o.length;obtain⟨ya,yb⟩:=hZ hb o.length;refine Yd.bd (bJ (by omega)) (Yd.bd Jf (Yd.bd (aM ⟨by unfold BT at*;omega,by unfold BT at*;omega⟩) (Yd.bd (aM ⟨by unfold BT at*;omega,by unfold BT at*;omega⟩) ?_)));have step:∀d x:Int,(d=0\/d=1)->0<=x->x<1000000000->x=a.getD o.length 0-b.getD o.length 0-c+BT*d->Yd (fun w=>tK w/\aJ w=aJ a-aJ b/\w.length<=a.length) (bd (fX 8 o [x]) fun jN=>bd (aL<|(o.length:Int)+1) fun kq=>next (jN,d,kq)):=by
   intro d x hd Ve hx1 hx;refine Yd.bd (adV (by omega)) (Yd.bd (aM ⟨by omega,by omega⟩)<|hn _ ⟨?_,hd,?_,?_,?_⟩ ?_)
   ·rw[Ci];exact⟨h1,fun y hy=>by rw[cr] at hy;subst hy;unfold BT;omega⟩
   ·dsimp only;rw[List.length_append,List.length_singleton];omega
   ·dsimp only;rw[List.length_append,List.length_singleton];omega
   ·dsimp only;rw[List.length_append,List.length_singleton,oY,db,db,jV,h5];have e:aJ [x]=x:=by simp[aJ]
    rw[e,Int.mul_comm BT,eP,hx]
    generalize a.getD o.length 0=X at*
    generalize b.getD o.length 0=Y at*
    have:js o.length*(X-Y-c+BT*d)=js o.length*X-js o.length*Y-js o.length*c+js o.length*(BT*d):=by
     rw[bt,mE,mE]
    omega
   ·dsimp only;rw[List.length_append,List.length_singleton];omega
  refine Yd.jn (fun p:Int×Int=>(p.1=0\/p.1=1)/\0<=p.2/\p.2<1000000000/\p.2=a.getD o.length 0-b.getD o.length 0-c+BT*p.1) (fun p hp=>step p.1 p.2 hp.1 hp.2.1 hp.2.2.1 hp.2.2.2) fun k hk=>Yd.cond (fun hd=>?_)<|fun hd=>?_
  ·have hd:=aZ hd;refine Yd.bd (aM ⟨by unfold BT at*;omega,by unfold BT at*;omega⟩) (hk _ ⟨.inr rfl,?_,?_,?_⟩)<;>(dsimp only;unfold BT at*;omega)
  ·have hd:=br hd;refine hk _ ⟨.inl rfl,?_,?_,?_⟩<;>(dsimp only;unfold BT at*;omega)
 ·have hc:=br hc;have hlen:o.length=a.length:=by omega
  rw[eF (by omega),eF (by omega)] at h5;obtain⟨z1,z2⟩:=bP h1;have hc0:c=0:=by
   rcases h2 with h|h
   ·exact h
   ·subst h;omega
  subst hc0;refine Yd.iG (za h1 (by omega)) fun w ⟨g1,g2,g3⟩=>Yd.mk ⟨g1,by rw[g2,h5];omega,by omega⟩
def Hk{d:Int}(ha:sA a)(hd:0<d/\d<1000000000)(hl:a.length<1099511627776):Yd (fun p=>tK p.1/\aJ p.1=aJ a/d/\p.2=aJ a%d/\p.1.length<=a.length) (oH a d):=by
 unfold oH;refine Yd.bd (HG (by omega) (by omega) (by omega)) (Yd.bd (aM ⟨by omega,by omega⟩) ?_);refine Yd.lp (fun s:att Int×Int×Int=>sA s.1/\s.1.length=a.length/\(0<=s.2.1/\s.2.1<d)/\ -1<=s.2.2/\s.2.2<a.length/\aJ (a.drop (s.2.2+1).toNat)=aJ (s.1.drop (s.2.2+1).toNat)*d+s.2.1) (fun s=>(s.2.2+1).toNat) ?_ _ _
  ⟨A4 _,by simp only[xI];omega,⟨by dsimp only;omega,by dsimp only;omega⟩,by dsimp only;omega,by dsimp only;omega,?_⟩ (by dsimp only;omega)
 rotate_left
 ·have e:((a.length:Int)-1+1).toNat=a.length:=by omega
  dsimp only;rw[e,Au,xJ (by simp only[xI];omega)];simp[aJ]
 rintro next ⟨o,r,i⟩ ⟨h1,h2,⟨h3,h3'⟩,h4,h5,h6⟩ hn
 dsimp only at h1 h2 h3 h3' h4 h5 h6 hn⊢;refine Yd.cond (fun hc=>?_)<|fun hc=>?_
 ·have hc:=aZ hc;obtain⟨n,rfl⟩:=gL hc;have en:(((n:Nat):Int)+1).toNat=n+1:=by omega
  rw[en] at h6;obtain⟨xa,xb⟩:=hZ ha n;have hx:0<=r*1000000000+a.getD n 0/\r*1000000000+a.getD n 0<d*1000000000:=by unfold BT at*;omega
  have Z4:=rV hx.1<|fU hd.1
  have hq1:(r*1000000000+a.getD n 0)/d<1000000000:=by
   apply Ie hd.1;omega
  have Uf:=tG (r*1000000000+a.getD n 0) (show d≠0 by omega);have hr1:=r8 (r*1000000000+a.getD n 0) hd.1;refine Yd.bd (aM ⟨by omega,by omega⟩) (Yd.bd (bJ (by omega)) (Yd.bd (aM ⟨by omega,by omega⟩) (Yd.bd (div_pos hx.1 hd.1 (by omega)) (Yd.bd (bJ (by omega)) (Yd.bd (bJ (by omega)) (Yd.bd (yk hx.1 hd.1) (Yd.bd (aM ⟨by omega,by omega⟩) (hn _ ⟨HC h1 _ ⟨Z4,hq1⟩,by simpa using h2,⟨Uf,hr1⟩,by dsimp only;omega,by dsimp only;omega,?_⟩ ?_))))))))
  ·dsimp only;have e2:(((n:Nat):Int)-1+1).toNat=n:=by omega
   rw[e2,Int.toNat_natCast,wX (by omega),oQ (show n<a.length by omega),lO,lO,h6];have hdm:=Int.mul_ediv_add_emod (r*1000000000+a.getD n 0) d
   generalize (r*1000000000+a.getD n 0)/d=q at*
   generalize (r*1000000000+a.getD n 0)%d=m at*
   rw[kP,bt,eP BT,Int.mul_comm q d];unfold BT;omega
  ·dsimp only;omega
 ·have hc:=br hc;have:i= -1:=by omega
  subst this;have h6:aJ a=aJ o*d+r:=by simpa using h6
  refine Yd.iG (za h1 (by omega)) fun w ⟨g1,g2,g3⟩=>Yd.mk ⟨g1,?_,?_,by dsimp only;omega⟩
  ·dsimp only;rw[g2];exact(xx h6 h3 h3').1
  ·exact(xx h6 h3 h3').2
def AW(ha:sA a)(hb:sA b)(hla:a.length<4398046511)(Z9:b.length<4398046511):Yd (fun w=>tK w/\aJ w=aJ a*aJ b/\w.length<=a.length+b.length) (kJ a b):=by
 unfold kJ;refine Yd.bd (aM ⟨by omega,by omega⟩) (Yd.bd (HG (by omega) (by omega) (by omega)) ?_);refine Yd.lp (fun s:att Int×Int=>sA s.1/\s.1.length=a.length+b.length/\0<=s.2/\s.2<=a.length/\(∀m,s.2.toNat+b.length<=m->s.1.getD m 0=0)/\aJ (s.1.take<|s.2.toNat+b.length)=aJ (a.take s.2.toNat)*aJ b)
  (fun s:att Int×Int=>a.length-s.2.toNat) ?_ _ _ ⟨A4 _,by simp only[xI];omega,by dsimp only;omega,by dsimp only;omega,fun m _=>NH,?_⟩ (by dsimp only;omega)
 rotate_left
 ·dsimp only;rw[Ic,Dx];simp[aJ]
 rintro next ⟨o,i⟩ ⟨h1,h2,h3,h4,hz,h5⟩ hn
 simp only at h1 h2 h3 h4 hz h5 hn⊢;obtain⟨n,rfl⟩:=gL h3;simp only[Int.toNat_natCast,u6] at*;refine Yd.cond (fun hc=>?_)<|fun hc=>?_
 ·have hc:=aZ hc;refine Yd.lp (fun s:att Int×Int×Int=>sA s.1/\s.1.length=a.length+b.length/\(0<=s.2.1/\s.2.1<BT)/\0<=s.2.2/\s.2.2<=b.length/\s.1.drop (n+s.2.2.toNat)=o.drop (n+s.2.2.toNat)/\
    aJ (s.1.take<|n+s.2.2.toNat)+js (n+s.2.2.toNat)*s.2.1=aJ (o.take<|n+s.2.2.toNat)+js n*(a.getD n 0*aJ (b.take s.2.2.toNat)))
   (fun s:att Int×Int×Int=>b.length-s.2.2.toNat) ?_ _ _ ⟨h1,h2,⟨by dsimp only;omega,by dsimp only;unfold BT;omega⟩,by dsimp only;omega,by dsimp only;omega,rfl,by simp[aJ]⟩ (by dsimp only;omega)
  rintro xp ⟨p,c,j⟩ ⟨g1,g2,g3,g4,g5,g6,g7⟩ P2;simp only at g1 g2 g3 g4 g5 g6 g7 P2⊢;obtain⟨m,rfl⟩:=gL g4;simp only[Int.toNat_natCast,u6] at*;have eo:p.getD (n+m) 0=o.getD (n+m) 0:=by
   have:=congrArg (fun l=>l.getD 0 0) g6;simpa[iy,wW] using this
  refine Yd.cond (fun hd=>?_)<|fun hd=>?_
  ·have hd:=aZ hd;have enm:((n:Nat):Int)+((m:Nat):Int)=((n+m:Nat):Int):=by omega
   obtain⟨xa,xb⟩:=hZ ha n;obtain⟨ya,yb⟩:=hZ hb m;obtain⟨oa,ob⟩:=hZ g1<|n+m
   have Jt:a.getD n 0*b.getD m 0<=(BT-1)*(BT-1):=wT (by omega) (by omega) ya (by unfold BT;omega);have aut:0<=a.getD n 0*b.getD m 0:=rU xa ya;have hS:0<=p.getD (n+m) 0+a.getD n 0*b.getD m 0+c/\p.getD (n+m) 0+a.getD n 0*b.getD m 0+c<BT*BT:=by
    generalize a.getD n 0*b.getD m 0=q at*
    unfold BT at*;omega
   rw[enm];refine Yd.bd (aM ⟨by omega,by omega⟩) (Yd.bd (bJ (by omega)) (Yd.bd (bJ (by omega)) (Yd.bd (bJ (by omega)) (Yd.bd (bJ (by omega)) (Yd.bd (aM ⟨by omega,by unfold BT at*;omega⟩) (Yd.bd (aM ⟨by omega,by unfold BT at*;omega⟩) (Yd.bd (aM ⟨by omega,by unfold BT at*;omega⟩) (Yd.bd (aM ⟨by omega,by omega⟩) (Yd.bd (yk hS.1 (by omega)) (Yd.bd (bJ (by omega)) (Yd.bd (bJ (by omega)) (Yd.bd (div_pos hS.1 (by omega) (by unfold BT at*;omega)) (Yd.bd (aM ⟨by omega,by omega⟩) ?_)))))))))))));have hdm:p.getD (n+m) 0+a.getD n 0*b.getD m 0+c=(p.getD (n+m) 0+a.getD n 0*b.getD m 0+c)%1000000000+BT*((p.getD (n+m) 0+a.getD n 0*b.getD m 0+c)/1000000000):=by unfold BT;omega
   have hr:0<=(p.getD (n+m) 0+a.getD n 0*b.getD m 0+c)%1000000000/\(p.getD (n+m) 0+a.getD n 0*b.getD m 0+c)%1000000000<BT:=by unfold BT;omega
   have hq:0<=(p.getD (n+m) 0+a.getD n 0*b.getD m 0+c)/1000000000/\(p.getD (n+m) 0+a.getD n 0*b.getD m 0+c)/1000000000<BT:=by unfold BT at*;omega
   refine P2 _ ⟨HC g1 _ hr,by simpa using g2,hq,by dsimp only;omega,by dsimp only;omega,?_,?_⟩ (by dsimp only;omega)
   ·have e:(((m:Nat):Int)+1).toNat=m+1:=by omega
    simp only[e,Int.toNat_natCast];rw[LG (by omega),<-rR];have:=congrArg (List.drop 1) g6;rwa [iS,iS] at this
   ·have e:(((m:Nat):Int)+1).toNat=m+1:=by omega
    simp only[e,Int.toNat_natCast];rw[<-rR,db,dq<|bp _,dr (by omega),db o,db b,<-eo,jV]
    generalize (p.getD (n+m) 0+a.getD n 0*b.getD m 0+c)%1000000000=R at*
    generalize (p.getD (n+m) 0+a.getD n 0*b.getD m 0+c)/1000000000=Q at*
    have k1:js n*(a.getD n 0*(aJ (b.take m)+js m*b.getD m 0))=js n*(a.getD n 0*aJ (b.take m))+js (n+m)*(a.getD n 0*b.getD m 0):=by
     rw[bt,bt,K6,iT (a.getD n 0)<|js m,eP]
    have k2:js (n+m)*R+BT*js (n+m)*Q=js (n+m)*(a.getD n 0*b.getD m 0)+js (n+m)*p.getD (n+m) 0+js (n+m)*c:=by
     rw[Int.mul_comm BT,eP,<-bt,<-bt,<-bt]
     congr 1;omega
    rw[k1];omega
  ·have hd:=br hd;have Z7:m=b.length:=by omega
   subst Z7;have enm:((n:Nat):Int)+((b.length:Nat):Int)=((n+b.length:Nat):Int):=by omega
   have hz0:p.getD (n+b.length) 0=0:=by rw[eo];exact hz _<|bp _
   rw[enm];refine Yd.bd (aM ⟨by omega,by omega⟩) (Yd.bd (aM ⟨by omega,by omega⟩) (Yd.bd (bJ (by omega)) (Yd.bd (bJ (by omega)) (Yd.bd (aM ⟨by omega,by unfold BT at*;omega⟩) (Yd.bd (bJ (by omega)) (Yd.bd (bJ (by omega)) (Yd.bd (aM ⟨by omega,by omega⟩) ?_)))))));rw[hz0,Int.zero_add];refine hn _ ⟨HC g1 _ g3,by simpa using g2,by dsimp only;omega,by dsimp only;omega,?_,?_⟩ (by dsimp only;omega)
   ·intro m hm;have e:(((n:Nat):Int)+1).toNat=n+1:=by omega
    simp only[e,Int.toNat_natCast] at hm⊢;rw[getD_set_ne (by omega)];have:=congrArg (fun l=>l.getD (m-(n+b.length)) 0) g6;have h':p.getD m 0=o.getD m 0:=by simpa[iy,wW,show n+b.length+(m-(n+b.length))=m by omega] using this
    rw[h'];exact hz m (by omega)
   ·have e:(((n:Nat):Int)+1).toNat=n+1:=by omega
    simp only[e,Int.toNat_natCast];rw[show n+1+b.length=n+b.length+1 by omega,db,dq<|bp _,dr (by omega),g7,h5,db a,eF<|bp _,kP,eP]
 ·have hc:=br hc;have Kf:n=a.length:=by omega
  subst Kf;refine Yd.iG (za h1 (by omega)) fun w ⟨q1,q2,q3⟩=>Yd.mk ⟨q1,?_,by omega⟩
  rw[q2];rw[eF (l:=o) (by omega),eF (l:=a) (by omega)] at h5;exact h5
def GJ(h:i<n):((u.drop j).take n).getD i 0=u.getD (j+i) 0:=by
 simp[iy,yv,h,wW]
def mU{α:Type}{g:Bool}{d:α}{e:av8 α}{K:α->av8 ρ}(h:g=false):iJ g d e K=K d:=by subst h;rfl
def eG{α:Type}{g:Bool}{d:α}{e:av8 α}{K:α->av8 ρ}(h:g=true):iJ g d e K=bd e K:=by subst h;rfl
def Zy(hu:sA u)(hv:sA v)(Wc:v.length=k+2)(Wd:j+(k+3)<=u.length)(hlen:u.length<4398046511)(Z2:BT<=2*v.getD (k+1) 0)
 (hw:w=(u.drop j).take (k+3))(hlt:aJ w<BT*aJ v):
  Yd (fun q=>(0<=q/\q<BT)/\(q-1)*aJ v<=aJ w/\aJ w<(q+1)*aJ v) (sG u v (j:Int)):=by
 unfold sG;have hwo:sA w:=by rw[hw];exact mX (zg hu _) _
 have hwl:w.length=k+3:=by rw[hw,List.length_take,lr];omega
 have eU:=Y3 hwl;have eV:=Y4 Wc;obtain⟨bU0,bU1⟩:=bP<|mX hwo k
 obtain⟨bV0,bV1⟩:=bP<|mX hv k
 rw[List.length_take,fW (by omega)] at bU1 bV1;have hP:=sW k;have hu0:=hZ hwo k;have hu1:=hZ hwo<|k+1
 have hu2:=hZ hwo<|k+2
 have Nu:=hZ hv k;have hv1:=hZ hv<|k+1
 have w0:u.getD (j+k) 0=w.getD k 0:=by rw[hw,GJ (by omega)]
 have w1:u.getD (j+(k+1)) 0=w.getD (k+1) 0:=by rw[hw,GJ (by omega)]
 have w2:u.getD (j+(k+2)) 0=w.getD (k+2) 0:=by rw[hw,GJ (by omega)]
 have hVP:0<=aJ v:=(bP hv).1;have hU0:0<=aJ w:=(bP hwo).1;have ahC:w.getD (k+2) 0<=v.getD (k+1) 0:=aiX hP bU0 hu0.1 hu1.1 bV1 Nu.2 (by rw[<-eU,<-eV];exact hlt);have e1:((v.length:Int)-1)=((k+1:Nat):Int):=by omega
 have e2:((v.length:Int)-2)=((k:Nat):Int):=by omega
 have e3:((j:Int)+(v.length:Int))=((j+(k+2):Nat):Int):=by omega
 have e4:(((j+(k+2):Nat):Int)-1)=((j+(k+1):Nat):Int):=by omega
 have e5:(((j+(k+2):Nat):Int)-2)=((j+k:Nat):Int):=by omega
 rw[e1,e2,e3];have i2:bo u ((j+(k+2):Nat):Int)=some (w.getD (k+2) 0):=by rw[<-w2];exact bJ (by omega)
 have i1:bo u ((j+(k+1):Nat):Int)=some (w.getD (k+1) 0):=by rw[<-w1];exact bJ (by omega)
 have i0:bo u ((j+k:Nat):Int)=some (w.getD k 0):=by rw[<-w0];exact bJ (by omega)
 have v1:bo v ((k+1:Nat):Int)=some (v.getD (k+1) 0):=bJ (by omega);have v0:bo v ((k:Nat):Int)=some (v.getD k 0):=bJ (by omega);clear w0 w1 w2 hw
 generalize w.getD (k+2) 0=U2 at*
 generalize w.getD (k+1) 0=U1 at*
 generalize w.getD k 0=U0 at*
 generalize v.getD (k+1) 0=V1 at*
 generalize v.getD k 0=V0 at*
 have hV1:0<V1:=by unfold BT at*;omega
 have hT:0<=U2*1000000000+U1/\U2*1000000000+U1<1000000000000000000:=by unfold BT at*;omega
 refine Yd.bd (aM ⟨by omega,by omega⟩) (Yd.bd i2 (Yd.bd (aM ⟨by omega,by unfold BT at*;omega⟩) (Yd.bd (aM ⟨by omega,by omega⟩) ?_)));rw[e4];refine Yd.bd (aM ⟨by omega,by omega⟩) (Yd.bd i1 (Yd.bd (aM ⟨by omega,by omega⟩) (Yd.bd (aM ⟨by omega,by omega⟩) (Yd.bd v1 (Yd.bd (div_pos hT.1 hV1 (by omega)) (Yd.bd (aM ⟨by omega,by omega⟩)<|Yd.bd v1<|Yd.bd (yk hT.1 hV1) ?_))))));have ht0:=rV hT.1<|fU hV1
 have Uf:=tG (U2*1000000000+U1) (show V1≠0 by omega);have hr1:=r8 (U2*1000000000+U1) hV1;have hdm:=Int.mul_ediv_add_emod (U2*1000000000+U1) V1;have ht1:(U2*1000000000+U1)/V1<=1000000001:=by
  apply Int.le_of_lt_add_one;apply Ie hV1;have:(1000000001+1)*V1=1000000000*V1+2*V1:=by omega
  unfold BT at*;omega
 have aja:∀t r:Int,t*V1+r=U1+BT*U2->BT<=r->t<BT:=fun t r e h=>by
  refine Int.lt_of_mul_lt_mul_right (a:=V1) ?_<|fU hV1
  have:BT*U2<=BT*V1:=gM ahC (by unfold BT;omega);unfold BT at*;omega
 refine Yd.lp (fun s:Int×Int=>(0<=s.1/\s.1<=1000000001)/\(0<=s.2/\s.2<BT)/\s.1*V1+s.2=U1+BT*U2/\aJ w<(s.1+1)*aJ v) (fun s=>s.1.toNat) ?_ _ _ ⟨⟨ht0,ht1⟩,⟨Uf,by unfold BT at*;dsimp only;omega⟩,?_,?_⟩ (by dsimp only;omega)
 rotate_left
 ·dsimp only;rw[Int.mul_comm _ V1,hdm];unfold BT;omega
 ·dsimp only;have:=afZ (u0:=U0) (v0:=V0) (q:=(U2*1000000000+U1)/V1) (r:=(U2*1000000000+U1)%V1) (U2:=U1+BT*U2) (v1:=V1) (by rw[Int.mul_comm _ V1,hdm];unfold BT;omega) hr1 hu0.2 ht0 Nu.1;have:=XV hP bU1 bV0 (show 0<=(U2*1000000000+U1)/V1+1 by omega) this;rw[<-eU,<-eV] at this;exact this
 clear ht0 Uf hr1 hdm ht1 hT;rintro next ⟨t,r⟩ ⟨⟨h1,h1'⟩,⟨h2,h2'⟩,h3,h4⟩ hn
 dsimp only at h1 h1' h2 h2' h3 h4 hn⊢;have fin:∀q R:Int,(0<=q/\q<BT)->0<=R->q*V1+R=U1+BT*U2->aJ w<(q+1)*aJ v->(BT<=R\/q*V0<=BT*R+U0)->Yd (fun q=>(0<=q/\q<BT)/\(q-1)*aJ v<=aJ w/\aJ w<(q+1)*aJ v) (some q):=fun q R hq hR e hup hh=>by
  refine Yd.mk ⟨hq,?_,hup⟩;have:=af0 (P:=js k) (UL:=aJ<|w.take k) (VL:=aJ<|v.take k) e hq hR Nu hu0.1 Z2 hh hP bU0 bV1 bV0;rw[<-eU,<-eV] at this;exact this
 have step:aJ w<t*aJ v->Yd (fun q=>(0<=q/\q<BT)/\(q-1)*aJ v<=aJ w/\aJ w<(q+1)*aJ v) (bd (aL<|t-1) fun L5=>bd (aL ((k+1:Nat):Int)) fun JS=>bd (bo v JS) fun KV=>bd (aL<|r+KV) fun JR=>cond (decide<|1000000000<=JR) (some L5)<|next (L5,JR)):=fun hUq=>by
  have hq1:1<=t:=by
   rcases(show 1<=t\/t=0 by omega) with h|h
   ·exact h
   ·rw[h,HO] at hUq;omega
  refine Yd.bd (aM ⟨by omega,by omega⟩) (Yd.bd (aM ⟨by omega,by omega⟩) (Yd.bd v1 (Yd.bd (aM ⟨by omega,by unfold BT at*;omega⟩)<|Yd.cond (fun hc=>?_)<|fun hc=>?_)))
  ·have hc:=aZ hc;have hc:BT<=r+V1:=hc;have e:(t-1)*V1+(r+V1)=U1+BT*U2:=by rw[Int.sub_mul,Int.one_mul];omega
   exact fin (t-1) (r+V1) ⟨by omega,aja _ _ e hc⟩ (by omega) e (by rw[show t-1+1=t by omega];exact hUq)<| .inl hc
  ·have hc:=br hc;have hc: ¬BT<=r+V1:=hc;refine hn _ ⟨⟨by dsimp only;omega,by dsimp only;omega⟩,⟨by dsimp only;omega,by dsimp only;omega⟩,?_,?_⟩ (by dsimp only;omega)
   ·dsimp only;rw[Int.sub_mul,Int.one_mul];omega
   ·dsimp only;rw[show t-1+1=t by omega];exact hUq
 by_cases hb:(1000000000:Int)<=t
 ·have hd:=aW hb;have g1:gd (decide<|(1000000000:Int)<=t) false=false:=by rw[hd];rfl
  repeat rw[mU g1]
  refine Yd.cond (fun _=>step ?_) (fun h=>by rw[hd,EO] at h;cases h);have:BT*aJ v<=t*aJ v:=u7 (by unfold BT;omega) hVP;omega
 ·have hd:=bC hb;have g1:gd (decide<|(1000000000:Int)<=t) false=true:=by rw[hd];rfl
  have hb0:0<=t*V0/\t*V0<=1000000000*1000000000:=⟨rU h1 Nu.1,wT (by omega) (by unfold BT at*;omega) Nu.1 (by omega)⟩;rw[eG g1];refine Yd.bd (aM ⟨by omega,by omega⟩) ?_;rw[eG g1];refine Yd.bd v0 ?_;rw[eG g1];refine Yd.bd (aM ⟨by omega,by omega⟩) ?_;rw[eG g1];refine Yd.bd (aM ⟨by omega,by unfold BT at*;omega⟩) ?_;rw[eG g1];refine Yd.bd (aM ⟨by omega,by omega⟩) ?_;rw[e5,eG g1];refine Yd.bd (aM ⟨by omega,by omega⟩) ?_;rw[eG g1];refine Yd.bd i0 ?_;rw[eG g1];refine Yd.bd (aM ⟨by omega,by unfold BT at*;omega⟩)<|Yd.cond (fun hc=>?_)<|fun hc=>?_
  ·rw[hd,An] at hc;have hc:=aZ hc;refine step ?_;have hUq:=XV hP bU1 bV0 h1 (afY (q:=t) (r:=r) (v1:=V1) (U2:=U1+BT*U2) (u0:=U0) (v0:=V0) h3 (by unfold BT;omega));rw[<-eU,<-eV] at hUq;exact hUq
  ·rw[hd,An] at hc;have hc:=br hc;exact fin t r ⟨h1,by unfold BT;omega⟩ h2 h3 h4 (.inr (by unfold BT;omega))
def agT:(l.set (j+i) x).drop j=(l.drop j).set i x:=by
 rw[List.drop_set,if_neg (by omega),Nat.add_sub_cancel_left]
def Qd:(l.drop j).getD i 0=l.getD (j+i) 0:=by
 simp[iy,wW]
def VK{t:Int}{aec:att Int×Int×Int->av8 ρ}(hu:sA u)(hv:sA v)(Wc:v.length=n)(hj:j+n<=u.length)(hl:u.length<4398046511)(ht:0<=t/\t<BT)
 (h:∀u2 b,sA u2->u2.length=u.length->u2.take j=u.take j->(∀m,j+n<=m->u2.getD m 0=u.getD m 0)->(0<=b/\b<BT)->aJ ((u2.drop j).take n)=aJ ((u.drop j).take n)-t*aJ v+js n*b->Yd R (aec (u2,b,(n:Int)))):
  Yd R (lp 18446744073709551616 (fun(k46:(att Int×Int×Int)->av8 ρ) (uF:att Int×Int×Int)=>
        cond (decide<|uF.2.2<(v.length:Int)) (
         bd (bo v uF.2.2) fun JS=>
         bd (aL<|t*JS) fun KV=>
         bd (aL<|KV+uF.2.1) fun JR=>
         bd (aL<|uF.2.2+(j:Int)) fun Pf=>
         bd (bo uF.1 Pf) fun Sd=>
         bd (bo uF.1 Pf) fun Pd=>
         bd (tC JR (1000000000:Int)) fun Xf=>
         bd (aL<|Pd-Xf) fun On=>
         bd (wo JR (1000000000:Int)) fun x64=>
         jn (fun(s66:Int×Int)=>
          bd (aL<|uF.2.2+(j:Int)) fun Om=>
          bd (bo uF.1 Om) fun x75=>
          bd (bo uF.1 Om) fun Vl=>
          bd (aL<|uF.2.2+(1:Int)) fun YO=>
          k46 ((uF.1.set (Om).toNat s66.2),s66.1,YO)
         ) fun k67=>
         cond (decide<|On<(0:Int)) (
          bd (aL<|On+(1000000000:Int)) fun YR=>
          bd (aL<|x64+(1:Int)) fun YQ=>
          k67 (YQ,YR)
         ) (
          k67 (x64,On)
         )
        ) (aec uF)) (u,(0:Int),(0:Int))):=by
 subst Wc;refine Yd.lp (fun s:att Int×Int×Int=>sA s.1/\s.1.length=u.length/\s.1.take j=u.take j/\(∀m,j+s.2.2.toNat<=m->s.1.getD m 0=u.getD m 0)/\(0<=s.2.1/\s.2.1<BT)/\(0<=s.2.2/\s.2.2<=v.length)/\aJ ((s.1.drop j).take s.2.2.toNat)=aJ ((u.drop j).take s.2.2.toNat)-t*aJ (v.take s.2.2.toNat)+js s.2.2.toNat*s.2.1)
  (fun s=>v.length-s.2.2.toNat) ?_ _ _ ⟨hu,rfl,rfl,fun _ _=>rfl,⟨by dsimp only;omega,by dsimp only;unfold BT;omega⟩,⟨by dsimp only;omega,by dsimp only;omega⟩,by simp[aJ]⟩ (by dsimp only;omega)
 rintro next ⟨p,c,z⟩ ⟨g1,g2,g3,g4,g5,⟨g6,g6'⟩,g7⟩ hn
 dsimp only at g1 g2 g3 g4 g5 g6 g6' g7 hn⊢;obtain⟨i,rfl⟩:=gL g6;simp only[Int.toNat_natCast,u6] at*;refine Yd.cond (fun hc=>?_)<|fun hc=>?_
 ·have hc:=aZ hc;have hi:i<v.length:=by omega
  have hx:=hZ hv i;have hy:=hZ g1<|j+i
  have hm0:0<=t*v.getD i 0:=rU ht.1 hx.1;have hm1:t*v.getD i 0<=(BT-1)*(BT-1):=wT (by omega) (by omega) hx.1 (by unfold BT;omega);have ej:(((i:Nat):Int)+((j:Nat):Int))=((j+i:Nat):Int):=by omega
  have gu:p.getD (j+i) 0=u.getD (j+i) 0:=g4 _<|bp _
  refine Yd.bd (bJ hi) (Yd.bd (aM ⟨by omega,by unfold BT at*;omega⟩) (Yd.bd (aM ⟨by omega,by unfold BT at*;omega⟩) (Yd.bd (aM ⟨by omega,by omega⟩) ?_)));rw[ej];have step:∀d x:Int,(0<=d/\d<BT)->(0<=x/\x<BT)->x=u.getD (j+i) 0-(t*v.getD i 0+c)+BT*d->
    Yd R (bd (aL ((j+i:Nat):Int)) fun Om=>bd (bo p Om) fun x75=>bd (bo p Om) fun Vl=>bd (aL<|((i:Nat):Int)+(1:Int)) fun YO=>next ((p.set (Om).toNat x),d,YO)):=by
   intro d x hd Ve hxe;refine Yd.bd (aM ⟨by omega,by omega⟩) (Yd.bd (bJ (by omega)) (Yd.bd (bJ (by omega)) (Yd.bd (aM ⟨by omega,by omega⟩)<|hn _ ⟨HC g1 _ Ve,?_,?_,?_,hd,⟨?_,?_⟩,?_⟩ ?_)))
   ·simpa using g2
   ·rw[Int.toNat_natCast,dq (by omega)];exact g3
   ·intro m hm;dsimp only at hm⊢;rw[Int.toNat_natCast,getD_set_ne (by omega)];exact g4 m (by omega)
   ·dsimp only;omega
   ·dsimp only;omega
   ·dsimp only;have e:(((i:Nat):Int)+1).toNat=i+1:=by omega
    rw[e,Int.toNat_natCast,agT,db,dq<|bp _,dr (by rw[lr];omega),db,db,g7,Qd,jV,hxe]
    generalize u.getD (j+i) 0=X at*
    generalize v.getD i 0=Y at*
    rw[bt t,iT t];have:js i*(X-(t*Y+c)+BT*d)=js i*X-js i*(t*Y)-js i*c+BT*js i*d:=by
     generalize t*Y=q
     rw[bt,mE,bt (js i) q c,iT (js i) BT d,<-eP BT];omega
    omega
   ·dsimp only;omega
  rw[gu] at hy;refine Yd.bd (bJ (by omega)) (Yd.bd (bJ (by omega)) (Yd.bd (yk (by omega) (by omega)) ?_));rw[gu]
  generalize hq:t*v.getD i 0=q at*
  refine Yd.bd (aM ⟨by unfold BT at*;omega,by unfold BT at*;omega⟩) (Yd.bd (div_pos (by omega) (by omega) (by unfold BT at*;omega)) ?_);refine Yd.jn (fun s:Int×Int=>(0<=s.1/\s.1<BT)/\(0<=s.2/\s.2<BT)/\s.2=u.getD (j+i) 0-(q+c)+BT*s.1) (fun s hs=>step s.1 s.2 hs.1 hs.2.1 hs.2.2) fun k hk=>Yd.cond (fun hd=>?_)<|fun hd=>?_
  ·have hd:=aZ hd;refine Yd.bd (aM ⟨by unfold BT at*;omega,by unfold BT at*;omega⟩) (Yd.bd (aM ⟨by unfold BT at*;omega,by unfold BT at*;omega⟩)<|hk _ ⟨?_,?_,?_⟩)<;>(dsimp only;unfold BT at*;omega)
  ·have hd:=br hd;refine hk _ ⟨?_,?_,?_⟩<;>(dsimp only;unfold BT at*;omega)
 ·have hc:=br hc;have hi:i=v.length:=by omega
  subst hi;refine h p c g1 g2 g3 g4 g5 ?_;rw[eF (l:=v)<|bp _] at g7;exact g7
def Tk{aec:att Int×Int×Int->av8 ρ}(hu:∀m,m≠j+n->0<=u.getD m 0/\u.getD m 0<BT)(hv:sA v)(Wc:v.length=n)(hj:j+n<u.length)(hl:u.length<4398046511)
 (h:∀u2 b,u2.length=u.length->u2.take j=u.take j->(∀m,j+n<=m->u2.getD m 0=u.getD m 0)->(∀m,m≠j+n->0<=u2.getD m 0/\u2.getD m 0<BT)->(b=0\/b=1)->aJ ((u2.drop j).take n)+js n*b=aJ ((u.drop j).take n)+aJ v->Yd R (aec (u2,b,(n:Int)))):
  Yd R (lp 18446744073709551616 (fun(ZZ:(att Int×Int×Int)->av8 ρ) (ku:att Int×Int×Int)=>
           cond (decide<|ku.2.2<(v.length:Int)) (
            bd (aL<|ku.2.2+(j:Int)) fun C9=>
            bd (bo ku.1 C9) fun Ko=>
            bd (bo ku.1 C9) fun IW=>
            bd (bo v ku.2.2) fun Kn=>
            bd (aL<|IW+Kn) fun L7=>
            bd (aL<|L7+ku.2.1) fun L6=>
            bd (aL<|ku.2.2+(j:Int)) fun Km=>
            bd (tC L6 (1000000000:Int)) fun YV=>
            bd (bo ku.1 Km) fun aic=>
            bd (bo ku.1 Km) fun aib=>
            bd (wo L6 (1000000000:Int)) fun YU=>
            bd (aL<|ku.2.2+(1:Int)) fun YT=>
            ZZ ((ku.1.set (Km).toNat YV),YU,YT)
           ) (aec ku)) (u,(0:Int),(0:Int))):=by
 subst Wc;refine Yd.lp (fun s:att Int×Int×Int=>s.1.length=u.length/\s.1.take j=u.take j/\(∀m,j+s.2.2.toNat<=m->s.1.getD m 0=u.getD m 0)/\(∀m,m≠j+v.length->0<=s.1.getD m 0/\s.1.getD m 0<BT)/\(s.2.1=0\/s.2.1=1)/\(0<=s.2.2/\s.2.2<=v.length)/\aJ ((s.1.drop j).take s.2.2.toNat)+js s.2.2.toNat*s.2.1=aJ ((u.drop j).take s.2.2.toNat)+aJ (v.take s.2.2.toNat))
  (fun s=>v.length-s.2.2.toNat) ?_ _ _ ⟨rfl,rfl,fun _ _=>rfl,hu,.inl rfl,⟨by dsimp only;omega,by dsimp only;omega⟩,by simp[aJ]⟩ (by dsimp only;omega)
 rintro next ⟨p,c,z⟩ ⟨g2,g3,g4,g1,g5,⟨g6,g6'⟩,g7⟩ hn
 dsimp only at g1 g2 g3 g4 g5 g6 g6' g7 hn⊢;obtain⟨i,rfl⟩:=gL g6;simp only[Int.toNat_natCast,u6] at*;refine Yd.cond (fun hc=>?_)<|fun hc=>?_
 ·have hc:=aZ hc;have hi:i<v.length:=by omega
  have hx:=hZ hv i;have hy:=g1 (j+i) (by omega);have ej:(((i:Nat):Int)+((j:Nat):Int))=((j+i:Nat):Int):=by omega
  have gu:p.getD (j+i) 0=u.getD (j+i) 0:=g4 _<|bp _
  rw[ej];rw[gu] at hy;have hS:0<=u.getD (j+i) 0+v.getD i 0+c/\u.getD (j+i) 0+v.getD i 0+c<2000000000:=by unfold BT at*;omega
  have i1:bo p ((j+i:Nat):Int)=some (u.getD (j+i) 0):=by rw[<-gu];exact bJ (by omega)
  have hdm:u.getD (j+i) 0+v.getD i 0+c=(u.getD (j+i) 0+v.getD i 0+c)%1000000000+BT*((u.getD (j+i) 0+v.getD i 0+c)/1000000000):=by unfold BT;omega
  have hr:0<=(u.getD (j+i) 0+v.getD i 0+c)%1000000000/\(u.getD (j+i) 0+v.getD i 0+c)%1000000000<BT:=by unfold BT;omega
  have hd:(u.getD (j+i) 0+v.getD i 0+c)/1000000000=0\/(u.getD (j+i) 0+v.getD i 0+c)/1000000000=1:=by omega
  refine Yd.bd (aM ⟨by omega,by omega⟩) (Yd.bd i1 (Yd.bd i1 (Yd.bd (bJ hi) (Yd.bd (aM ⟨by omega,by unfold BT at*;omega⟩) (Yd.bd (aM ⟨by omega,by omega⟩) (Yd.bd (aM ⟨by omega,by omega⟩) (Yd.bd (yk hS.1 (by omega)) (Yd.bd i1 (Yd.bd i1 (Yd.bd (div_pos hS.1 (by omega) (by omega)) (Yd.bd (aM ⟨by omega,by omega⟩)<|hn _ ⟨?_,?_,?_,?_,hd,⟨?_,?_⟩,?_⟩ ?_)))))))))))
  ·simpa using g2
  ·rw[Int.toNat_natCast,dq (by omega)];exact g3
  ·intro m hm;dsimp only at hm⊢;rw[Int.toNat_natCast,getD_set_ne (by omega)];exact g4 m (by omega)
  ·intro m hm;dsimp only;rw[Int.toNat_natCast];by_cases e:m=j+i
   ·subst e;rw[dr (by omega)];exact hr
   ·rw[getD_set_ne e];exact g1 m hm
  ·dsimp only;omega
  ·dsimp only;omega
  ·dsimp only;have e:(((i:Nat):Int)+1).toNat=i+1:=by omega
   rw[e,Int.toNat_natCast,agT,db,dq<|bp _,dr (by rw[lr];omega),db,db,Qd,jV]
   generalize (u.getD (j+i) 0+v.getD i 0+c)%1000000000=r at*
   generalize (u.getD (j+i) 0+v.getD i 0+c)/1000000000=d at*
   generalize u.getD (j+i) 0=X at*
   generalize v.getD i 0=Y at*
   have:js i*r+BT*js i*d=js i*X+js i*Y+js i*c:=by
    rw[Int.mul_comm BT,eP,<-bt,<-bt,<-bt,<-hdm]
   omega
  ·dsimp only;omega
 ·have hc:=br hc;have hi:i=v.length:=by omega
  subst hi;refine h p c g2 g3 g4 g1 g5 ?_;rw[eF (l:=v)<|bp _] at g7;exact g7
def Xn{t:Int}(h1:1<=t)(h2:t<1000000000)(hf:f=1000000000/(t+1)):1<=f/\f<=500000000/\(t+1)*f<=1000000000/\1000000000<=2*(t*f):=by
 have hp:(0:Int)<t+1:=by omega
 have a1:(t+1)*f<=1000000000:=by rw[hf,Int.mul_comm];exact Int.ediv_mul_le _ (by omega)
 have a2:1000000000<(f+1)*(t+1):=by rw[hf];exact Int.lt_ediv_add_one_mul_self _ hp
 have a3:1<=f:=by
  rw[hf];exact(Int.le_ediv_iff_mul_le hp).2 (by omega)
 have a4:f<=500000000:=by
  have:2*f<=(t+1)*f:=u7 (by omega) (by omega);omega
 refine⟨a3,a4,a1,?_⟩;rw[kP,Int.one_mul] at a2;have e:(t+1)*f=t*f+f:=by rw[kP,Int.one_mul]
 have e2:f*(t+1)=t*f+f:=by rw[bt,ni,Int.mul_comm f t]
 rw[e] at a1;rw[e2] at a2;have hP:t<=t*f:=by
  have:t*1<=t*f:=gM a3 (by omega);omega
 rcases(show t=1\/1000000000<=2*t\/(2<=t/\2*t<=999999998) by omega) with h|h|⟨h,h'⟩
 ·subst h;omega
 ·omega
 ·rcases(show 1000000000<=2*(t*f)\/2*(t*f)<=999999999 by omega) with h3|h3
  ·exact h3
  ·exfalso;have b1:t*(1000000000-t)<=t*(t*f+f):=gM (by omega) (by omega);have b2:t*(2*(t*f))<=t*999999999:=gM h3 (by omega);have b3:0<(t-1)*(999999999-2*t):=Int.mul_pos (by omega) (by omega);rw[mE] at b1;rw[bt] at b1;rw[iT] at b2;rw[Int.sub_mul,Int.one_mul,mE,iT t 2 t] at b3
   generalize t*t=T at*
   generalize t*(t*f)=Q at*
   generalize t*f=P at*
   omega
def aiP(hb:tK b)(hbl:b.length=k+2)(hf:f=1000000000/(b.getD (k+1) 0+1))(hv:tK v)(hvv:aJ v=aJ b*f):
  v.length=k+2/\BT<=2*v.getD (k+1) 0/\js (k+1)*f<=aJ v/\1<=f/\f<=500000000:=by
 have hP:=sW<|k+1
 have hb0:b≠[]:=by intro e;subst e;simp at hbl
 have l1:=vQ hb.1 hb0 hb.2;rw[hbl,show k+2-1=k+1 by omega] at l1;have l2:=om (l:=b) (n:=k+1) (by omega);rw[eF (by omega)] at l2;obtain⟨l3,l4⟩:=bP<|mX hb.1<|k+1
 rw[List.length_take,fW (by omega)] at l4;have ht:=hZ hb.1<|k+1
 generalize b.getD (k+1) 0=t at*
 have h1:1<=t:=by
  rcases(show 1<=t\/t=0 by omega) with h|h
  ·exact h
  ·rw[h] at l2;omega
 obtain⟨f1,f2,f3,f4⟩:=Xn h1 (by unfold BT at ht;omega) hf;have u1:(aJ b+1)*f<=(js (k+1)*(t+1))*f:=u7 (by rw[bt,ni];omega) (by omega);rw[kP,Int.one_mul,eP] at u1;have u2:js (k+1)*((t+1)*f)<=js (k+1)*BT:=gM (by unfold BT;omega) (by omega);have u3:(js (k+1)*t)*f<=aJ b*f:=u7 (by omega) (by omega);rw[eP] at u3;have u4:js (k+1)*1<=js (k+1)*(t*f):=gM (by omega) (by omega);have u5:js (k+1)*f<=js (k+1)*(t*f):=gM (by
  have:1*f<=t*f:=u7 h1 (by omega);omega) (by omega)
 rw[<-hvv] at u1 u3;have al8:v.length<=k+2:=hv.len (by rw[jV,Int.mul_comm];omega);have Ny:k+2<=v.length:=by
  rcases kQ v.length (k+2) with h|h
  ·have a:=(bP hv.1).2;have b:=Tp (show v.length<=k+1 by omega);omega
  ·exact h
 have hlen:v.length=k+2:=by omega
 refine⟨hlen,?_,by omega,f1,f2⟩;have m2:=om (l:=v) (n:=k+1) (by omega);rw[eF (by omega)] at m2;obtain⟨m3,m4⟩:=bP<|mX hv.1<|k+1
 rw[List.length_take,fW (by omega)] at m4;have m5:js (k+1)*(t*f)<js (k+1)*(v.getD (k+1) 0+1):=by rw[bt,ni];omega
 have m6:=LO m5<|fU hP
 unfold BT;omega
def afj{x:att Int}{L:Nat}{K:att Int->av8 ρ}(hx:sA x)(hl:x.length<=L+1)(hL:L<109951162)(h:∀u,sA u->u.length=L+1->aJ u=aJ x->Yd R (K u)):
  Yd R (lp 18446744073709551616 (fun(Vd:(att Int)->av8 ρ) (AU:(att Int))=>
    bd (aL<|(L:Int)+(1:Int)) fun rJ=>
    cond (decide<|(AU.length:Int)<rJ) (bd (fX 8 AU ([(0:Int)]:att Int)) fun yg=>Vd yg) (K AU)) x):=by
 refine Yd.lp (fun s:att Int=>sA s/\s.length<=L+1/\aJ s=aJ x) (fun s=>L+1-s.length) ?_ _ _ ⟨hx,hl,rfl⟩ (by omega);rintro next s ⟨h1,h2,h3⟩ hn
 refine Yd.bd (aM ⟨by omega,by omega⟩)<|Yd.cond (fun hc=>?_)<|fun hc=>?_
 ·have hc:=aZ hc;refine Yd.bd (adV (by omega)) (hn _ ⟨?_,by rw[List.length_append,List.length_singleton];omega,?_⟩ (by rw[List.length_append,List.length_singleton];omega))
  ·rw[Ci];exact⟨h1,fun y hy=>by rw[cr] at hy;subst hy;unfold BT;omega⟩
  ·rw[oY];simp[aJ,h3]
 ·have hc:=br hc;exact h s h1 (by omega) h3
def abS(h:∀m,0<=l.getD m 0/\l.getD m 0<BT):sA l:=fun x hx=>by
 obtain⟨i,hi,rfl⟩:=List.getElem_of_mem hx;have:=h i;rwa [iy,j7 hi] at this
def Mu:∀{l:att Int},(∀m,l.getD m 0=0)->aJ l=0
 |[],_=>rfl
 |x::l,h=>by
  have h0:x=0:=by simpa using h 0
  have:=Mu (l:=l) fun m=>by simpa using h (m+1)
  rw[lO,h0,this];omega
def top_lt{A V:Int}{L:Nat}(hu:sA u)(Wd:u.length=L+1)(hm:m+(k+2)=L+1)(hv:aJ u=A*f)(hA:A<js L)(hf:1<=f)(hV:js (k+1)*f<=V):aJ (u.drop m)<V:=by
 have h1:=qw u m (by omega);obtain⟨b0,b1⟩:=bP<|mX hu m
 have hP:=sW m;have e:js L=js m*js (k+1):=by rw[<-K6];congr 1;omega
 have h2:(A+1)*f<=js L*f:=u7 (by omega) (by omega);rw[kP,Int.one_mul,e,eP] at h2;have h3:js m*(js (k+1)*f)<=js m*V:=gM hV (by omega);have h4:js m*aJ (u.drop m)<js m*V:=by omega
 exact LO h4 (by omega)
def abv{K:att Int×Int->av8 ρ}(hu:sA u)(hv:sA v)(Wc:v.length=k+2)(hj:j+(k+3)<=u.length)(hlen:u.length<439804651)(Z2:BT<=2*v.getD (k+1) 0)(hlt:aJ (u.drop<|j+1)<aJ v)
 (h:∀l t,sA l->l.length=u.length->l.take j=u.take j->0<=t->t<BT->aJ (l.drop j)=aJ (u.drop j)-t*aJ v->aJ (l.drop j)<aJ v->Yd R (K (l,t))):
  Yd R (bd (sG u v (j:Int)) fun FZ=>
       lp 18446744073709551616 (fun(k46:(att Int×Int×Int)->av8 ρ) (uF:att Int×Int×Int)=>
        cond (decide<|uF.2.2<(v.length:Int)) (
         bd (bo v uF.2.2) fun JS=>
         bd (aL<|FZ*JS) fun KV=>
         bd (aL<|KV+uF.2.1) fun JR=>
         bd (aL<|uF.2.2+(j:Int)) fun Pf=>
         bd (bo uF.1 Pf) fun Sd=>
         bd (bo uF.1 Pf) fun Pd=>
         bd (tC JR (1000000000:Int)) fun Xf=>
         bd (aL<|Pd-Xf) fun On=>
         bd (wo JR (1000000000:Int)) fun x64=>
         jn (fun(s66:Int×Int)=>
          bd (aL<|uF.2.2+(j:Int)) fun Om=>
          bd (bo uF.1 Om) fun x75=>
          bd (bo uF.1 Om) fun Vl=>
          bd (aL<|uF.2.2+(1:Int)) fun YO=>
          k46 ((uF.1.set (Om).toNat s66.2),s66.1,YO)
         ) fun k67=>
         cond (decide<|On<(0:Int)) (
          bd (aL<|On+(1000000000:Int)) fun YR=>
          bd (aL<|x64+(1:Int)) fun YQ=>
          k67 (YQ,YR)
         ) (
          k67 (x64,On)
         )
        ) (
         bd (aL<|(j:Int)+(v.length:Int)) fun Qu=>
         bd (aL<|(j:Int)+(v.length:Int)) fun Xe=>
         bd (bo uF.1 Xe) fun x85=>
         bd (bo uF.1 Xe) fun x87=>
         bd (aL<|x87-uF.2.1) fun Sq=>
         bd (bo uF.1 Qu) fun x91=>
         bd (bo uF.1 Qu) fun x93=>
         bd (aL<|(j:Int)+(v.length:Int)) fun x95=>
         bd (bo (uF.1.set (Qu).toNat Sq) x95) fun x97=>
         bd (bo (uF.1.set (Qu).toNat Sq) x95) fun x99=>
         jn (fun(Tg:att Int×Int)=>K Tg) fun Wa=>
         cond (decide<|x99<(0:Int)) (
          bd (aL<|FZ-(1:Int)) fun aeK=>
          lp 18446744073709551616 (fun(ZZ:(att Int×Int×Int)->av8 ρ) (ku:att Int×Int×Int)=>
           cond (decide<|ku.2.2<(v.length:Int)) (
            bd (aL<|ku.2.2+(j:Int)) fun C9=>
            bd (bo ku.1 C9) fun Ko=>
            bd (bo ku.1 C9) fun IW=>
            bd (bo v ku.2.2) fun Kn=>
            bd (aL<|IW+Kn) fun L7=>
            bd (aL<|L7+ku.2.1) fun L6=>
            bd (aL<|ku.2.2+(j:Int)) fun Km=>
            bd (tC L6 (1000000000:Int)) fun YV=>
            bd (bo ku.1 Km) fun aic=>
            bd (bo ku.1 Km) fun aib=>
            bd (wo L6 (1000000000:Int)) fun YU=>
            bd (aL<|ku.2.2+(1:Int)) fun YT=>
            ZZ ((ku.1.set (Km).toNat YV),YU,YT)
           ) (
            bd (aL<|(j:Int)+(v.length:Int)) fun Sr=>
            bd (aL<|(j:Int)+(v.length:Int)) fun YS=>
            bd (bo ku.1 YS) fun ak9=>
            bd (bo ku.1 YS) fun aeJ=>
            bd (aL<|aeJ+ku.2.1) fun aeI=>
            bd (bo ku.1 Sr) fun ak8=>
            bd (bo ku.1 Sr) fun ak7=>
            Wa ((ku.1.set (Sr).toNat aeI),aeK)
           )
          ) ((uF.1.set (Qu).toNat Sq),(0:Int),(0:Int))
         ) (
          Wa ((uF.1.set (Qu).toNat Sq),FZ)
         )
        )
       ) (u,(0:Int),(0:Int))):=by
 have hVb:=bP hv;rw[Wc] at hVb;have hP:=sW<|k+2
 have eW:aJ (u.drop j)=u.getD j 0+BT*aJ (u.drop<|j+1):=by rw[oQ (by omega),lO]
 have hj0:=hZ hu j;have hW0:0<=aJ (u.drop j):=(bP<|zg hu j).1;have aqw:aJ (u.drop j)<BT*aJ v:=by unfold BT at*;omega
 have hzero:aJ ((u.drop j).drop<|k+3)=0:=NN (zg hu j) (by rw[lr];omega) (by
  rw[jV];have:BT*aJ v<BT*js (k+2):=by unfold BT;omega
  omega)
 have eWw:aJ (u.drop j)=aJ ((u.drop j).take<|k+3):=by
  have:=qw (u.drop j) (k+3) (by rw[lr];omega);rw[hzero] at this;omega
 have hz:∀m,j+(k+3)<=m->u.getD m 0=0:=fun m hm=>by
  have:=Mv (l:=u.drop j) hzero (zg hu j) (m:=m-j) (by omega);rwa [Qd,show j+(m-j)=m by omega] at this
 have avT:aJ ((u.drop j).take<|k+3)=aJ ((u.drop j).take<|k+2)+js (k+2)*u.getD (j+(k+2)) 0:=by rw[db,Qd]
 refine Yd.iG (Zy (k:=k) (j:=j) hu hv Wc hj (by omega) Z2 rfl (by rw[<-eWw];exact aqw)) ?_;rintro t ⟨⟨ht0,ht1⟩,FX,hup⟩;rw[<-eWw] at FX hup;refine VK (j:=j) (n:=k+2) hu hv Wc (by omega) (by omega) ⟨ht0,ht1⟩ ?_;intro u2 b g1 g2 g3 g4 g5 g6;dsimp only;have en:((j:Int)+(v.length:Int))=((j+(k+2):Nat):Int):=by omega
 rw[en];have gt:u2.getD (j+(k+2)) 0=u.getD (j+(k+2)) 0:=g4 _<|bp _
 have hb2:=hZ hu<|j+(k+2)
 have i2:bo u2 ((j+(k+2):Nat):Int)=some (u.getD (j+(k+2)) 0):=by rw[<-gt];exact bJ (by omega)
 have hS:=bP<|mX (zg g1 j)<|k+2
 rw[List.length_take,lr,fW (by omega)] at hS;refine Yd.bd (aM ⟨by omega,by omega⟩) (Yd.bd (aM ⟨by omega,by omega⟩) (Yd.bd i2 (Yd.bd i2 (Yd.bd (aM ⟨by unfold BT at*;omega,by unfold BT at*;omega⟩) (Yd.bd i2 (Yd.bd i2 (Yd.bd (aM ⟨by omega,by omega⟩) ?_)))))));rw[Int.toNat_natCast];have i3:bo (u2.set (j+(k+2))<|u.getD (j+(k+2)) 0-b) ((j+(k+2):Nat):Int)=some (u.getD (j+(k+2)) 0-b):=by
  rw[bJ (by rw[pU];omega),dr (by omega)]
 refine Yd.bd i3<|Yd.bd i3 ?_
 have eD:aJ (u.drop j)-t*aJ v=aJ ((u2.drop j).take<|k+2)+js (k+2)*(u.getD (j+(k+2)) 0-b):=by
  rw[mE];omega
 rw[Int.sub_mul,Int.one_mul] at FX;rw[kP,Int.one_mul] at hup
 generalize u.getD (j+(k+2)) 0-b=y at*
 have hy1: -1<=y:=by
  rcases(show -1<=y\/y<= -2 by omega) with h|h
  ·exact h
  ·have:=gM h (fU hP);omega
 have hy2:y<=0:=by
  rcases(show y<=0\/1<=y by omega) with h|h
  ·exact h
  ·have:=gM h (fU hP);omega
 have fin:∀(l:att Int) (t':Int),l.length=u.length->l.take j=u.take j->(∀m,j+(k+2)<m->l.getD m 0=u.getD m 0)->(∀m,m≠j+(k+2)->0<=l.getD m 0/\l.getD m 0<BT)->0<=t'->t'<BT->
   aJ ((l.drop j).take<|k+2)=aJ (u.drop j)-t'*aJ v->aJ ((l.drop j).take<|k+2)<aJ v->∀l2,l2=l.set (j+(k+2)) 0->Yd R (K (l2,t')):=by
  intro l t' q1 q2 q3 q4 q5 q6 q7 q8 l2 Ye;have ok2:sA l2:=abS fun m=>by
   by_cases e:m=j+(k+2)
   ·subst e;rw[Ye,dr (by omega)];unfold BT;omega
   ·rw[Ye,getD_set_ne e];exact q4 m e
  have ev:aJ (l2.drop j)=aJ ((l.drop j).take<|k+2):=by
   have e1:=qw (l2.drop j) (k+2) (by rw[lr,Ye,pU];omega);have e2:(l2.drop j).take (k+2)=(l.drop j).take (k+2):=by rw[Ye,agT,dq<|bp _]
   have e3:aJ ((l2.drop j).drop<|k+2)=0:=Mu fun m=>by
    rw[Qd,Qd,Ye];by_cases e:m=0
    ·subst e;rw[Al,dr (by omega)]
    ·rw[<-rR,getD_set_ne (by omega),q3 _ (by omega)];exact hz _ (by omega)
   rw[e1,e2,e3];omega
  exact h l2 t' ok2 (by rw[Ye,pU];exact q1) (by rw[Ye,dq (by omega)];exact q2) q5 q6 (by rw[ev];exact q7) (by rw[ev];exact q8)
 refine Yd.jn (fun s:att Int×Int=>∃l:att Int,(l.length=u.length/\l.take j=u.take j/\(∀m,j+(k+2)<m->l.getD m 0=u.getD m 0)/\(∀m,m≠j+(k+2)->0<=l.getD m 0/\l.getD m 0<BT))/\(0<=s.2/\s.2<BT)/\aJ ((l.drop j).take<|k+2)=aJ (u.drop j)-s.2*aJ v/\aJ ((l.drop j).take<|k+2)<aJ v/\s.1=l.set (j+(k+2)) 0) ?_ ?_
 ·rintro⟨l2,t'⟩ ⟨l,⟨q1,q2,q3,q4⟩,⟨q5,q6⟩,q7,q8,q9⟩;exact fin l t' q1 q2 q3 q4 q5 q6 q7 q8 l2 q9
 intro Wa hk;refine Yd.cond (fun hc=>?_)<|fun hc=>?_
 ·have hc:=aZ hc;have hy:y= -1:=by omega
  subst hy;have ht2:1<=t:=by
   rcases(show 1<=t\/t=0 by omega) with h|h
   ·exact h
   ·rw[h,HO] at eD;omega
  refine Yd.bd (aM ⟨by omega,by unfold BT at*;omega⟩) ?_;refine Tk (j:=j) (n:=k+2) ?_ hv Wc (by rw[pU];omega) (by rw[pU];omega) ?_
  ·intro m hm;rw[getD_set_ne hm];exact hZ g1 m
  intro u4 c r1 r2 r3 r4 r5 r6;dsimp only;rw[pU] at r1;rw[dq (by omega)] at r2;have e6:((u2.set (j+(k+2))<| -1).drop j).take (k+2)=(u2.drop j).take (k+2):=by rw[agT,dq<|bp _]
  rw[e6] at r6;have r4':u4.getD (j+(k+2)) 0= -1:=by rw[r3 _<|bp _,dr (by omega)]
  have i4:bo u4 ((j+(k+2):Nat):Int)=some (-1):=by rw[<-r4'];exact bJ (by omega)
  have NF:0<=aJ ((u4.drop j).take<|k+2)/\aJ ((u4.drop j).take<|k+2)<js (k+2):=by
   have ok:sA ((u4.drop j).take<|k+2):=abS fun m=>by
    by_cases e:m<k+2
    ·rw[GJ e];exact r4 _ (by omega)
    ·rw[AG (by rw[List.length_take];omega)];unfold BT;omega
   have:=bP ok;rwa [List.length_take,lr,fW (by omega)] at this
  have hc1:c=1:=by
   rcases r5 with h|h
   ·rw[h] at r6;omega
   ·exact h
  subst hc1;refine Yd.bd (aM ⟨by omega,by omega⟩) (Yd.bd (aM ⟨by omega,by omega⟩) (Yd.bd i4 (Yd.bd i4 (Yd.bd (aM ⟨by omega,by omega⟩) (Yd.bd i4 (Yd.bd i4 (hk _ ⟨u4,⟨by omega,by rw[r2,g3],?_,r4⟩,⟨by dsimp only;omega,by dsimp only;omega⟩,?_,?_,?_⟩)))))))
  ·intro m hm;rw[r3 m (by omega),getD_set_ne (by omega),g4 m (by omega)]
  ·dsimp only;rw[Int.sub_mul,Int.one_mul];omega
  ·omega
  ·dsimp only;rw[Int.toNat_natCast];rfl
 ·have hc:=br hc;have hy:y=0:=by omega
  subst hy;refine hk _ ⟨u2,⟨g2,g3,fun m hm=>g4 m (by omega),fun m _=>hZ g1 m⟩,⟨ht0,ht1⟩,?_,?_,rfl⟩
  ·dsimp only;omega
  ·omega
def YI(h:l.length<1099511627776):fX 8 ([]:att Int) l=some l:=by
 unfold fX;rw[Cu,vd,aW (by omega),aW (by omega)];rfl
def AX(ha:tK a)(hb:tK b)(h0:b≠[])(hla:a.length<43980465)(Z9:b.length<43980465):
  Yd (fun p=>(tK p.1/\tK p.2)/\aJ p.1=aJ a/aJ b/\aJ p.2=aJ a%aJ b) (kK a b):=by
 unfold kK;have hbp:=hb.pos h0;have ha0:=(bP ha.1).1;refine Yd.iG (z6 ha hb (by omega) (by omega)) fun c hcmp=>Yd.cond (fun hc=>?_)<|fun hc=>Yd.cond (fun h1=>?_)<|fun h1=>?_
 ·have hc:=aZ hc;have hlt:aJ a<aJ b:=by rcases hcmp with⟨_,h⟩|⟨h,_⟩|⟨h,_⟩<;>omega
  exact Yd.mk ⟨⟨tK.nil,ha⟩,by rw[Int.ediv_eq_zero_of_lt ha0 hlt];rfl,(Cw ha0 hlt).symm⟩
 ·have h1:=aZ h1;obtain⟨d,rfl⟩:∃d,b=[d]:=LL.1 (by omega);have hd:aJ [d]=d:=by simp[aJ]
  rw[hd] at hbp⊢;have hd2:=hb.1 d (by simp);refine Yd.bd (x:=d) rfl (Yd.iG (Hk ha.1 ⟨hbp,by unfold BT at hd2;omega⟩ (by omega)) ?_);rintro⟨w,r⟩ ⟨g1,g2,g3,g4⟩;dsimp only at g1 g2 g3⊢;have Uf:=tG (aJ a) (show d≠0 by omega);have hr1:=r8 (aJ a) hbp;have okr:sA [r]:=fun x hx=>by rw[cr] at hx;subst hx;omega
  refine Yd.iG (za okr (by simp)) fun z ⟨q1,q2,_⟩=>Yd.mk ⟨⟨g1,q1⟩,g2,?_⟩
  rw[q2,<-g3];simp[aJ]
 ·have h1:=br h1;have hc:=br hc;have Um:aJ b<=aJ a:=by rcases hcmp with⟨h,_⟩|⟨_,h⟩|⟨_,h⟩<;>omega
  have ava:0<b.length:=E3.2 h0;obtain⟨k,hk⟩:∃k,b.length=k+2:=⟨b.length-2,by omega⟩;have hal:k+2<=a.length:=by
   rcases kQ a.length (k+2) with h|h
   ·have:=B3 ha.1 hb (by omega);omega
   ·exact h
  have e1:((b.length:Int)-1)=((k+1:Nat):Int):=by omega
  rw[e1];have hbt:=hZ hb.1<|k+1
  generalize hf:1000000000/(b.getD (k+1) 0+1)=f
  have hdv:wo 1000000000 (b.getD (k+1) 0+1)=some f:=by rw[<-hf];exact div_pos (by omega) (by omega) (by omega)
  have hf0:0<=f/\f<=1000000000:=by rw[<-hf];exact⟨rV (by omega) (by omega),As _ (by omega)⟩
  refine Yd.bd (aM ⟨by omega,by omega⟩) (Yd.bd (bJ (by omega)) (Yd.bd (aM ⟨by omega,by unfold BT at*;omega⟩)<|Yd.bd hdv ?_));have hf1:1<=f/\f<=500000000:=by
   have hb1:b.getD (k+1) 0≠0:=fun e=>by
    have l1:=vQ hb.1 h0 hb.2;have l2:=om (l:=b) (n:=k+1) (by omega);rw[eF (by omega),e] at l2;have l3:=(bP<|mX hb.1<|k+1).2;rw[List.length_take,fW (by omega)] at l3;rw[hk,show k+2-1=k+1 by omega] at l1;omega
   have:=Xn (t:=b.getD (k+1) 0) (by omega) (by unfold BT at hbt;omega) hf.symm;exact⟨this.1,this.2.1⟩
  have okf:sA [f]:=fun x hx=>by rw[cr] at hx;subst hx;unfold BT;omega
  have vf:aJ [f]=f:=by simp[aJ]
  refine Yd.iG (AW hb.1 okf (by omega) (by simp)) fun v ⟨v1,v2,v3⟩=>?_
  rw[vf] at v2;obtain⟨n1,n2,n3,_,_⟩:=aiP hb hk hf.symm v1 v2;refine Yd.iG (AW ha.1 okf (by omega) (by simp)) fun u0 ⟨w1,w2,w3⟩=>?_
  rw[vf] at w2;rw[List.length_singleton] at w3;refine Yd.bd (YI (by omega)) (afj w1.1 w3 (by omega) ?_);intro u hu Wd huv;rw[w2] at huv;obtain⟨m,hm⟩:∃m,m+1+(k+2)=a.length+1:=⟨a.length-(k+2),by omega⟩;have em:((u.length:Int)-(v.length:Int))=((m+1:Nat):Int):=by omega
  rw[em];refine Yd.bd (aM ⟨by omega,by omega⟩) (Yd.bd (HG (by omega) (by omega) (by omega)) (Yd.bd (aM ⟨by omega,by omega⟩) (Yd.bd (aM ⟨by omega,by omega⟩) ?_)));rw[Int.toNat_natCast];have hAp:aJ a<js a.length:=(bP ha.1).2;have RM:=top_lt hu Wd hm huv hAp hf1.1 n3;refine Yd.lp (fun s:att Int×att Int×Int=>sA s.1/\s.1.length=u.length/\sA s.2.1/\s.2.1.length=m+1/\ -1<=s.2.2/\s.2.2<(m+1:Nat)/\aJ (s.1.drop (s.2.2+1).toNat)<aJ v/\
    aJ u=aJ s.1+aJ v*(js (s.2.2+1).toNat*aJ (s.2.1.drop (s.2.2+1).toNat))) (fun s=>(s.2.2+1).toNat) ?_ _ _
   ⟨hu,rfl,A4 _,by simp,by dsimp only;omega,by dsimp only;omega,?_,?_⟩ (by dsimp only;omega)
  rotate_left
  ·dsimp only;have e:(((m+1:Nat):Int)-1+1).toNat=m+1:=by omega
   rw[e];exact RM
  ·dsimp only;have e:(((m+1:Nat):Int)-1+1).toNat=m+1:=by omega
   rw[e,xJ (by simp)];simp[aJ]
  rintro next ⟨u',q,z⟩ ⟨s1,s2,s3,s4,s5,s6,s7,s8⟩ hn
  dsimp only at s1 s2 s3 s4 s5 s6 s7 s8 hn⊢;refine Yd.cond (fun hz=>?_)<|fun hz=>?_
  ·have hz:=aZ hz;obtain⟨j,rfl⟩:=gL hz;have ej:(((j:Nat):Int)+1).toNat=j+1:=by omega
   rw[ej] at s7 s8;refine abv (k:=k) (j:=j) s1 v1.1 n1 (by omega) (by omega) n2 s7 ?_;intro l t r1 r2 r3 r4 r5 r6 r7;refine Yd.bd (bJ (by omega)) (Yd.bd (bJ (by omega)) (Yd.bd (aM ⟨by omega,by omega⟩) (hn _ ⟨r1,by dsimp only;omega,HC s3 _ ⟨r4,r5⟩,by simpa using s4,by dsimp only;omega,by dsimp only;omega,?_,?_⟩ ?_)))
   ·dsimp only;have e:(((j:Nat):Int)-1+1).toNat=j:=by omega
    rw[e];exact r7
   ·dsimp only;have e:(((j:Nat):Int)-1+1).toNat=j:=by omega
    rw[e,Int.toNat_natCast,wX (by omega),lO,s8,qw u' j (by omega),qw l j (by omega),r3,r6,jV];have x1:js j*(aJ (u'.drop j)-t*aJ v)=js j*aJ (u'.drop j)-aJ v*(js j*t):=by
     rw[mE,iT<|aJ v,Int.mul_comm t]
    have x2:aJ v*(js j*(t+BT*aJ (q.drop<|j+1)))=aJ v*(js j*t)+aJ v*(BT*js j*aJ (q.drop<|j+1)):=by
     rw[bt,bt,<-eP (js j),Int.mul_comm (js j) BT]
    rw[x1,x2];omega
   ·dsimp only;omega
  ·have hz:=br hz;have:z= -1:=by omega
   subst this;have s7:aJ u'<aJ v:=s7;have s8:aJ u=aJ u'+aJ v*(js 0*aJ q):=s8;rw[zb,Int.one_mul] at s8;have u'0:=(bP s1).1;have hVb:=(bP v1.1).2;have htk:aJ (u'.take v.length)=aJ u':=by
    have:=qw u' v.length (by omega);rw[NN s1 (by omega) (by omega)] at this;omega
   refine Yd.bd (im (by omega) (by omega) (by omega)) ?_;have et:((u'.take ((v.length:Nat):Int).toNat).drop (0:Int).toNat)=u'.take v.length:=by simp
   rw[et];refine Yd.iG (za (mX s1 _) (by rw[List.length_take];omega)) fun y ⟨y1,y2,y3⟩=>Yd.bd (x:=f) rfl ?_
   rw[List.length_take] at y3;refine Yd.iG (Hk y1.1 ⟨by omega,by omega⟩ (by omega)) ?_;rintro⟨w,r⟩ ⟨g1,g2,g3,g4⟩;dsimp only at g1 g2 g3⊢;refine Yd.iG (za s3 (by omega)) fun x ⟨x1,x2,_⟩=>Yd.mk ⟨⟨x1,g1⟩,?_⟩
   dsimp only;rw[x2,g2,y2,htk];have hR:aJ u'=f*(aJ a-aJ b*aJ q):=by
    rw[huv,v2] at s8;rw[mE,Int.mul_comm f<|aJ a,Int.mul_comm (aJ b) f] at*;rw[eP] at s8;omega
   have hRd:aJ u'/f=aJ a-aJ b*aJ q:=by rw[hR,Int.mul_ediv_cancel_left _ (by omega)]
   rw[hRd];have hR0:0<=aJ a-aJ b*aJ q:=by rw[<-hRd];exact rV u'0 (by omega)
   have hR1:aJ a-aJ b*aJ q<aJ b:=by
    refine LO (a:=f) ?_ (by omega);rw[<-hR,Int.mul_comm f];omega
   have:=xx (A:=aJ a) (B:=aJ b) (q:=aJ q) (r:=aJ a-aJ b*aJ q) (by rw[Int.mul_comm<|aJ q];omega) hR0 hR1;exact this
def Hm:∀n:Nat,js n=((10^(9*n):Nat):Int)
 |0=>rfl
 |n+1=>by
  rw[jV,Hm n,show 9*(n+1)=9*n+9 by omega,qe,uZ];unfold BT;omega
def ahu(ha:sA a)(hl:a.length<=100000):Nat.log2 (aJ a).toNat<1099511627776:=by
 have h:=bP ha;rw[Hm] at h;have h1:=pX (show 0<10 by omega) (show 9*a.length<=900000 by omega);have:uC ((aJ a).toNat:Int)=true:=wH (n:=900000) (by
  rw[iU]
  generalize 10^(9*a.length)=P at*
  generalize 10^900000=Q at*
  omega) (by omega)
 have:=gK this;rw[iU] at this;omega
def Uv(hx:0<=x)(hy:0<y):Int.gcd y (x%y)=Int.gcd x y:=by
 obtain⟨m,rfl⟩:=gL hx;obtain⟨n,rfl⟩:=gL<|fU hy
 show Nat.gcd n (((m%n:Nat):Int)).natAbs=Nat.gcd m n;rw[iU,Ak n,<-Nat.gcd_rec,Ak]
def MU(ha:tK a)(hb:tK b)(hla:a.length<=100000)(Z9:b.length<=100000):Yd (fun w=>tK w/\aJ w=(Int.gcd (aJ a) (aJ b):Int)/\w.length<=100000) (qC a b):=by
 unfold qC;refine Yd.lp (fun s:att Int×att Int=>tK s.1/\tK s.2/\s.1.length<=100000/\s.2.length<=100000/\Int.gcd (aJ s.1) (aJ s.2)=Int.gcd (aJ a) (aJ b)) (fun s=>muG (aJ s.1).toNat (aJ s.2).toNat) ?_ _ _ ⟨ha,hb,hla,Z9,rfl⟩<|V2 (ahu ha.1 hla)<|ahu hb.1 Z9
 rintro next ⟨x,y⟩ ⟨h1,h2,h3,h4,h5⟩ hn
 dsimp only at h1 h2 h3 h4 h5 hn⊢;refine Yd.cond (fun hc=>?_)<|fun hc=>?_
 ·have hc:=aZ hc;have hy0:y≠[]:=by intro e;subst e;simp at hc
  have hyp:=h2.pos hy0;have Ve:=(bP h1.1).1;refine Yd.iG (AX h1 h2 hy0 (by omega) (by omega)) ?_;rintro⟨q,r⟩ ⟨⟨g1,g2⟩,g3,g4⟩;dsimp only at g1 g2 g3 g4⊢;have hr:=r8 (aJ x) hyp;have hrl:r.length<=y.length:=g2.len (by rw[g4];have:=(bP h2.1).2;omega);refine hn _ ⟨h2,g2,h4,by dsimp only;omega,?_⟩ ?_
  ·dsimp only;rw[g4,<-h5,Uv Ve hyp]
  ·dsimp only;rw[g4];have e:(aJ x%aJ y).toNat=(aJ x).toNat%(aJ y).toNat:=by
    rw[Int.toNat_emod Ve<|fU hyp]
   rw[e];exact Nd (by omega)
 ·have hc:=br hc;have hy0:y=[]:=pZ (by omega);subst hy0;refine Yd.mk ⟨h1,?_,h3⟩;have Ve:=(bP h1.1).1;rw[<-h5];show aJ x=((Int.gcd (aJ x) 0:Nat):Int);rw[Int.gcd_zero_right];omega
def afk{a b:Int}(ha:0<=a/\a<=4000000000000000000)(hb:0<=b/\b<=4000000000000000000):tS a b=some (Int.gcd a b:Int):=by
 have key:Yd (fun r=>r=(Int.gcd a b:Int)) (tS a b):=by
  unfold tS;have Z8:∀x:Int,0<=x/\x<=4000000000000000000->Nat.log2 x.toNat<1099511627776:=fun x hx=>by
   have:=wH (z:=x) (n:=19) (by simp;omega) (by omega);have:=gK this;rw[show x.natAbs=x.toNat by omega] at this;omega
  refine Yd.lp (fun s:Int×Int=>(0<=s.1/\s.1<=4000000000000000000)/\(0<=s.2/\s.2<=4000000000000000000)/\Int.gcd s.1 s.2=Int.gcd a b) (fun s=>muG s.1.toNat s.2.toNat) ?_ _ _ ⟨ha,hb,rfl⟩<|V2 (Z8 a ha)<|Z8 b hb
  rintro next ⟨x,y⟩ ⟨h1,h2,h5⟩ hn
  dsimp only at h1 h2 h5 hn⊢;refine Yd.cond (fun hc=>?_)<|fun hc=>?_
  ·have hc:=aZ hc;have hr:=r8 x hc;have Uf:=tG x (show y≠0 by omega);refine Yd.bd (yk h1.1 hc) (hn _ ⟨h2,⟨Uf,by dsimp only;omega⟩,?_⟩ ?_)
   ·dsimp only;rw[<-h5,Uv h1.1 hc]
   ·dsimp only;rw[Int.toNat_emod h1.1<|fU hc];exact Nd (by omega)
  ·have hc:=br hc;have:y=0:=by omega
   subst this;refine Yd.mk ?_;rw[<-h5,Int.gcd_zero_right];omega
 obtain⟨r,e,rfl⟩:=key;exact e
def Ei(n:Nat):0<(cz n).length:=by
 by_cases h:n<10
 ·rw[qR h];simp
 ·rw[tY h];simp
def Q2{r:Nat}(h:k<=(cz r).length):ze k r=cz r:=by
 unfold ze;rw[Nat.sub_eq_zero_of_le h];rfl
def ZF(h:0<m/10\/1<k):ze k m=ze (k-1) (m/10)++[UInt8.ofNat<|48+m%10]:=by
 by_cases hm:m<10
 ·have hk:1<k:=by omega
  obtain⟨j,rfl⟩:∃j,k=j+2:=⟨k-2,by omega⟩;unfold ze;rw[show m/10=0 by omega,qR hm,qR (show 0<10 by omega),show m%10=m by omega];simp only[List.length_singleton];rw[show j+2-1=j+1 by omega,show j+1-1=j by omega,List.replicate_succ'];rfl
 ·unfold ze;rw[tY hm,List.length_append,List.length_singleton,show k-((cz<|m/10).length+1)=k-1-(cz<|m/10).length by omega,nR]
def abH(h1:m/10=0)(h2:k<=1):ze k m=[UInt8.ofNat<|48+m%10]:=by
 rw[Q2 (by have:=Ei m;omega),qR (by omega),show m%10=m by omega]
def aj0{d:Nat}(h:d<10):(([48,49,50,51,52,53,54,55,56,57]:ad3).take<|d+1).drop d=[UInt8.ofNat<|48+d]:=by
 match d,h with
 |0,_=>rfl
 |1,_=>rfl
 |2,_=>rfl
 |3,_=>rfl
 |4,_=>rfl
 |5,_=>rfl
 |6,_=>rfl
 |7,_=>rfl
 |8,_=>rfl
 |9,_=>rfl
def uE{l m:ad3}(h:l.length+m.length<=9223372036854775807):zL l m=some (l++m):=by
 unfold zL;rw[aW h];rfl
def DJ(hn:n<=9000000000000000000)(hk:1<=k/\k<=20):fI (n:Int) (k:Int)=some (ze k n):=by
 have key:Yd (fun r=>r=ze k n) (fI (n:Int) (k:Int)):=by
  unfold fI;refine Yd.lp (fun s:Int×ad3=>∃m:Nat,s.1=m/\m<=n/\m+s.2.length<=n+20/\ze k n=(if 0<m\/s.2.length<k then ze (k-s.2.length) m++s.2 else s.2)) (fun s=>s.1.toNat+(k-s.2.length)) ?_ _ _ ⟨n,rfl,bp _,by simp,?_⟩ (by dsimp only;omega)
  ·rintro next ⟨z,s⟩ ⟨m,rfl,h0,h1,h2⟩ Kf
   dsimp only at h1 h2 Kf⊢;refine Yd.cond (fun hc=>?_)<|fun hc=>?_
   ·have hg:0<m\/s.length<k:=by
     rw[rX,jc,jc] at hc;omega
    rw[if_pos hg] at h2;have hr:((m:Int)%10)=((m%10:Nat):Int):=by omega
    have hq:((m:Int)/10)=((m/10:Nat):Int):=by omega
    have hd:m%10<10:=te _ (by omega);have alT:tC (m:Int) 10=some ((m%10:Nat):Int):=by rw[yk (by omega) (by omega),hr]
    have hdiv:wo (m:Int) 10=some ((m/10:Nat):Int):=by rw[div_pos (by omega) (by omega) (by omega),hq]
    have dc:iq ([48,49,50,51,52,53,54,55,56,57]:ad3) ((m%10:Nat):Int) (((m%10:Nat):Int)+1)=some [UInt8.ofNat<|48+m%10]:=by
     rw[im (by omega) (by omega) (by simp;omega),Int.toNat_natCast,show(((m%10:Nat):Int)+1).toNat=m%10+1 by omega,aj0 hd]
    refine Yd.bd alT (Yd.bd alT (Yd.bd (aM ⟨by omega,by omega⟩) (Yd.bd dc (Yd.bd (uE (by simp;omega)) (Yd.bd hdiv (Kf _ ⟨m/10,rfl,by omega,?_,?_⟩ ?_))))))
    ·dsimp only;simp only[List.singleton_append,List.length_cons];omega
    ·dsimp only;simp only[List.singleton_append,List.length_cons];rw[h2];by_cases hg2:0<m/10\/s.length+1<k
     ·rw[if_pos hg2,ZF (by omega),nR,show k-s.length-1=k-(s.length+1) by omega];rfl
     ·rw[if_neg hg2,abH (by omega) (by omega)];rfl
    ·dsimp only;simp only[List.singleton_append,List.length_cons];omega
   ·have hg: ¬(0<m\/s.length<k):=by
     rw[se,me,me] at hc;omega
    rw[if_neg hg] at h2;exact Yd.mk h2.symm
  ·dsimp only;rw[if_pos (by simp;omega)];simp
 obtain⟨r,e,rfl⟩:=key;exact e
def abG{r:Nat}(hk:0<k)(h:r<10^k):(ze k r).length=k:=by
 have:=nr k r hk h;unfold ze;rw[List.length_append,xI];omega
def MR(h:qT p z)(hl:p.2.length<=100000):mZ p=some (eh z):=by
 have key:Yd (fun r=>r=eh z) (mZ p):=by
  obtain⟨h1,h2,h3⟩:=h;obtain⟨neg,w⟩:=p;dsimp only at h1 h2 h3 hl;unfold mZ;dsimp only;refine Yd.cond (fun hc=>?_)<|fun hc=>?_
  ·have hc:=aZ hc;have hw:w=[]:=pZ (by omega);subst hw;have hz:z=0:=by
    have:(0:Int)=(z.natAbs:Int):=h2;omega
   subst hz;exact Yd.mk rfl
  ·have hc:=br hc;obtain⟨n,hn⟩:∃n,w.length=n+1:=⟨w.length-1,by omega⟩;have hw0:w≠[]:=by intro e;subst e;simp at hn
   have e1:((w.length:Int)-1)=(n:Int):=by omega
   rw[e1];have ht:=hZ h1.1 n;have Z2:0<w.getD n 0:=by
    have l1:=vQ h1.1 hw0 h1.2;have l2:=om (l:=w) (n:=n) (by omega);rw[eF (by omega)] at l2;have l3:=(bP<|mX h1.1 n).2;rw[List.length_take,fW (by omega)] at l3;rw[hn,Nat.add_sub_cancel] at l1;rcases(show 0<w.getD n 0\/w.getD n 0=0 by omega) with h|h
    ·exact h
    ·rw[h] at l2;omega
   obtain⟨t,htt⟩:=gL ht.1;have hdt:fI (w.getD n 0) 1=some (ze 1 t):=by rw[htt];exact DJ (k:=1) (by unfold BT at*;omega) (by omega)
   refine Yd.bd (aM ⟨by omega,by omega⟩) (Yd.bd (bJ (by omega)) (Yd.bd hdt (Yd.bd (aM ⟨by omega,by omega⟩) ?_)));rw[Q2<|Ei t];have RM:(cz t).length<=9:=nr 9 t (by omega) (by unfold BT at*;omega);refine Yd.lp (fun s:ad3×Int=> -1<=s.2/\s.2<n/\s.1=cz (aJ<|w.drop (s.2+1).toNat).toNat/\0<aJ (w.drop (s.2+1).toNat)/\s.1.length+9*(s.2+1).toNat<=1000000) (fun s=>(s.2+1).toNat) ?_ _ _ ⟨by dsimp only;omega,by dsimp only;omega,?_,?_,?_⟩ (by dsimp only;omega)
   ·rintro next ⟨s,i⟩ ⟨g1,g2,g3,g4,g5⟩ hnx
    dsimp only at g1 g2 g3 g4 g5 hnx⊢;refine Yd.cond (fun hd=>?_)<|fun hd=>?_
    ·have hd:=aZ hd;obtain⟨j,rfl⟩:=gL hd;have ej:(((j:Nat):Int)+1).toNat=j+1:=by omega
     have ej':(((j:Nat):Int)-1+1).toNat=j:=by omega
     rw[ej] at g3 g4 g5;have hx:=hZ h1.1 j;obtain⟨r,hr⟩:=gL hx.1;have hr9:r<1000000000:=by unfold BT at*;omega
     have Yi:fI (w.getD j 0) 9=some (ze 9 r):=by rw[hr];exact DJ (k:=9) (by omega) (by omega)
     have RO:(ze 9 r).length=9:=abG (by omega) (by omega);have Da:aJ (w.drop j)=r+BT*aJ (w.drop<|j+1):=by rw[oQ (by omega),lO,hr]
     refine Yd.bd (bJ (by omega)) (Yd.bd Yi (Yd.bd (uE (by omega)) (Yd.bd (aM ⟨by omega,by omega⟩) (hnx _ ⟨by dsimp only;omega,by dsimp only;omega,?_,?_,?_⟩ (by dsimp only;omega)))))
     ·dsimp only;rw[ej',g3,Da];have e:(((r:Nat):Int)+BT*aJ (w.drop<|j+1)).toNat=(aJ<|w.drop<|j+1).toNat*10^9+r:=by unfold BT;omega
      rw[e,Gy 9 _ r (by omega) (by omega) (by omega)]
     ·dsimp only;rw[ej',Da];unfold BT;omega
     ·dsimp only;rw[ej',List.length_append,RO];omega
    ·have hd:=br hd;have:i= -1:=by omega
     subst this;have g3:s=cz (aJ w).toNat:=g3;have e2:(aJ w).toNat=z.natAbs:=by rw[h2];omega
     rw[e2] at g3;have g5:s.length+0<=1000000:=g5;refine Yd.cond (fun zB=>?_)<|fun zB=>?_
     ·refine Yd.bd (uE (by simp only[List.length_singleton];omega)) (Yd.mk ?_);rw[zB] at h3;unfold eh;rw[<-h3,g3];rfl
     ·rw[zB] at h3;refine Yd.mk ?_;unfold eh;rw[<-h3,g3];rfl
   ·dsimp only;have e:(((w.length:Int)-2)+1).toNat=n:=by omega
    rw[e,oQ (by omega),xJ (by omega)];simp only[aJ,htt];simp
   ·dsimp only;have e:(((w.length:Int)-2)+1).toNat=n:=by omega
    rw[e,oQ (by omega),xJ (by omega)];simp only[aJ];omega
   ·dsimp only;omega
 obtain⟨r,e,rfl⟩:=key;exact e
def alH{l:ad3}{b:UInt8}(h:l[n]? =some b):bo l (n:Int)=some b:=h
def Fe{b:UInt8}(h:iA b=true):48<=b.toNat/\b.toNat<=57:=by
 unfold iA at h;obtain⟨h1,h2⟩:=eT h;exact⟨gK h1,gK h2⟩
def EF{s:ad3}(hd:s.all iA=true)(hl:s.length<=18):iD s=some (dz s:Int):=by
 have key:Yd (fun r=>r=(dz s:Int)) (iD s):=by
  unfold iD;refine Yd.lp (fun t:Int×Int=>0<=t.2/\t.2<=s.length/\t.1=(dz (s.take t.2.toNat):Int)) (fun t=>s.length-t.2.toNat) ?_ _ _ ⟨by dsimp only;omega,by dsimp only;omega,by simp[dz]⟩ (by dsimp only;omega);rintro next ⟨v,i⟩ ⟨h1,h2,h3⟩ hn
  dsimp only at h1 h2 h3 hn⊢;obtain⟨n,rfl⟩:=gL h1;rw[Int.toNat_natCast] at h3;refine Yd.cond (fun hc=>?_)<|fun hc=>?_
  ·have hc:=aZ hc;have hlt:n<s.length:=by omega
   have hdt:(s.take n).all iA=true:=dI.2 fun x hx=>dI.1 hd x<|zx hx
   have hv:=yj _ hdt;rw[List.length_take,fW (by omega)] at hv;have hp:(10:Nat)^n<=10^17:=pX (by omega) (by omega);have hb:=Fe<|dI.1 hd _<|rY hlt
   have hw:wr .i64 ((s[n].toNat:Nat):Int)=(s[n].toNat:Int):=by
    show IntKind.wrap .i64 _=_;rw[IntKind.wrap_i64];omega
   refine Yd.bd (aM ⟨by omega,by omega⟩) (Yd.bd (alH<|j7 hlt) (Yd.bd (aM ⟨by rw[hw];omega,by rw[hw];omega⟩) (Yd.bd (aM ⟨by rw[hw];omega,by rw[hw];omega⟩) (Yd.bd (aM ⟨by omega,by omega⟩) (hn _ ⟨by dsimp only;omega,by dsimp only;omega,?_⟩ (by dsimp only;omega))))));dsimp only;rw[hw,show(((n:Nat):Int)+1).toNat=n+1 by omega,Lr,j7 hlt,xd,h3];have e:dz [s[n]]=s[n].toNat-48:=by simp[dz]
   simp only[Option.toList_some,List.length_singleton,e];omega
  ·have hc:=br hc;have:n=s.length:=by omega
   subst this;refine Yd.mk ?_;rw[h3,eF<|bp _]
 obtain⟨r,e,rfl⟩:=key;exact e
def Je{ds:ad3}(neg:Bool)(hd:ds.all iA=true)(h0:ds≠[])(hl:ds.length<=800000):Yd (fun p=>qT p (bif neg then -(dz ds:Int) else(dz ds:Int))/\p.2.length<=ds.length) (lK (bif neg then 45::ds else ds)):=by
 unfold lK;have core:Yd (fun p=>qT p (bif neg then -(dz ds:Int) else(dz ds:Int))/\p.2.length<=ds.length)
  (lp 18446744073709551616 (fun(k9:(ad3×att Int)->av8 _) (s8:ad3×att Int)=>
   cond (decide<|(9:Int)<(s8.1.length:Int)) (
    bd (aL<|(s8.1.length:Int)-(9:Int)) fun gT=>
    bd (iq s8.1 gT (s8.1.length:Int)) fun j9=>
    bd (iD j9) fun jH=>
    bd (fX 8 s8.2 ([jH]:att Int)) fun jN=>
    bd (aL<|(s8.1.length:Int)-(9:Int)) fun kq=>
    bd (iq s8.1 0 kq) fun og=>
    k9 (og,jN)
   ) (
    bd (iD s8.1) fun oe=>
    bd (fX 8 s8.2 ([oe]:att Int)) fun qW=>
    bd (eE neg qW) fun rJ=>
    some rJ
   )
  ) (ds,[])):=by
  refine Yd.lp (fun t:ad3×att Int=>t.1.all iA=true/\t.1≠[]/\t.1.length<=800000/\sA t.2/\t.1.length+t.2.length<=ds.length/\(dz ds:Int)=dz t.1*js t.2.length+aJ t.2) (fun t=>t.1.length) ?_ _ _ ⟨hd,h0,hl,Lf,by simp,by simp[zb,aJ]⟩ (by dsimp only;omega);rintro next ⟨s,w⟩ ⟨g1,g2,g3,g4,g5,g6⟩ hn
  dsimp only at g1 g2 g3 g4 g5 g6 hn⊢;have okv:∀x:ad3,x.all iA=true->x.length<=9->0<=(dz x:Int)/\(dz x:Int)<BT:=fun x hx Ir=>by
   have h1:=yj x hx;have h2:(10:Nat)^x.length<=10^9:=pX (by omega) Ir;unfold BT;omega
  have ext:∀v:Int,0<=v/\v<BT->sA (w++[v]):=fun v hv=>by
   rw[Ci];exact⟨g4,fun y hy=>by rw[cr] at hy;subst hy;exact hv⟩
  refine Yd.cond (fun hc=>?_)<|fun hc=>?_
  ·have hc:=aZ hc;obtain⟨n,Kf⟩:∃n,s.length=n+9:=⟨s.length-9,by omega⟩;have e1:((s.length:Int)-9)=(n:Int):=by omega
   rw[e1];have hda:(s.take n).all iA=true:=dI.2 fun x hx=>dI.1 g1 x<|zx hx
   have hdb:(s.drop n).all iA=true:=dI.2 fun x hx=>dI.1 g1 x<|yx hx
   have Z9:(s.drop n).length=9:=by rw[lr];omega
   have es:iq s (n:Int) (s.length:Int)=some (s.drop n):=by rw[im (by omega) (by omega) (by omega)];simp
   have et:iq s 0 (n:Int)=some (s.take n):=by rw[im (by omega) (by omega) (by omega)];simp
   have hv:=okv _ hdb (by omega);refine Yd.bd (aM ⟨by omega,by omega⟩) (Yd.bd es (Yd.bd (EF hdb (by omega)) (Yd.bd (adV (by omega)) (Yd.bd (aM ⟨by omega,by omega⟩)<|Yd.bd et<|hn _ ⟨hda,?_,?_,ext _ hv,?_,?_⟩ ?_))))
   ·intro e;have:=congrArg List.length e;rw[List.length_take,Cu] at this;omega
   ·dsimp only;rw[List.length_take];omega
   ·dsimp only;rw[List.length_take,List.length_append,List.length_singleton];omega
   ·dsimp only;have hs:dz s=dz (s.take n)*10^9+dz (s.drop n):=by
     conv=>lhs;rw[<-zz n s]
     rw[xd,Z9]
    rw[g6,hs,List.length_append,List.length_singleton,jV,oY];have e:aJ [(dz (s.drop n):Int)]=dz (s.drop n):=by simp[aJ]
    rw[e,Int.natCast_add,uZ,kP,eP];have:((10^9:Nat):Int)=BT:=rfl;rw[this,Int.mul_comm (dz (s.drop n):Int)];omega
   ·dsimp only;rw[List.length_take];omega
  ·have hc:=br hc;have hv:=okv s g1 (by omega);have Wf:0<s.length:=E3.2 g2;refine Yd.bd (EF g1 (by omega)) (Yd.bd (adV (by omega)) (Yd.iG (MS (ext _ hv) (by rw[List.length_append,List.length_singleton];omega)) fun p ⟨p1,p2⟩=>Yd.mk ?_));have e:aJ (w++[(dz s:Int)])=(dz ds:Int):=by
    rw[oY,g6];have e:aJ [(dz s:Int)]=dz s:=by simp[aJ]
    rw[e,Int.mul_comm];omega
   rw[e] at p1;rw[List.length_append,List.length_singleton] at p2;exact⟨p1,by omega⟩
 cases neg with
 |true=>
  simp only[bD] at core⊢;refine Yd.iJ (fun _=>⟨45,rfl,?_⟩) (fun h=>by simp[gd] at h);have hb:((decide<|(0:Int)<((45::ds).length:Int))&&(decide<|((45:UInt8).toNat:Int)=(45:Int)))=true:=by
   rw[aW (by simp only[List.length_cons];omega)];rfl
  rw[hb];have es:iq (45::ds) (1:Int) ((45::ds).length:Int)=some ds:=by
   rw[im (by omega) (by simp only[List.length_cons];omega) (by omega),Int.toNat_natCast,eF<|bp _];rfl
  exact Yd.jn (fun s=>s=ds) (fun s hs=>by subst hs;exact core) fun k hk=>Yd.cond (fun _=>Yd.bd es<|hk _ rfl) (fun h=>by cases h)
 |false=>
  obtain⟨d,r,rfl⟩:∃d r,ds=d::r:=by
   cases ds with
   |nil=>exact absurd rfl h0
   |cons d r=>exact⟨d,r,rfl⟩
  have hdd:=Fe (dI.1 hd d (by simp));simp only[a8] at core⊢;refine Yd.iJ (fun _=>⟨d,rfl,?_⟩) (fun h=>by simp[gd] at h);have hb:((decide<|(0:Int)<((d::r).length:Int))&&(decide<|(d.toNat:Int)=(45:Int)))=false:=by
   rw[bC (show¬(d.toNat:Int)=45 by omega),HW]
  rw[hb];exact Yd.jn (fun s=>s=d::r) (fun s hs=>by subst hs;exact core) fun k hk=>Yd.cond (fun h=>by cases h)<|fun _=>hk _ rfl
def PA{s:ad3}(hk:k<=s.length)(h1:∀i,i<k->s[i]? ≠some 47)(h2:k<s.length->s[k]? =some 47)(hl:s.length<1099511627776):fP s=some (k:Int):=by
 have key:Yd (fun r=>r=(k:Int)) (fP s):=by
  unfold fP;refine Yd.lp (fun i:Int=>0<=i/\i<=k) (fun i=>s.length-i.toNat) ?_ _ _ ⟨by omega,by omega⟩ (by omega);rintro next i ⟨g1,g2⟩ hn
  obtain⟨n,rfl⟩:=gL g1;refine Yd.cond (fun hc=>?_)<|fun hc=>?_
  ·have hc:=aZ hc;have hlt:n<s.length:=by omega
   have hg:=j7 hlt;refine Yd.bd (alH hg)<|Yd.cond (fun hd=>?_)<|fun hd=>?_
   ·have hd:=aZ hd;refine Yd.mk ?_;have hb:s[n]=47:=Lv.1 (by show _=47;omega);rcases kQ n k with h|h
    ·exact absurd (by rw[hg,hb])<|h1 n h
    ·omega
   ·have hd:=br hd;rcases kQ n k with h|h
    ·exact Yd.bd (aM ⟨by omega,by omega⟩) (hn _ ⟨by omega,by omega⟩ (by omega))
    ·have e:n=k:=by omega
     subst e;have:=h2 hlt;rw[hg] at this;have:=eQ this;rw[this] at hd;exact absurd rfl hd
  ·have hc:=br hc;exact Yd.mk (by omega)
 obtain⟨r,e,rfl⟩:=key;exact e
def bU(q:Rat):ad3:=eh q.num++(bif decide (q.den=1) then [] else 47::cz q.den)
def oR(n:Nat):(cz n).all iA=true/\dz (cz n)=n:=by
 induction n using Nat.strongRecOn with
 |ind n ih=>
  have one:∀d,d<10->iA (UInt8.ofNat<|48+d)=true/\dz [UInt8.ofNat<|48+d]=d:=by
   intro d hd
   match d,hd with
   |0,_=>decide
   |1,_=>decide
   |2,_=>decide
   |3,_=>decide
   |4,_=>decide
   |5,_=>decide
   |6,_=>decide
   |7,_=>decide
   |8,_=>decide
   |9,_=>decide
  by_cases h:n<10
  ·rw[qR h];have:=one n h;exact⟨by rw[ti,this.1];rfl,this.2⟩
  ·rw[tY h];obtain⟨i1,i2⟩:=ih (n/10) (by omega);have:=one (n%10) (by omega);refine⟨by rw[Lw,i1,ti,this.1];rfl,?_⟩;rw[xd,i2,this.2,List.length_singleton];omega
def Yz(n:Nat):cz n≠[]:=fun e=>by have:=Ei n;rw[e] at this;simp at this
def YA(h:(cz n).length<=k):n<10^k:=by
 have:=yj _ (oR n).1;rw[(oR n).2] at this;have h2:(10:Nat)^(cz n).length<=10^k:=pX (by omega) h;omega
def aba(z:Int):eh z=bif decide (z<0) then 45::cz z.natAbs else cz z.natAbs:=rfl
def F6(z:Int):∀x∈eh z,x≠47:=by
 intro x hx e;subst e;have hd:(47:UInt8)∉cz z.natAbs:=fun h=>by
  have:=dI.1 (oR z.natAbs).1 _ h;simp[iA] at this
 unfold eh at hx;cases hc:decide (z<0) with
 |true=>
  rw[hc] at hx;have hx:(47:UInt8)∈45::cz z.natAbs:=hx;rcases aY.1 hx with h|h
  ·cases h
  ·exact hd h
 |false=>rw[hc] at hx;exact hd hx
def G8{u t:ad3}(hu:∀x∈u,x≠47)(hl:(u++47::t).length<1099511627776):fP (u++47::t)=some (u.length:Int):=by
 refine PA (by simp) (fun i hi=>?_) (fun _=>by simp) hl;rw[xK hi,j7 hi];intro e;exact hu _ (rY hi)<|eQ e
def MG{u:ad3}(hu:∀x∈u,x≠47)(hl:u.length<1099511627776):fP u=some (u.length:Int):=by
 refine PA (bp _) (fun i hi=>?_) (fun h=>absurd h<|Nat.lt_irrefl _) hl;rw[j7 hi];intro e;exact hu _ (rY hi)<|eQ e
def yF(z:Int):(eh z).length<=(cz z.natAbs).length+1:=by
 unfold eh;cases decide (z<0)
 ·exact wR _
 ·exact bp _
def Jj(hl:(cz z.natAbs).length<=800000):Yd (fun p=>qT p z/\p.2.length<=800000) (lK<|eh z):=by
 have h:=Je (decide<|z<0) (oR z.natAbs).1 (Yz _) hl;rw[(oR _).2] at h;rw[<-aba] at h;refine h.imp fun p hp=>⟨?_,by omega⟩
 have e:(bif decide (z<0) then -(z.natAbs:Int) else(z.natAbs:Int))=z:=by
  cases hc:decide (z<0) with
  |true=>have:=aZ hc;show -(z.natAbs:Int)=z;omega
  |false=>have:=br hc;show(z.natAbs:Int)=z;omega
 rw[e] at hp;exact hp.1
def ZE(hl:(cz n).length<=800000):Yd (fun p=>qT p (n:Int)/\p.2.length<=800000) (lK<|cz n):=by
 have h:=Jj (z:=(n:Int)) (by simpa using hl);have e:eh (n:Int)=cz n:=by
  unfold eh;rw[bC (by omega)];simp
 rwa [e] at h
def YX:lI 1=some (false,[1]):=aH
def Zx(h1:(cz q.num.natAbs).length<=800000)(h2:(cz q.den).length<=800000):Yd (fun p=>(qT p.1 q.num/\qT p.2 (q.den:Int))/\p.1.2.length<=800000/\p.2.2.length<=800000) (iE<|bU q):=by
 have hlen:=yF q.num;unfold iE bU;cases hd:decide (q.den=1) with
 |true=>
  have hd:=aZ hd;simp only[bD,rW];refine Yd.bd (MG (F6 _) (by omega))<|Yd.cond (fun _=>?_)<|fun h=>absurd rfl<|br h
  refine Yd.iG (Jj h1) fun p hp=>Yd.bd YX (Yd.mk ⟨⟨hp.1,?_⟩,hp.2,by simp⟩)
  rw[hd];refine⟨⟨fun x hx=>?_,by simp⟩,rfl,rfl⟩;rw[cr] at hx;subst hx;unfold BT;omega
 |false=>
  have hd:=br hd;simp only[a8];have hlt:(eh q.num++47::cz q.den).length=(eh q.num).length+1+(cz q.den).length:=by simp;omega
  refine Yd.bd (G8 (F6 _) (by omega)) (Yd.cond (fun h=>by have:=aZ h;omega)<|fun _=>?_);have es:iq (eh q.num++47::cz q.den) 0 ((eh q.num).length:Int)=some (eh q.num):=by
   rw[im (by omega) (by omega) (by omega)];simp
  have et:iq (eh q.num++47::cz q.den) (((eh q.num).length:Int)+1) ((eh q.num++47::cz q.den).length:Int)=some (cz q.den):=by
   rw[im (by omega) (by omega) (by omega),Int.toNat_natCast,eF<|bp _,show(((eh q.num).length:Int)+1).toNat=(eh q.num).length+1 by omega,<-iS];simp
  refine Yd.bd es (Yd.iG (Jj h1) fun p hp=>Yd.bd (aM ⟨by omega,by omega⟩)<|Yd.bd et<|Yd.iG (ZE h2) fun r hr=>Yd.mk ⟨⟨hp.1,hr.1⟩,hp.2,hr.2⟩)
def qT.len{p:Bool×att Int}{z:Int}(h:qT p z){n:Nat}(hz:(z.natAbs:Int)<js n):p.2.length<=n:=h.1.len (by rw[h.2.1];exact hz)
def qT.lt(h:qT p z):(z.natAbs:Int)<js p.2.length:=by rw[<-h.2.1];exact(bP h.1.1).2
def qZ{b:Bool}(hw:sA w)(hl:w.length<=4000000)(hz:(bif b then -aJ w else aJ w)=z):Yd (fun p=>qT p z/\p.2.length<=w.length) (eE b w):=by
 rw[<-hz];exact MS hw (by omega)
def He(h:qT p z):(bif p.1 then -aJ p.2 else aJ p.2)=z:=by
 rw[h.2.1,h.2.2];cases hc:decide (z<0) with
 |true=>have:=aZ hc;show -(z.natAbs:Int)=z;omega
 |false=>have:=br hc;show(z.natAbs:Int)=z;omega
def PB(h:qT p z)(hl:p.2.length<=4000000):Yd (fun q=>qT q (-z)/\q.2.length<=p.2.length) (sF p):=by
 unfold sF;refine Yd.iG (qZ (z:= -z) h.1.1 hl ?_) fun q hq=>Yd.mk hq
 have:=He h;cases hp:p.1
 ·rw[hp] at this;show -aJ p.2= -z;have:aJ p.2=z:=this;omega
 ·rw[hp] at this;show aJ p.2= -z;have: -aJ p.2=z:=this;omega
def BA{q:Bool×att Int}(hp:qT p x)(hq:qT q y)(hl:p.2.length<=1000000)(hm:q.2.length<=1000000):Yd (fun r=>qT r (x*y)/\r.2.length<=p.2.length+q.2.length) (lJ p q):=by
 unfold lJ;refine Yd.iG (AW hp.1.1 hq.1.1 (by omega) (by omega)) fun w ⟨w1,w2,w3⟩=>Yd.iG (qZ (z:=x*y) w1.1 (by omega) ?_) fun r hr=>Yd.mk ⟨hr.1,by omega⟩
 rw[w2,<-He hp,<-He hq]
 generalize aJ p.2=a
 generalize aJ q.2=b
 cases p.1<;>cases q.1<;>simp[Int.neg_mul,Int.mul_neg]
def abw{q:Bool×att Int}(hp:qT p x)(hq:qT q y)(hl:p.2.length<=1000000)(hm:q.2.length<=1000000):Yd (fun r=>qT r (x+y)/\r.2.length<=p.2.length+q.2.length+1) (yn p q):=by
 unfold yn;have sp:=He hp;have sq:=He hq;have a0:=(bP hp.1.1).1;have b0:=(bP hq.1.1).1;have ahv:∀{a b:att Int},tK a->tK b->aJ a<=aJ b->a.length<=b.length:=fun ha hb h=>by
  rcases kQ (List.length _) (List.length _) with h'|h'
  ·have:=B3 hb.1 ha h';omega
  ·exact h'
 refine Yd.cond (fun hc=>?_)<|fun hc=>?_
 ·have hc:p.1=q.1:=by simpa using hc
  refine Yd.iG (OO hp.1.1 hq.1.1 (by omega) (by omega)) fun w ⟨w1,w2,w3⟩=>Yd.iG (qZ (z:=x+y) w1 (by omega) ?_) fun r hr=>Yd.mk ⟨hr.1,by omega⟩
  rw[w2,<-sp,<-sq,<-hc];cases p.1
  ·rfl
  ·show -(aJ p.2+aJ q.2)= -aJ p.2+ -aJ q.2;omega
 ·have hc:p.1= !q.1:=by
   cases h1:p.1<;>cases h2:q.1<;>rw[h1,h2] at hc<;>first|rfl|cases hc
  refine Yd.iG (z6 hp.1 hq.1 (by omega) (by omega)) fun c hcmp=>Yd.cond (fun hd=>?_)<|fun hd=>?_
  ·have hd:=aZ hd;have Um:aJ q.2<=aJ p.2:=by rcases hcmp with⟨h,_⟩|⟨_,h⟩|⟨_,h⟩<;>omega
   refine Yd.iG (FO hp.1.1 hq.1.1 (ahv hq.1 hp.1 Um) (by omega) Um) fun w ⟨w1,w2,w3⟩=>Yd.iG (qZ (z:=x+y) w1.1 (by omega) ?_) fun r hr=>Yd.mk ⟨hr.1,by omega⟩
   rw[w2,<-sp,<-sq,hc];cases q.1
   ·show -(aJ p.2-aJ q.2)= -aJ p.2+aJ q.2;omega
   ·show aJ p.2-aJ q.2=aJ p.2+ -aJ q.2;omega
  ·have hd:=br hd;have Um:aJ p.2<=aJ q.2:=by rcases hcmp with⟨_,h⟩|⟨h,_⟩|⟨h,_⟩<;>omega
   refine Yd.iG (FO hq.1.1 hp.1.1 (ahv hp.1 hq.1 Um) (by omega) Um) fun w ⟨w1,w2,w3⟩=>Yd.iG (qZ (z:=x+y) w1.1 (by omega) ?_) fun r hr=>Yd.mk ⟨hr.1,by omega⟩
   rw[w2,<-sp,<-sq,hc];cases q.1
   ·show aJ q.2-aJ p.2= -aJ p.2+aJ q.2;omega
   ·show -(aJ q.2-aJ p.2)=aJ p.2+ -aJ q.2;omega
def TV(h:tK w):(decide ((w.length:Int)=1)=true/\w.getD 0 0=1)↔aJ w=1:=by
 constructor
 ·rintro⟨h1,h2⟩;have h1:=aZ h1;obtain⟨d,rfl⟩:∃d,w=[d]:=LL.1 (by omega);have h2:d=1:=by simpa using h2
  subst h2;simp[aJ]
 ·intro hv;have hl:w.length<=1:=h.len (by rw[hv,jV,zb];unfold BT;omega);have hl0:w≠[]:=by intro e;subst e;simp[aJ] at hv
  have:0<w.length:=E3.2 hl0;obtain⟨d,rfl⟩:∃d,w=[d]:=LL.1 (by omega);have:d=1:=by simpa[aJ] using hv
  subst this;exact⟨rfl,rfl⟩
def ads{g:Int}(hg:0<g)(hd:g∣x):(bif decide (x<0) then -((x.natAbs:Int)/g) else(x.natAbs:Int)/g)=x/g:=by
 cases hc:decide (x<0) with
 |true=>
  have:=aZ hc;have e:(x.natAbs:Int)= -x:=by omega
  rw[e,Int.neg_ediv_of_dvd hd];simp
 |false=>
  have:=br hc;have e:(x.natAbs:Int)=x:=by omega
  rw[e];rfl
def B9{q:Bool×att Int}(hp:qT p x)(hq:qT q y)(h0:y≠0)(hl:p.2.length<=80000)(hm:q.2.length<=80000):iM p q=some (bU<|(x:Rat)/(y:Rat)):=by
 have key:Yd (fun r=>r=bU ((x:Rat)/(y:Rat))) (iM p q):=by
  unfold iM;have en:((x:Rat)/(y:Rat)).num=(y.sign*x)/(Int.gcd y x:Int):=by rw[<-vi,HU]
  have ed:(((x:Rat)/(y:Rat)).den:Int)=(y.natAbs:Int)/(Int.gcd y x:Int):=by
   rw[<-vi,HT,if_neg h0];rfl
  have hg0:0<Int.gcd y x:=LR _ h0;refine Yd.jn (fun t:(Bool×att Int)×(Bool×att Int)=>qT t.1 (y.sign*x)/\qT t.2 (y.natAbs:Int)/\t.1.2.length<=80000/\t.2.2.length<=80000) ?_<|fun k hk=>Yd.cond (fun hd=>?_)<|fun hd=>?_
  ·rintro⟨a,b⟩ ⟨ha,hb,la,lb⟩;dsimp only at ha hb la lb⊢;have hX:(y.sign*x).natAbs=x.natAbs:=by
    rw[rT];rcases rZ y 0 with h|h|h
    ·rw[pY h];simp
    ·exact absurd h h0
    ·rw[pe h];simp
   have hg:Int.gcd (y.sign*x) (y.natAbs:Int)=Int.gcd y x:=by
    rw[Int.gcd_comm];unfold Int.gcd;rw[hX,iU]
   refine Yd.iG (MU ha.1 hb.1 (by omega) (by omega)) fun g ⟨g1,g2,g3⟩=>?_
   have hgv:aJ g=(Int.gcd y x:Int):=by
    rw[g2,ha.2.1,hb.2.1,<-hg];unfold Int.gcd;simp
   have gne:g≠[]:=by
    intro e;subst e;have:(0:Int)=(Int.gcd y x:Int):=hgv;omega
   refine Yd.iG (AX ha.1 g1 gne (by omega) (by omega)) ?_;rintro⟨q1,r1⟩ ⟨⟨a1,_⟩,a2,_⟩;refine Yd.iG (AX hb.1 g1 gne (by omega) (by omega)) ?_;rintro⟨q2,r2⟩ ⟨⟨b1,_⟩,b2,_⟩;dsimp only at a1 a2 b1 b2⊢;rw[hgv,ha.2.1] at a2;rw[hgv,hb.2.1,iU] at b2;have arn:(0:Int)<(Int.gcd y x:Int):=by omega
   have dvX:(Int.gcd y x:Int)∣y.sign*x:=Int.dvd_trans (Int.gcd_dvd_right _ _)<|Int.dvd_mul_left _ _
   have atV:q1.length<=80000:=df (a1.len (n:=a.2.length) (by
    rw[a2];have:=As (b:=(Int.gcd y x:Int)) (a:=((y.sign*x).natAbs:Int)) (by omega);have:=ha.lt;omega)) la
   have atU:q2.length<=80000:=df (b1.len (n:=b.2.length) (by
    rw[b2];have:=As (b:=(Int.gcd y x:Int)) (a:=(y.natAbs:Int)) (by omega);have:=hb.lt;rw[iU] at this;omega)) lb
   have v1:(bif a.1 then -aJ q1 else aJ q1)=((x:Rat)/(y:Rat)).num:=by
    rw[en,a2,ha.2.2];exact ads arn dvX
   refine Yd.iG (qZ a1.1 (by omega) v1) fun s ⟨s1,s2⟩=>Yd.bd (MR s1 (by omega)) ?_
   have v2:aJ q2=(((x:Rat)/(y:Rat)).den:Int):=by rw[ed,b2]
   have Ui:=TV b1;have hnl:(eh ((x:Rat)/(y:Rat)).num).length<=800000:=by
    have h1:=yF ((x:Rat)/(y:Rat)).num;have h2:=s1.lt;rw[Hm] at h2;by_cases Wf:s.2.length=0
    ·rw[Wf] at h2;have:((x:Rat)/(y:Rat)).num.natAbs<10:=by
      have:(10:Nat)^(9*0)=1:=rfl;omega
     have:=nr 1 _ (by omega) (show _<10^1 by omega);omega
    ·have:=nr (9*s.2.length) ((x:Rat)/(y:Rat)).num.natAbs (by omega) (by omega);omega
   have hdl:(cz ((x:Rat)/(y:Rat)).den).length<=800000:=by
    have h2:=(bP b1.1).2;rw[v2,Hm] at h2;by_cases Wf:q2.length=0
    ·rw[Wf] at h2;have hp:=((x:Rat)/(y:Rat)).den_pos;have:(10:Nat)^(9*0)=1:=rfl;omega
    ·have:=nr (9*q2.length) ((x:Rat)/(y:Rat)).den (by omega) (by omega);omega
   have arv:((x:Rat)/(y:Rat)).den=1->eh ((x:Rat)/(y:Rat)).num=bU ((x:Rat)/(y:Rat)):=fun h=>by
    unfold bU;rw[aW h];simp
   have two:((x:Rat)/(y:Rat)).den≠1->Yd (fun r=>r=bU ((x:Rat)/(y:Rat))) (bd (zL (eh ((x:Rat)/(y:Rat)).num) ([47]:ad3)) fun og=>bd (eE false q2) fun oe=>bd (mZ oe) fun qW=>bd (zL og qW) fun rJ=>some rJ):=fun h=>by
    refine Yd.bd (uE (by simp;omega)) (Yd.iG (qZ (b:=false) b1.1 (by omega) v2) fun t ⟨t1,t2⟩=>Yd.bd (MR t1 (by omega)) ?_);have e:eh (((x:Rat)/(y:Rat)).den:Int)=cz ((x:Rat)/(y:Rat)).den:=by
     unfold eh;rw[bC (by omega)];simp
    rw[e];refine Yd.bd (uE (by simp;omega))<|Yd.mk ?_
    unfold bU;rw[bC h];simp
   by_cases hlen:(q2.length:Int)=1
   ·have hd:=aW hlen;have g1':gd (decide<|(q2.length:Int)=1) true=true:=by rw[hd];rfl
    rw[eG g1'];refine Yd.bd (bJ (n:=0) (by omega))<|Yd.cond (fun hc=>?_)<|fun hc=>?_
    ·rw[bY] at hc;have h1:=Ui.1 ⟨hc.1,aZ hc.2⟩;exact Yd.mk (arv (by omega))
    ·refine two fun e=>?_
     have h1:=Ui.2 (by rw[v2,e];rfl);rw[h1.1,aW h1.2] at hc;cases hc
   ·have hd:=bC hlen;have g1':gd (decide<|(q2.length:Int)=1) true=false:=by rw[hd];rfl
    rw[mU g1'];refine Yd.cond (fun hc=>by rw[hd,HX] at hc;cases hc)<|fun hc=>two fun e=>?_
    have h1:=Ui.2 (by rw[v2,e];rfl);exact hlen<|aZ h1.1
  ·have hn:y<0:=by
    rw[hq.2.2] at hd;exact aZ hd
   refine Yd.iG (PB hp (by omega)) fun a ⟨ha,la⟩=>Yd.iG (PB hq (by omega)) fun b ⟨hb,lb⟩=>hk _ ⟨?_,?_,by dsimp only;omega,by dsimp only;omega⟩
   ·rw[pY hn];simpa using ha
   ·rw[show(y.natAbs:Int)= -y from by omega];exact hb
  ·have hn: ¬y<0:=by
    rw[hq.2.2] at hd;exact br hd
   refine hk _ ⟨?_,?_,hl,hm⟩
   ·rw[pe (by omega),Int.one_mul];exact hp
   ·rw[show(y.natAbs:Int)=y from by omega];exact hq
 obtain⟨r,e,rfl⟩:=key;exact e
def bq(q:Rat)(n:Nat):Prop:=q.num.natAbs<10^n/\q.den<10^n
def bq.mono(h:bq q m)(hn:m<=n):bq q n:=by
 have:=pX (show 0<10 by omega) hn;exact⟨nT h.1 this,nT h.2 this⟩
def Rk(h0:y≠0):((x:Rat)/(y:Rat)).num.natAbs<=x.natAbs/\((x:Rat)/(y:Rat)).den<=y.natAbs:=by
 have en:((x:Rat)/(y:Rat)).num=(y.sign*x)/(Int.gcd y x:Int):=by rw[<-vi,HU]
 have ed:((x:Rat)/(y:Rat)).den=y.natAbs/(Int.gcd y x):=by
  rw[<-vi,HT,if_neg h0]
 have hg0:0<Int.gcd y x:=LR _ h0;refine⟨?_,by rw[ed];exact Nat.div_le_self _ _⟩;rw[en];have hX:(y.sign*x).natAbs=x.natAbs:=by
  rw[rT];rcases rZ y 0 with h|h|h
  ·rw[pY h];simp
  ·exact absurd h h0
  ·rw[pe h];simp
 have dvX:(Int.gcd y x:Int)∣y.sign*x:=Int.dvd_trans (Int.gcd_dvd_right _ _)<|Int.dvd_mul_left _ _
 rw[Int.natAbs_ediv_of_dvd dvX,hX,iU];exact Nat.div_le_self _ _
def aki{x:Rat}(h:bq x n):bq (-x) n:=by
 refine⟨?_,?_⟩
 ·rw[HM,ER];exact h.1
 ·rw[HL];exact h.2
def W0(h:bq q n)(hn:0<n):(cz q.num.natAbs).length<=n/\(cz q.den).length<=n:=⟨nr n _ hn h.1,nr n _ hn h.2⟩
def qT.bl(h:qT p z)(hz:z.natAbs<10^n):p.2.length<=n:=by
 refine h.len ?_;rw[Hm];have:=pX (show 0<10 by omega) (show n<=9*n by omega);omega
def zd(h:bq q n)(hn:0<n)(hm:n<=19000):Yd (fun p=>(qT p.1 q.num/\qT p.2 (q.den:Int))/\p.1.2.length<=n/\p.2.2.length<=n) (iE<|bU q):=by
 have hl:=W0 h hn;refine(Zx (by omega) (by omega)).imp fun p ⟨⟨p1,p2⟩,_,_⟩=>⟨⟨p1,p2⟩,p1.bl h.1,p2.bl (by rw[iU];exact h.2)⟩
def Mx(z:Int)(t:ad3):∃c r,eh z++t=c::r/\((c.toNat:Int)=45↔z<0)/\(c=45->r=cz z.natAbs++t)/\(z<0->r=cz z.natAbs++t):=by
 unfold eh;cases hc:decide (z<0) with
 |true=>
  have:=aZ hc;exact⟨45,cz z.natAbs++t,rfl,⟨fun _=>this,fun _=>rfl⟩,fun _=>rfl,fun _=>rfl⟩
 |false=>
  have hz:=br hc;have hd:=(oR z.natAbs).1;obtain⟨d,l,e⟩:∃d l,cz z.natAbs=d::l:=by
   cases h:cz z.natAbs with
   |nil=>exact absurd h<|Yz _
   |cons d l=>exact⟨d,l,rfl⟩
  have hb:=Fe (dI.1 hd d (by rw[e];simp));refine⟨d,l++t,by show cz z.natAbs++t=_;rw[e];rfl,⟨fun h=>by omega,fun h=>absurd h hz⟩,fun h=>?_,fun h=>absurd h hz⟩;subst h;exact absurd hb.1 (by decide)
def Qc(n:Nat):∀x∈cz n,x≠47:=fun x hx e=>by
 subst e;have:=dI.1 (oR n).1 _ hx;simp[iA] at this
def mR(q:Rat):ad3:=bif decide (q.den=1) then [] else 47::cz q.den
def EG(h:bq q n)(hn:0<n)(hm:n<=19000):Yd (fun r=>r.2.2=false\/(r=(q.num,(q.den:Int),true)/\q.num.natAbs<1000000000/\q.den<1000000000)) (nK<|bU q):=by
 have hl:=W0 h hn;obtain⟨c,r,e,OZ,hr,Ug⟩:=Mx q.num<|mR q
 have et:bU q=c::r:=e;have hlr:r.length<=38002:=by
  have h1:=congrArg List.length e;have h2:=yF q.num;have h3:(mR q).length<=n+1:=by
   unfold mR;cases decide (q.den=1)
   ·simp;omega
   ·simp
  simp only[List.length_append,List.length_cons] at h1;omega
 unfold nK;rw[et];refine Yd.cond (fun _=>Yd.mk<| .inl rfl)<|fun _=>?_
 have g1:gd (decide<|(0:Int)<((c::r).length:Int)) true=true:=by rw[aW (by simp only[List.length_cons];omega)];rfl
 rw[eG g1];refine Yd.bd (x:=c) rfl ?_;have hb:((decide<|(0:Int)<((c::r).length:Int))&&(decide<|(c.toNat:Int)=(45:Int)))=decide (q.num<0):=by
  rw[aW (show(0:Int)<((c::r).length:Int) by simp only[List.length_cons];omega),rQ];exact l8.2 OZ
 rw[hb];refine Yd.jn (fun s=>s=cz q.num.natAbs++mR q) ?_<|fun k hk=>Yd.cond (fun hc=>?_)<|fun hc=>?_
 ·rintro s rfl;have hsl:fP (cz q.num.natAbs++mR q)=some ((cz q.num.natAbs).length:Int):=by
   unfold mR;cases hd:decide (q.den=1)
   ·exact G8 (Qc _) (by simp;omega)
   ·rw[bD,rW];exact MG (Qc _) (by omega)
  have hlen:(cz q.num.natAbs++mR q).length=(cz q.num.natAbs).length+(mR q).length:=by simp
  have RM:(mR q).length<=n+1:=by
   unfold mR;cases decide (q.den=1)
   ·simp;omega
   ·simp
  refine Yd.bd hsl ?_;have rest:(cz q.num.natAbs).length<=9->(mR q).length<=10->Yd (fun r=>r.2.2=false\/(r=(q.num,(q.den:Int),true)/\q.num.natAbs<1000000000/\q.den<1000000000))
   (bd (iq (cz q.num.natAbs++mR q) 0 ((cz q.num.natAbs).length:Int)) fun jR=>
    bd (iD jR) fun jG=>
    jn (fun(K1:Int)=>
     jn (fun(KD:Int)=>
      some (KD,K1,true)
     ) fun k28=>
     cond (decide<|q.num<0) (
      bd (aL<|(0:Int)-jG) fun yg=>
      k28 yg
     ) (
      k28 jG
     )
    ) fun ZY=>
    cond (decide<|((cz q.num.natAbs).length:Int)<((cz q.num.natAbs++mR q).length:Int)) (
     bd (aL<|((cz q.num.natAbs).length:Int)+(1:Int)) fun og=>
     bd (iq (cz q.num.natAbs++mR q) og ((cz q.num.natAbs++mR q).length:Int)) fun oe=>
     bd (iD oe) fun qW=>
     ZY qW
    ) (
     ZY (1:Int)
    )):=by
   intro h9 lA;have hN:q.num.natAbs<1000000000:=YA h9;have es:iq (cz q.num.natAbs++mR q) 0 ((cz q.num.natAbs).length:Int)=some (cz q.num.natAbs):=by
    rw[im (by omega) (by omega) (by omega)];simp
   have hv:=EF (oR q.num.natAbs).1 (by omega);rw[(oR _).2] at hv;refine Yd.bd es<|Yd.bd hv ?_
   refine Yd.jn (fun d=>d=(q.den:Int)/\q.den<1000000000) ?_<|fun k hk=>Yd.cond (fun hc=>?_)<|fun hc=>?_
   ·rintro d ⟨rfl,hD⟩;refine Yd.jn (fun z=>z=q.num) (fun z hz=>by subst hz;exact Yd.mk<| .inr ⟨rfl,hN,hD⟩)<|fun k hk=>Yd.cond (fun hc=>?_)<|fun hc=>?_
    ·have hc:=aZ hc;exact Yd.bd (aM ⟨by omega,by omega⟩) (hk _ (by omega))
    ·have hc:=br hc;exact hk _ (by omega)
   ·have hc:=aZ hc;have hd:decide (q.den=1)=false:=by
     cases hd:decide (q.den=1) with
     |false=>rfl
     |true=>
      unfold mR at hlen hc;rw[hd] at hlen hc;simp at hc
    have etl:mR q=47::cz q.den:=by unfold mR;rw[hd];rfl
    rw[etl,List.length_cons] at lA;have eu:iq (cz q.num.natAbs++mR q) (((cz q.num.natAbs).length:Int)+1) ((cz q.num.natAbs++mR q).length:Int)=some (cz q.den):=by
     rw[im (by omega) (by omega) (by omega),Int.toNat_natCast,eF<|bp _,show(((cz q.num.natAbs).length:Int)+1).toNat=(cz q.num.natAbs).length+1 by omega,<-iS,etl];simp
    have hw:=EF (oR q.den).1 (by omega);rw[(oR _).2] at hw;exact Yd.bd (aM ⟨by omega,by omega⟩) (Yd.bd eu (Yd.bd hw (hk _ ⟨rfl,YA (k:=9) (by omega)⟩)))
   ·have hc:=br hc;have hd:q.den=1:=by
     cases hd:decide (q.den=1) with
     |true=>exact aZ hd
     |false=>
      unfold mR at hlen hc;rw[hd] at hlen hc;simp at hc;omega
    exact hk _ ⟨by rw[hd];rfl,by omega⟩
  by_cases hx:(9:Int)<((cz q.num.natAbs).length:Int)
  ·have hd:=aW hx;have g2:gd (decide<|(9:Int)<((cz q.num.natAbs).length:Int)) false=false:=by rw[hd];rfl
   rw[mU g2];exact Yd.cond (fun _=>Yd.mk<| .inl rfl) (fun h=>by rw[hd,EO] at h;cases h)
  ·have hd:=bC hx;have g2:gd (decide<|(9:Int)<((cz q.num.natAbs).length:Int)) false=true:=by rw[hd];rfl
   rw[eG g2];refine Yd.bd (aM ⟨by omega,by omega⟩)<|Yd.cond (fun _=>Yd.mk<| .inl rfl)<|fun h=>?_
   rw[hd,An] at h;have h:=br h;exact rest (by omega) (by omega)
 ·have hc:=aZ hc;have es:iq (c::r) (1:Int) ((c::r).length:Int)=some r:=by
   rw[im (by omega) (by simp only[List.length_cons];omega) (by omega),Int.toNat_natCast,eF<|bp _];rfl
  exact Yd.bd es<|hk _<|Ug hc
 ·have hc:=br hc;refine hk _ ?_;rw[<-e];unfold eh;rw[bC hc];rfl
def VY(z:Int):mx_ z (0-z)=(z.natAbs:Int):=by
 unfold mx_;cases hc:decide (z<0-z) with
 |true=>have:=aZ hc;show 0-z=_;omega
 |false=>have:=br hc;show z=_;omega
def Yx{g:Int}(hg:0<g)(hd:g∣x)(hx: -9000000000000000000<=x/\x<=9000000000000000000):wo x g=some (x/g):=by
 unfold wo;rw[bC (by omega),Int.tdiv_eq_ediv_of_dvd hd];obtain⟨k,rfl⟩:=hd;rw[Int.mul_ediv_cancel_left _ (by omega)];refine aM ⟨?_,?_⟩
 ·rcases(show 0<=k\/k<0 by omega) with h|h
  ·omega
  ·have:g*k<=1*k:=Int.mul_le_mul_of_nonpos_right (by omega) (by omega);omega
 ·rcases(show 0<=k\/k<0 by omega) with h|h
  ·have:1*k<=g*k:=u7 (by omega) h;omega
  ·omega
def anf(h:n<=9000000000000000000):fI (n:Int) 1=some (cz n):=by
 have:=DJ (k:=1) h (by omega);rw[Q2<|Ei _] at this;exact this
def aby{a b:Int}(ha: -4000000000000000000<=a/\a<=4000000000000000000)(hb:0<b/\b<=4000000000000000000):v7 a b=some (bU<|(a:Rat)/(b:Rat)):=by
 have key:Yd (fun r=>r=bU ((a:Rat)/(b:Rat))) (v7 a b):=by
  unfold v7;have h0:b≠0:=by omega
  have en:((a:Rat)/(b:Rat)).num=a/(Int.gcd b a:Int):=by
   rw[<-vi,HU,pe hb.1,Int.one_mul]
  have ed:(((a:Rat)/(b:Rat)).den:Int)=b/(Int.gcd b a:Int):=by
   rw[<-vi,HT,if_neg h0];have:(b.natAbs:Int)=b:=by omega
   conv=>rhs;rw[<-this]
   rfl
  have hg0:0<Int.gcd b a:=LR _ h0;refine Yd.cond (fun hc=>?_)<|fun _=>?_
  ·exfalso;rw[rX,rX,rX,jc,jc,jc,jc] at hc;omega
  refine Yd.jn (fun s:Int×Int=>s=(a,b)) ?_ (fun k hk=>Yd.cond (fun hc=>by have:=aZ hc;omega)<|fun _=>hk _ rfl);rintro s rfl;dsimp only;have apC:tS (mx_ a<|0-a) b=some (Int.gcd b a:Int):=by
   rw[VY,afk ⟨by omega,by omega⟩ ⟨by omega,hb.2⟩]
   congr 2
   unfold Int.gcd;rw[iU,Ak]
  have d1:(Int.gcd b a:Int)∣a:=Int.gcd_dvd_right _ _;have d2:(Int.gcd b a:Int)∣b:=Int.gcd_dvd_left _ _;refine Yd.bd (aM ⟨by omega,by omega⟩) (Yd.bd apC (Yd.bd (Yx (by omega) d1 (by omega)) (Yd.bd (Yx (by omega) d2 (by omega)) ?_)));rw[<-en,<-ed];have hle:=Rk (x:=a) (y:=b) h0
  generalize hz:((a:Rat)/(b:Rat))=q at*
  have hN:q.num.natAbs<=4000000000000000000:=by omega
  have hD:q.den<=4000000000000000000:=by omega
  have hD0:=q.den_pos;have agu:fI (mx_ q.num<|0-q.num) 1=some (cz q.num.natAbs):=by
   rw[VY,anf (by omega)]
  have amu:fI (q.den:Int) 1=some (cz q.den):=by
   exact anf (by omega)
  have hl1:=nr 19 q.num.natAbs (by omega) (by omega);have Ye:=nr 19 q.den (by omega) (by omega);refine Yd.jn (fun s:ad3=>s=bif decide (q.num<0) then [45] else []) ?_ (fun k hk=>Yd.cond (fun hc=>hk _ (by rw[hc];rfl)) (fun hc=>hk _ (by rw[hc];rfl)));intro s hs;have hsl:s.length<=1:=by rw[hs];cases decide (q.num<0)<;>simp
  have est:s++cz q.num.natAbs=eh q.num:=by
   rw[hs];unfold eh;cases decide (q.num<0)<;>rfl
  refine Yd.bd (aM ⟨by omega,by omega⟩) (Yd.bd agu (Yd.bd (uE (by omega)) ?_));rw[est];have RM:=yF q.num;refine Yd.jn (fun s=>s=bU q) (fun s hs=>by subst hs;exact Yd.mk rfl)<|fun k hk=>Yd.cond (fun hc=>?_)<|fun hc=>?_
  ·have hc:=aZ hc;refine Yd.bd (uE (by simp;omega)) (Yd.bd amu (Yd.bd (uE (by simp;omega))<|hk _ ?_));unfold bU;rw[bC (show¬q.den=1 by omega)];simp
  ·have hc:=br hc;refine hk _ ?_;unfold bU;rw[aW (show q.den=1 by omega)];simp
 obtain⟨r,e,rfl⟩:=key;exact e
def afn{x y:Rat}(hx:bq x m)(hy:bq y n)(hm:0<m/\m<=19000)(hn:0<n/\n<=19000):fJ (bU x) (bU y)=some (bU<|x*y):=by
 have key:Yd (fun r=>r=bU (x*y)) (fJ (bU x)<|bU y):=by
  unfold fJ;refine Yd.iG (EG hx hm.1 hm.2) fun r hr=>Yd.iG (EG hy hn.1 hn.2) fun s hs=>Yd.cond (fun hc=>?_)<|fun _=>?_
  ·obtain⟨c1,c2⟩:=eT hc;obtain⟨rfl,a1,a2⟩:r=(x.num,(x.den:Int),true)/\_/\_:=by rcases hr with h|h;rw[h] at c1;cases c1;exact h
   obtain⟨rfl,b1,b2⟩:s=(y.num,(y.den:Int),true)/\_/\_:=by rcases hs with h|h;rw[h] at c2;cases c2;exact h
   dsimp only;have p1:(x.num*y.num).natAbs<=999999999*999999999:=by rw[rT];exact pc (by omega) (by omega)
   have p2:x.den*y.den<=999999999*999999999:=pc (by omega) (by omega);have p3:0<x.den*y.den:=Nat.mul_pos x.den_pos y.den_pos;have e:((x.den:Int)*(y.den:Int))=((x.den*y.den:Nat):Int):=by rw[uZ]
   have hOf:=aby (a:=x.num*y.num) (b:=(x.den:Int)*(y.den:Int)) (by omega) (by rw[e];omega);rw[K3] at hOf;exact Yd.bd (aM ⟨by omega,by omega⟩) (Yd.bd (aM ⟨by rw[e];omega,by rw[e];omega⟩)<|Yd.bd hOf<|Yd.mk rfl)
  ·refine Yd.iG (zd hx hm.1 hm.2) ?_;rintro⟨p1,p2⟩ ⟨⟨a1,a2⟩,a3,a4⟩;refine Yd.iG (zd hy hn.1 hn.2) ?_;rintro⟨q1,q2⟩ ⟨⟨b1,b2⟩,b3,b4⟩;dsimp only at*;refine Yd.iG (BA a1 b1 (by omega) (by omega)) fun u ⟨u1,u2⟩=>Yd.iG (BA a2 b2 (by omega) (by omega)) fun v ⟨v1,v2⟩=>?_
   have hf:=B9 u1 v1 (ET (xL x)<|xL y) (by omega) (by omega);rw[K3] at hf;exact Yd.bd hf<|Yd.mk rfl
 obtain⟨r,e,rfl⟩:=key;exact e
def Xx{x y:Rat}(hx:bq x m)(hy:bq y n)(hm:0<m/\m<=19000)(hn:0<n/\n<=19000):jK (bU x) (bU y)=some (bU<|x+y):=by
 have key:Yd (fun r=>r=bU (x+y)) (jK (bU x)<|bU y):=by
  unfold jK;refine Yd.iG (EG hx hm.1 hm.2) fun r hr=>Yd.iG (EG hy hn.1 hn.2) fun s hs=>Yd.cond (fun hc=>?_)<|fun _=>?_
  ·obtain⟨c1,c2⟩:=eT hc;obtain⟨rfl,a1,a2⟩:r=(x.num,(x.den:Int),true)/\_/\_:=by rcases hr with h|h;rw[h] at c1;cases c1;exact h
   obtain⟨rfl,b1,b2⟩:s=(y.num,(y.den:Int),true)/\_/\_:=by rcases hs with h|h;rw[h] at c2;cases c2;exact h
   dsimp only;have p1:(x.num*y.den).natAbs<=999999999*999999999:=by rw[rT,iU];exact pc (by omega) (by omega)
   have p1':(y.num*x.den).natAbs<=999999999*999999999:=by rw[rT,iU];exact pc (by omega) (by omega)
   have p2:x.den*y.den<=999999999*999999999:=pc (by omega) (by omega);have p3:0<x.den*y.den:=Nat.mul_pos x.den_pos y.den_pos;have e:((x.den:Int)*(y.den:Int))=((x.den*y.den:Nat):Int):=by rw[uZ]
   have hOf:=aby (a:=x.num*y.den+y.num*x.den) (b:=(x.den:Int)*(y.den:Int)) (by omega) (by rw[e];omega);rw[K4] at hOf;exact Yd.bd (aM ⟨by omega,by omega⟩) (Yd.bd (aM ⟨by omega,by omega⟩) (Yd.bd (aM ⟨by omega,by omega⟩) (Yd.bd (aM ⟨by rw[e];omega,by rw[e];omega⟩)<|Yd.bd hOf<|Yd.mk rfl)))
  ·refine Yd.iG (zd hx hm.1 hm.2) ?_;rintro⟨p1,p2⟩ ⟨⟨a1,a2⟩,a3,a4⟩;refine Yd.iG (zd hy hn.1 hn.2) ?_;rintro⟨q1,q2⟩ ⟨⟨b1,b2⟩,b3,b4⟩;dsimp only at*;refine Yd.iG (BA a1 b2 (by omega) (by omega)) fun u ⟨u1,u2⟩=>Yd.iG (BA b1 a2 (by omega) (by omega)) fun v ⟨v1,v2⟩=>Yd.iG (abw u1 v1 (by omega) (by omega)) fun w ⟨w1,w2⟩=>Yd.iG (BA a2 b2 (by omega) (by omega)) fun t ⟨t1,t2⟩=>?_
   have hf:=B9 w1 t1 (ET (xL x)<|xL y) (by omega) (by omega);rw[K4] at hf;exact Yd.bd hf<|Yd.mk rfl
 obtain⟨r,e,rfl⟩:=key;exact e
def Vu:bU 0=[48]:=aH
def Bt(q:Rat)(hl:(bU q).length<1000000):(bU q==([48]:ad3))=decide (q=0):=by
 by_cases h:q=0
 ·subst h;rw[Vu];rfl
 ·rw[bC h];rw[yw];intro e;apply h;have hn:=F6 q.num;unfold bU at e;cases hd:decide (q.den=1) with
  |true=>
   rw[hd] at e;have e:eh q.num=[48]:=by simpa using e
   unfold eh at e;cases hc:decide (q.num<0) with
   |true=>rw[hc] at e;have e:45::cz q.num.natAbs=[48]:=e;cases e
   |false=>
    rw[hc] at e;have e:cz q.num.natAbs=[48]:=e;have hv:=(oR q.num.natAbs).2;rw[e] at hv;have:q.num=0:=by
     have:dz [48]=0:=rfl;omega
    exact tm.1 this
  |false=>
   rw[hd] at e;have e:eh q.num++47::cz q.den=[48]:=e;have:=congrArg List.length e;simp at this;have h2:=Ei q.den;omega
def Tl(hl:(bU q).length<1000000):jg (bU q)=some (bif decide (q=0) then 0 else bif decide (q.num<0) then -1 else 1):=by
 obtain⟨c,r,e,OZ,_,_⟩:=Mx q.num<|mR q
 have et:bU q=c::r:=e;unfold jg;rw[Bt q hl];cases hz:decide (q=0) with
 |true=>rfl
 |false=>
  show iJ _ _ _ _=_;rw[et];have g1:gd (decide<|(0:Int)<((c::r).length:Int)) true=true:=by rw[aW (by simp only[List.length_cons];omega)];rfl
  rw[eG g1];show cond ((decide<|(0:Int)<((c::r).length:Int))&&(decide<|(c.toNat:Int)=(45:Int))) _ _=_;have hb:((decide<|(0:Int)<((c::r).length:Int))&&(decide<|(c.toNat:Int)=(45:Int)))=decide (q.num<0):=by
   rw[aW (show(0:Int)<((c::r).length:Int) by simp only[List.length_cons];omega),rQ];exact l8.2 OZ
  rw[hb];cases decide (q.num<0)<;>rfl
def Pl(h:bq q n)(hn:0<n):(bU q).length<=2*n+2:=by
 have hl:=W0 h hn;have h2:=yF q.num;unfold bU;cases decide (q.den=1)
 ·simp;omega
 ·simp;omega
def afm(h:bq q n)(hn:0<n/\n<=19000):qD (bU q)=some (bU<| -q):=by
 have hlen:=Pl h hn.1;have hs:=Tl (q:=q) (by omega);unfold qD;rw[hs];have ed:(-q).den=q.den:=HL q;have en:(-q).num= -q.num:=HM q;cases hz:decide (q=0) with
 |true=>
  have hz:=aZ hz;subst hz
  rfl
 |false=>
  have hz:=br hz;have hnz:q.num≠0:=fun e=>hz<|tm.1 e
  cases hc:decide (q.num<0) with
  |true=>
   have AF:=aZ hc;have et:bU q=45::(cz q.num.natAbs++mR q):=by
    show eh q.num++mR q=_;unfold eh;rw[hc];rfl
   have e2:bU (-q)=cz q.num.natAbs++mR q:=by
    show eh (-q).num++(bif decide ((-q).den=1) then [] else 47::cz (-q).den)=_;rw[en,ed];unfold eh;rw[bC (by omega),ER];rfl
   show bd (iq (bU q) 1 ((bU q).length:Int)) (fun x4=>some x4)=_;rw[e2,et,im (by omega) (by simp only[List.length_cons];omega) (by omega),Int.toNat_natCast,eF<|bp _];rfl
  |false=>
   have AF:=br hc;have et:bU q=cz q.num.natAbs++mR q:=by
    show eh q.num++mR q=_;unfold eh;rw[hc];rfl
   have e2:bU (-q)=45::(cz q.num.natAbs++mR q):=by
    show eh (-q).num++(bif decide ((-q).den=1) then [] else 47::cz (-q).den)=_;rw[en,ed];unfold eh;rw[aW (show -q.num<0 by omega),ER];rfl
   show bd (zL ([45]:ad3)<|bU q) (fun x9=>some x9)=_;rw[uE (by simp;omega),e2,et];rfl
def afl{x y:Rat}(hx:bq x m)(hy:bq y n)(hm:0<m/\m<=19000)(hn:0<n/\n<=19000):jo (bU x) (bU y)=some (bU<|x-y):=by
 unfold jo;rw[afm hy hn];show bd (jK (bU x)<|bU<| -y) (fun x3=>some x3)=_;rw[Xx hx (aki hy) hm hn,RA];rfl
def Xz(x:Rat):((x.den:Int):Rat)/(x.num:Rat)=x⁻¹ :=by
 rw[Rat.inv_def,vi]
end
end Trn
