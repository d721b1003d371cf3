/-
  Part of the proof of DrawMoves.
-/
import Derived.Test.YtokjddaclakenaaGreatDoorHc
set_option maxRecDepth 100000
set_option maxHeartbeats 20000000
set_option linter.all false
open Go Go.RowKit Go.Proofs Go.Proofs.Tryz
namespace Trn
abbrev Q3:=Rat×Rat×Rat
abbrev H3:=Q3×Rat
def lR(v w:Q3):Rat:=v.1*w.1+v.2.1*w.2.1+v.2.2*w.2.2
def xK(v w:Q3):Q3:=(v.2.1*w.2.2-v.2.2*w.2.1,v.2.2*w.1-v.1*w.2.2,v.1*w.2.1-v.2.1*w.1)
def Gj(v w:Q3):Q3:=(v.1+w.1,v.2.1+w.2.1,v.2.2+w.2.2)
def Wj(v:Q3)(a:Rat):Q3:=(v.1*a,v.2.1*a,v.2.2*a)
def o3:Q3:=(0,0,0)
def val(h:H3)(p:Q3):Rat:=lR h.1 p-h.2
section
variable{n:Nat}{l:asv Int}{k:Nat}{x:Int}{a:asv Int}{p:Bool×asv Int}{b:asv Int}{z:Int}{j m:Nat}{y:Int}{u:asv Int}{ρ:Type}{w v:asv Int}{q:Rat}{u0 v0 v1:Int}{R:ρ->Prop}{U2:Int}{i:Nat}{f:Int}
abbrev BT:Int:=1000000000
def aH:asv Int->Int
 |[]=>0
 |x::l=>x+BT*aH l
def rR(l:asv Int):Prop:=∀x∈l,0<=x/\x<BT
def jJ(n:Nat):Int:=BT^n
def zd:jJ 0=1:=rfl
def kn(n:Nat):jJ (n+1)=BT*jJ n:=by unfold jJ;rw[Int.pow_succ,Int.mul_comm]
def sy:∀n,0<jJ n
 |0=>by rw[zd];omega
 |n+1=>by rw[kn];have:=sy n;unfold BT;omega
def My(m n:Nat):jJ (m+n)=jJ m*jJ n:=by unfold jJ;rw[Int.pow_add]
def l8(x:Int)(l:asv Int):aH (x::l)=x+BT*aH l:=rfl
def oh:∀(l m:asv Int),aH (l++m)=aH l+jJ l.length*aH m
 |[],m=>by simp[aH,zd]
 |x::l,m=>by
  rw[MO,l8,l8,oh l m,List.length_cons,kn,bC,fp];omega
def MB:rR []:=by intro x h;cases h
def IZ:rR (x::l)↔(0<=x/\x<BT)/\rR l:=by
 unfold rR;simp only[bP,forall_eq_or_imp]
def Cw{m:asv Int}:rR (l++m)↔rR l/\rR m:=by
 unfold rR;constructor
 ·exact fun h=>⟨fun x hx=>h x<|AI _ hx,fun x hx=>h x<|CD _ hx⟩
 ·rintro⟨h1,h2⟩ x hx;rcases mw.1 hx with h|h
  ·exact h1 x h
  ·exact h2 x h
def mX(h:rR l)(n:Nat):rR (l.take n):=fun x hx=>h x<|vV hx
def zg(h:rR l)(n:Nat):rR (l.drop n):=fun x hx=>h x<|zK hx
def ig(h:rR l)(n:Nat):0<=l.getD n 0/\l.getD n 0<BT:=by
 by_cases hn:n<l.length
 ·have:l.getD n 0=l[n]:=by simp[iw,hn]
  rw[this];exact h _<|rp hn
 ·have:l.getD n 0=0:=by simp[iw,hn]
  rw[this];unfold BT;omega
def A9(n:Nat):rR (List.replicate n 0):=fun x hx=>by
 rw[(List.mem_replicate.1 hx).2];unfold BT;omega
def IY(h:rR l)(n:Nat)(hx:0<=x/\x<BT):rR (l.set n x):=fun y hy=>by
 rcases List.mem_or_eq_of_mem_set hy with h'|h'
 ·exact h y h'
 ·subst h';exact hx
def D9:∀n,aH (List.replicate n 0)=0
 |0=>rfl
 |n+1=>by rw[List.replicate_succ,l8,D9 n];omega
def ct:∀{l:asv Int},rR l->0<=aH l/\aH l<jJ l.length
 |[],_=>by simp[aH,zd]
 |x::l,h=>by
  rw[IZ] at h;obtain⟨h1,h2⟩:=ct h.2;rw[l8,List.length_cons,kn];have:=h.1;unfold BT at*;omega
def nL(h:n<l.length):aH (l.take<|n+1)=aH (l.take n)+jJ n*l.getD n 0:=by
 rw[tN h,oh,List.length_take,fW (by omega)];simp[aH]
def pR(l:asv Int)(n:Nat)(h:n<=l.length):aH l=aH (l.take n)+jJ n*aH (l.drop n):=by
 conv=>lhs;rw[<-zN n l]
 rw[oh,List.length_take,fW h]
def vt:∀{l:asv Int},rR l->l≠[]->l.getLast?≠some 0->jJ (l.length-1)<=aH l
 |[],_,h,_=>absurd rfl h
 |[x],h,_,hl=>by
  rw[IZ] at h;have:x≠0:=fun e=>hl (by rw[e];rfl)
  simp[aH,zd];omega
 |x::y::l,h,_,hl=>by
  rw[IZ] at h;have:=vt (l:=y::l) h.2 (by simp) (by simpa using hl);rw[l8,show(x::y::l).length-1=(y::l).length-1+1 from by simp,kn];have:=h.1;unfold BT at*;omega
def td(w:asv Int):Prop:=rR w/\w.getLast?≠some 0
def td.nil:td []:=⟨MB,by simp⟩
def td.len(h:td w)(hv:aH w<jJ n):w.length<=n:=by
 by_cases h0:w=[]
 ·subst h0;simp
 ·have h1:=vt h.1 h0 h.2;rcases ln n w.length with h2|h2
  ·have:jJ n<=jJ (w.length-1):=by
    obtain⟨k,hk⟩:∃k,w.length-1=n+k:=⟨w.length-1-n,by omega⟩;rw[hk,My];have a:=sy n;have b:=sy k;have:jJ n*1<=jJ n*jJ k:=kc (by omega) (by omega);omega
   omega
  ·exact h2
def XR(h:n<l.length):aH l=aH (l.take n)+jJ n*(l.getD n 0+BT*aH (l.drop<|n+1)):=by
 rw[pR l n (by omega)]
 congr 2
 rw[CE h,l8]
 congr 1
 simp[iw,h]
def Uo(h:m<=n):jJ m<=jJ n:=by
 obtain⟨k,rfl⟩:∃k,n=m+k:=⟨n-m,by omega⟩;rw[My];have a:=sy m;have b:=sy k;have:jJ m*1<=jJ m*jJ k:=kc (by omega) (by omega);omega
def Cc(ha:rR a)(hb:td b)(h:a.length<b.length):aH a<aH b:=by
 have h1:=(ct ha).2;have h2:=vt hb.1 (by intro e;subst e;simp at h) hb.2;have h3:=Uo (show a.length<=b.length-1 by omega);omega
def dD(l:asv Int)(n:Nat):aH (l.take<|n+1)=aH (l.take n)+jJ n*l.getD n 0:=by
 rcases ln n l.length with h|h
 ·exact nL h
 ·rw[AM h,fe (by omega),fe h];omega
def NR(h:aH (l.drop n)=0)(hk:rR l)(hm:n<=m):l.getD m 0=0:=by
 have key:∀(l:asv Int) (j:Nat),rR l->aH l=0->l.getD j 0=0:=by
  intro l
  induction l with
  |nil=>intro j _ _;simp
  |cons x l ih=>
   intro j hk hv;rw[IZ] at hk;rw[l8] at hv;have h1:=(ct hk.2).1;have hx:=hk.1;unfold BT at*;cases j with
   |zero=>simp;omega
   |succ j=>simpa using ih j hk.2 (by omega)
 have:=key (l.drop n) (m-n) (zg hk n) h;simpa[iw,zJ,show n+(m-n)=m by omega] using this
def agi{q r:Int}(e:q*v1+r=U2)(h:BT*r+u0<q*v0):(u0+BT*U2)+1<=q*(v0+BT*v1):=by
 rw[bC,iU q BT v1,<-e,bC];omega
def agj{q r:Int}(e:q*v1+r=U2)(hr:r<v1)(hu:u0<BT)(hq:0<=q)(hv:0<=v0):(u0+BT*U2)+1<=(q+1)*(v0+BT*v1):=by
 rw[bC,iU _ BT v1,<-e,ll q 1 v1,Int.one_mul];have:0<=(q+1)*v0:=rm (by omega) hv;unfold BT at*;omega
def agk{q R P UL VL:Int}(e:q*v1+R=U2)(hq:0<=q/\q<BT)(hR:0<=R)(L7:0<=v0/\v0<BT)(hu0:0<=u0)(hv1:BT<=2*v1)(h:BT<=R\/q*v0<=BT*R+u0)
 (hP:0<P)(hU:0<=UL)(hV:VL<P)(hV0:0<=VL):(q-1)*(VL+P*(v0+BT*v1))<=UL+P*(u0+BT*U2):=by
 have hY:q*(v0+BT*v1)<=u0+BT*U2:=by
  rw[bC,iU q BT v1,<-e,bC];have:q*v0<=BT*R+u0:=by
   rcases h with h|h
   ·have:q*v0<=(BT-1)*(BT-1):=wH (by omega) (by omega) L7.1 (by unfold BT;omega);unfold BT at*;omega
   ·exact h
  omega
 have h1:=kc hY<|gj hP
 have h2:q*VL<=BT*P:=wH (by omega) (by omega) hV0 (by unfold BT;omega);have h3:P*BT<=P*(v0+BT*v1):=kc (by unfold BT at*;omega)<|gj hP
 rw[Int.sub_mul,Int.one_mul,bC q,iU q P];rw[Int.mul_comm P BT] at h3;omega
def aiV{u1 u2 P UL VL:Int}(hP:0<P)(hU:0<=UL)(hu0:0<=u0)(hu1:0<=u1)(hV:VL<P)(L7:v0<BT)(h:UL+P*(u0+BT*(u1+BT*u2))<BT*(VL+P*(v0+BT*v1))):u2<=v1:=by
 rcases(show v1<u2\/u2<=v1 by omega) with h'|h'
 ·exfalso;have h1:BT*(v0+BT*v1+1)<=u0+BT*(u1+BT*u2):=by unfold BT at*;omega
  have h2:=kc h1<|gj hP
  rw[iU P BT,bC P _ 1,qa] at h2;rw[bC BT VL] at h;rw[bC BT _ P] at h2;have h3:BT*VL<=BT*P:=kc (by omega) (by unfold BT;omega);omega
 ·exact h'
def ZC(h:l.length=k+3):aH l=aH (l.take k)+jJ k*(l.getD k 0+BT*(l.getD (k+1) 0+BT*l.getD (k+2) 0)):=by
 have h1:aH (l.take<|k+3)=aH l:=by rw[fe (by omega)]
 rw[<-h1,dD,dD,dD,kn<|k+1,kn,bC,bC,bC,iU (jJ k) BT,iU (jJ k) BT,iU (jJ k) BT,fp,fp,fp];omega
def ZD(h:l.length=k+2):aH l=aH (l.take k)+jJ k*(l.getD k 0+BT*l.getD (k+1) 0):=by
 have h1:aH (l.take<|k+2)=aH l:=by rw[fe (by omega)]
 rw[<-h1,dD,dD,kn,bC,iU (jJ k) BT,fp];omega
def Pj(h:rR l)(hl:n<=l.length)(hv:aH l<jJ n):aH (l.drop n)=0:=by
 have h1:=pR l n hl;have h2:=(ct<|zg h n).1;have h3:=(ct<|mX h n).1;rcases(show aH (l.drop n)=0\/1<=aH (l.drop n) by omega) with h4|h4
 ·exact h4
 ·have:=kc h4 (gj<|sy n);omega
def div_pos(hx:0<=x)(hy:0<y)(hb:x<=9223372036854775807):wb x y=some (x/y):=by
 unfold wb;rw[bU (by omega),Int.tdiv_eq_ediv_of_nonneg hx];have h1:=rn hx<|gj hy
 have h2:=AG y hx;exact aM ⟨by omega,by omega⟩
def zb(ha:rR a)(hl:a.length<1099511627776):Yd (fun w=>td w/\aH w=aH a/\w.length<=a.length) (kI a):=by
 unfold kI;refine Yd.lp (fun s:asv Int=>rR s/\aH s=aH a/\s.length<=a.length) (fun s=>s.length) ?_ _ _ ⟨ha,rfl,bG _⟩ (by omega);rintro next s ⟨h1,h2,h3⟩ hn
 refine Yd.fT (fun hg=>?_)<|fun hg=>?_
 ·have hs:(0:Int)<s.length:=bg hg;obtain⟨n,Lx⟩:∃n,s.length=n+1:=⟨s.length-1,by omega⟩;have e1:(s.length:Int)-1=(n:Int):=by omega
  rw[e1];refine⟨(n:Int),aM ⟨by omega,by omega⟩,Yd.fT (fun _=>⟨s.getD n 0,b9 (by omega),Yd.cond (fun hc=>?_)<|fun hc=>?_⟩) (fun h=>by rw[hg] at h;cases h)⟩
  ·obtain⟨_,hz⟩:=eM hc;have hz:=bg hz;refine Yd.bd (aM ⟨by omega,by omega⟩) (Yd.bd (ke (by omega) (by omega) (by omega)) ?_);have e:(s.take ((n:Nat):Int).toNat).drop (0:Int).toNat=s.take n:=by simp
   rw[e];have hv:aH s=aH (s.take n):=by
    have:=nL (l:=s) (n:=n) (by omega);rw[hz,AD,Fx,fe (by omega)] at this;exact this
   exact hn _ ⟨mX h1 n,by rw[<-hv];exact h2,by simp;omega⟩ (by simp;omega)
  ·refine Yd.mk ⟨⟨h1,?_⟩,h2,h3⟩;rw[bp hs,sQ] at hc;have hz:=bV hc;have e:s=s.take n++[s.getD n 0]:=by rw[<-tN (by omega),fe (by omega)]
   rw[e];simpa using hz
 ·have hs: ¬(0:Int)<s.length:=bV hg;have hs:s=[]:=sW (by omega);subst hs;exact Yd.fT (fun h=>by rw[hg] at h;cases h) (fun _=>Yd.cond (fun hc=>by simp at hc)<|fun _=>Yd.mk ⟨td.nil,h2,h3⟩)
def qW(p:Bool×asv Int)(z:Int):Prop:=td p.2/\aH p.2=(z.natAbs:Int)/\p.1=decide (z<0)
def td.pos(h:td w)(h0:w≠[]):0<aH w:=by
 have:=vt h.1 h0 h.2;have:=sy<|w.length-1
 omega
def Of{b:Bool}(ha:rR a)(hl:a.length<1099511627776):Yd (fun p=>qW p (bif b then -aH a else aH a)/\p.2.length<=a.length) (fw b a):=by
 unfold fw;refine Yd.kD (zb ha hl) fun w ⟨h1,h2,h3⟩=>Yd.mk ⟨⟨h1,?_,?_⟩,h3⟩
 ·have:=(ct h1.1).1;rw[<-h2];cases b
  ·show aH w=((aH w).natAbs:Int);omega
  ·show aH w=((-aH w).natAbs:Int);omega
 ·have hz:=(ct h1.1).1;by_cases hw:w=[]
  ·subst hw;have:aH a=0:=h2.symm;rw[this];cases b<;>rfl
  ·have hp:=h1.pos hw;have hlw:0<w.length:=CU.2 hw;rw[<-h2];cases b
   ·have e2:decide (aH w<0)=false:=bU (by omega);show false=decide (aH w<0);rw[e2]
   ·show(true&&decide ((0:Int)<w.length))=decide (-aH w<0);have e1:decide ((0:Int)<w.length)=true:=bp (by omega);have e2:decide (-aH w<0)=true:=bp (by omega);rw[e1,e2];rfl
def Aj(ha:td a)(hb:td b)(hla:a.length<4398046511104)(hlb:b.length<4398046511104):
  Yd (fun r=>(r= -1/\aH a<aH b)\/(r=0/\aH a=aH b)\/(r=1/\aH b<aH a)) (kq a b):=by
 unfold kq;refine Yd.cond (fun hc=>Yd.cond (fun hd=>?_)<|fun hd=>?_)<|fun hc=>?_
 ·have hd:=bg hd;exact Yd.mk (.inl ⟨rfl,Cc ha.1 hb (by omega)⟩)
 ·have hd:=bV hd;rw[jj,lq] at hc;exact Yd.mk (.inr (.inr ⟨rfl,Cc hb.1 ha (by omega)⟩))
 ·rw[MR,j4] at hc;have hl:a.length=b.length:=by omega
  refine Yd.bd (aM ⟨by omega,by omega⟩) ?_;refine Yd.lp (fun s:Int=> -1<=s/\s<a.length/\a.drop (s+1).toNat=b.drop (s+1).toNat) (fun s:Int=>(s+1).toNat) ?_ _ _ ⟨by omega,by omega,?_⟩ (by omega)
  ·rintro next s ⟨h0,h1,h2⟩ hn
   refine Yd.cond (fun hp=>?_)<|fun hp=>?_
   ·have hp:=bg hp;obtain⟨n,rfl⟩:=gQ hp;have en:(((n:Nat):Int)+1).toNat=n+1:=by omega
    rw[en] at h2;have gA:bj a (n:Int)=some (a.getD n 0):=b9 (by omega);have gB:bj b (n:Int)=some (b.getD n 0):=b9 (by omega);refine Yd.bd gA<|Yd.bd gB ?_
    have eA:=XR (l:=a) (n:=n) (by omega);have eB:=XR (l:=b) (n:=n) (by omega);rw[h2] at eA;obtain⟨tA0,tA⟩:=ct<|mX ha.1 n
    obtain⟨tB0,tB⟩:=ct<|mX hb.1 n
    rw[List.length_take,fW (by omega)] at tA tB;have hpw:=sy n;have dA:=nW (l:=a) (n:=n) (by omega);have dB:=nW (l:=b) (n:=n) (by omega)
    generalize a.getD n 0=X at*
    generalize b.getD n 0=Y at*
    have eA':aH a=aH (a.take n)+jJ n*X+jJ n*(BT*aH (b.drop<|n+1)):=by rw[eA,bC];omega
    have eB':aH b=aH (b.take n)+jJ n*Y+jJ n*(BT*aH (b.drop<|n+1)):=by rw[eB,bC];omega
    refine Yd.cond (fun hlt=>?_)<|fun hlt=>Yd.bd gA<|Yd.bd gB<|Yd.cond (fun hgt=>?_)<|fun hgt=>?_
    ·have hlt:=bg hlt;have:jJ n*(X+1)<=jJ n*Y:=kc (by omega) (by omega);rw[bC,qa] at this;exact Yd.mk (.inl ⟨rfl,by omega⟩)
    ·have hgt:=bg hgt;have:jJ n*(Y+1)<=jJ n*X:=kc (by omega) (by omega);rw[bC,qa] at this;exact Yd.mk (.inr (.inr ⟨rfl,by omega⟩))
    ·have hlt:=bV hlt;have hgt:=bV hgt;have hx:X=Y:=by omega
     refine Yd.bd (aM ⟨by omega,by omega⟩) (hn _ ⟨by omega,by omega,?_⟩ (by omega));have:(((n:Nat):Int)-1+1).toNat=n:=by omega
     rw[this,dA,dB,hx,h2]
   ·have hp:=bV hp;have:s= -1:=by omega
    subst this;exact Yd.mk (.inr (.inl ⟨rfl,by simpa using congrArg aH h2⟩))
  ·have:((a.length:Int)-1+1).toNat=a.length:=by omega
   rw[this,yH,hl,yH]
def Ks:o8 a (n:Int)=some (a.getD n 0):=by
 unfold o8;by_cases h:n<a.length
 ·rw[bp (by omega)];show bd (bj a (n:Int)) _=_;rw[b9 h];rfl
 ·rw[bU (by omega),AM (by omega)];rfl
def aen(h:l.length<1099511627776):fB 8 l [x]=some (l++[x]):=by
 unfold fB;rw[List.length_singleton,bp (by omega),bp (by omega)];rfl
def Qk(ha:rR a)(hb:rR b)(hla:a.length<4398046511)(hlb:b.length<4398046511):Yd (fun w=>rR w/\aH w=aH a+aH b/\w.length<=max a.length b.length+1) (pD a b):=by
 unfold pD;refine Yd.lp (fun s:asv Int×Int×Int=>rR s.1/\(s.2.1=0\/s.2.1=1)/\s.2.2=s.1.length/\s.1.length<=max a.length b.length+1/\(s.1.length=max a.length b.length+1->s.2.1=0)/\
   aH s.1+jJ s.1.length*s.2.1=aH (a.take s.1.length)+aH (b.take s.1.length)) (fun s=>max a.length b.length+1-s.1.length) ?_ _ _ ⟨MB,.inl rfl,rfl,by simp,fun _=>rfl,by simp[aH]⟩ (by dsimp only;simp;omega)
 rintro next ⟨o,c,i⟩ ⟨h1,h2,h3,h4,h5,h6⟩ hn
 dsimp only at h1 h2 h3 h4 h5 h6 hn⊢;subst h3;refine Yd.cond (fun hc=>?_)<|fun hc=>?_
 ·obtain⟨xa,xb⟩:=ig ha o.length;obtain⟨ya,yb⟩:=ig hb o.length;have hlt:o.length<=max a.length b.length:=by
   rcases ln (max a.length b.length) o.length with h|h
   ·have:=h5 (by omega);rw[qd,qd,j4,j4,j4] at hc;omega
   ·exact h
  have hz:o.length=max a.length b.length->a.getD o.length 0=0/\b.getD o.length 0=0:=fun h=>⟨AM (by omega),AM (by omega)⟩
  have hS:0<=a.getD o.length 0+b.getD o.length 0+c/\a.getD o.length 0+b.getD o.length 0+c<2000000000:=by unfold BT at*;omega
  refine Yd.bd Ks (Yd.bd Ks (Yd.bd (aM ⟨by omega,by unfold BT at*;omega⟩) (Yd.bd (aM ⟨by omega,by omega⟩) (Yd.bd (yp hS.1 (by omega)) (Yd.bd (aen (by omega)) (Yd.bd (div_pos hS.1 (by omega) (by omega)) (Yd.bd (aM ⟨by omega,by omega⟩)<|hn _ ⟨?_,?_,?_,?_,?_,?_⟩ ?_)))))))
  ·rw[Cw];exact⟨h1,fun x hx=>by rw[vT] at hx;subst hx;unfold BT;omega⟩
  ·dsimp only;omega
  ·dsimp only;rw[List.length_append,List.length_singleton];omega
  ·dsimp only;rw[List.length_append,List.length_singleton];omega
  ·dsimp only;rw[List.length_append,List.length_singleton];intro h;have:=hz (by omega);omega
  ·dsimp only;rw[List.length_append,List.length_singleton,oh,dD,dD,kn];have e:aH [(a.getD o.length 0+b.getD o.length 0+c)%1000000000]=(a.getD o.length 0+b.getD o.length 0+c)%1000000000:=by simp[aH]
   rw[e,Int.mul_comm BT,fp,<-Int.add_assoc]
   generalize a.getD o.length 0=X at*
   generalize b.getD o.length 0=Y at*
   have hd:X+Y+c=(X+Y+c)%1000000000+BT*((X+Y+c)/1000000000):=by unfold BT;omega
   have:jJ o.length*((X+Y+c)%1000000000)+jJ o.length*(BT*((X+Y+c)/1000000000))=jJ o.length*X+jJ o.length*Y+jJ o.length*c:=by
    rw[<-bC,<-bC,<-bC,<-hd]
   omega
  ·dsimp only;rw[List.length_append,List.length_singleton];omega
 ·rw[zL,zL,lq,lq,lq] at hc;have hc0:c=0:=by omega
  subst hc0;refine Yd.mk ⟨h1,?_,h4⟩;rw[fe (by omega),fe (by omega)] at h6;omega
def GF(ha:rR a)(hb:rR b)(hl:b.length<=a.length)(hla:a.length<4398046511)(hv:aH b<=aH a):Yd (fun w=>td w/\aH w=aH a-aH b/\w.length<=a.length) (nb a b):=by
 unfold nb;refine Yd.lp (fun s:asv Int×Int×Int=>rR s.1/\(s.2.1=0\/s.2.1=1)/\s.2.2=s.1.length/\s.1.length<=a.length/\
   aH s.1=aH (a.take s.1.length)-aH (b.take s.1.length)+jJ s.1.length*s.2.1) (fun s=>a.length-s.1.length) ?_ _ _ ⟨MB,.inl rfl,rfl,by simp,by simp[aH]⟩ (by dsimp only;simp;omega)
 rintro next ⟨o,c,i⟩ ⟨h1,h2,h3,h4,h5⟩ hn
 dsimp only at h1 h2 h3 h4 h5 hn⊢;subst h3;refine Yd.cond (fun hc=>?_)<|fun hc=>?_
 ·have hc:=bg hc;obtain⟨xa,xb⟩:=ig ha o.length;obtain⟨ya,yb⟩:=ig hb o.length;refine Yd.bd (b9 (by omega)) (Yd.bd Ks (Yd.bd (aM ⟨by unfold BT at*;omega,by unfold BT at*;omega⟩) (Yd.bd (aM ⟨by unfold BT at*;omega,by unfold BT at*;omega⟩) ?_)));have step:∀d x:Int,(d=0\/d=1)->0<=x->x<1000000000->x=a.getD o.length 0-b.getD o.length 0-c+BT*d->Yd (fun w=>td w/\aH w=aH a-aH b/\w.length<=a.length) (bd (fB 8 o [x]) fun jH=>bd (aF<|(o.length:Int)+1) fun jR=>next (jH,d,jR)):=by
   intro d x hd VR hx1 hx;refine Yd.bd (aen (by omega)) (Yd.bd (aM ⟨by omega,by omega⟩)<|hn _ ⟨?_,hd,?_,?_,?_⟩ ?_)
   ·rw[Cw];exact⟨h1,fun y hy=>by rw[vT] at hy;subst hy;unfold BT;omega⟩
   ·dsimp only;rw[List.length_append,List.length_singleton];omega
   ·dsimp only;rw[List.length_append,List.length_singleton];omega
   ·dsimp only;rw[List.length_append,List.length_singleton,oh,dD,dD,kn,h5];have e:aH [x]=x:=by simp[aH]
    rw[e,Int.mul_comm BT,fp,hx]
    generalize a.getD o.length 0=X at*
    generalize b.getD o.length 0=Y at*
    have:jJ o.length*(X-Y-c+BT*d)=jJ o.length*X-jJ o.length*Y-jJ o.length*c+jJ o.length*(BT*d):=by
     rw[bC,mK,mK]
    omega
   ·dsimp only;rw[List.length_append,List.length_singleton];omega
  refine Yd.jn (fun p:Int×Int=>(p.1=0\/p.1=1)/\0<=p.2/\p.2<1000000000/\p.2=a.getD o.length 0-b.getD o.length 0-c+BT*p.1) (fun p hp=>step p.1 p.2 hp.1 hp.2.1 hp.2.2.1 hp.2.2.2) fun k hk=>Yd.cond (fun hd=>?_)<|fun hd=>?_
  ·have hd:=bg hd;refine Yd.bd (aM ⟨by unfold BT at*;omega,by unfold BT at*;omega⟩) (hk _ ⟨.inr rfl,?_,?_,?_⟩)<;>(dsimp only;unfold BT at*;omega)
  ·have hd:=bV hd;refine hk _ ⟨.inl rfl,?_,?_,?_⟩<;>(dsimp only;unfold BT at*;omega)
 ·have hc:=bV hc;have hlen:o.length=a.length:=by omega
  rw[fe (by omega),fe (by omega)] at h5;obtain⟨z1,z2⟩:=ct h1;have hc0:c=0:=by
   rcases h2 with h|h
   ·exact h
   ·subst h;omega
  subst hc0;refine Yd.kD (zb h1 (by omega)) fun w ⟨g1,g2,g3⟩=>Yd.mk ⟨g1,by rw[g2,h5];omega,by omega⟩
def IM{d:Int}(ha:rR a)(hd:0<d/\d<1000000000)(hl:a.length<1099511627776):Yd (fun p=>td p.1/\aH p.1=aH a/d/\p.2=aH a%d/\p.1.length<=a.length) (nN a d):=by
 unfold nN;refine Yd.bd (I2 (by omega) (by omega) (by omega)) (Yd.bd (aM ⟨by omega,by omega⟩) ?_);refine Yd.lp (fun s:asv Int×Int×Int=>rR s.1/\s.1.length=a.length/\(0<=s.2.1/\s.2.1<d)/\ -1<=s.2.2/\s.2.2<a.length/\aH (a.drop (s.2.2+1).toNat)=aH (s.1.drop (s.2.2+1).toNat)*d+s.2.1) (fun s=>(s.2.2+1).toNat) ?_ _ _
  ⟨A9 _,by simp only[vW];omega,⟨by dsimp only;omega,by dsimp only;omega⟩,by dsimp only;omega,by dsimp only;omega,?_⟩ (by dsimp only;omega)
 rotate_left
 ·have e:((a.length:Int)-1+1).toNat=a.length:=by omega
  dsimp only;rw[e,yH,xE (by simp only[vW];omega)];simp[aH]
 rintro next ⟨o,r,i⟩ ⟨h1,h2,⟨h3,h3'⟩,h4,h5,h6⟩ hn
 dsimp only at h1 h2 h3 h3' h4 h5 h6 hn⊢;refine Yd.cond (fun hc=>?_)<|fun hc=>?_
 ·have hc:=bg hc;obtain⟨n,rfl⟩:=gQ hc;have en:(((n:Nat):Int)+1).toNat=n+1:=by omega
  rw[en] at h6;obtain⟨xa,xb⟩:=ig ha n;have hx:0<=r*1000000000+a.getD n 0/\r*1000000000+a.getD n 0<d*1000000000:=by unfold BT at*;omega
  have hq0:=rn hx.1<|gj hd.1
  have hq1:(r*1000000000+a.getD n 0)/d<1000000000:=by
   apply Jz hd.1;omega
  have WW:=sT (r*1000000000+a.getD n 0) (show d≠0 by omega);have hr1:=rr (r*1000000000+a.getD n 0) hd.1;refine Yd.bd (aM ⟨by omega,by omega⟩) (Yd.bd (b9 (by omega)) (Yd.bd (aM ⟨by omega,by omega⟩) (Yd.bd (div_pos hx.1 hd.1 (by omega)) (Yd.bd (b9 (by omega)) (Yd.bd (b9 (by omega)) (Yd.bd (yp hx.1 hd.1) (Yd.bd (aM ⟨by omega,by omega⟩) (hn _ ⟨IY h1 _ ⟨hq0,hq1⟩,by simpa using h2,⟨WW,hr1⟩,by dsimp only;omega,by dsimp only;omega,?_⟩ ?_))))))))
  ·dsimp only;have e2:(((n:Nat):Int)-1+1).toNat=n:=by omega
   rw[e2,Int.toNat_natCast,wM (by omega),nW (show n<a.length by omega),l8,l8,h6];have hdm:=Int.mul_ediv_add_emod (r*1000000000+a.getD n 0) d
   generalize (r*1000000000+a.getD n 0)/d=q at*
   generalize (r*1000000000+a.getD n 0)%d=m at*
   rw[ll,bC,fp BT,Int.mul_comm q d];unfold BT;omega
  ·dsimp only;omega
 ·have hc:=bV hc;have:i= -1:=by omega
  subst this;have h6:aH a=aH o*d+r:=by simpa using h6
  refine Yd.kD (zb h1 (by omega)) fun w ⟨g1,g2,g3⟩=>Yd.mk ⟨g1,?_,?_,by dsimp only;omega⟩
  ·dsimp only;rw[g2];exact(xj h6 h3 h3').1
  ·exact(xj h6 h3 h3').2
def A3(ha:rR a)(hb:rR b)(hla:a.length<4398046511)(hlb:b.length<4398046511):Yd (fun w=>td w/\aH w=aH a*aH b/\w.length<=a.length+b.length) (kX a b):=by
 unfold kX;refine Yd.bd (aM ⟨by omega,by omega⟩) (Yd.bd (I2 (by omega) (by omega) (by omega)) ?_);refine Yd.lp (fun s:asv Int×Int=>rR s.1/\s.1.length=a.length+b.length/\0<=s.2/\s.2<=a.length/\(∀m,s.2.toNat+b.length<=m->s.1.getD m 0=0)/\aH (s.1.take<|s.2.toNat+b.length)=aH (a.take s.2.toNat)*aH b)
  (fun s:asv Int×Int=>a.length-s.2.toNat) ?_ _ _ ⟨A9 _,by simp only[vW];omega,by dsimp only;omega,by dsimp only;omega,fun m _=>O7,?_⟩ (by dsimp only;omega)
 rotate_left
 ·dsimp only;rw[Jw,D9];simp[aH]
 rintro next ⟨o,i⟩ ⟨h1,h2,h3,h4,hz,h5⟩ hn
 simp only at h1 h2 h3 h4 hz h5 hn⊢;obtain⟨n,rfl⟩:=gQ h3;simp only[Int.toNat_natCast,ur] at*;refine Yd.cond (fun hc=>?_)<|fun hc=>?_
 ·have hc:=bg hc;refine Yd.lp (fun s:asv Int×Int×Int=>rR s.1/\s.1.length=a.length+b.length/\(0<=s.2.1/\s.2.1<BT)/\0<=s.2.2/\s.2.2<=b.length/\s.1.drop (n+s.2.2.toNat)=o.drop (n+s.2.2.toNat)/\
    aH (s.1.take<|n+s.2.2.toNat)+jJ (n+s.2.2.toNat)*s.2.1=aH (o.take<|n+s.2.2.toNat)+jJ n*(a.getD n 0*aH (b.take s.2.2.toNat)))
   (fun s:asv Int×Int×Int=>b.length-s.2.2.toNat) ?_ _ _ ⟨h1,h2,⟨by dsimp only;omega,by dsimp only;unfold BT;omega⟩,by dsimp only;omega,by dsimp only;omega,rfl,by simp[aH]⟩ (by dsimp only;omega)
  rintro acE ⟨p,c,j⟩ ⟨g1,g2,g3,g4,g5,g6,g7⟩ Qm;simp only at g1 g2 g3 g4 g5 g6 g7 Qm⊢;obtain⟨m,rfl⟩:=gQ g4;simp only[Int.toNat_natCast,ur] at*;have eo:p.getD (n+m) 0=o.getD (n+m) 0:=by
   have:=congrArg (fun l=>l.getD 0 0) g6;simpa[iw,zJ] using this
  refine Yd.cond (fun hd=>?_)<|fun hd=>?_
  ·have hd:=bg hd;have enm:((n:Nat):Int)+((m:Nat):Int)=((n+m:Nat):Int):=by omega
   obtain⟨xa,xb⟩:=ig ha n;obtain⟨ya,yb⟩:=ig hb m;obtain⟨oa,ob⟩:=ig g1<|n+m
   have KL:a.getD n 0*b.getD m 0<=(BT-1)*(BT-1):=wH (by omega) (by omega) ya (by unfold BT;omega);have atd:0<=a.getD n 0*b.getD m 0:=rm xa ya;have hS:0<=p.getD (n+m) 0+a.getD n 0*b.getD m 0+c/\p.getD (n+m) 0+a.getD n 0*b.getD m 0+c<BT*BT:=by
    generalize a.getD n 0*b.getD m 0=q at*
    unfold BT at*;omega
   rw[enm];refine Yd.bd (aM ⟨by omega,by omega⟩) (Yd.bd (b9 (by omega)) (Yd.bd (b9 (by omega)) (Yd.bd (b9 (by omega)) (Yd.bd (b9 (by omega)) (Yd.bd (aM ⟨by omega,by unfold BT at*;omega⟩) (Yd.bd (aM ⟨by omega,by unfold BT at*;omega⟩) (Yd.bd (aM ⟨by omega,by unfold BT at*;omega⟩) (Yd.bd (aM ⟨by omega,by omega⟩) (Yd.bd (yp hS.1 (by omega)) (Yd.bd (b9 (by omega)) (Yd.bd (b9 (by omega)) (Yd.bd (div_pos hS.1 (by omega) (by unfold BT at*;omega)) (Yd.bd (aM ⟨by omega,by omega⟩) ?_)))))))))))));have hdm:p.getD (n+m) 0+a.getD n 0*b.getD m 0+c=(p.getD (n+m) 0+a.getD n 0*b.getD m 0+c)%1000000000+BT*((p.getD (n+m) 0+a.getD n 0*b.getD m 0+c)/1000000000):=by unfold BT;omega
   have hr:0<=(p.getD (n+m) 0+a.getD n 0*b.getD m 0+c)%1000000000/\(p.getD (n+m) 0+a.getD n 0*b.getD m 0+c)%1000000000<BT:=by unfold BT;omega
   have hq:0<=(p.getD (n+m) 0+a.getD n 0*b.getD m 0+c)/1000000000/\(p.getD (n+m) 0+a.getD n 0*b.getD m 0+c)/1000000000<BT:=by unfold BT at*;omega
   refine Qm _ ⟨IY g1 _ hr,by simpa using g2,hq,by dsimp only;omega,by dsimp only;omega,?_,?_⟩ (by dsimp only;omega)
   ·have e:(((m:Nat):Int)+1).toNat=m+1:=by omega
    simp only[e,Int.toNat_natCast];rw[MT (by omega),<-uj];have:=congrArg (List.drop 1) g6;rwa [ji,ji] at this
   ·have e:(((m:Nat):Int)+1).toNat=m+1:=by omega
    simp only[e,Int.toNat_natCast];rw[<-uj,dD,dK<|bG _,dR (by omega),dD o,dD b,<-eo,kn]
    generalize (p.getD (n+m) 0+a.getD n 0*b.getD m 0+c)%1000000000=R at*
    generalize (p.getD (n+m) 0+a.getD n 0*b.getD m 0+c)/1000000000=Q at*
    have k1:jJ n*(a.getD n 0*(aH (b.take m)+jJ m*b.getD m 0))=jJ n*(a.getD n 0*aH (b.take m))+jJ (n+m)*(a.getD n 0*b.getD m 0):=by
     rw[bC,bC,My,iU (a.getD n 0)<|jJ m,fp]
    have k2:jJ (n+m)*R+BT*jJ (n+m)*Q=jJ (n+m)*(a.getD n 0*b.getD m 0)+jJ (n+m)*p.getD (n+m) 0+jJ (n+m)*c:=by
     rw[Int.mul_comm BT,fp,<-bC,<-bC,<-bC]
     congr 1;omega
    rw[k1];omega
  ·have hd:=bV hd;have hm':m=b.length:=by omega
   subst hm';have enm:((n:Nat):Int)+((b.length:Nat):Int)=((n+b.length:Nat):Int):=by omega
   have hz0:p.getD (n+b.length) 0=0:=by rw[eo];exact hz _<|bG _
   rw[enm];refine Yd.bd (aM ⟨by omega,by omega⟩) (Yd.bd (aM ⟨by omega,by omega⟩) (Yd.bd (b9 (by omega)) (Yd.bd (b9 (by omega)) (Yd.bd (aM ⟨by omega,by unfold BT at*;omega⟩) (Yd.bd (b9 (by omega)) (Yd.bd (b9 (by omega)) (Yd.bd (aM ⟨by omega,by omega⟩) ?_)))))));rw[hz0,Int.zero_add];refine hn _ ⟨IY g1 _ g3,by simpa using g2,by dsimp only;omega,by dsimp only;omega,?_,?_⟩ (by dsimp only;omega)
   ·intro m hm;have e:(((n:Nat):Int)+1).toNat=n+1:=by omega
    simp only[e,Int.toNat_natCast] at hm⊢;rw[getD_set_ne (by omega)];have:=congrArg (fun l=>l.getD (m-(n+b.length)) 0) g6;have h':p.getD m 0=o.getD m 0:=by simpa[iw,zJ,show n+b.length+(m-(n+b.length))=m by omega] using this
    rw[h'];exact hz m (by omega)
   ·have e:(((n:Nat):Int)+1).toNat=n+1:=by omega
    simp only[e,Int.toNat_natCast];rw[show n+1+b.length=n+b.length+1 by omega,dD,dK<|bG _,dR (by omega),g7,h5,dD a,fe<|bG _,ll,fp]
 ·have hc:=bV hc;have Lx:n=a.length:=by omega
  subst Lx;refine Yd.kD (zb h1 (by omega)) fun w ⟨q1,q2,q3⟩=>Yd.mk ⟨q1,?_,by omega⟩
  rw[q2];rw[fe (l:=o) (by omega),fe (l:=a) (by omega)] at h5;exact h5
def H6(h:i<n):((u.drop j).take n).getD i 0=u.getD (j+i) 0:=by
 simp[iw,Bi,h,zJ]
def oO{α:Type}{g:Bool}{d:α}{e:auz α}{K:α->auz ρ}(h:g=false):fT g d e K=K d:=by subst h;rfl
def dJ{α:Type}{g:Bool}{d:α}{e:auz α}{K:α->auz ρ}(h:g=true):fT g d e K=bd e K:=by subst h;rfl
def Z1(hu:rR u)(hv:rR v)(WT:v.length=k+2)(WV:j+(k+3)<=u.length)(hlen:u.length<4398046511)(aax:BT<=2*v.getD (k+1) 0)
 (hw:w=(u.drop j).take (k+3))(hlt:aH w<BT*aH v):
  Yd (fun q=>(0<=q/\q<BT)/\(q-1)*aH v<=aH w/\aH w<(q+1)*aH v) (rW u v (j:Int)):=by
 unfold rW;have hwo:rR w:=by rw[hw];exact mX (zg hu _) _
 have hwl:w.length=k+3:=by rw[hw,List.length_take,nD];omega
 have eU:=ZC hwl;have eV:=ZD WT;obtain⟨bU0,bU1⟩:=ct<|mX hwo k
 obtain⟨bV0,bV1⟩:=ct<|mX hv k
 rw[List.length_take,fW (by omega)] at bU1 bV1;have hP:=sy k;have hu0:=ig hwo k;have hu1:=ig hwo<|k+1
 have hu2:=ig hwo<|k+2
 have L7:=ig hv k;have hv1:=ig hv<|k+1
 have w0:u.getD (j+k) 0=w.getD k 0:=by rw[hw,H6 (by omega)]
 have w1:u.getD (j+(k+1)) 0=w.getD (k+1) 0:=by rw[hw,H6 (by omega)]
 have w2:u.getD (j+(k+2)) 0=w.getD (k+2) 0:=by rw[hw,H6 (by omega)]
 have hVP:0<=aH v:=(ct hv).1;have hU0:0<=aH w:=(ct hwo).1;have ahA:w.getD (k+2) 0<=v.getD (k+1) 0:=aiV hP bU0 hu0.1 hu1.1 bV1 L7.2 (by rw[<-eU,<-eV];exact hlt);have e1:((v.length:Int)-1)=((k+1:Nat):Int):=by omega
 have e2:((v.length:Int)-2)=((k:Nat):Int):=by omega
 have e3:((j:Int)+(v.length:Int))=((j+(k+2):Nat):Int):=by omega
 have e4:(((j+(k+2):Nat):Int)-1)=((j+(k+1):Nat):Int):=by omega
 have e5:(((j+(k+2):Nat):Int)-2)=((j+k:Nat):Int):=by omega
 rw[e1,e2,e3];have i2:bj u ((j+(k+2):Nat):Int)=some (w.getD (k+2) 0):=by rw[<-w2];exact b9 (by omega)
 have i1:bj u ((j+(k+1):Nat):Int)=some (w.getD (k+1) 0):=by rw[<-w1];exact b9 (by omega)
 have i0:bj u ((j+k:Nat):Int)=some (w.getD k 0):=by rw[<-w0];exact b9 (by omega)
 have v1:bj v ((k+1:Nat):Int)=some (v.getD (k+1) 0):=b9 (by omega);have v0:bj v ((k:Nat):Int)=some (v.getD k 0):=b9 (by omega);clear w0 w1 w2 hw
 generalize w.getD (k+2) 0=U2 at*
 generalize w.getD (k+1) 0=U1 at*
 generalize w.getD k 0=U0 at*
 generalize v.getD (k+1) 0=V1 at*
 generalize v.getD k 0=V0 at*
 have hV1:0<V1:=by unfold BT at*;omega
 have hT:0<=U2*1000000000+U1/\U2*1000000000+U1<1000000000000000000:=by unfold BT at*;omega
 refine Yd.bd (aM ⟨by omega,by omega⟩) (Yd.bd i2 (Yd.bd (aM ⟨by omega,by unfold BT at*;omega⟩) (Yd.bd (aM ⟨by omega,by omega⟩) ?_)));rw[e4];refine Yd.bd (aM ⟨by omega,by omega⟩) (Yd.bd i1 (Yd.bd (aM ⟨by omega,by omega⟩) (Yd.bd (aM ⟨by omega,by omega⟩) (Yd.bd v1 (Yd.bd (div_pos hT.1 hV1 (by omega)) (Yd.bd (aM ⟨by omega,by omega⟩)<|Yd.bd v1<|Yd.bd (yp hT.1 hV1) ?_))))));have ht0:=rn hT.1<|gj hV1
 have WW:=sT (U2*1000000000+U1) (show V1≠0 by omega);have hr1:=rr (U2*1000000000+U1) hV1;have hdm:=Int.mul_ediv_add_emod (U2*1000000000+U1) V1;have ht1:(U2*1000000000+U1)/V1<=1000000001:=by
  apply Int.le_of_lt_add_one;apply Jz hV1;have:(1000000001+1)*V1=1000000000*V1+2*V1:=by omega
  unfold BT at*;omega
 have ai6:∀t r:Int,t*V1+r=U1+BT*U2->BT<=r->t<BT:=fun t r e h=>by
  refine Int.lt_of_mul_lt_mul_right (a:=V1) ?_<|gj hV1
  have:BT*U2<=BT*V1:=kc ahA (by unfold BT;omega);unfold BT at*;omega
 refine Yd.lp (fun s:Int×Int=>(0<=s.1/\s.1<=1000000001)/\(0<=s.2/\s.2<BT)/\s.1*V1+s.2=U1+BT*U2/\aH w<(s.1+1)*aH v) (fun s=>s.1.toNat) ?_ _ _ ⟨⟨ht0,ht1⟩,⟨WW,by unfold BT at*;dsimp only;omega⟩,?_,?_⟩ (by dsimp only;omega)
 rotate_left
 ·dsimp only;rw[Int.mul_comm _ V1,hdm];unfold BT;omega
 ·dsimp only;have:=agj (u0:=U0) (v0:=V0) (q:=(U2*1000000000+U1)/V1) (r:=(U2*1000000000+U1)%V1) (U2:=U1+BT*U2) (v1:=V1) (by rw[Int.mul_comm _ V1,hdm];unfold BT;omega) hr1 hu0.2 ht0 L7.1;have:=YB hP bU1 bV0 (show 0<=(U2*1000000000+U1)/V1+1 by omega) this;rw[<-eU,<-eV] at this;exact this
 clear ht0 WW hr1 hdm ht1 hT;rintro next ⟨t,r⟩ ⟨⟨h1,h1'⟩,⟨h2,h2'⟩,h3,h4⟩ hn
 dsimp only at h1 h1' h2 h2' h3 h4 hn⊢;have fin:∀q R:Int,(0<=q/\q<BT)->0<=R->q*V1+R=U1+BT*U2->aH w<(q+1)*aH v->(BT<=R\/q*V0<=BT*R+U0)->Yd (fun q=>(0<=q/\q<BT)/\(q-1)*aH v<=aH w/\aH w<(q+1)*aH v) (some q):=fun q R hq hR e hup hh=>by
  refine Yd.mk ⟨hq,?_,hup⟩;have:=agk (P:=jJ k) (UL:=aH<|w.take k) (VL:=aH<|v.take k) e hq hR L7 hu0.1 aax hh hP bU0 bV1 bV0;rw[<-eU,<-eV] at this;exact this
 have step:aH w<t*aH v->Yd (fun q=>(0<=q/\q<BT)/\(q-1)*aH v<=aH w/\aH w<(q+1)*aH v) (bd (aF<|t-1) fun Tj=>bd (aF ((k+1:Nat):Int)) fun B7=>bd (bj v B7) fun PI=>bd (aF<|r+PI) fun PH=>cond (decide<|1000000000<=PH) (some Tj)<|next (Tj,PH)):=fun hUq=>by
  have hq1:1<=t:=by
   rcases(show 1<=t\/t=0 by omega) with h|h
   ·exact h
   ·rw[h,Jm] at hUq;omega
  refine Yd.bd (aM ⟨by omega,by omega⟩) (Yd.bd (aM ⟨by omega,by omega⟩) (Yd.bd v1 (Yd.bd (aM ⟨by omega,by unfold BT at*;omega⟩)<|Yd.cond (fun hc=>?_)<|fun hc=>?_)))
  ·have hc:=bg hc;have hc:BT<=r+V1:=hc;have e:(t-1)*V1+(r+V1)=U1+BT*U2:=by rw[Int.sub_mul,Int.one_mul];omega
   exact fin (t-1) (r+V1) ⟨by omega,ai6 _ _ e hc⟩ (by omega) e (by rw[show t-1+1=t by omega];exact hUq)<| .inl hc
  ·have hc:=bV hc;have hc: ¬BT<=r+V1:=hc;refine hn _ ⟨⟨by dsimp only;omega,by dsimp only;omega⟩,⟨by dsimp only;omega,by dsimp only;omega⟩,?_,?_⟩ (by dsimp only;omega)
   ·dsimp only;rw[Int.sub_mul,Int.one_mul];omega
   ·dsimp only;rw[show t-1+1=t by omega];exact hUq
 by_cases hb:(1000000000:Int)<=t
 ·have hd:=bp hb;have g1:gd (decide<|(1000000000:Int)<=t) false=false:=by rw[hd];rfl
  repeat rw[oO g1]
  refine Yd.cond (fun _=>step ?_) (fun h=>by rw[hd,FA] at h;cases h);have:BT*aH v<=t*aH v:=uu (by unfold BT;omega) hVP;omega
 ·have hd:=bU hb;have g1:gd (decide<|(1000000000:Int)<=t) false=true:=by rw[hd];rfl
  have hb0:0<=t*V0/\t*V0<=1000000000*1000000000:=⟨rm h1 L7.1,wH (by omega) (by unfold BT at*;omega) L7.1 (by omega)⟩;rw[dJ g1];refine Yd.bd (aM ⟨by omega,by omega⟩) ?_;rw[dJ g1];refine Yd.bd v0 ?_;rw[dJ g1];refine Yd.bd (aM ⟨by omega,by omega⟩) ?_;rw[dJ g1];refine Yd.bd (aM ⟨by omega,by unfold BT at*;omega⟩) ?_;rw[dJ g1];refine Yd.bd (aM ⟨by omega,by omega⟩) ?_;rw[e5,dJ g1];refine Yd.bd (aM ⟨by omega,by omega⟩) ?_;rw[dJ g1];refine Yd.bd i0 ?_;rw[dJ g1];refine Yd.bd (aM ⟨by omega,by unfold BT at*;omega⟩)<|Yd.cond (fun hc=>?_)<|fun hc=>?_
  ·rw[hd,yD] at hc;have hc:=bg hc;refine step ?_;have hUq:=YB hP bU1 bV0 h1 (agi (q:=t) (r:=r) (v1:=V1) (U2:=U1+BT*U2) (u0:=U0) (v0:=V0) h3 (by unfold BT;omega));rw[<-eU,<-eV] at hUq;exact hUq
  ·rw[hd,yD] at hc;have hc:=bV hc;exact fin t r ⟨h1,by unfold BT;omega⟩ h2 h3 h4 (.inr (by unfold BT;omega))
def ag0:(l.set (j+i) x).drop j=(l.drop j).set i x:=by
 rw[List.drop_set,if_neg (by omega),Nat.add_sub_cancel_left]
def Rl:(l.drop j).getD i 0=l.getD (j+i) 0:=by
 simp[iw,zJ]
def Wp{t:Int}{aez:asv Int×Int×Int->auz ρ}(hu:rR u)(hv:rR v)(WT:v.length=n)(hj:j+n<=u.length)(hl:u.length<4398046511)(ht:0<=t/\t<BT)
 (h:∀u2 b,rR u2->u2.length=u.length->u2.take j=u.take j->(∀m,j+n<=m->u2.getD m 0=u.getD m 0)->(0<=b/\b<BT)->aH ((u2.drop j).take n)=aH ((u.drop j).take n)-t*aH v+jJ n*b->Yd R (aez (u2,b,(n:Int)))):
  Yd R (lp 18446744073709551616 (fun(k46:(asv Int×Int×Int)->auz ρ) (rB:asv Int×Int×Int)=>
        cond (decide<|rB.2.2<(v.length:Int)) (
         bd (bj v rB.2.2) fun B7=>
         bd (aF<|t*B7) fun PI=>
         bd (aF<|PI+rB.2.1) fun PH=>
         bd (aF<|rB.2.2+(j:Int)) fun Tw=>
         bd (bj rB.1 Tw) fun Mk=>
         bd (bj rB.1 Tw) fun Mj=>
         bd (tC PH (1000000000:Int)) fun Tv=>
         bd (aF<|Mj-Tv) fun DT=>
         bd (wb PH (1000000000:Int)) fun Ru=>
         jn (fun(s66:Int×Int)=>
          bd (aF<|rB.2.2+(j:Int)) fun LG=>
          bd (bj rB.1 LG) fun x75=>
          bd (bj rB.1 LG) fun x77=>
          bd (aF<|rB.2.2+(1:Int)) fun Th=>
          k46 ((rB.1.set (LG).toNat s66.2),s66.1,Th)
         ) fun k67=>
         cond (decide<|DT<(0:Int)) (
          bd (aF<|DT+(1000000000:Int)) fun Zo=>
          bd (aF<|Ru+(1:Int)) fun Zn=>
          k67 (Zn,Zo)
         ) (
          k67 (Ru,DT)
         )
        ) (aez rB)) (u,(0:Int),(0:Int))):=by
 subst WT;refine Yd.lp (fun s:asv Int×Int×Int=>rR s.1/\s.1.length=u.length/\s.1.take j=u.take j/\(∀m,j+s.2.2.toNat<=m->s.1.getD m 0=u.getD m 0)/\(0<=s.2.1/\s.2.1<BT)/\(0<=s.2.2/\s.2.2<=v.length)/\aH ((s.1.drop j).take s.2.2.toNat)=aH ((u.drop j).take s.2.2.toNat)-t*aH (v.take s.2.2.toNat)+jJ s.2.2.toNat*s.2.1)
  (fun s=>v.length-s.2.2.toNat) ?_ _ _ ⟨hu,rfl,rfl,fun _ _=>rfl,⟨by dsimp only;omega,by dsimp only;unfold BT;omega⟩,⟨by dsimp only;omega,by dsimp only;omega⟩,by simp[aH]⟩ (by dsimp only;omega)
 rintro next ⟨p,c,z⟩ ⟨g1,g2,g3,g4,g5,⟨g6,g6'⟩,g7⟩ hn
 dsimp only at g1 g2 g3 g4 g5 g6 g6' g7 hn⊢;obtain⟨i,rfl⟩:=gQ g6;simp only[Int.toNat_natCast,ur] at*;refine Yd.cond (fun hc=>?_)<|fun hc=>?_
 ·have hc:=bg hc;have hi:i<v.length:=by omega
  have hx:=ig hv i;have hy:=ig g1<|j+i
  have hm0:0<=t*v.getD i 0:=rm ht.1 hx.1;have hm1:t*v.getD i 0<=(BT-1)*(BT-1):=wH (by omega) (by omega) hx.1 (by unfold BT;omega);have ej:(((i:Nat):Int)+((j:Nat):Int))=((j+i:Nat):Int):=by omega
  have gu:p.getD (j+i) 0=u.getD (j+i) 0:=g4 _<|bG _
  refine Yd.bd (b9 hi) (Yd.bd (aM ⟨by omega,by unfold BT at*;omega⟩) (Yd.bd (aM ⟨by omega,by unfold BT at*;omega⟩) (Yd.bd (aM ⟨by omega,by omega⟩) ?_)));rw[ej];have step:∀d x:Int,(0<=d/\d<BT)->(0<=x/\x<BT)->x=u.getD (j+i) 0-(t*v.getD i 0+c)+BT*d->
    Yd R (bd (aF ((j+i:Nat):Int)) fun LG=>bd (bj p LG) fun x75=>bd (bj p LG) fun x77=>bd (aF<|((i:Nat):Int)+(1:Int)) fun Th=>next ((p.set (LG).toNat x),d,Th)):=by
   intro d x hd VR hxe;refine Yd.bd (aM ⟨by omega,by omega⟩) (Yd.bd (b9 (by omega)) (Yd.bd (b9 (by omega)) (Yd.bd (aM ⟨by omega,by omega⟩)<|hn _ ⟨IY g1 _ VR,?_,?_,?_,hd,⟨?_,?_⟩,?_⟩ ?_)))
   ·simpa using g2
   ·rw[Int.toNat_natCast,dK (by omega)];exact g3
   ·intro m hm;dsimp only at hm⊢;rw[Int.toNat_natCast,getD_set_ne (by omega)];exact g4 m (by omega)
   ·dsimp only;omega
   ·dsimp only;omega
   ·dsimp only;have e:(((i:Nat):Int)+1).toNat=i+1:=by omega
    rw[e,Int.toNat_natCast,ag0,dD,dK<|bG _,dR (by rw[nD];omega),dD,dD,g7,Rl,kn,hxe]
    generalize u.getD (j+i) 0=X at*
    generalize v.getD i 0=Y at*
    rw[bC t,iU t];have:jJ i*(X-(t*Y+c)+BT*d)=jJ i*X-jJ i*(t*Y)-jJ i*c+BT*jJ i*d:=by
     generalize t*Y=q
     rw[bC,mK,bC (jJ i) q c,iU (jJ i) BT d,<-fp BT];omega
    omega
   ·dsimp only;omega
  rw[gu] at hy;refine Yd.bd (b9 (by omega)) (Yd.bd (b9 (by omega)) (Yd.bd (yp (by omega) (by omega)) ?_));rw[gu]
  generalize hq:t*v.getD i 0=q at*
  refine Yd.bd (aM ⟨by unfold BT at*;omega,by unfold BT at*;omega⟩) (Yd.bd (div_pos (by omega) (by omega) (by unfold BT at*;omega)) ?_);refine Yd.jn (fun s:Int×Int=>(0<=s.1/\s.1<BT)/\(0<=s.2/\s.2<BT)/\s.2=u.getD (j+i) 0-(q+c)+BT*s.1) (fun s hs=>step s.1 s.2 hs.1 hs.2.1 hs.2.2) fun k hk=>Yd.cond (fun hd=>?_)<|fun hd=>?_
  ·have hd:=bg hd;refine Yd.bd (aM ⟨by unfold BT at*;omega,by unfold BT at*;omega⟩) (Yd.bd (aM ⟨by unfold BT at*;omega,by unfold BT at*;omega⟩)<|hk _ ⟨?_,?_,?_⟩)<;>(dsimp only;unfold BT at*;omega)
  ·have hd:=bV hd;refine hk _ ⟨?_,?_,?_⟩<;>(dsimp only;unfold BT at*;omega)
 ·have hc:=bV hc;have hi:i=v.length:=by omega
  subst hi;refine h p c g1 g2 g3 g4 g5 ?_;rw[fe (l:=v)<|bG _] at g7;exact g7
def Uk{aez:asv Int×Int×Int->auz ρ}(hu:∀m,m≠j+n->0<=u.getD m 0/\u.getD m 0<BT)(hv:rR v)(WT:v.length=n)(hj:j+n<u.length)(hl:u.length<4398046511)
 (h:∀u2 b,u2.length=u.length->u2.take j=u.take j->(∀m,j+n<=m->u2.getD m 0=u.getD m 0)->(∀m,m≠j+n->0<=u2.getD m 0/\u2.getD m 0<BT)->(b=0\/b=1)->aH ((u2.drop j).take n)+jJ n*b=aH ((u.drop j).take n)+aH v->Yd R (aez (u2,b,(n:Int)))):
  Yd R (lp 18446744073709551616 (fun(aau:(asv Int×Int×Int)->auz ρ) (kN:asv Int×Int×Int)=>
           cond (decide<|kN.2.2<(v.length:Int)) (
            bd (aF<|kN.2.2+(j:Int)) fun Np=>
            bd (bj kN.1 Np) fun Zv=>
            bd (bj kN.1 Np) fun TA=>
            bd (bj v kN.2.2) fun Rw=>
            bd (aF<|TA+Rw) fun Tz=>
            bd (aF<|Tz+kN.2.1) fun No=>
            bd (aF<|kN.2.2+(j:Int)) fun LJ=>
            bd (tC No (1000000000:Int)) fun Zu=>
            bd (bj kN.1 LJ) fun ah6=>
            bd (bj kN.1 LJ) fun ah5=>
            bd (wb No (1000000000:Int)) fun Zt=>
            bd (aF<|kN.2.2+(1:Int)) fun Zr=>
            aau ((kN.1.set (LJ).toNat Zu),Zt,Zr)
           ) (aez kN)) (u,(0:Int),(0:Int))):=by
 subst WT;refine Yd.lp (fun s:asv Int×Int×Int=>s.1.length=u.length/\s.1.take j=u.take j/\(∀m,j+s.2.2.toNat<=m->s.1.getD m 0=u.getD m 0)/\(∀m,m≠j+v.length->0<=s.1.getD m 0/\s.1.getD m 0<BT)/\(s.2.1=0\/s.2.1=1)/\(0<=s.2.2/\s.2.2<=v.length)/\aH ((s.1.drop j).take s.2.2.toNat)+jJ s.2.2.toNat*s.2.1=aH ((u.drop j).take s.2.2.toNat)+aH (v.take s.2.2.toNat))
  (fun s=>v.length-s.2.2.toNat) ?_ _ _ ⟨rfl,rfl,fun _ _=>rfl,hu,.inl rfl,⟨by dsimp only;omega,by dsimp only;omega⟩,by simp[aH]⟩ (by dsimp only;omega)
 rintro next ⟨p,c,z⟩ ⟨g2,g3,g4,g1,g5,⟨g6,g6'⟩,g7⟩ hn
 dsimp only at g1 g2 g3 g4 g5 g6 g6' g7 hn⊢;obtain⟨i,rfl⟩:=gQ g6;simp only[Int.toNat_natCast,ur] at*;refine Yd.cond (fun hc=>?_)<|fun hc=>?_
 ·have hc:=bg hc;have hi:i<v.length:=by omega
  have hx:=ig hv i;have hy:=g1 (j+i) (by omega);have ej:(((i:Nat):Int)+((j:Nat):Int))=((j+i:Nat):Int):=by omega
  have gu:p.getD (j+i) 0=u.getD (j+i) 0:=g4 _<|bG _
  rw[ej];rw[gu] at hy;have hS:0<=u.getD (j+i) 0+v.getD i 0+c/\u.getD (j+i) 0+v.getD i 0+c<2000000000:=by unfold BT at*;omega
  have i1:bj p ((j+i:Nat):Int)=some (u.getD (j+i) 0):=by rw[<-gu];exact b9 (by omega)
  have hdm:u.getD (j+i) 0+v.getD i 0+c=(u.getD (j+i) 0+v.getD i 0+c)%1000000000+BT*((u.getD (j+i) 0+v.getD i 0+c)/1000000000):=by unfold BT;omega
  have hr:0<=(u.getD (j+i) 0+v.getD i 0+c)%1000000000/\(u.getD (j+i) 0+v.getD i 0+c)%1000000000<BT:=by unfold BT;omega
  have hd:(u.getD (j+i) 0+v.getD i 0+c)/1000000000=0\/(u.getD (j+i) 0+v.getD i 0+c)/1000000000=1:=by omega
  refine Yd.bd (aM ⟨by omega,by omega⟩) (Yd.bd i1 (Yd.bd i1 (Yd.bd (b9 hi) (Yd.bd (aM ⟨by omega,by unfold BT at*;omega⟩) (Yd.bd (aM ⟨by omega,by omega⟩) (Yd.bd (aM ⟨by omega,by omega⟩) (Yd.bd (yp hS.1 (by omega)) (Yd.bd i1 (Yd.bd i1 (Yd.bd (div_pos hS.1 (by omega) (by omega)) (Yd.bd (aM ⟨by omega,by omega⟩)<|hn _ ⟨?_,?_,?_,?_,hd,⟨?_,?_⟩,?_⟩ ?_)))))))))))
  ·simpa using g2
  ·rw[Int.toNat_natCast,dK (by omega)];exact g3
  ·intro m hm;dsimp only at hm⊢;rw[Int.toNat_natCast,getD_set_ne (by omega)];exact g4 m (by omega)
  ·intro m hm;dsimp only;rw[Int.toNat_natCast];by_cases e:m=j+i
   ·subst e;rw[dR (by omega)];exact hr
   ·rw[getD_set_ne e];exact g1 m hm
  ·dsimp only;omega
  ·dsimp only;omega
  ·dsimp only;have e:(((i:Nat):Int)+1).toNat=i+1:=by omega
   rw[e,Int.toNat_natCast,ag0,dD,dK<|bG _,dR (by rw[nD];omega),dD,dD,Rl,kn]
   generalize (u.getD (j+i) 0+v.getD i 0+c)%1000000000=r at*
   generalize (u.getD (j+i) 0+v.getD i 0+c)/1000000000=d at*
   generalize u.getD (j+i) 0=X at*
   generalize v.getD i 0=Y at*
   have:jJ i*r+BT*jJ i*d=jJ i*X+jJ i*Y+jJ i*c:=by
    rw[Int.mul_comm BT,fp,<-bC,<-bC,<-bC,<-hdm]
   omega
  ·dsimp only;omega
 ·have hc:=bV hc;have hi:i=v.length:=by omega
  subst hi;refine h p c g2 g3 g4 g1 g5 ?_;rw[fe (l:=v)<|bG _] at g7;exact g7
def XT{t:Int}(h1:1<=t)(h2:t<1000000000)(hf:f=1000000000/(t+1)):1<=f/\f<=500000000/\(t+1)*f<=1000000000/\1000000000<=2*(t*f):=by
 have hp:(0:Int)<t+1:=by omega
 have a1:(t+1)*f<=1000000000:=by rw[hf,Int.mul_comm];exact Int.ediv_mul_le _ (by omega)
 have a2:1000000000<(f+1)*(t+1):=by rw[hf];exact Int.lt_ediv_add_one_mul_self _ hp
 have a3:1<=f:=by
  rw[hf];exact(Int.le_ediv_iff_mul_le hp).2 (by omega)
 have a4:f<=500000000:=by
  have:2*f<=(t+1)*f:=uu (by omega) (by omega);omega
 refine⟨a3,a4,a1,?_⟩;rw[ll,Int.one_mul] at a2;have e:(t+1)*f=t*f+f:=by rw[ll,Int.one_mul]
 have e2:f*(t+1)=t*f+f:=by rw[bC,qa,Int.mul_comm f t]
 rw[e] at a1;rw[e2] at a2;have hP:t<=t*f:=by
  have:t*1<=t*f:=kc a3 (by omega);omega
 rcases(show t=1\/1000000000<=2*t\/(2<=t/\2*t<=999999998) by omega) with h|h|⟨h,h'⟩
 ·subst h;omega
 ·omega
 ·rcases(show 1000000000<=2*(t*f)\/2*(t*f)<=999999999 by omega) with h3|h3
  ·exact h3
  ·exfalso;have b1:t*(1000000000-t)<=t*(t*f+f):=kc (by omega) (by omega);have b2:t*(2*(t*f))<=t*999999999:=kc h3 (by omega);have b3:0<(t-1)*(999999999-2*t):=Int.mul_pos (by omega) (by omega);rw[mK] at b1;rw[bC] at b1;rw[iU] at b2;rw[Int.sub_mul,Int.one_mul,mK,iU t 2 t] at b3
   generalize t*t=T at*
   generalize t*(t*f)=Q at*
   generalize t*f=P at*
   omega
def aiL(hb:td b)(hbl:b.length=k+2)(hf:f=1000000000/(b.getD (k+1) 0+1))(hv:td v)(hvv:aH v=aH b*f):
  v.length=k+2/\BT<=2*v.getD (k+1) 0/\jJ (k+1)*f<=aH v/\1<=f/\f<=500000000:=by
 have hP:=sy<|k+1
 have hb0:b≠[]:=by intro e;subst e;simp at hbl
 have l1:=vt hb.1 hb0 hb.2;rw[hbl,show k+2-1=k+1 by omega] at l1;have l2:=nL (l:=b) (n:=k+1) (by omega);rw[fe (by omega)] at l2;obtain⟨l3,l4⟩:=ct<|mX hb.1<|k+1
 rw[List.length_take,fW (by omega)] at l4;have ht:=ig hb.1<|k+1
 generalize b.getD (k+1) 0=t at*
 have h1:1<=t:=by
  rcases(show 1<=t\/t=0 by omega) with h|h
  ·exact h
  ·rw[h] at l2;omega
 obtain⟨f1,f2,f3,f4⟩:=XT h1 (by unfold BT at ht;omega) hf;have u1:(aH b+1)*f<=(jJ (k+1)*(t+1))*f:=uu (by rw[bC,qa];omega) (by omega);rw[ll,Int.one_mul,fp] at u1;have u2:jJ (k+1)*((t+1)*f)<=jJ (k+1)*BT:=kc (by unfold BT;omega) (by omega);have u3:(jJ (k+1)*t)*f<=aH b*f:=uu (by omega) (by omega);rw[fp] at u3;have u4:jJ (k+1)*1<=jJ (k+1)*(t*f):=kc (by omega) (by omega);have u5:jJ (k+1)*f<=jJ (k+1)*(t*f):=kc (by
  have:1*f<=t*f:=uu h1 (by omega);omega) (by omega)
 rw[<-hvv] at u1 u3;have al4:v.length<=k+2:=hv.len (by rw[kn,Int.mul_comm];omega);have OW:k+2<=v.length:=by
  rcases ln v.length (k+2) with h|h
  ·have a:=(ct hv.1).2;have b:=Uo (show v.length<=k+1 by omega);omega
  ·exact h
 have hlen:v.length=k+2:=by omega
 refine⟨hlen,?_,by omega,f1,f2⟩;have m2:=nL (l:=v) (n:=k+1) (by omega);rw[fe (by omega)] at m2;obtain⟨m3,m4⟩:=ct<|mX hv.1<|k+1
 rw[List.length_take,fW (by omega)] at m4;have m5:jJ (k+1)*(t*f)<jJ (k+1)*(v.getD (k+1) 0+1):=by rw[bC,qa];omega
 have m6:=M0 m5<|gj hP
 unfold BT;omega
def afL{x:asv Int}{L:Nat}{K:asv Int->auz ρ}(hx:rR x)(hl:x.length<=L+1)(hL:L<109951162)(h:∀u,rR u->u.length=L+1->aH u=aH x->Yd R (K u)):
  Yd R (lp 18446744073709551616 (fun(OO:(asv Int)->auz ρ) (re:(asv Int))=>
    bd (aF<|(L:Int)+(1:Int)) fun pr=>
    cond (decide<|(re.length:Int)<pr) (bd (fB 8 re ([(0:Int)]:asv Int)) fun sv=>OO sv) (K re)) x):=by
 refine Yd.lp (fun s:asv Int=>rR s/\s.length<=L+1/\aH s=aH x) (fun s=>L+1-s.length) ?_ _ _ ⟨hx,hl,rfl⟩ (by omega);rintro next s ⟨h1,h2,h3⟩ hn
 refine Yd.bd (aM ⟨by omega,by omega⟩)<|Yd.cond (fun hc=>?_)<|fun hc=>?_
 ·have hc:=bg hc;refine Yd.bd (aen (by omega)) (hn _ ⟨?_,by rw[List.length_append,List.length_singleton];omega,?_⟩ (by rw[List.length_append,List.length_singleton];omega))
  ·rw[Cw];exact⟨h1,fun y hy=>by rw[vT] at hy;subst hy;unfold BT;omega⟩
  ·rw[oh];simp[aH,h3]
 ·have hc:=bV hc;exact h s h1 (by omega) h3
def acy(h:∀m,0<=l.getD m 0/\l.getD m 0<BT):rR l:=fun x hx=>by
 obtain⟨i,hi,rfl⟩:=List.getElem_of_mem hx;have:=h i;rwa [iw,kQ hi] at this
def NQ:∀{l:asv Int},(∀m,l.getD m 0=0)->aH l=0
 |[],_=>rfl
 |x::l,h=>by
  have h0:x=0:=by simpa using h 0
  have:=NQ (l:=l) fun m=>by simpa using h (m+1)
  rw[l8,h0,this];omega
def top_lt{A V:Int}{L:Nat}(hu:rR u)(WV:u.length=L+1)(hm:m+(k+2)=L+1)(hv:aH u=A*f)(hA:A<jJ L)(hf:1<=f)(hV:jJ (k+1)*f<=V):aH (u.drop m)<V:=by
 have h1:=pR u m (by omega);obtain⟨b0,b1⟩:=ct<|mX hu m
 have hP:=sy m;have e:jJ L=jJ m*jJ (k+1):=by rw[<-My];congr 1;omega
 have h2:(A+1)*f<=jJ L*f:=uu (by omega) (by omega);rw[ll,Int.one_mul,e,fp] at h2;have h3:jJ m*(jJ (k+1)*f)<=jJ m*V:=kc hV (by omega);have h4:jJ m*aH (u.drop m)<jJ m*V:=by omega
 exact M0 h4 (by omega)
def ab4{K:asv Int×Int->auz ρ}(hu:rR u)(hv:rR v)(WT:v.length=k+2)(hj:j+(k+3)<=u.length)(hlen:u.length<439804651)(aax:BT<=2*v.getD (k+1) 0)(hlt:aH (u.drop<|j+1)<aH v)
 (h:∀l t,rR l->l.length=u.length->l.take j=u.take j->0<=t->t<BT->aH (l.drop j)=aH (u.drop j)-t*aH v->aH (l.drop j)<aH v->Yd R (K (l,t))):
  Yd R (bd (rW u v (j:Int)) fun B8=>
       lp 18446744073709551616 (fun(k46:(asv Int×Int×Int)->auz ρ) (rB:asv Int×Int×Int)=>
        cond (decide<|rB.2.2<(v.length:Int)) (
         bd (bj v rB.2.2) fun B7=>
         bd (aF<|B8*B7) fun PI=>
         bd (aF<|PI+rB.2.1) fun PH=>
         bd (aF<|rB.2.2+(j:Int)) fun Tw=>
         bd (bj rB.1 Tw) fun Mk=>
         bd (bj rB.1 Tw) fun Mj=>
         bd (tC PH (1000000000:Int)) fun Tv=>
         bd (aF<|Mj-Tv) fun DT=>
         bd (wb PH (1000000000:Int)) fun Ru=>
         jn (fun(s66:Int×Int)=>
          bd (aF<|rB.2.2+(j:Int)) fun LG=>
          bd (bj rB.1 LG) fun x75=>
          bd (bj rB.1 LG) fun x77=>
          bd (aF<|rB.2.2+(1:Int)) fun Th=>
          k46 ((rB.1.set (LG).toNat s66.2),s66.1,Th)
         ) fun k67=>
         cond (decide<|DT<(0:Int)) (
          bd (aF<|DT+(1000000000:Int)) fun Zo=>
          bd (aF<|Ru+(1:Int)) fun Zn=>
          k67 (Zn,Zo)
         ) (
          k67 (Ru,DT)
         )
        ) (
         bd (aF<|(j:Int)+(v.length:Int)) fun zX=>
         bd (aF<|(j:Int)+(v.length:Int)) fun x83=>
         bd (bj rB.1 x83) fun x85=>
         bd (bj rB.1 x83) fun x87=>
         bd (aF<|x87-rB.2.1) fun J7=>
         bd (bj rB.1 zX) fun XM=>
         bd (bj rB.1 zX) fun XL=>
         bd (aF<|(j:Int)+(v.length:Int)) fun VK=>
         bd (bj (rB.1.set (zX).toNat J7) VK) fun x97=>
         bd (bj (rB.1.set (zX).toNat J7) VK) fun VZ=>
         jn (fun(Uf:asv Int×Int)=>K Uf) fun WO=>
         cond (decide<|VZ<(0:Int)) (
          bd (aF<|B8-(1:Int)) fun TB=>
          lp 18446744073709551616 (fun(aau:(asv Int×Int×Int)->auz ρ) (kN:asv Int×Int×Int)=>
           cond (decide<|kN.2.2<(v.length:Int)) (
            bd (aF<|kN.2.2+(j:Int)) fun Np=>
            bd (bj kN.1 Np) fun Zv=>
            bd (bj kN.1 Np) fun TA=>
            bd (bj v kN.2.2) fun Rw=>
            bd (aF<|TA+Rw) fun Tz=>
            bd (aF<|Tz+kN.2.1) fun No=>
            bd (aF<|kN.2.2+(j:Int)) fun LJ=>
            bd (tC No (1000000000:Int)) fun Zu=>
            bd (bj kN.1 LJ) fun ah6=>
            bd (bj kN.1 LJ) fun ah5=>
            bd (wb No (1000000000:Int)) fun Zt=>
            bd (aF<|kN.2.2+(1:Int)) fun Zr=>
            aau ((kN.1.set (LJ).toNat Zu),Zt,Zr)
           ) (
            bd (aF<|(j:Int)+(v.length:Int)) fun Tx=>
            bd (aF<|(j:Int)+(v.length:Int)) fun Zq=>
            bd (bj kN.1 Zq) fun alf=>
            bd (bj kN.1 Zq) fun ae9=>
            bd (aF<|ae9+kN.2.1) fun ae8=>
            bd (bj kN.1 Tx) fun ale=>
            bd (bj kN.1 Tx) fun ald=>
            WO ((kN.1.set (Tx).toNat ae8),TB)
           )
          ) ((rB.1.set (zX).toNat J7),(0:Int),(0:Int))
         ) (
          WO ((rB.1.set (zX).toNat J7),B8)
         )
        )
       ) (u,(0:Int),(0:Int))):=by
 have hVb:=ct hv;rw[WT] at hVb;have hP:=sy<|k+2
 have eW:aH (u.drop j)=u.getD j 0+BT*aH (u.drop<|j+1):=by rw[nW (by omega),l8]
 have hj0:=ig hu j;have hW0:0<=aH (u.drop j):=(ct<|zg hu j).1;have ap8:aH (u.drop j)<BT*aH v:=by unfold BT at*;omega
 have hzero:aH ((u.drop j).drop<|k+3)=0:=Pj (zg hu j) (by rw[nD];omega) (by
  rw[kn];have:BT*aH v<BT*jJ (k+2):=by unfold BT;omega
  omega)
 have eWw:aH (u.drop j)=aH ((u.drop j).take<|k+3):=by
  have:=pR (u.drop j) (k+3) (by rw[nD];omega);rw[hzero] at this;omega
 have hz:∀m,j+(k+3)<=m->u.getD m 0=0:=fun m hm=>by
  have:=NR (l:=u.drop j) hzero (zg hu j) (m:=m-j) (by omega);rwa [Rl,show j+(m-j)=m by omega] at this
 have aup:aH ((u.drop j).take<|k+3)=aH ((u.drop j).take<|k+2)+jJ (k+2)*u.getD (j+(k+2)) 0:=by rw[dD,Rl]
 refine Yd.kD (Z1 (k:=k) (j:=j) hu hv WT hj (by omega) aax rfl (by rw[<-eWw];exact ap8)) ?_;rintro t ⟨⟨ht0,ht1⟩,GV,hup⟩;rw[<-eWw] at GV hup;refine Wp (j:=j) (n:=k+2) hu hv WT (by omega) (by omega) ⟨ht0,ht1⟩ ?_;intro u2 b g1 g2 g3 g4 g5 g6;dsimp only;have en:((j:Int)+(v.length:Int))=((j+(k+2):Nat):Int):=by omega
 rw[en];have gt:u2.getD (j+(k+2)) 0=u.getD (j+(k+2)) 0:=g4 _<|bG _
 have hb2:=ig hu<|j+(k+2)
 have i2:bj u2 ((j+(k+2):Nat):Int)=some (u.getD (j+(k+2)) 0):=by rw[<-gt];exact b9 (by omega)
 have hS:=ct<|mX (zg g1 j)<|k+2
 rw[List.length_take,nD,fW (by omega)] at hS;refine Yd.bd (aM ⟨by omega,by omega⟩) (Yd.bd (aM ⟨by omega,by omega⟩) (Yd.bd i2 (Yd.bd i2 (Yd.bd (aM ⟨by unfold BT at*;omega,by unfold BT at*;omega⟩) (Yd.bd i2 (Yd.bd i2 (Yd.bd (aM ⟨by omega,by omega⟩) ?_)))))));rw[Int.toNat_natCast];have i3:bj (u2.set (j+(k+2))<|u.getD (j+(k+2)) 0-b) ((j+(k+2):Nat):Int)=some (u.getD (j+(k+2)) 0-b):=by
  rw[b9 (by rw[pk];omega),dR (by omega)]
 refine Yd.bd i3<|Yd.bd i3 ?_
 have eD:aH (u.drop j)-t*aH v=aH ((u2.drop j).take<|k+2)+jJ (k+2)*(u.getD (j+(k+2)) 0-b):=by
  rw[mK];omega
 rw[Int.sub_mul,Int.one_mul] at GV;rw[ll,Int.one_mul] at hup
 generalize u.getD (j+(k+2)) 0-b=y at*
 have hy1: -1<=y:=by
  rcases(show -1<=y\/y<= -2 by omega) with h|h
  ·exact h
  ·have:=kc h (gj hP);omega
 have hy2:y<=0:=by
  rcases(show y<=0\/1<=y by omega) with h|h
  ·exact h
  ·have:=kc h (gj hP);omega
 have fin:∀(l:asv Int) (t':Int),l.length=u.length->l.take j=u.take j->(∀m,j+(k+2)<m->l.getD m 0=u.getD m 0)->(∀m,m≠j+(k+2)->0<=l.getD m 0/\l.getD m 0<BT)->0<=t'->t'<BT->
   aH ((l.drop j).take<|k+2)=aH (u.drop j)-t'*aH v->aH ((l.drop j).take<|k+2)<aH v->∀l2,l2=l.set (j+(k+2)) 0->Yd R (K (l2,t')):=by
  intro l t' q1 q2 q3 q4 q5 q6 q7 q8 l2 To;have ok2:rR l2:=acy fun m=>by
   by_cases e:m=j+(k+2)
   ·subst e;rw[To,dR (by omega)];unfold BT;omega
   ·rw[To,getD_set_ne e];exact q4 m e
  have ev:aH (l2.drop j)=aH ((l.drop j).take<|k+2):=by
   have e1:=pR (l2.drop j) (k+2) (by rw[nD,To,pk];omega);have e2:(l2.drop j).take (k+2)=(l.drop j).take (k+2):=by rw[To,ag0,dK<|bG _]
   have e3:aH ((l2.drop j).drop<|k+2)=0:=NQ fun m=>by
    rw[Rl,Rl,To];by_cases e:m=0
    ·subst e;rw[ux,dR (by omega)]
    ·rw[<-uj,getD_set_ne (by omega),q3 _ (by omega)];exact hz _ (by omega)
   rw[e1,e2,e3];omega
  exact h l2 t' ok2 (by rw[To,pk];exact q1) (by rw[To,dK (by omega)];exact q2) q5 q6 (by rw[ev];exact q7) (by rw[ev];exact q8)
 refine Yd.jn (fun s:asv Int×Int=>∃l:asv Int,(l.length=u.length/\l.take j=u.take j/\(∀m,j+(k+2)<m->l.getD m 0=u.getD m 0)/\(∀m,m≠j+(k+2)->0<=l.getD m 0/\l.getD m 0<BT))/\(0<=s.2/\s.2<BT)/\aH ((l.drop j).take<|k+2)=aH (u.drop j)-s.2*aH v/\aH ((l.drop j).take<|k+2)<aH v/\s.1=l.set (j+(k+2)) 0) ?_ ?_
 ·rintro⟨l2,t'⟩ ⟨l,⟨q1,q2,q3,q4⟩,⟨q5,q6⟩,q7,q8,q9⟩;exact fin l t' q1 q2 q3 q4 q5 q6 q7 q8 l2 q9
 intro WO hk;refine Yd.cond (fun hc=>?_)<|fun hc=>?_
 ·have hc:=bg hc;have hy:y= -1:=by omega
  subst hy;have ht2:1<=t:=by
   rcases(show 1<=t\/t=0 by omega) with h|h
   ·exact h
   ·rw[h,Jm] at eD;omega
  refine Yd.bd (aM ⟨by omega,by unfold BT at*;omega⟩) ?_;refine Uk (j:=j) (n:=k+2) ?_ hv WT (by rw[pk];omega) (by rw[pk];omega) ?_
  ·intro m hm;rw[getD_set_ne hm];exact ig g1 m
  intro u4 c r1 r2 r3 r4 r5 r6;dsimp only;rw[pk] at r1;rw[dK (by omega)] at r2;have e6:((u2.set (j+(k+2))<| -1).drop j).take (k+2)=(u2.drop j).take (k+2):=by rw[ag0,dK<|bG _]
  rw[e6] at r6;have r4':u4.getD (j+(k+2)) 0= -1:=by rw[r3 _<|bG _,dR (by omega)]
  have i4:bj u4 ((j+(k+2):Nat):Int)=some (-1):=by rw[<-r4'];exact b9 (by omega)
  have O5:0<=aH ((u4.drop j).take<|k+2)/\aH ((u4.drop j).take<|k+2)<jJ (k+2):=by
   have ok:rR ((u4.drop j).take<|k+2):=acy fun m=>by
    by_cases e:m<k+2
    ·rw[H6 e];exact r4 _ (by omega)
    ·rw[AM (by rw[List.length_take];omega)];unfold BT;omega
   have:=ct ok;rwa [List.length_take,nD,fW (by omega)] at this
  have hc1:c=1:=by
   rcases r5 with h|h
   ·rw[h] at r6;omega
   ·exact h
  subst hc1;refine Yd.bd (aM ⟨by omega,by omega⟩) (Yd.bd (aM ⟨by omega,by omega⟩) (Yd.bd i4 (Yd.bd i4 (Yd.bd (aM ⟨by omega,by omega⟩) (Yd.bd i4 (Yd.bd i4 (hk _ ⟨u4,⟨by omega,by rw[r2,g3],?_,r4⟩,⟨by dsimp only;omega,by dsimp only;omega⟩,?_,?_,?_⟩)))))))
  ·intro m hm;rw[r3 m (by omega),getD_set_ne (by omega),g4 m (by omega)]
  ·dsimp only;rw[Int.sub_mul,Int.one_mul];omega
  ·omega
  ·dsimp only;rw[Int.toNat_natCast];rfl
 ·have hc:=bV hc;have hy:y=0:=by omega
  subst hy;refine hk _ ⟨u2,⟨g2,g3,fun m hm=>g4 m (by omega),fun m _=>ig g1 m⟩,⟨ht0,ht1⟩,?_,?_,rfl⟩
  ·dsimp only;omega
  ·omega
def ag8(h:l.length<1099511627776):fB 8 ([]:asv Int) l=some l:=by
 unfold fB;rw[CN,wG,bp (by omega),bp (by omega)];rfl
def A4(ha:td a)(hb:td b)(h0:b≠[])(hla:a.length<43980465)(hlb:b.length<43980465):
  Yd (fun p=>(td p.1/\td p.2)/\aH p.1=aH a/aH b/\aH p.2=aH a%aH b) (kY a b):=by
 unfold kY;have hbp:=hb.pos h0;have ha0:=(ct ha.1).1;refine Yd.kD (Aj ha hb (by omega) (by omega)) fun c hcmp=>Yd.cond (fun hc=>?_)<|fun hc=>Yd.cond (fun h1=>?_)<|fun h1=>?_
 ·have hc:=bg hc;have hlt:aH a<aH b:=by rcases hcmp with⟨_,h⟩|⟨h,_⟩|⟨h,_⟩<;>omega
  exact Yd.mk ⟨⟨td.nil,ha⟩,by rw[Int.ediv_eq_zero_of_lt ha0 hlt];rfl,(CS ha0 hlt).symm⟩
 ·have h1:=bg h1;obtain⟨d,rfl⟩:∃d,b=[d]:=MY.1 (by omega);have hd:aH [d]=d:=by simp[aH]
  rw[hd] at hbp⊢;have hd2:=hb.1 d (by simp);refine Yd.bd (x:=d) rfl (Yd.kD (IM ha.1 ⟨hbp,by unfold BT at hd2;omega⟩ (by omega)) ?_);rintro⟨w,r⟩ ⟨g1,g2,g3,g4⟩;dsimp only at g1 g2 g3⊢;have WW:=sT (aH a) (show d≠0 by omega);have hr1:=rr (aH a) hbp;have okr:rR [r]:=fun x hx=>by rw[vT] at hx;subst hx;omega
  refine Yd.kD (zb okr (by simp)) fun z ⟨q1,q2,_⟩=>Yd.mk ⟨⟨g1,q1⟩,g2,?_⟩
  rw[q2,<-g3];simp[aH]
 ·have h1:=bV h1;have hc:=bV hc;have W7:aH b<=aH a:=by rcases hcmp with⟨h,_⟩|⟨_,h⟩|⟨_,h⟩<;>omega
  have atM:0<b.length:=CU.2 h0;obtain⟨k,hk⟩:∃k,b.length=k+2:=⟨b.length-2,by omega⟩;have hal:k+2<=a.length:=by
   rcases ln a.length (k+2) with h|h
   ·have:=Cc ha.1 hb (by omega);omega
   ·exact h
  have e1:((b.length:Int)-1)=((k+1:Nat):Int):=by omega
  rw[e1];have hbt:=ig hb.1<|k+1
  generalize hf:1000000000/(b.getD (k+1) 0+1)=f
  have hdv:wb 1000000000 (b.getD (k+1) 0+1)=some f:=by rw[<-hf];exact div_pos (by omega) (by omega) (by omega)
  have hf0:0<=f/\f<=1000000000:=by rw[<-hf];exact⟨rn (by omega) (by omega),AG _ (by omega)⟩
  refine Yd.bd (aM ⟨by omega,by omega⟩) (Yd.bd (b9 (by omega)) (Yd.bd (aM ⟨by omega,by unfold BT at*;omega⟩)<|Yd.bd hdv ?_));have hf1:1<=f/\f<=500000000:=by
   have hb1:b.getD (k+1) 0≠0:=fun e=>by
    have l1:=vt hb.1 h0 hb.2;have l2:=nL (l:=b) (n:=k+1) (by omega);rw[fe (by omega),e] at l2;have l3:=(ct<|mX hb.1<|k+1).2;rw[List.length_take,fW (by omega)] at l3;rw[hk,show k+2-1=k+1 by omega] at l1;omega
   have:=XT (t:=b.getD (k+1) 0) (by omega) (by unfold BT at hbt;omega) hf.symm;exact⟨this.1,this.2.1⟩
  have okf:rR [f]:=fun x hx=>by rw[vT] at hx;subst hx;unfold BT;omega
  have vf:aH [f]=f:=by simp[aH]
  refine Yd.kD (A3 hb.1 okf (by omega) (by simp)) fun v ⟨v1,v2,v3⟩=>?_
  rw[vf] at v2;obtain⟨n1,n2,n3,_,_⟩:=aiL hb hk hf.symm v1 v2;refine Yd.kD (A3 ha.1 okf (by omega) (by simp)) fun u0 ⟨w1,w2,w3⟩=>?_
  rw[vf] at w2;rw[List.length_singleton] at w3;refine Yd.bd (ag8 (by omega)) (afL w1.1 w3 (by omega) ?_);intro u hu WV huv;rw[w2] at huv;obtain⟨m,hm⟩:∃m,m+1+(k+2)=a.length+1:=⟨a.length-(k+2),by omega⟩;have em:((u.length:Int)-(v.length:Int))=((m+1:Nat):Int):=by omega
  rw[em];refine Yd.bd (aM ⟨by omega,by omega⟩) (Yd.bd (I2 (by omega) (by omega) (by omega)) (Yd.bd (aM ⟨by omega,by omega⟩) (Yd.bd (aM ⟨by omega,by omega⟩) ?_)));rw[Int.toNat_natCast];have hAp:aH a<jJ a.length:=(ct ha.1).2;have SM:=top_lt hu WV hm huv hAp hf1.1 n3;refine Yd.lp (fun s:asv Int×asv Int×Int=>rR s.1/\s.1.length=u.length/\rR s.2.1/\s.2.1.length=m+1/\ -1<=s.2.2/\s.2.2<(m+1:Nat)/\aH (s.1.drop (s.2.2+1).toNat)<aH v/\
    aH u=aH s.1+aH v*(jJ (s.2.2+1).toNat*aH (s.2.1.drop (s.2.2+1).toNat))) (fun s=>(s.2.2+1).toNat) ?_ _ _
   ⟨hu,rfl,A9 _,by simp,by dsimp only;omega,by dsimp only;omega,?_,?_⟩ (by dsimp only;omega)
  rotate_left
  ·dsimp only;have e:(((m+1:Nat):Int)-1+1).toNat=m+1:=by omega
   rw[e];exact SM
  ·dsimp only;have e:(((m+1:Nat):Int)-1+1).toNat=m+1:=by omega
   rw[e,xE (by simp)];simp[aH]
  rintro next ⟨u',q,z⟩ ⟨s1,s2,s3,s4,s5,s6,s7,s8⟩ hn
  dsimp only at s1 s2 s3 s4 s5 s6 s7 s8 hn⊢;refine Yd.cond (fun hz=>?_)<|fun hz=>?_
  ·have hz:=bg hz;obtain⟨j,rfl⟩:=gQ hz;have ej:(((j:Nat):Int)+1).toNat=j+1:=by omega
   rw[ej] at s7 s8;refine ab4 (k:=k) (j:=j) s1 v1.1 n1 (by omega) (by omega) n2 s7 ?_;intro l t r1 r2 r3 r4 r5 r6 r7;refine Yd.bd (b9 (by omega)) (Yd.bd (b9 (by omega)) (Yd.bd (aM ⟨by omega,by omega⟩) (hn _ ⟨r1,by dsimp only;omega,IY s3 _ ⟨r4,r5⟩,by simpa using s4,by dsimp only;omega,by dsimp only;omega,?_,?_⟩ ?_)))
   ·dsimp only;have e:(((j:Nat):Int)-1+1).toNat=j:=by omega
    rw[e];exact r7
   ·dsimp only;have e:(((j:Nat):Int)-1+1).toNat=j:=by omega
    rw[e,Int.toNat_natCast,wM (by omega),l8,s8,pR u' j (by omega),pR l j (by omega),r3,r6,kn];have x1:jJ j*(aH (u'.drop j)-t*aH v)=jJ j*aH (u'.drop j)-aH v*(jJ j*t):=by
     rw[mK,iU<|aH v,Int.mul_comm t]
    have x2:aH v*(jJ j*(t+BT*aH (q.drop<|j+1)))=aH v*(jJ j*t)+aH v*(BT*jJ j*aH (q.drop<|j+1)):=by
     rw[bC,bC,<-fp (jJ j),Int.mul_comm (jJ j) BT]
    rw[x1,x2];omega
   ·dsimp only;omega
  ·have hz:=bV hz;have:z= -1:=by omega
   subst this;have s7:aH u'<aH v:=s7;have s8:aH u=aH u'+aH v*(jJ 0*aH q):=s8;rw[zd,Int.one_mul] at s8;have u'0:=(ct s1).1;have hVb:=(ct v1.1).2;have htk:aH (u'.take v.length)=aH u':=by
    have:=pR u' v.length (by omega);rw[Pj s1 (by omega) (by omega)] at this;omega
   refine Yd.bd (ke (by omega) (by omega) (by omega)) ?_;have et:((u'.take ((v.length:Nat):Int).toNat).drop (0:Int).toNat)=u'.take v.length:=by simp
   rw[et];refine Yd.kD (zb (mX s1 _) (by rw[List.length_take];omega)) fun y ⟨y1,y2,y3⟩=>Yd.bd (x:=f) rfl ?_
   rw[List.length_take] at y3;refine Yd.kD (IM y1.1 ⟨by omega,by omega⟩ (by omega)) ?_;rintro⟨w,r⟩ ⟨g1,g2,g3,g4⟩;dsimp only at g1 g2 g3⊢;refine Yd.kD (zb s3 (by omega)) fun x ⟨x1,x2,_⟩=>Yd.mk ⟨⟨x1,g1⟩,?_⟩
   dsimp only;rw[x2,g2,y2,htk];have hR:aH u'=f*(aH a-aH b*aH q):=by
    rw[huv,v2] at s8;rw[mK,Int.mul_comm f<|aH a,Int.mul_comm (aH b) f] at*;rw[fp] at s8;omega
   have hRd:aH u'/f=aH a-aH b*aH q:=by rw[hR,Int.mul_ediv_cancel_left _ (by omega)]
   rw[hRd];have hR0:0<=aH a-aH b*aH q:=by rw[<-hRd];exact rn u'0 (by omega)
   have hR1:aH a-aH b*aH q<aH b:=by
    refine M0 (a:=f) ?_ (by omega);rw[<-hR,Int.mul_comm f];omega
   have:=xj (A:=aH a) (B:=aH b) (q:=aH q) (r:=aH a-aH b*aH q) (by rw[Int.mul_comm<|aH q];omega) hR0 hR1;exact this
def IP:∀n:Nat,jJ n=((10^(9*n):Nat):Int)
 |0=>rfl
 |n+1=>by
  rw[kn,IP n,show 9*(n+1)=9*n+9 by omega,qO,uo];unfold BT;omega
def ahw(ha:rR a)(hl:a.length<=100000):Nat.log2 (aH a).toNat<1099511627776:=by
 have h:=ct ha;rw[IP] at h;have h1:=vU (show 0<10 by omega) (show 9*a.length<=900000 by omega);have:uV ((aH a).toNat:Int)=true:=ym (n:=900000) (by
  rw[kP]
  generalize 10^(9*a.length)=P at*
  generalize 10^900000=Q at*
  omega) (by omega)
 have:=gP this;rw[kP] at this;omega
def Vk(hx:0<=x)(hy:0<y):Int.gcd y (x%y)=Int.gcd x y:=by
 obtain⟨m,rfl⟩:=gQ hx;obtain⟨n,rfl⟩:=gQ<|gj hy
 show Nat.gcd n (((m%n:Nat):Int)).natAbs=Nat.gcd m n;rw[kP,Fy n,<-Nat.gcd_rec,Fy]
def Og(ha:td a)(hb:td b)(hla:a.length<=100000)(hlb:b.length<=100000):Yd (fun w=>td w/\aH w=(Int.gcd (aH a) (aH b):Int)/\w.length<=100000) (pY a b):=by
 unfold pY;refine Yd.lp (fun s:asv Int×asv Int=>td s.1/\td s.2/\s.1.length<=100000/\s.2.length<=100000/\Int.gcd (aH s.1) (aH s.2)=Int.gcd (aH a) (aH b)) (fun s=>muG (aH s.1).toNat (aH s.2).toNat) ?_ _ _ ⟨ha,hb,hla,hlb,rfl⟩<|WD (ahw ha.1 hla)<|ahw hb.1 hlb
 rintro next ⟨x,y⟩ ⟨h1,h2,h3,h4,h5⟩ hn
 dsimp only at h1 h2 h3 h4 h5 hn⊢;refine Yd.cond (fun hc=>?_)<|fun hc=>?_
 ·have hc:=bg hc;have hy0:y≠[]:=by intro e;subst e;simp at hc
  have hyp:=h2.pos hy0;have VR:=(ct h1.1).1;refine Yd.kD (A4 h1 h2 hy0 (by omega) (by omega)) ?_;rintro⟨q,r⟩ ⟨⟨g1,g2⟩,g3,g4⟩;dsimp only at g1 g2 g3 g4⊢;have hr:=rr (aH x) hyp;have hrl:r.length<=y.length:=g2.len (by rw[g4];have:=(ct h2.1).2;omega);refine hn _ ⟨h2,g2,h4,by dsimp only;omega,?_⟩ ?_
  ·dsimp only;rw[g4,<-h5,Vk VR hyp]
  ·dsimp only;rw[g4];have e:(aH x%aH y).toNat=(aH x).toNat%(aH y).toNat:=by
    rw[Int.toNat_emod VR<|gj hyp]
   rw[e];exact OF (by omega)
 ·have hc:=bV hc;have hy0:y=[]:=sW (by omega);subst hy0;refine Yd.mk ⟨h1,?_,h3⟩;have VR:=(ct h1.1).1;rw[<-h5];show aH x=((Int.gcd (aH x) 0:Nat):Int);rw[Int.gcd_zero_right];omega
def afM{a b:Int}(ha:0<=a/\a<=4000000000000000000)(hb:0<=b/\b<=4000000000000000000):tp a b=some (Int.gcd a b:Int):=by
 have key:Yd (fun r=>r=(Int.gcd a b:Int)) (tp a b):=by
  unfold tp;have aaD:∀x:Int,0<=x/\x<=4000000000000000000->Nat.log2 x.toNat<1099511627776:=fun x hx=>by
   have:=ym (z:=x) (n:=19) (by simp;omega) (by omega);have:=gP this;rw[show x.natAbs=x.toNat by omega] at this;omega
  refine Yd.lp (fun s:Int×Int=>(0<=s.1/\s.1<=4000000000000000000)/\(0<=s.2/\s.2<=4000000000000000000)/\Int.gcd s.1 s.2=Int.gcd a b) (fun s=>muG s.1.toNat s.2.toNat) ?_ _ _ ⟨ha,hb,rfl⟩<|WD (aaD a ha)<|aaD b hb
  rintro next ⟨x,y⟩ ⟨h1,h2,h5⟩ hn
  dsimp only at h1 h2 h5 hn⊢;refine Yd.cond (fun hc=>?_)<|fun hc=>?_
  ·have hc:=bg hc;have hr:=rr x hc;have WW:=sT x (show y≠0 by omega);refine Yd.bd (yp h1.1 hc) (hn _ ⟨h2,⟨WW,by dsimp only;omega⟩,?_⟩ ?_)
   ·dsimp only;rw[<-h5,Vk h1.1 hc]
   ·dsimp only;rw[Int.toNat_emod h1.1<|gj hc];exact OF (by omega)
  ·have hc:=bV hc;have:y=0:=by omega
   subst this;refine Yd.mk ?_;rw[<-h5,Int.gcd_zero_right];omega
 obtain⟨r,e,rfl⟩:=key;exact e
def E6(n:Nat):0<(dw n).length:=by
 by_cases h:n<10
 ·rw[qj h];simp
 ·rw[tv h];simp
def R5{r:Nat}(h:k<=(dw r).length):ze k r=dw r:=by
 unfold ze;rw[Nat.sub_eq_zero_of_le h];rfl
def Z7(h:0<m/10\/1<k):ze k m=ze (k-1) (m/10)++[UInt8.ofNat<|48+m%10]:=by
 by_cases hm:m<10
 ·have hk:1<k:=by omega
  obtain⟨j,rfl⟩:∃j,k=j+2:=⟨k-2,by omega⟩;unfold ze;rw[show m/10=0 by omega,qj hm,qj (show 0<10 by omega),show m%10=m by omega];simp only[List.length_singleton];rw[show j+2-1=j+1 by omega,show j+1-1=j by omega,List.replicate_succ'];rfl
 ·unfold ze;rw[tv hm,List.length_append,List.length_singleton,show k-((dw<|m/10).length+1)=k-1-(dw<|m/10).length by omega,rq]
def acn(h1:m/10=0)(h2:k<=1):ze k m=[UInt8.ofNat<|48+m%10]:=by
 rw[R5 (by have:=E6 m;omega),qj (by omega),show m%10=m by omega]
def ajZ{d:Nat}(h:d<10):(([48,49,50,51,52,53,54,55,56,57]:aev).take<|d+1).drop d=[UInt8.ofNat<|48+d]:=by
 match d,h with
 |0,_=>rfl
 |1,_=>rfl
 |2,_=>rfl
 |3,_=>rfl
 |4,_=>rfl
 |5,_=>rfl
 |6,_=>rfl
 |7,_=>rfl
 |8,_=>rfl
 |9,_=>rfl
def tQ{l m:aev}(h:l.length+m.length<=9223372036854775807):y7 l m=some (l++m):=by
 unfold y7;rw[bp h];rfl
def Ev(hn:n<=9000000000000000000)(hk:1<=k/\k<=20):fQ (n:Int) (k:Int)=some (ze k n):=by
 have key:Yd (fun r=>r=ze k n) (fQ (n:Int) (k:Int)):=by
  unfold fQ;refine Yd.lp (fun s:Int×aev=>∃m:Nat,s.1=m/\m<=n/\m+s.2.length<=n+20/\ze k n=(if 0<m\/s.2.length<k then ze (k-s.2.length) m++s.2 else s.2)) (fun s=>s.1.toNat+(k-s.2.length)) ?_ _ _ ⟨n,rfl,bG _,by simp,?_⟩ (by dsimp only;omega)
  ·rintro next ⟨z,s⟩ ⟨m,rfl,h0,h1,h2⟩ Lx
   dsimp only at h1 h2 Lx⊢;refine Yd.cond (fun hc=>?_)<|fun hc=>?_
   ·have hg:0<m\/s.length<k:=by
     rw[qd,j4,j4] at hc;omega
    rw[if_pos hg] at h2;have hr:((m:Int)%10)=((m%10:Nat):Int):=by omega
    have hq:((m:Int)/10)=((m/10:Nat):Int):=by omega
    have hd:m%10<10:=uv _ (by omega);have alO:tC (m:Int) 10=some ((m%10:Nat):Int):=by rw[yp (by omega) (by omega),hr]
    have hdiv:wb (m:Int) 10=some ((m/10:Nat):Int):=by rw[div_pos (by omega) (by omega) (by omega),hq]
    have bY:iR ([48,49,50,51,52,53,54,55,56,57]:aev) ((m%10:Nat):Int) (((m%10:Nat):Int)+1)=some [UInt8.ofNat<|48+m%10]:=by
     rw[ke (by omega) (by omega) (by simp;omega),Int.toNat_natCast,show(((m%10:Nat):Int)+1).toNat=m%10+1 by omega,ajZ hd]
    refine Yd.bd alO (Yd.bd alO (Yd.bd (aM ⟨by omega,by omega⟩) (Yd.bd bY (Yd.bd (tQ (by simp;omega)) (Yd.bd hdiv (Lx _ ⟨m/10,rfl,by omega,?_,?_⟩ ?_))))))
    ·dsimp only;simp only[List.singleton_append,List.length_cons];omega
    ·dsimp only;simp only[List.singleton_append,List.length_cons];rw[h2];by_cases hg2:0<m/10\/s.length+1<k
     ·rw[if_pos hg2,Z7 (by omega),rq,show k-s.length-1=k-(s.length+1) by omega];rfl
     ·rw[if_neg hg2,acn (by omega) (by omega)];rfl
    ·dsimp only;simp only[List.singleton_append,List.length_cons];omega
   ·have hg: ¬(0<m\/s.length<k):=by
     rw[zL,lq,lq] at hc;omega
    rw[if_neg hg] at h2;exact Yd.mk h2.symm
  ·dsimp only;rw[if_pos (by simp;omega)];simp
 obtain⟨r,e,rfl⟩:=key;exact e
def acm{r:Nat}(hk:0<k)(h:r<10^k):(ze k r).length=k:=by
 have:=nu k r hk h;unfold ze;rw[List.length_append,vW];omega
def Ui(h:qW p z)(hl:p.2.length<=100000):na p=some (ff z):=by
 have key:Yd (fun r=>r=ff z) (na p):=by
  obtain⟨h1,h2,h3⟩:=h;obtain⟨neg,w⟩:=p;dsimp only at h1 h2 h3 hl;unfold na;dsimp only;refine Yd.cond (fun hc=>?_)<|fun hc=>?_
  ·have hc:=bg hc;have hw:w=[]:=sW (by omega);subst hw;have hz:z=0:=by
    have:(0:Int)=(z.natAbs:Int):=h2;omega
   subst hz;exact Yd.mk rfl
  ·have hc:=bV hc;obtain⟨n,hn⟩:∃n,w.length=n+1:=⟨w.length-1,by omega⟩;have hw0:w≠[]:=by intro e;subst e;simp at hn
   have e1:((w.length:Int)-1)=(n:Int):=by omega
   rw[e1];have ht:=ig h1.1 n;have aax:0<w.getD n 0:=by
    have l1:=vt h1.1 hw0 h1.2;have l2:=nL (l:=w) (n:=n) (by omega);rw[fe (by omega)] at l2;have l3:=(ct<|mX h1.1 n).2;rw[List.length_take,fW (by omega)] at l3;rw[hn,Nat.add_sub_cancel] at l1;rcases(show 0<w.getD n 0\/w.getD n 0=0 by omega) with h|h
    ·exact h
    ·rw[h] at l2;omega
   obtain⟨t,htt⟩:=gQ ht.1;have hdt:fQ (w.getD n 0) 1=some (ze 1 t):=by rw[htt];exact Ev (k:=1) (by unfold BT at*;omega) (by omega)
   refine Yd.bd (aM ⟨by omega,by omega⟩) (Yd.bd (b9 (by omega)) (Yd.bd hdt (Yd.bd (aM ⟨by omega,by omega⟩) ?_)));rw[R5<|E6 t];have SM:(dw t).length<=9:=nu 9 t (by omega) (by unfold BT at*;omega);refine Yd.lp (fun s:aev×Int=> -1<=s.2/\s.2<n/\s.1=dw (aH<|w.drop (s.2+1).toNat).toNat/\0<aH (w.drop (s.2+1).toNat)/\s.1.length+9*(s.2+1).toNat<=1000000) (fun s=>(s.2+1).toNat) ?_ _ _ ⟨by dsimp only;omega,by dsimp only;omega,?_,?_,?_⟩ (by dsimp only;omega)
   ·rintro next ⟨s,i⟩ ⟨g1,g2,g3,g4,g5⟩ hnx
    dsimp only at g1 g2 g3 g4 g5 hnx⊢;refine Yd.cond (fun hd=>?_)<|fun hd=>?_
    ·have hd:=bg hd;obtain⟨j,rfl⟩:=gQ hd;have ej:(((j:Nat):Int)+1).toNat=j+1:=by omega
     have ej':(((j:Nat):Int)-1+1).toNat=j:=by omega
     rw[ej] at g3 g4 g5;have hx:=ig h1.1 j;obtain⟨r,hr⟩:=gQ hx.1;have hr9:r<1000000000:=by unfold BT at*;omega
     have YT:fQ (w.getD j 0) 9=some (ze 9 r):=by rw[hr];exact Ev (k:=9) (by omega) (by omega)
     have SO:(ze 9 r).length=9:=acm (by omega) (by omega);have EL:aH (w.drop j)=r+BT*aH (w.drop<|j+1):=by rw[nW (by omega),l8,hr]
     refine Yd.bd (b9 (by omega)) (Yd.bd YT (Yd.bd (tQ (by omega)) (Yd.bd (aM ⟨by omega,by omega⟩) (hnx _ ⟨by dsimp only;omega,by dsimp only;omega,?_,?_,?_⟩ (by dsimp only;omega)))))
     ·dsimp only;rw[ej',g3,EL];have e:(((r:Nat):Int)+BT*aH (w.drop<|j+1)).toNat=(aH<|w.drop<|j+1).toNat*10^9+r:=by unfold BT;omega
      rw[e,HE 9 _ r (by omega) (by omega) (by omega)]
     ·dsimp only;rw[ej',EL];unfold BT;omega
     ·dsimp only;rw[ej',List.length_append,SO];omega
    ·have hd:=bV hd;have:i= -1:=by omega
     subst this;have g3:s=dw (aH w).toNat:=g3;have e2:(aH w).toNat=z.natAbs:=by rw[h2];omega
     rw[e2] at g3;have g5:s.length+0<=1000000:=g5;refine Yd.cond (fun Bl=>?_)<|fun Bl=>?_
     ·refine Yd.bd (tQ (by simp only[List.length_singleton];omega)) (Yd.mk ?_);rw[Bl] at h3;unfold ff;rw[<-h3,g3];rfl
     ·rw[Bl] at h3;refine Yd.mk ?_;unfold ff;rw[<-h3,g3];rfl
   ·dsimp only;have e:(((w.length:Int)-2)+1).toNat=n:=by omega
    rw[e,nW (by omega),xE (by omega)];simp only[aH,htt];simp
   ·dsimp only;have e:(((w.length:Int)-2)+1).toNat=n:=by omega
    rw[e,nW (by omega),xE (by omega)];simp only[aH];omega
   ·dsimp only;omega
 obtain⟨r,e,rfl⟩:=key;exact e
def alD{l:aev}{b:UInt8}(h:l[n]? =some b):bj l (n:Int)=some b:=h
def FX{b:UInt8}(h:iB b=true):48<=b.toNat/\b.toNat<=57:=by
 unfold iB at h;obtain⟨h1,h2⟩:=eM h;exact⟨gP h1,gP h2⟩
def Fm{s:aev}(hd:s.all iB=true)(hl:s.length<=18):iH s=some (dZ s:Int):=by
 have key:Yd (fun r=>r=(dZ s:Int)) (iH s):=by
  unfold iH;refine Yd.lp (fun t:Int×Int=>0<=t.2/\t.2<=s.length/\t.1=(dZ (s.take t.2.toNat):Int)) (fun t=>s.length-t.2.toNat) ?_ _ _ ⟨by dsimp only;omega,by dsimp only;omega,by simp[dZ]⟩ (by dsimp only;omega);rintro next ⟨v,i⟩ ⟨h1,h2,h3⟩ hn
  dsimp only at h1 h2 h3 hn⊢;obtain⟨n,rfl⟩:=gQ h1;rw[Int.toNat_natCast] at h3;refine Yd.cond (fun hc=>?_)<|fun hc=>?_
  ·have hc:=bg hc;have hlt:n<s.length:=by omega
   have hdt:(s.take n).all iB=true:=dC.2 fun x hx=>dC.1 hd x<|vV hx
   have hv:=yl _ hdt;rw[List.length_take,fW (by omega)] at hv;have hp:(10:Nat)^n<=10^17:=vU (by omega) (by omega);have hb:=FX<|dC.1 hd _<|rp hlt
   have hw:wr .i64 ((s[n].toNat:Nat):Int)=(s[n].toNat:Int):=by
    show IntKind.wrap .i64 _=_;rw[IntKind.wrap_i64];omega
   refine Yd.bd (aM ⟨by omega,by omega⟩) (Yd.bd (alD<|kQ hlt) (Yd.bd (aM ⟨by rw[hw];omega,by rw[hw];omega⟩) (Yd.bd (aM ⟨by rw[hw];omega,by rw[hw];omega⟩) (Yd.bd (aM ⟨by omega,by omega⟩) (hn _ ⟨by dsimp only;omega,by dsimp only;omega,?_⟩ (by dsimp only;omega))))));dsimp only;rw[hw,show(((n:Nat):Int)+1).toNat=n+1 by omega,MJ,kQ hlt,wP,h3];have e:dZ [s[n]]=s[n].toNat-48:=by simp[dZ]
   simp only[Option.toList_some,List.length_singleton,e];omega
  ·have hc:=bV hc;have:n=s.length:=by omega
   subst this;refine Yd.mk ?_;rw[h3,fe<|bG _]
 obtain⟨r,e,rfl⟩:=key;exact e
def Kr{ds:aev}(neg:Bool)(hd:ds.all iB=true)(h0:ds≠[])(hl:ds.length<=800000):Yd (fun p=>qW p (bif neg then -(dZ ds:Int) else(dZ ds:Int))/\p.2.length<=ds.length) (lX (bif neg then 45::ds else ds)):=by
 unfold lX;have core:Yd (fun p=>qW p (bif neg then -(dZ ds:Int) else(dZ ds:Int))/\p.2.length<=ds.length)
  (lp 18446744073709551616 (fun(k9:(aev×asv Int)->auz _) (s8:aev×asv Int)=>
   cond (decide<|(9:Int)<(s8.1.length:Int)) (
    bd (aF<|(s8.1.length:Int)-(9:Int)) fun iY=>
    bd (iR s8.1 iY (s8.1.length:Int)) fun jK=>
    bd (iH jK) fun kH=>
    bd (fB 8 s8.2 ([kH]:asv Int)) fun jH=>
    bd (aF<|(s8.1.length:Int)-(9:Int)) fun jR=>
    bd (iR s8.1 0 jR) fun kL=>
    k9 (kL,jH)
   ) (
    bd (iH s8.1) fun lD=>
    bd (fB 8 s8.2 ([lD]:asv Int)) fun pt=>
    bd (fw neg pt) fun pr=>
    some pr
   )
  ) (ds,[])):=by
  refine Yd.lp (fun t:aev×asv Int=>t.1.all iB=true/\t.1≠[]/\t.1.length<=800000/\rR t.2/\t.1.length+t.2.length<=ds.length/\(dZ ds:Int)=dZ t.1*jJ t.2.length+aH t.2) (fun t=>t.1.length) ?_ _ _ ⟨hd,h0,hl,MB,by simp,by simp[zd,aH]⟩ (by dsimp only;omega);rintro next ⟨s,w⟩ ⟨g1,g2,g3,g4,g5,g6⟩ hn
  dsimp only at g1 g2 g3 g4 g5 g6 hn⊢;have okv:∀x:aev,x.all iB=true->x.length<=9->0<=(dZ x:Int)/\(dZ x:Int)<BT:=fun x hx GS=>by
   have h1:=yl x hx;have h2:(10:Nat)^x.length<=10^9:=vU (by omega) GS;unfold BT;omega
  have ext:∀v:Int,0<=v/\v<BT->rR (w++[v]):=fun v hv=>by
   rw[Cw];exact⟨g4,fun y hy=>by rw[vT] at hy;subst hy;exact hv⟩
  refine Yd.cond (fun hc=>?_)<|fun hc=>?_
  ·have hc:=bg hc;obtain⟨n,Lx⟩:∃n,s.length=n+9:=⟨s.length-9,by omega⟩;have e1:((s.length:Int)-9)=(n:Int):=by omega
   rw[e1];have hda:(s.take n).all iB=true:=dC.2 fun x hx=>dC.1 g1 x<|vV hx
   have hdb:(s.drop n).all iB=true:=dC.2 fun x hx=>dC.1 g1 x<|zK hx
   have hlb:(s.drop n).length=9:=by rw[nD];omega
   have es:iR s (n:Int) (s.length:Int)=some (s.drop n):=by rw[ke (by omega) (by omega) (by omega)];simp
   have et:iR s 0 (n:Int)=some (s.take n):=by rw[ke (by omega) (by omega) (by omega)];simp
   have hv:=okv _ hdb (by omega);refine Yd.bd (aM ⟨by omega,by omega⟩) (Yd.bd es (Yd.bd (Fm hdb (by omega)) (Yd.bd (aen (by omega)) (Yd.bd (aM ⟨by omega,by omega⟩)<|Yd.bd et<|hn _ ⟨hda,?_,?_,ext _ hv,?_,?_⟩ ?_))))
   ·intro e;have:=congrArg List.length e;rw[List.length_take,CN] at this;omega
   ·dsimp only;rw[List.length_take];omega
   ·dsimp only;rw[List.length_take,List.length_append,List.length_singleton];omega
   ·dsimp only;have hs:dZ s=dZ (s.take n)*10^9+dZ (s.drop n):=by
     conv=>lhs;rw[<-zN n s]
     rw[wP,hlb]
    rw[g6,hs,List.length_append,List.length_singleton,kn,oh];have e:aH [(dZ (s.drop n):Int)]=dZ (s.drop n):=by simp[aH]
    rw[e,Int.natCast_add,uo,ll,fp];have:((10^9:Nat):Int)=BT:=rfl;rw[this,Int.mul_comm (dZ (s.drop n):Int)];omega
   ·dsimp only;rw[List.length_take];omega
  ·have hc:=bV hc;have hv:=okv s g1 (by omega);have hs0:0<s.length:=CU.2 g2;refine Yd.bd (Fm g1 (by omega)) (Yd.bd (aen (by omega)) (Yd.kD (Of (ext _ hv) (by rw[List.length_append,List.length_singleton];omega)) fun p ⟨p1,p2⟩=>Yd.mk ?_));have e:aH (w++[(dZ s:Int)])=(dZ ds:Int):=by
    rw[oh,g6];have e:aH [(dZ s:Int)]=dZ s:=by simp[aH]
    rw[e,Int.mul_comm];omega
   rw[e] at p1;rw[List.length_append,List.length_singleton] at p2;exact⟨p1,by omega⟩
 cases neg with
 |true=>
  simp only[fU] at core⊢;refine Yd.fT (fun _=>⟨45,rfl,?_⟩) (fun h=>by simp[gd] at h);have hb:((decide<|(0:Int)<((45::ds).length:Int))&&(decide<|((45:UInt8).toNat:Int)=(45:Int)))=true:=by
   rw[bp (by simp only[List.length_cons];omega)];rfl
  rw[hb];have es:iR (45::ds) (1:Int) ((45::ds).length:Int)=some ds:=by
   rw[ke (by omega) (by simp only[List.length_cons];omega) (by omega),Int.toNat_natCast,fe<|bG _];rfl
  exact Yd.jn (fun s=>s=ds) (fun s hs=>by subst hs;exact core) fun k hk=>Yd.cond (fun _=>Yd.bd es<|hk _ rfl) (fun h=>by cases h)
 |false=>
  obtain⟨d,r,rfl⟩:∃d r,ds=d::r:=by
   cases ds with
   |nil=>exact absurd rfl h0
   |cons d r=>exact⟨d,r,rfl⟩
  have hdd:=FX (dC.1 hd d (by simp));simp only[fA] at core⊢;refine Yd.fT (fun _=>⟨d,rfl,?_⟩) (fun h=>by simp[gd] at h);have hb:((decide<|(0:Int)<((d::r).length:Int))&&(decide<|(d.toNat:Int)=(45:Int)))=false:=by
   rw[bU (show¬(d.toNat:Int)=45 by omega),yE]
  rw[hb];exact Yd.jn (fun s=>s=d::r) (fun s hs=>by subst hs;exact core) fun k hk=>Yd.cond (fun h=>by cases h)<|fun _=>hk _ rfl
def QQ{s:aev}(hk:k<=s.length)(h1:∀i,i<k->s[i]? ≠some 47)(h2:k<s.length->s[k]? =some 47)(hl:s.length<1099511627776):jd s=some (k:Int):=by
 have key:Yd (fun r=>r=(k:Int)) (jd s):=by
  unfold jd;refine Yd.lp (fun i:Int=>0<=i/\i<=k) (fun i=>s.length-i.toNat) ?_ _ _ ⟨by omega,by omega⟩ (by omega);rintro next i ⟨g1,g2⟩ hn
  obtain⟨n,rfl⟩:=gQ g1;refine Yd.cond (fun hc=>?_)<|fun hc=>?_
  ·have hc:=bg hc;have hlt:n<s.length:=by omega
   have hg:=kQ hlt;refine Yd.bd (alD hg)<|Yd.cond (fun hd=>?_)<|fun hd=>?_
   ·have hd:=bg hd;refine Yd.mk ?_;have hb:s[n]=47:=ML.1 (by show _=47;omega);rcases ln n k with h|h
    ·exact absurd (by rw[hg,hb])<|h1 n h
    ·omega
   ·have hd:=bV hd;rcases ln n k with h|h
    ·exact Yd.bd (aM ⟨by omega,by omega⟩) (hn _ ⟨by omega,by omega⟩ (by omega))
    ·have e:n=k:=by omega
     subst e;have:=h2 hlt;rw[hg] at this;have:=fG this;rw[this] at hd;exact absurd rfl hd
  ·have hc:=bV hc;exact Yd.mk (by omega)
 obtain⟨r,e,rfl⟩:=key;exact e
def dh(q:Rat):aev:=ff q.num++(bif decide (q.den=1) then [] else 47::dw q.den)
def nX(n:Nat):(dw n).all iB=true/\dZ (dw n)=n:=by
 induction n using Nat.strongRecOn with
 |ind n ih=>
  have one:∀d,d<10->iB (UInt8.ofNat<|48+d)=true/\dZ [UInt8.ofNat<|48+d]=d:=by
   intro d hd
   match d,hd with
   |0,_=>decide
   |1,_=>decide
   |2,_=>decide
   |3,_=>decide
   |4,_=>decide
   |5,_=>decide
   |6,_=>decide
   |7,_=>decide
   |8,_=>decide
   |9,_=>decide
  by_cases h:n<10
  ·rw[qj h];have:=one n h;exact⟨by rw[sE,this.1];rfl,this.2⟩
  ·rw[tv h];obtain⟨i1,i2⟩:=ih (n/10) (by omega);have:=one (n%10) (by omega);refine⟨by rw[MM,i1,sE,this.1];rfl,?_⟩;rw[wP,i2,this.2,List.length_singleton];omega
def Y6(n:Nat):dw n≠[]:=fun e=>by have:=E6 n;rw[e] at this;simp at this
def Y7(h:(dw n).length<=k):n<10^k:=by
 have:=yl _ (nX n).1;rw[(nX n).2] at this;have h2:(10:Nat)^(dw n).length<=10^k:=vU (by omega) h;omega
def abJ(z:Int):ff z=bif decide (z<0) then 45::dw z.natAbs else dw z.natAbs:=rfl
def G5(z:Int):∀x∈ff z,x≠47:=by
 intro x hx e;subst e;have hd:(47:UInt8)∉dw z.natAbs:=fun h=>by
  have:=dC.1 (nX z.natAbs).1 _ h;simp[iB] at this
 unfold ff at hx;cases hc:decide (z<0) with
 |true=>
  rw[hc] at hx;have hx:(47:UInt8)∈45::dw z.natAbs:=hx;rcases bP.1 hx with h|h
  ·cases h
  ·exact hd h
 |false=>rw[hc] at hx;exact hd hx
def IA{u t:aev}(hu:∀x∈u,x≠47)(hl:(u++47::t).length<1099511627776):jd (u++47::t)=some (u.length:Int):=by
 refine QQ (by simp) (fun i hi=>?_) (fun _=>by simp) hl;rw[xF hi,kQ hi];intro e;exact hu _ (rp hi)<|fG e
def N5{u:aev}(hu:∀x∈u,x≠47)(hl:u.length<1099511627776):jd u=some (u.length:Int):=by
 refine QQ (bG _) (fun i hi=>?_) (fun h=>absurd h<|Nat.lt_irrefl _) hl;rw[kQ hi];intro e;exact hu _ (rp hi)<|fG e
def yP(z:Int):(ff z).length<=(dw z.natAbs).length+1:=by
 unfold ff;cases decide (z<0)
 ·exact wF _
 ·exact bG _
def Kw(hl:(dw z.natAbs).length<=800000):Yd (fun p=>qW p z/\p.2.length<=800000) (lX<|ff z):=by
 have h:=Kr (decide<|z<0) (nX z.natAbs).1 (Y6 _) hl;rw[(nX _).2] at h;rw[<-abJ] at h;refine h.imp fun p hp=>⟨?_,by omega⟩
 have e:(bif decide (z<0) then -(z.natAbs:Int) else(z.natAbs:Int))=z:=by
  cases hc:decide (z<0) with
  |true=>have:=bg hc;show -(z.natAbs:Int)=z;omega
  |false=>have:=bV hc;show(z.natAbs:Int)=z;omega
 rw[e] at hp;exact hp.1
def Z6(hl:(dw n).length<=800000):Yd (fun p=>qW p (n:Int)/\p.2.length<=800000) (lX<|dw n):=by
 have h:=Kw (z:=(n:Int)) (by simpa using hl);have e:ff (n:Int)=dw n:=by
  unfold ff;rw[bU (by omega)];simp
 rwa [e] at h
def Zx:o7 1=some (false,[1]):=ax
def Z0(h1:(dw q.num.natAbs).length<=800000)(h2:(dw q.den).length<=800000):Yd (fun p=>(qW p.1 q.num/\qW p.2 (q.den:Int))/\p.1.2.length<=800000/\p.2.2.length<=800000) (je<|dh q):=by
 have hlen:=yP q.num;unfold je dh;cases hd:decide (q.den=1) with
 |true=>
  have hd:=bg hd;simp only[fU,wK];refine Yd.bd (N5 (G5 _) (by omega))<|Yd.cond (fun _=>?_)<|fun h=>absurd rfl<|bV h
  refine Yd.kD (Kw h1) fun p hp=>Yd.bd Zx (Yd.mk ⟨⟨hp.1,?_⟩,hp.2,by simp⟩)
  rw[hd];refine⟨⟨fun x hx=>?_,by simp⟩,rfl,rfl⟩;rw[vT] at hx;subst hx;unfold BT;omega
 |false=>
  have hd:=bV hd;simp only[fA];have hlt:(ff q.num++47::dw q.den).length=(ff q.num).length+1+(dw q.den).length:=by simp;omega
  refine Yd.bd (IA (G5 _) (by omega)) (Yd.cond (fun h=>by have:=bg h;omega)<|fun _=>?_);have es:iR (ff q.num++47::dw q.den) 0 ((ff q.num).length:Int)=some (ff q.num):=by
   rw[ke (by omega) (by omega) (by omega)];simp
  have et:iR (ff q.num++47::dw q.den) (((ff q.num).length:Int)+1) ((ff q.num++47::dw q.den).length:Int)=some (dw q.den):=by
   rw[ke (by omega) (by omega) (by omega),Int.toNat_natCast,fe<|bG _,show(((ff q.num).length:Int)+1).toNat=(ff q.num).length+1 by omega,<-ji];simp
  refine Yd.bd es (Yd.kD (Kw h1) fun p hp=>Yd.bd (aM ⟨by omega,by omega⟩)<|Yd.bd et<|Yd.kD (Z6 h2) fun r hr=>Yd.mk ⟨⟨hp.1,hr.1⟩,hp.2,hr.2⟩)
def qW.len{p:Bool×asv Int}{z:Int}(h:qW p z){n:Nat}(hz:(z.natAbs:Int)<jJ n):p.2.length<=n:=h.1.len (by rw[h.2.1];exact hz)
def qW.lt(h:qW p z):(z.natAbs:Int)<jJ p.2.length:=by rw[<-h.2.1];exact(ct h.1.1).2
def vz{b:Bool}(hw:rR w)(hl:w.length<=4000000)(hz:(bif b then -aH w else aH w)=z):Yd (fun p=>qW p z/\p.2.length<=w.length) (fw b w):=by
 rw[<-hz];exact Of hw (by omega)
def ID(h:qW p z):(bif p.1 then -aH p.2 else aH p.2)=z:=by
 rw[h.2.1,h.2.2];cases hc:decide (z<0) with
 |true=>have:=bg hc;show -(z.natAbs:Int)=z;omega
 |false=>have:=bV hc;show(z.natAbs:Int)=z;omega
def QR(h:qW p z)(hl:p.2.length<=4000000):Yd (fun q=>qW q (-z)/\q.2.length<=p.2.length) (rV p):=by
 unfold rV;refine Yd.kD (vz (z:= -z) h.1.1 hl ?_) fun q hq=>Yd.mk hq
 have:=ID h;cases hp:p.1
 ·rw[hp] at this;show -aH p.2= -z;have:aH p.2=z:=this;omega
 ·rw[hp] at this;show aH p.2= -z;have: -aH p.2=z:=this;omega
def BL{q:Bool×asv Int}(hp:qW p x)(hq:qW q y)(hl:p.2.length<=1000000)(hm:q.2.length<=1000000):Yd (fun r=>qW r (x*y)/\r.2.length<=p.2.length+q.2.length) (lW p q):=by
 unfold lW;refine Yd.kD (A3 hp.1.1 hq.1.1 (by omega) (by omega)) fun w ⟨w1,w2,w3⟩=>Yd.kD (vz (z:=x*y) w1.1 (by omega) ?_) fun r hr=>Yd.mk ⟨hr.1,by omega⟩
 rw[w2,<-ID hp,<-ID hq]
 generalize aH p.2=a
 generalize aH q.2=b
 cases p.1<;>cases q.1<;>simp[Int.neg_mul,Int.mul_neg]
def ab5{q:Bool×asv Int}(hp:qW p x)(hq:qW q y)(hl:p.2.length<=1000000)(hm:q.2.length<=1000000):Yd (fun r=>qW r (x+y)/\r.2.length<=p.2.length+q.2.length+1) (yw p q):=by
 unfold yw;have sp:=ID hp;have sq:=ID hq;have a0:=(ct hp.1.1).1;have b0:=(ct hq.1.1).1;have ahx:∀{a b:asv Int},td a->td b->aH a<=aH b->a.length<=b.length:=fun ha hb h=>by
  rcases ln (List.length _) (List.length _) with h'|h'
  ·have:=Cc hb.1 ha h';omega
  ·exact h'
 refine Yd.cond (fun hc=>?_)<|fun hc=>?_
 ·have hc:p.1=q.1:=by simpa using hc
  refine Yd.kD (Qk hp.1.1 hq.1.1 (by omega) (by omega)) fun w ⟨w1,w2,w3⟩=>Yd.kD (vz (z:=x+y) w1 (by omega) ?_) fun r hr=>Yd.mk ⟨hr.1,by omega⟩
  rw[w2,<-sp,<-sq,<-hc];cases p.1
  ·rfl
  ·show -(aH p.2+aH q.2)= -aH p.2+ -aH q.2;omega
 ·have hc:p.1= !q.1:=by
   cases h1:p.1<;>cases h2:q.1<;>rw[h1,h2] at hc<;>first|rfl|cases hc
  refine Yd.kD (Aj hp.1 hq.1 (by omega) (by omega)) fun c hcmp=>Yd.cond (fun hd=>?_)<|fun hd=>?_
  ·have hd:=bg hd;have W7:aH q.2<=aH p.2:=by rcases hcmp with⟨h,_⟩|⟨_,h⟩|⟨_,h⟩<;>omega
   refine Yd.kD (GF hp.1.1 hq.1.1 (ahx hq.1 hp.1 W7) (by omega) W7) fun w ⟨w1,w2,w3⟩=>Yd.kD (vz (z:=x+y) w1.1 (by omega) ?_) fun r hr=>Yd.mk ⟨hr.1,by omega⟩
   rw[w2,<-sp,<-sq,hc];cases q.1
   ·show -(aH p.2-aH q.2)= -aH p.2+aH q.2;omega
   ·show aH p.2-aH q.2=aH p.2+ -aH q.2;omega
  ·have hd:=bV hd;have W7:aH p.2<=aH q.2:=by rcases hcmp with⟨_,h⟩|⟨h,_⟩|⟨h,_⟩<;>omega
   refine Yd.kD (GF hq.1.1 hp.1.1 (ahx hp.1 hq.1 W7) (by omega) W7) fun w ⟨w1,w2,w3⟩=>Yd.kD (vz (z:=x+y) w1.1 (by omega) ?_) fun r hr=>Yd.mk ⟨hr.1,by omega⟩
   rw[w2,<-sp,<-sq,hc];cases q.1
   ·show aH q.2-aH p.2= -aH p.2+aH q.2;omega
   ·show -(aH q.2-aH p.2)=aH p.2+ -aH q.2;omega
def UK(h:td w):(decide ((w.length:Int)=1)=true/\w.getD 0 0=1)↔aH w=1:=by
 constructor
 ·rintro⟨h1,h2⟩;have h1:=bg h1;obtain⟨d,rfl⟩:∃d,w=[d]:=MY.1 (by omega);have h2:d=1:=by simpa using h2
  subst h2;simp[aH]
 ·intro hv;have hl:w.length<=1:=h.len (by rw[hv,kn,zd];unfold BT;omega);have hl0:w≠[]:=by intro e;subst e;simp[aH] at hv
  have:0<w.length:=CU.2 hl0;obtain⟨d,rfl⟩:∃d,w=[d]:=MY.1 (by omega);have:d=1:=by simpa[aH] using hv
  subst this;exact⟨rfl,rfl⟩
def adW{g:Int}(hg:0<g)(hd:g∣x):(bif decide (x<0) then -((x.natAbs:Int)/g) else(x.natAbs:Int)/g)=x/g:=by
 cases hc:decide (x<0) with
 |true=>
  have:=bg hc;have e:(x.natAbs:Int)= -x:=by omega
  rw[e,Int.neg_ediv_of_dvd hd];simp
 |false=>
  have:=bV hc;have e:(x.natAbs:Int)=x:=by omega
  rw[e];rfl
def IL{q:Bool×asv Int}(hp:qW p x)(hq:qW q y)(h0:y≠0)(hl:p.2.length<=80000)(hm:q.2.length<=80000):jB p q=some (dh<|(x:Rat)/(y:Rat)):=by
 have key:Yd (fun r=>r=dh ((x:Rat)/(y:Rat))) (jB p q):=by
  unfold jB;have en:((x:Rat)/(y:Rat)).num=(y.sign*x)/(Int.gcd y x:Int):=by rw[<-yJ,Jq]
  have ed:(((x:Rat)/(y:Rat)).den:Int)=(y.natAbs:Int)/(Int.gcd y x:Int):=by
   rw[<-yJ,Jp,if_neg h0];rfl
  have hg0:0<Int.gcd y x:=M5 _ h0;refine Yd.jn (fun t:(Bool×asv Int)×(Bool×asv Int)=>qW t.1 (y.sign*x)/\qW t.2 (y.natAbs:Int)/\t.1.2.length<=80000/\t.2.2.length<=80000) ?_<|fun k hk=>Yd.cond (fun hd=>?_)<|fun hd=>?_
  ·rintro⟨a,b⟩ ⟨ha,hb,la,lb⟩;dsimp only at ha hb la lb⊢;have hX:(y.sign*x).natAbs=x.natAbs:=by
    rw[uk];rcases vS y 0 with h|h|h
    ·rw[sV h];simp
    ·exact absurd h h0
    ·rw[ru h];simp
   have hg:Int.gcd (y.sign*x) (y.natAbs:Int)=Int.gcd y x:=by
    rw[Int.gcd_comm];unfold Int.gcd;rw[hX,kP]
   refine Yd.kD (Og ha.1 hb.1 (by omega) (by omega)) fun g ⟨g1,g2,g3⟩=>?_
   have hgv:aH g=(Int.gcd y x:Int):=by
    rw[g2,ha.2.1,hb.2.1,<-hg];unfold Int.gcd;simp
   have gne:g≠[]:=by
    intro e;subst e;have:(0:Int)=(Int.gcd y x:Int):=hgv;omega
   refine Yd.kD (A4 ha.1 g1 gne (by omega) (by omega)) ?_;rintro⟨q1,r1⟩ ⟨⟨a1,_⟩,a2,_⟩;refine Yd.kD (A4 hb.1 g1 gne (by omega) (by omega)) ?_;rintro⟨q2,r2⟩ ⟨⟨b1,_⟩,b2,_⟩;dsimp only at a1 a2 b1 b2⊢;rw[hgv,ha.2.1] at a2;rw[hgv,hb.2.1,kP] at b2;have aqO:(0:Int)<(Int.gcd y x:Int):=by omega
   have dvX:(Int.gcd y x:Int)∣y.sign*x:=Int.dvd_trans (Int.gcd_dvd_right _ _)<|Int.dvd_mul_left _ _
   have asM:q1.length<=80000:=fZ (a1.len (n:=a.2.length) (by
    rw[a2];have:=AG (b:=(Int.gcd y x:Int)) (a:=((y.sign*x).natAbs:Int)) (by omega);have:=ha.lt;omega)) la
   have asL:q2.length<=80000:=fZ (b1.len (n:=b.2.length) (by
    rw[b2];have:=AG (b:=(Int.gcd y x:Int)) (a:=(y.natAbs:Int)) (by omega);have:=hb.lt;rw[kP] at this;omega)) lb
   have v1:(bif a.1 then -aH q1 else aH q1)=((x:Rat)/(y:Rat)).num:=by
    rw[en,a2,ha.2.2];exact adW aqO dvX
   refine Yd.kD (vz a1.1 (by omega) v1) fun s ⟨s1,s2⟩=>Yd.bd (Ui s1 (by omega)) ?_
   have v2:aH q2=(((x:Rat)/(y:Rat)).den:Int):=by rw[ed,b2]
   have U8:=UK b1;have hnl:(ff ((x:Rat)/(y:Rat)).num).length<=800000:=by
    have h1:=yP ((x:Rat)/(y:Rat)).num;have h2:=s1.lt;rw[IP] at h2;by_cases hs0:s.2.length=0
    ·rw[hs0] at h2;have:((x:Rat)/(y:Rat)).num.natAbs<10:=by
      have:(10:Nat)^(9*0)=1:=rfl;omega
     have:=nu 1 _ (by omega) (show _<10^1 by omega);omega
    ·have:=nu (9*s.2.length) ((x:Rat)/(y:Rat)).num.natAbs (by omega) (by omega);omega
   have hdl:(dw ((x:Rat)/(y:Rat)).den).length<=800000:=by
    have h2:=(ct b1.1).2;rw[v2,IP] at h2;by_cases hs0:q2.length=0
    ·rw[hs0] at h2;have hp:=((x:Rat)/(y:Rat)).den_pos;have:(10:Nat)^(9*0)=1:=rfl;omega
    ·have:=nu (9*q2.length) ((x:Rat)/(y:Rat)).den (by omega) (by omega);omega
   have aqU:((x:Rat)/(y:Rat)).den=1->ff ((x:Rat)/(y:Rat)).num=dh ((x:Rat)/(y:Rat)):=fun h=>by
    unfold dh;rw[bp h];simp
   have two:((x:Rat)/(y:Rat)).den≠1->Yd (fun r=>r=dh ((x:Rat)/(y:Rat))) (bd (y7 (ff ((x:Rat)/(y:Rat)).num) ([47]:aev)) fun kL=>bd (fw false q2) fun lD=>bd (na lD) fun pt=>bd (y7 kL pt) fun pr=>some pr):=fun h=>by
    refine Yd.bd (tQ (by simp;omega)) (Yd.kD (vz (b:=false) b1.1 (by omega) v2) fun t ⟨t1,t2⟩=>Yd.bd (Ui t1 (by omega)) ?_);have e:ff (((x:Rat)/(y:Rat)).den:Int)=dw ((x:Rat)/(y:Rat)).den:=by
     unfold ff;rw[bU (by omega)];simp
    rw[e];refine Yd.bd (tQ (by simp;omega))<|Yd.mk ?_
    unfold dh;rw[bU h];simp
   by_cases hlen:(q2.length:Int)=1
   ·have hd:=bp hlen;have g1':gd (decide<|(q2.length:Int)=1) true=true:=by rw[hd];rfl
    rw[dJ g1'];refine Yd.bd (b9 (n:=0) (by omega))<|Yd.cond (fun hc=>?_)<|fun hc=>?_
    ·rw[cW] at hc;have h1:=U8.1 ⟨hc.1,bg hc.2⟩;exact Yd.mk (aqU (by omega))
    ·refine two fun e=>?_
     have h1:=U8.2 (by rw[v2,e];rfl);rw[h1.1,bp h1.2] at hc;cases hc
   ·have hd:=bU hlen;have g1':gd (decide<|(q2.length:Int)=1) true=false:=by rw[hd];rfl
    rw[oO g1'];refine Yd.cond (fun hc=>by rw[hd,CJ] at hc;cases hc)<|fun hc=>two fun e=>?_
    have h1:=U8.2 (by rw[v2,e];rfl);exact hlen<|bg h1.1
  ·have hn:y<0:=by
    rw[hq.2.2] at hd;exact bg hd
   refine Yd.kD (QR hp (by omega)) fun a ⟨ha,la⟩=>Yd.kD (QR hq (by omega)) fun b ⟨hb,lb⟩=>hk _ ⟨?_,?_,by dsimp only;omega,by dsimp only;omega⟩
   ·rw[sV hn];simpa using ha
   ·rw[show(y.natAbs:Int)= -y from by omega];exact hb
  ·have hn: ¬y<0:=by
    rw[hq.2.2] at hd;exact bV hd
   refine hk _ ⟨?_,?_,hl,hm⟩
   ·rw[ru (by omega),Int.one_mul];exact hp
   ·rw[show(y.natAbs:Int)=y from by omega];exact hq
 obtain⟨r,e,rfl⟩:=key;exact e
def bq(q:Rat)(n:Nat):Prop:=q.num.natAbs<10^n/\q.den<10^n
def bq.mono(h:bq q m)(hn:m<=n):bq q n:=by
 have:=vU (show 0<10 by omega) hn;exact⟨oF h.1 this,oF h.2 this⟩
def Wz(h0:y≠0):((x:Rat)/(y:Rat)).num.natAbs<=x.natAbs/\((x:Rat)/(y:Rat)).den<=y.natAbs:=by
 have en:((x:Rat)/(y:Rat)).num=(y.sign*x)/(Int.gcd y x:Int):=by rw[<-yJ,Jq]
 have ed:((x:Rat)/(y:Rat)).den=y.natAbs/(Int.gcd y x):=by
  rw[<-yJ,Jp,if_neg h0]
 have hg0:0<Int.gcd y x:=M5 _ h0;refine⟨?_,by rw[ed];exact Nat.div_le_self _ _⟩;rw[en];have hX:(y.sign*x).natAbs=x.natAbs:=by
  rw[uk];rcases vS y 0 with h|h|h
  ·rw[sV h];simp
  ·exact absurd h h0
  ·rw[ru h];simp
 have dvX:(Int.gcd y x:Int)∣y.sign*x:=Int.dvd_trans (Int.gcd_dvd_right _ _)<|Int.dvd_mul_left _ _
 rw[Int.natAbs_ediv_of_dvd dvX,hX,kP];exact Nat.div_le_self _ _
def akm{x:Rat}(h:bq x n):bq (-x) n:=by
 refine⟨?_,?_⟩
 ·rw[Jl,FC];exact h.1
 ·rw[Jk];exact h.2
def XD(h:bq q n)(hn:0<n):(dw q.num.natAbs).length<=n/\(dw q.den).length<=n:=⟨nu n _ hn h.1,nu n _ hn h.2⟩
def qW.bl(h:qW p z)(hz:z.natAbs<10^n):p.2.length<=n:=by
 refine h.len ?_;rw[IP];have:=vU (show 0<10 by omega) (show n<=9*n by omega);omega
def BN(h:bq q n)(hn:0<n)(hm:n<=1000):Yd (fun p=>(qW p.1 q.num/\qW p.2 (q.den:Int))/\p.1.2.length<=n/\p.2.2.length<=n) (je<|dh q):=by
 have hl:=XD h hn;refine(Z0 (by omega) (by omega)).imp fun p ⟨⟨p1,p2⟩,_,_⟩=>⟨⟨p1,p2⟩,p1.bl h.1,p2.bl (by rw[kP];exact h.2)⟩
def NV(z:Int)(t:aev):∃c r,ff z++t=c::r/\((c.toNat:Int)=45↔z<0)/\(c=45->r=dw z.natAbs++t)/\(z<0->r=dw z.natAbs++t):=by
 unfold ff;cases hc:decide (z<0) with
 |true=>
  have:=bg hc;exact⟨45,dw z.natAbs++t,rfl,⟨fun _=>this,fun _=>rfl⟩,fun _=>rfl,fun _=>rfl⟩
 |false=>
  have hz:=bV hc;have hd:=(nX z.natAbs).1;obtain⟨d,l,e⟩:∃d l,dw z.natAbs=d::l:=by
   cases h:dw z.natAbs with
   |nil=>exact absurd h<|Y6 _
   |cons d l=>exact⟨d,l,rfl⟩
  have hb:=FX (dC.1 hd d (by rw[e];simp));refine⟨d,l++t,by show dw z.natAbs++t=_;rw[e];rfl,⟨fun h=>by omega,fun h=>absurd h hz⟩,fun h=>?_,fun h=>absurd h hz⟩;subst h;exact absurd hb.1 (by decide)
def Rk(n:Nat):∀x∈dw n,x≠47:=fun x hx e=>by
 subst e;have:=dC.1 (nX n).1 _ hx;simp[iB] at this
def mT(q:Rat):aev:=bif decide (q.den=1) then [] else 47::dw q.den
def Fo(h:bq q n)(hn:0<n)(hm:n<=1000):Yd (fun r=>r.2.2=false\/(r=(q.num,(q.den:Int),true)/\q.num.natAbs<1000000000/\q.den<1000000000)) (nz<|dh q):=by
 have hl:=XD h hn;obtain⟨c,r,e,Qq,hr,Ma⟩:=NV q.num<|mT q
 have et:dh q=c::r:=e;have hlr:r.length<=2002:=by
  have h1:=congrArg List.length e;have h2:=yP q.num;have h3:(mT q).length<=n+1:=by
   unfold mT;cases decide (q.den=1)
   ·simp;omega
   ·simp
  simp only[List.length_append,List.length_cons] at h1;omega
 unfold nz;rw[et];refine Yd.cond (fun _=>Yd.mk<| .inl rfl)<|fun _=>?_
 have g1:gd (decide<|(0:Int)<((c::r).length:Int)) true=true:=by rw[bp (by simp only[List.length_cons];omega)];rfl
 rw[dJ g1];refine Yd.bd (x:=c) rfl ?_;have hb:((decide<|(0:Int)<((c::r).length:Int))&&(decide<|(c.toNat:Int)=(45:Int)))=decide (q.num<0):=by
  rw[bp (show(0:Int)<((c::r).length:Int) by simp only[List.length_cons];omega),sQ];exact yI.2 Qq
 rw[hb];refine Yd.jn (fun s=>s=dw q.num.natAbs++mT q) ?_<|fun k hk=>Yd.cond (fun hc=>?_)<|fun hc=>?_
 ·rintro s rfl;have hsl:jd (dw q.num.natAbs++mT q)=some ((dw q.num.natAbs).length:Int):=by
   unfold mT;cases hd:decide (q.den=1)
   ·exact IA (Rk _) (by simp;omega)
   ·rw[fU,wK];exact N5 (Rk _) (by omega)
  have hlen:(dw q.num.natAbs++mT q).length=(dw q.num.natAbs).length+(mT q).length:=by simp
  have SM:(mT q).length<=n+1:=by
   unfold mT;cases decide (q.den=1)
   ·simp;omega
   ·simp
  refine Yd.bd hsl ?_;have rest:(dw q.num.natAbs).length<=9->(mT q).length<=10->Yd (fun r=>r.2.2=false\/(r=(q.num,(q.den:Int),true)/\q.num.natAbs<1000000000/\q.den<1000000000))
   (bd (iR (dw q.num.natAbs++mT q) 0 ((dw q.num.natAbs).length:Int)) fun gH=>
    bd (iH gH) fun ib=>
    jn (fun(VO:Int)=>
     jn (fun(Em:Int)=>
      some (Em,VO,true)
     ) fun YC=>
     cond (decide<|q.num<0) (
      bd (aF<|(0:Int)-ib) fun sv=>
      YC sv
     ) (
      YC ib
     )
    ) fun YD=>
    cond (decide<|((dw q.num.natAbs).length:Int)<((dw q.num.natAbs++mT q).length:Int)) (
     bd (aF<|((dw q.num.natAbs).length:Int)+(1:Int)) fun kL=>
     bd (iR (dw q.num.natAbs++mT q) kL ((dw q.num.natAbs++mT q).length:Int)) fun lD=>
     bd (iH lD) fun pt=>
     YD pt
    ) (
     YD (1:Int)
    )):=by
   intro h9 kB;have hN:q.num.natAbs<1000000000:=Y7 h9;have es:iR (dw q.num.natAbs++mT q) 0 ((dw q.num.natAbs).length:Int)=some (dw q.num.natAbs):=by
    rw[ke (by omega) (by omega) (by omega)];simp
   have hv:=Fm (nX q.num.natAbs).1 (by omega);rw[(nX _).2] at hv;refine Yd.bd es<|Yd.bd hv ?_
   refine Yd.jn (fun d=>d=(q.den:Int)/\q.den<1000000000) ?_<|fun k hk=>Yd.cond (fun hc=>?_)<|fun hc=>?_
   ·rintro d ⟨rfl,hD⟩;refine Yd.jn (fun z=>z=q.num) (fun z hz=>by subst hz;exact Yd.mk<| .inr ⟨rfl,hN,hD⟩)<|fun k hk=>Yd.cond (fun hc=>?_)<|fun hc=>?_
    ·have hc:=bg hc;exact Yd.bd (aM ⟨by omega,by omega⟩) (hk _ (by omega))
    ·have hc:=bV hc;exact hk _ (by omega)
   ·have hc:=bg hc;have hd:decide (q.den=1)=false:=by
     cases hd:decide (q.den=1) with
     |false=>rfl
     |true=>
      unfold mT at hlen hc;rw[hd] at hlen hc;simp at hc
    have etl:mT q=47::dw q.den:=by unfold mT;rw[hd];rfl
    rw[etl,List.length_cons] at kB;have eu:iR (dw q.num.natAbs++mT q) (((dw q.num.natAbs).length:Int)+1) ((dw q.num.natAbs++mT q).length:Int)=some (dw q.den):=by
     rw[ke (by omega) (by omega) (by omega),Int.toNat_natCast,fe<|bG _,show(((dw q.num.natAbs).length:Int)+1).toNat=(dw q.num.natAbs).length+1 by omega,<-ji,etl];simp
    have hw:=Fm (nX q.den).1 (by omega);rw[(nX _).2] at hw;exact Yd.bd (aM ⟨by omega,by omega⟩) (Yd.bd eu (Yd.bd hw (hk _ ⟨rfl,Y7 (k:=9) (by omega)⟩)))
   ·have hc:=bV hc;have hd:q.den=1:=by
     cases hd:decide (q.den=1) with
     |true=>exact bg hd
     |false=>
      unfold mT at hlen hc;rw[hd] at hlen hc;simp at hc;omega
    exact hk _ ⟨by rw[hd];rfl,by omega⟩
  by_cases hx:(9:Int)<((dw q.num.natAbs).length:Int)
  ·have hd:=bp hx;have g2:gd (decide<|(9:Int)<((dw q.num.natAbs).length:Int)) false=false:=by rw[hd];rfl
   rw[oO g2];exact Yd.cond (fun _=>Yd.mk<| .inl rfl) (fun h=>by rw[hd,FA] at h;cases h)
  ·have hd:=bU hx;have g2:gd (decide<|(9:Int)<((dw q.num.natAbs).length:Int)) false=true:=by rw[hd];rfl
   rw[dJ g2];refine Yd.bd (aM ⟨by omega,by omega⟩)<|Yd.cond (fun _=>Yd.mk<| .inl rfl)<|fun h=>?_
   rw[hd,yD] at h;have h:=bV h;exact rest (by omega) (by omega)
 ·have hc:=bg hc;have es:iR (c::r) (1:Int) ((c::r).length:Int)=some r:=by
   rw[ke (by omega) (by simp only[List.length_cons];omega) (by omega),Int.toNat_natCast,fe<|bG _];rfl
  exact Yd.bd es<|hk _<|Ma hc
 ·have hc:=bV hc;refine hk _ ?_;rw[<-e];unfold ff;rw[bU hc];rfl
def acF(z:Int):mx_ z (0-z)=(z.natAbs:Int):=by
 unfold mx_;cases hc:decide (z<0-z) with
 |true=>have:=bg hc;show 0-z=_;omega
 |false=>have:=bV hc;show z=_;omega
def Y4{g:Int}(hg:0<g)(hd:g∣x)(hx: -9000000000000000000<=x/\x<=9000000000000000000):wb x g=some (x/g):=by
 unfold wb;rw[bU (by omega),Int.tdiv_eq_ediv_of_dvd hd];obtain⟨k,rfl⟩:=hd;rw[Int.mul_ediv_cancel_left _ (by omega)];refine aM ⟨?_,?_⟩
 ·rcases(show 0<=k\/k<0 by omega) with h|h
  ·omega
  ·have:g*k<=1*k:=Int.mul_le_mul_of_nonpos_right (by omega) (by omega);omega
 ·rcases(show 0<=k\/k<0 by omega) with h|h
  ·have:1*k<=g*k:=uu (by omega) h;omega
  ·omega
def anb(h:n<=9000000000000000000):fQ (n:Int) 1=some (dw n):=by
 have:=Ev (k:=1) h (by omega);rw[R5<|E6 _] at this;exact this
def ab8{a b:Int}(ha: -4000000000000000000<=a/\a<=4000000000000000000)(hb:0<b/\b<=4000000000000000000):vL a b=some (dh<|(a:Rat)/(b:Rat)):=by
 have key:Yd (fun r=>r=dh ((a:Rat)/(b:Rat))) (vL a b):=by
  unfold vL;have h0:b≠0:=by omega
  have en:((a:Rat)/(b:Rat)).num=a/(Int.gcd b a:Int):=by
   rw[<-yJ,Jq,ru hb.1,Int.one_mul]
  have ed:(((a:Rat)/(b:Rat)).den:Int)=b/(Int.gcd b a:Int):=by
   rw[<-yJ,Jp,if_neg h0];have:(b.natAbs:Int)=b:=by omega
   conv=>rhs;rw[<-this]
   rfl
  have hg0:0<Int.gcd b a:=M5 _ h0;refine Yd.cond (fun hc=>?_)<|fun _=>?_
  ·exfalso;rw[qd,qd,qd,j4,j4,j4,j4] at hc;omega
  refine Yd.jn (fun s:Int×Int=>s=(a,b)) ?_ (fun k hk=>Yd.cond (fun hc=>by have:=bg hc;omega)<|fun _=>hk _ rfl);rintro s rfl;dsimp only;have apq:tp (mx_ a<|0-a) b=some (Int.gcd b a:Int):=by
   rw[acF,afM ⟨by omega,by omega⟩ ⟨by omega,hb.2⟩]
   congr 2
   unfold Int.gcd;rw[kP,Fy]
  have d1:(Int.gcd b a:Int)∣a:=Int.gcd_dvd_right _ _;have d2:(Int.gcd b a:Int)∣b:=Int.gcd_dvd_left _ _;refine Yd.bd (aM ⟨by omega,by omega⟩) (Yd.bd apq (Yd.bd (Y4 (by omega) d1 (by omega)) (Yd.bd (Y4 (by omega) d2 (by omega)) ?_)));rw[<-en,<-ed];have hle:=Wz (x:=a) (y:=b) h0
  generalize hz:((a:Rat)/(b:Rat))=q at*
  have hN:q.num.natAbs<=4000000000000000000:=by omega
  have hD:q.den<=4000000000000000000:=by omega
  have hD0:=q.den_pos;have agJ:fQ (mx_ q.num<|0-q.num) 1=some (dw q.num.natAbs):=by
   rw[acF,anb (by omega)]
  have amq:fQ (q.den:Int) 1=some (dw q.den):=by
   exact anb (by omega)
  have OX:=nu 19 q.num.natAbs (by omega) (by omega);have To:=nu 19 q.den (by omega) (by omega);refine Yd.jn (fun s:aev=>s=bif decide (q.num<0) then [45] else []) ?_ (fun k hk=>Yd.cond (fun hc=>hk _ (by rw[hc];rfl)) (fun hc=>hk _ (by rw[hc];rfl)));intro s hs;have hsl:s.length<=1:=by rw[hs];cases decide (q.num<0)<;>simp
  have est:s++dw q.num.natAbs=ff q.num:=by
   rw[hs];unfold ff;cases decide (q.num<0)<;>rfl
  refine Yd.bd (aM ⟨by omega,by omega⟩) (Yd.bd agJ (Yd.bd (tQ (by omega)) ?_));rw[est];have SM:=yP q.num;refine Yd.jn (fun s=>s=dh q) (fun s hs=>by subst hs;exact Yd.mk rfl)<|fun k hk=>Yd.cond (fun hc=>?_)<|fun hc=>?_
  ·have hc:=bg hc;refine Yd.bd (tQ (by simp;omega)) (Yd.bd amq (Yd.bd (tQ (by simp;omega))<|hk _ ?_));unfold dh;rw[bU (show¬q.den=1 by omega)];simp
  ·have hc:=bV hc;refine hk _ ?_;unfold dh;rw[bp (show q.den=1 by omega)];simp
 obtain⟨r,e,rfl⟩:=key;exact e
end
end Trn
