/-
  Part of the proof of DrawMoves.
-/
import Derived.Test.YtokjddaclakenaaGreatDoorLa
set_option maxRecDepth 100000
set_option maxHeartbeats 20000000
set_option linter.all false
open Go Go.RowKit Go.Proofs Go.Proofs.Tryz
namespace Trn
section
variable{n:Nat}{x y:Rat}{m:Nat}{q:Rat}{l u:aev}{c:Nat}{neg:Bool}{core:aev}{d:Nat}
def afQ(hx:bq x m)(hy:bq y n)(hm:0<m/\m<=1000)(hn:0<n/\n<=1000):gI (dh x) (dh y)=some (dh<|x*y):=by
 have key:Yd (fun r=>r=dh (x*y)) (gI (dh x)<|dh y):=by
  unfold gI;refine Yd.kD (Fo hx hm.1 hm.2) fun r hr=>Yd.kD (Fo hy hn.1 hn.2) fun s hs=>Yd.cond (fun hc=>?_)<|fun _=>?_
  ·obtain⟨c1,c2⟩:=eM hc;obtain⟨rfl,a1,a2⟩:r=(x.num,(x.den:Int),true)/\_/\_:=by rcases hr with h|h;rw[h] at c1;cases c1;exact h
   obtain⟨rfl,b1,b2⟩:s=(y.num,(y.den:Int),true)/\_/\_:=by rcases hs with h|h;rw[h] at c2;cases c2;exact h
   dsimp only;have p1:(x.num*y.num).natAbs<=999999999*999999999:=by rw[uk];exact vQ (by omega) (by omega)
   have p2:x.den*y.den<=999999999*999999999:=vQ (by omega) (by omega);have p3:0<x.den*y.den:=Nat.mul_pos x.den_pos y.den_pos;have e:((x.den:Int)*(y.den:Int))=((x.den*y.den:Nat):Int):=by rw[uo]
   have hOf:=ab8 (a:=x.num*y.num) (b:=(x.den:Int)*(y.den:Int)) (by omega) (by rw[e];omega);rw[Mv] at hOf;exact Yd.bd (aM ⟨by omega,by omega⟩) (Yd.bd (aM ⟨by rw[e];omega,by rw[e];omega⟩)<|Yd.bd hOf<|Yd.mk rfl)
  ·refine Yd.kD (BN hx hm.1 hm.2) ?_;rintro⟨p1,p2⟩ ⟨⟨a1,a2⟩,a3,a4⟩;refine Yd.kD (BN hy hn.1 hn.2) ?_;rintro⟨q1,q2⟩ ⟨⟨b1,b2⟩,b3,b4⟩;dsimp only at*;refine Yd.kD (BL a1 b1 (by omega) (by omega)) fun u ⟨u1,u2⟩=>Yd.kD (BL a2 b2 (by omega) (by omega)) fun v ⟨v1,v2⟩=>?_
   have hf:=IL u1 v1 (FG (xJ x)<|xJ y) (by omega) (by omega);rw[Mv] at hf;exact Yd.bd hf<|Yd.mk rfl
 obtain⟨r,e,rfl⟩:=key;exact e
def Yb(hx:bq x m)(hy:bq y n)(hm:0<m/\m<=1000)(hn:0<n/\n<=1000):ka (dh x) (dh y)=some (dh<|x+y):=by
 have key:Yd (fun r=>r=dh (x+y)) (ka (dh x)<|dh y):=by
  unfold ka;refine Yd.kD (Fo hx hm.1 hm.2) fun r hr=>Yd.kD (Fo hy hn.1 hn.2) fun s hs=>Yd.cond (fun hc=>?_)<|fun _=>?_
  ·obtain⟨c1,c2⟩:=eM hc;obtain⟨rfl,a1,a2⟩:r=(x.num,(x.den:Int),true)/\_/\_:=by rcases hr with h|h;rw[h] at c1;cases c1;exact h
   obtain⟨rfl,b1,b2⟩:s=(y.num,(y.den:Int),true)/\_/\_:=by rcases hs with h|h;rw[h] at c2;cases c2;exact h
   dsimp only;have p1:(x.num*y.den).natAbs<=999999999*999999999:=by rw[uk,kP];exact vQ (by omega) (by omega)
   have p1':(y.num*x.den).natAbs<=999999999*999999999:=by rw[uk,kP];exact vQ (by omega) (by omega)
   have p2:x.den*y.den<=999999999*999999999:=vQ (by omega) (by omega);have p3:0<x.den*y.den:=Nat.mul_pos x.den_pos y.den_pos;have e:((x.den:Int)*(y.den:Int))=((x.den*y.den:Nat):Int):=by rw[uo]
   have hOf:=ab8 (a:=x.num*y.den+y.num*x.den) (b:=(x.den:Int)*(y.den:Int)) (by omega) (by rw[e];omega);rw[Mw] at hOf;exact Yd.bd (aM ⟨by omega,by omega⟩) (Yd.bd (aM ⟨by omega,by omega⟩) (Yd.bd (aM ⟨by omega,by omega⟩) (Yd.bd (aM ⟨by rw[e];omega,by rw[e];omega⟩)<|Yd.bd hOf<|Yd.mk rfl)))
  ·refine Yd.kD (BN hx hm.1 hm.2) ?_;rintro⟨p1,p2⟩ ⟨⟨a1,a2⟩,a3,a4⟩;refine Yd.kD (BN hy hn.1 hn.2) ?_;rintro⟨q1,q2⟩ ⟨⟨b1,b2⟩,b3,b4⟩;dsimp only at*;refine Yd.kD (BL a1 b2 (by omega) (by omega)) fun u ⟨u1,u2⟩=>Yd.kD (BL b1 a2 (by omega) (by omega)) fun v ⟨v1,v2⟩=>Yd.kD (ab5 u1 v1 (by omega) (by omega)) fun w ⟨w1,w2⟩=>Yd.kD (BL a2 b2 (by omega) (by omega)) fun t ⟨t1,t2⟩=>?_
   have hf:=IL w1 t1 (FG (xJ x)<|xJ y) (by omega) (by omega);rw[Mw] at hf;exact Yd.bd hf<|Yd.mk rfl
 obtain⟨r,e,rfl⟩:=key;exact e
def V7:dh 0=[48]:=ax
def yO(q:Rat)(hl:(dh q).length<1000000):(dh q==([48]:aev))=decide (q=0):=by
 by_cases h:q=0
 ·subst h;rw[V7];rfl
 ·rw[bU h];rw[CC];intro e;apply h;have hn:=G5 q.num;unfold dh at e;cases hd:decide (q.den=1) with
  |true=>
   rw[hd] at e;have e:ff q.num=[48]:=by simpa using e
   unfold ff at e;cases hc:decide (q.num<0) with
   |true=>rw[hc] at e;have e:45::dw q.num.natAbs=[48]:=e;cases e
   |false=>
    rw[hc] at e;have e:dw q.num.natAbs=[48]:=e;have hv:=(nX q.num.natAbs).2;rw[e] at hv;have:q.num=0:=by
     have:dZ [48]=0:=rfl;omega
    exact FF.1 this
  |false=>
   rw[hd] at e;have e:ff q.num++47::dw q.den=[48]:=e;have:=congrArg List.length e;simp at this;have h2:=E6 q.den;omega
def Ul(hl:(dh q).length<1000000):gL (dh q)=some (bif decide (q=0) then 0 else bif decide (q.num<0) then -1 else 1):=by
 obtain⟨c,r,e,Qq,_,_⟩:=NV q.num<|mT q
 have et:dh q=c::r:=e;unfold gL;rw[yO q hl];cases hz:decide (q=0) with
 |true=>rfl
 |false=>
  show fT _ _ _ _=_;rw[et];have g1:gd (decide<|(0:Int)<((c::r).length:Int)) true=true:=by rw[bp (by simp only[List.length_cons];omega)];rfl
  rw[dJ g1];show cond ((decide<|(0:Int)<((c::r).length:Int))&&(decide<|(c.toNat:Int)=(45:Int))) _ _=_;have hb:((decide<|(0:Int)<((c::r).length:Int))&&(decide<|(c.toNat:Int)=(45:Int)))=decide (q.num<0):=by
   rw[bp (show(0:Int)<((c::r).length:Int) by simp only[List.length_cons];omega),sQ];exact yI.2 Qq
  rw[hb];cases decide (q.num<0)<;>rfl
def QE(h:bq q n)(hn:0<n):(dh q).length<=2*n+2:=by
 have hl:=XD h hn;have h2:=yP q.num;unfold dh;cases decide (q.den=1)
 ·simp;omega
 ·simp;omega
def afP(h:bq q n)(hn:0<n/\n<=1000):p5 (dh q)=some (dh<| -q):=by
 have hlen:=QE h hn.1;have hs:=Ul (q:=q) (by omega);unfold p5;rw[hs];have ed:(-q).den=q.den:=Jk q;have en:(-q).num= -q.num:=Jl q;cases hz:decide (q=0) with
 |true=>
  have hz:=bg hz;subst hz
  rfl
 |false=>
  have hz:=bV hz;have hnz:q.num≠0:=fun e=>hz<|FF.1 e
  cases hc:decide (q.num<0) with
  |true=>
   have AL:=bg hc;have et:dh q=45::(dw q.num.natAbs++mT q):=by
    show ff q.num++mT q=_;unfold ff;rw[hc];rfl
   have e2:dh (-q)=dw q.num.natAbs++mT q:=by
    show ff (-q).num++(bif decide ((-q).den=1) then [] else 47::dw (-q).den)=_;rw[en,ed];unfold ff;rw[bU (by omega),FC];rfl
   show bd (iR (dh q) 1 ((dh q).length:Int)) (fun x4=>some x4)=_;rw[e2,et,ke (by omega) (by simp only[List.length_cons];omega) (by omega),Int.toNat_natCast,fe<|bG _];rfl
  |false=>
   have AL:=bV hc;have et:dh q=dw q.num.natAbs++mT q:=by
    show ff q.num++mT q=_;unfold ff;rw[hc];rfl
   have e2:dh (-q)=45::(dw q.num.natAbs++mT q):=by
    show ff (-q).num++(bif decide ((-q).den=1) then [] else 47::dw (-q).den)=_;rw[en,ed];unfold ff;rw[bp (show -q.num<0 by omega),FC];rfl
   show bd (y7 ([45]:aev)<|dh q) (fun x9=>some x9)=_;rw[tQ (by simp;omega),e2,et];rfl
def afO(hx:bq x m)(hy:bq y n)(hm:0<m/\m<=1000)(hn:0<n/\n<=1000):pZ (dh x) (dh y)=some (dh<|x-y):=by
 unfold pZ;rw[afP hy hn];show bd (ka (dh x)<|dh<| -y) (fun x3=>some x3)=_;rw[Yb hx (akm hy) hm hn,Sz];rfl
def Vv{e:Bool}(hl:l.length<1099511627776):lp 18446744073709551616 (fun(k2:Int->auz Bool) (s1:Int)=>
  cond (decide<|s1<(l.length:Int)) (
   bd (bj l s1) fun x4=>
   fT (gd (decide<|(x4.toNat:Int)<(48:Int)) false) (0) (bj l s1) fun x6=>
   cond (((decide<|(x4.toNat:Int)<(48:Int))||(decide<|(57:Int)<(x6.toNat:Int)))) (
    some false
   ) (
    bd (aF<|s1+(1:Int)) fun x9=>
    k2 x9
   )
  ) (
   some e
  )
 ) (0:Int)=some (l.all iB&&e):=by
 have key:Yd (fun r=>r=(l.all iB&&e)) (lp 18446744073709551616 (fun(k2:Int->auz Bool) (s1:Int)=>
  cond (decide<|s1<(l.length:Int)) (
   bd (bj l s1) fun x4=>
   fT (gd (decide<|(x4.toNat:Int)<(48:Int)) false) (0) (bj l s1) fun x6=>
   cond (((decide<|(x4.toNat:Int)<(48:Int))||(decide<|(57:Int)<(x6.toNat:Int)))) (
    some false
   ) (
    bd (aF<|s1+(1:Int)) fun x9=>
    k2 x9
   )
  ) (
   some e
  )
 ) (0:Int)):=by
  refine Yd.lp (fun i:Int=>0<=i/\i<=l.length/\(l.take i.toNat).all iB=true) (fun i=>l.length-i.toNat) ?_ _ _ ⟨by omega,by omega,by simp⟩ (by omega);rintro next i ⟨g1,g2,g3⟩ hn
  obtain⟨n,rfl⟩:=gQ g1;rw[Int.toNat_natCast] at g3;refine Yd.cond (fun hc=>?_)<|fun hc=>?_
  ·have hc:=bg hc;have hlt:n<l.length:=by omega
   have hg:bj l (n:Int)=some l[n]:=kQ hlt;refine Yd.bd hg ?_;have bad:iB l[n]=false->(l.all iB&&e)=false:=fun h=>by
    have:l.all iB=false:=by
     cases ha:l.all iB with
     |false=>rfl
     |true=>rw[dC.1 ha _<|rp hlt] at h;cases h
    rw[this];rfl
   by_cases Tq:(l[n].toNat:Int)<48
   ·have hd:=bp Tq;have g:gd (decide<|(l[n].toNat:Int)<48) false=false:=by rw[hd];rfl
    rw[oO g];refine Yd.cond (fun _=>Yd.mk ?_) (fun h=>by rw[hd,FA] at h;cases h);rw[bad];unfold iB;rw[show Nat.ble 48 l[n].toNat=false from by
     cases hb:Nat.ble 48 l[n].toNat with
     |false=>rfl
     |true=>have:=gP hb;omega];rfl
   ·have hd:=bU Tq;have g:gd (decide<|(l[n].toNat:Int)<48) false=true:=by rw[hd];rfl
    rw[dJ g];refine Yd.bd hg<|Yd.cond (fun h=>?_)<|fun h=>?_
    ·rw[hd,yD] at h;have h:=bg h;refine Yd.mk ?_;rw[bad];unfold iB;rw[show Nat.ble l[n].toNat 57=false from by
      cases hb:Nat.ble l[n].toNat 57 with
      |false=>rfl
      |true=>have:=gP hb;omega,yE]
    ·rw[hd,yD] at h;have h:=bV h;refine Yd.bd (aM ⟨by omega,by omega⟩) (hn _ ⟨by omega,by omega,?_⟩ (by omega));rw[show(((n:Nat):Int)+1).toNat=n+1 by omega,MJ,kQ hlt,MM,g3];simp only[Option.toList_some,sE,List.all_nil,Bool.and_true,sQ];unfold iB;rw[oG (by omega),oG (by omega)];rfl
  ·have hc:=bV hc;have:n=l.length:=by omega
   subst this;rw[fe<|bG _] at g3;refine Yd.mk ?_;rw[g3];rfl
 obtain⟨r,e,rfl⟩:=key;exact e
def nT(l:aev):Bool:=l.all iB&&(!(l==[])&&(l==[48]|| !(l.head?==some 48)))
def Du(hl:l.length<1099511627776):lH l=some (nT l):=by
 have hd:ua l=some (l.all iB):=by
  unfold ua;rw[Vv hl,Bool.and_true]
 unfold lH;rw[hd]
 match l,hl with
 |[],_=>rfl
 |[x],_=>
  show some ([x].all iB)=_;unfold nT;by_cases h:x=48
  ·subst h;rfl
  ·have e1:([x]==([]:aev))=false:=rfl;have e2:([x].head?==some (48:UInt8))=false:=by simpa using h
   rw[e1,e2];simp
 |x::y::r,hl=>
  have g:(gd (decide<|((x::y::r).length:Int)=(0:Int)) false&&gd (decide<|(1:Int)<((x::y::r).length:Int)) true)=true:=by
   rw[bU (by simp only[List.length_cons];omega),bp (by simp only[List.length_cons];omega)];rfl
  rw[dJ g];show cond ((decide<|((x::y::r).length:Int)=(0:Int))||((decide<|(1:Int)<((x::y::r).length:Int))&&(decide<|(x.toNat:Int)=(48:Int)))) _ _=_;rw[bU (show¬((x::y::r).length:Int)=0 by simp only[List.length_cons];omega),bp (show(1:Int)<((x::y::r).length:Int) by simp only[List.length_cons];omega),yD,sQ];unfold nT;have e1:((x::y::r)==([]:aev))=false:=rfl;have e3:((x::y::r)==([48]:aev))=false:=by
   rw[CC];intro e;cases e
  have e2:((x::y::r).head?==some (48:UInt8))=decide ((x.toNat:Int)=48):=by
   show(some x==some (48:UInt8))=_;by_cases h:x=48
   ·subst h;rfl
   ·rw[bU (fun h'=>h (ML.1 (by show _=48;omega)))];rw[CC];intro e;exact h<|fG e
  rw[e1,e2,e3];cases decide ((x.toNat:Int)=48)
  ·show some _=some _;simp
  ·show some _=some _;simp
def K6(hl:l.length<1099511627776):ny l=some (nT l):=by
 have hd:tY l=some (l.all iB&& !(l==[])):=by
  unfold tY;rw[Vv hl]
 unfold ny;rw[hd];show fT _ _ _ _=_;unfold nT
 match l with
 |[]=>rfl
 |x::r=>
  have e1:((x::r)==([]:aev))=false:=rfl;have e2:((x::r).head?==some (48:UInt8))=decide ((x.toNat:Int)=48):=by
   show(some x==some (48:UInt8))=_;by_cases h:x=48
   ·subst h;rfl
   ·rw[bU (fun h'=>h (ML.1 (by show _=48;omega)))];rw[CC];intro e;exact h<|fG e
  rw[e1,e2];have i0:bj (x::r) (0:Int)=some x:=rfl;rw[i0];cases(x::r).all iB
  ·rfl
  ·cases((x::r)==([48]:aev))<;>rfl
def Pn:∀(n:Nat) (l:aev),l.length=n->nT l=true->l=dw (dZ l)
 |0,l,hl,h=>by
  have:l=[]:=sW hl;subst this;cases h
 |n+1,l,hl,h=>by
  have hne:l≠[]:=by intro e;subst e;simp at hl
  obtain⟨h1,h2⟩:=eM h;obtain⟨h3,h4⟩:=eM h2;have hx:=List.dropLast_concat_getLast hne
  generalize hi:l.dropLast=i at hx
  generalize l.getLast hne=d at hx
  subst hx;rw[MM] at h1;obtain⟨hi1,hd1⟩:=eM h1;have hd:iB d=true:=by simpa using hd1
  have YT:=FX hd;have ed:UInt8.ofNat (48+(d.toNat-48))=d:=by
   rw[show 48+(d.toNat-48)=d.toNat by omega];simp
  have ev:dZ [d]=d.toNat-48:=by simp[dZ]
  rw[wP,ev,List.length_singleton,Nat.pow_one];by_cases h0:i=[]
  ·subst h0;rw[show dZ ([]:aev)=0 from rfl,MH,wG,qj (by omega),ed];rfl
  ·have aje: ¬(i.head?=some 48):=fun e=>by
    have e2:(i++[d]).head?=some 48:=by rw[List.head?_append,e];rfl
    rw[e2] at h4;have e3:((i++[d])==[48])=false:=by
     rw[CC];intro e;have:=congrArg List.length e;simp at this;exact h0 this
    rw[e3] at h4;cases h4
   have hid:nT i=true:=by
    unfold nT;rw[hi1];have e1:(i==([]:aev))=false:=by rw[CC];exact h0
    have e2:(i.head?==some (48:UInt8))=false:=by rw[CC];exact aje
    rw[e1,e2];simp
   have hln:i.length=n:=by simpa using hl
   have ih:=Pn n i hln hid;have hpos:0<dZ i:=by
    rcases xD (dZ i) with e|e
    ·rw[e] at ih;rw[ih] at aje;exact absurd rfl aje
    ·exact e
   rw[tv (by omega),show(dZ i*10+(d.toNat-48))/10=dZ i by omega,show(dZ i*10+(d.toNat-48))%10=d.toNat-48 by omega,<-ih,ed]
def sp:aev->aev×aev×Bool
 |[]=>([],[],false)
 |b::l=>bif b==47 then([],l,true) else(b::(sp l).1,(sp l).2.1,(sp l).2.2)
def Pp:∀(s pre:aev),cutAt 47 pre s=(pre.reverse++(sp s).1,(sp s).2.1,(sp s).2.2)
 |[],pre=>by simp[cutAt,sp]
 |b::l,pre=>by
  unfold cutAt sp;cases h:b==47
  ·rw[fA,fA,Pp l];simp
  ·simp
def XZ:∀(s:aev),s=(sp s).1++(bif (sp s).2.2 then 47::(sp s).2.1 else [])/\(∀x∈(sp s).1,x≠47)/\((sp s).2.2=false->(sp s).2.1=[])
 |[]=>⟨rfl,by simp[sp],fun _=>rfl⟩
 |b::l=>by
  obtain⟨h1,h2,h3⟩:=XZ l;unfold sp;cases h:b==47
  ·rw[fA];dsimp only;refine⟨by(conv=>lhs;rw[h1]);rfl,fun x hx=>?_,h3⟩;rcases bP.1 hx with e|hx
   ·subst e;simpa using h
   ·exact h2 x hx
  ·have:b=47:=by simpa using h
   subst this;exact⟨rfl,by simp,fun h=>by cases h⟩
def ql(neg:Bool)(u t:aev)(fd:Bool):Int:=
 bif ((!nT u)||(neg&&(u==([48]:aev))))||(fd&&(((!nT t)||(t==([48]:aev)))||(t==([49]:aev)))) then 1
 else bif fd&& !decide (Nat.gcd (dZ u) (dZ t)=1) then 1 else 0
def yR(h:nT l=true):l.all iB=true/\l≠[]:=by
 obtain⟨h1,h2⟩:=eM h;obtain⟨h3,_⟩:=eM h2;refine⟨h1,?_⟩;intro e;subst e;cases h3
def F2(h:l.all iB=true)(hl:l.length<1000000):uP l=some (dZ l:Int):=by
 unfold uP;split
 ·rename_i ds;have:=dC.1 h 45 (by simp);cases this
 ·rw[h,show Nat.blt l.length 1000000=true from oG hl];rfl
def aa8(h:l.all iB=true)(hl:l.length<1000000):uP (45::l)=some (-(dZ l:Int)):=by
 show z7 (l.all iB&&Nat.blt l.length 1000000) (-(dZ l:Int))=_;rw[h,show Nat.blt l.length 1000000=true from oG hl];rfl
def QH{z:Int}(h:z.natAbs<10^14):uV z=true:=ym h (by omega)
def Vx(hl:core.length<=14):Yw (bif neg then 45::core else core) [47]=some ((bif neg then 45::(sp core).1 else(sp core).1),(sp core).2.1,(sp core).2.2):=by
 cases neg
 ·show z7 (Nat.blt core.length 4294967281) (cutAt 47 [] core)=_;rw[show Nat.blt core.length 4294967281=true from oG (by omega),Pp];rfl
 ·show z7 (Nat.blt (45::core).length 4294967281) (cutAt 47 [] (45::core))=_;rw[show Nat.blt (45::core).length 4294967281=true from oG (by simp only[List.length_cons];omega),Pp];rfl
def Lj:bD (45::u) [45]=some true:=by
 have e:iR (45::u) 0 (([45]:aev).length:Int)=some [45]:=by rw[ke (by omega) (by simp) (by simp;omega)];rfl
 have hd:decide ((([45]:aev).length:Int)<=((45::u).length:Int))=true:=bp (by simp;omega);have g:gd (decide<|(([45]:aev).length:Int)<=((45::u).length:Int)) true=true:=by rw[hd];rfl
 unfold bD;rw[dJ g,e];show some (_&&_)=_;rw[hd];rfl
def Wt:hZ (45::u) [45]=some (u,true):=by
 have e2:iR (45::u) (([45]:aev).length:Int) ((45::u).length:Int)=some u:=by
  rw[ke (by simp) (by simp;omega) (by omega)];simp
 unfold hZ ik;rw[Lj];show bd (bd (iR (45::u) (([45]:aev).length:Int) ((45::u).length:Int)) _) _=_;rw[e2];rfl
def Oi(h:u.head?≠some 45):bD u [45]=some false:=by
 unfold bD
 match u,h with
 |[],_=>rfl
 |x::r,h=>
  have e:iR (x::r) 0 (([45]:aev).length:Int)=some [x]:=by rw[ke (by omega) (by simp) (by simp;omega)];rfl
  have hd:decide ((([45]:aev).length:Int)<=((x::r).length:Int))=true:=bp (by simp;omega);have g:gd (decide<|(([45]:aev).length:Int)<=((x::r).length:Int)) true=true:=by rw[hd];rfl
  rw[dJ g,e];show some (_&&_)=_;have:([x]==([45]:aev))=false:=by
   rw[CC];intro e;have e:x=45:=by simpa using e
   subst e;exact h rfl
  rw[this,yE]
def Ws(h:u.head?≠some 45):hZ u [45]=some (u,false):=by
 unfold hZ ik;rw[Oi h];rfl
def aG{α ρ:Type}(x:α)(K:α->auz ρ):bd (some x) K=K x:=rfl
def TZ(hl:core.length<=14)(Qq:neg=false->core.head?≠some 45):iG (bif neg then 45::core else core)=some (ql neg (sp core).1 (sp core).2.1 (sp core).2.2):=by
 obtain⟨q1,q2,q3⟩:=XZ core;have hlen:=congrArg List.length q1;rw[List.length_append] at hlen;unfold iG;rw[Vx hl]
 generalize hu:(sp core).1=u at*
 generalize ht:(sp core).2.1=t at*
 generalize hf:(sp core).2.2=fd at*
 have WV:u.length<=14:=by omega
 have SM:t.length<=14:=by
  cases fd
  ·rw[q3 rfl];simp
  ·rw[fU,List.length_cons] at hlen;omega
 have hp:hZ (bif neg then 45::u else u) [45]=some (u,neg):=by
  cases neg
  ·refine Ws ?_;have Qq:=Qq rfl;intro e;have e:u.head?=some 45:=e;apply Qq;rw[q1,List.head?_append,e];rfl
  ·exact Wt
 show bd (hZ (bif neg then 45::u else u) [45]) _=_;rw[hp];show bd (ny u) _=_;rw[K6 (l:=u) (by omega)];show fT _ _ (ny t) _=_;rw[K6 (l:=t) (by omega)];have tail:∀ako:Bool,ako=(fd&&(((!nT t)||(t==([48]:aev)))||(t==([49]:aev))))->((!nT u)||(neg&&(u==([48]:aev))))=false->ako=false->
  (cond (((decide<|(600:Int)<(u.length:Int))||(decide<|(600:Int)<(t.length:Int)))) (
   some (4:Int)
  ) (
   jn (fun(Dr:Unit)=>
    some (0:Int)
   ) fun JD=>
   cond (fd) (
    bd (uP u) fun gH=>
    bd (uP t) fun ib=>
    bd (Td gH ib) fun jG=>
    bd (HO jG) fun lN=>
    cond (((!lN.2)||(!decide (lN.1=(1:Int))))) (
     some (1:Int)
    ) (
     JD ()
    )
   ) (
    JD ()
   )
  ))=some (ql neg u t fd):=by
  intro ako e1 e2 e3;rw[bU (by omega),bU (by omega)];unfold ql;rw[e2,<-e1,e3];cases fd
  ·rfl
  ·have du:nT u=true:=by
    cases h:nT u with
    |true=>rfl
    |false=>rw[h] at e2;cases e2
   have dt:nT t=true:=by
    cases h:nT t with
    |true=>rfl
    |false=>rw[h] at e1;rw[e1] at e3;cases e3
   have au:=yR du;have at':=yR dt;have lu:=yl u au.1;have lt:=yl t at'.1;have p1:=vU (show 0<10 by omega) WV;have p2:=vU (show 0<10 by omega) SM;have hg:Td (dZ u:Int) (dZ t:Int)=some (Nat.gcd (dZ u) (dZ t):Int):=by
    unfold Td;rw[QH (by simp;omega),QH (by simp;omega)];rfl
   have att:Nat.gcd (dZ u) (dZ t)<10^14:=by
    rcases xD (dZ u) with e|e
    ·rw[e,Nat.gcd_zero_left];omega
    ·have:=Nat.le_of_dvd e (Nat.gcd_dvd_left (dZ u)<|dZ t);omega
   have hs:HO (Nat.gcd (dZ u) (dZ t):Int)=some ((Nat.gcd (dZ u) (dZ t):Int),true):=by
    unfold HO B0;rw[bU (by omega),bp (by omega),bp (by omega)];rfl
   show bd (uP u) _=_;rw[F2 au.1 (by omega)];show bd (uP t) _=_;rw[F2 at'.1 (by omega)];show bd (Td _ _) _=_;rw[hg];rw[aG];rw[hs];show cond (false|| !decide (((Nat.gcd (dZ u) (dZ t):Nat):Int)=1)) (some 1) (some 0)=some (bif false then 1 else bif true&& !decide (Nat.gcd (dZ u) (dZ t)=1) then 1 else 0);have e:decide (((Nat.gcd (dZ u) (dZ t):Nat):Int)=1)=decide (Nat.gcd (dZ u) (dZ t)=1):=yI.2 (by omega);rw[e];cases decide (Nat.gcd (dZ u) (dZ t)=1)<;>rfl
 cases hb1:((!nT u)||(neg&&(u==([48]:aev)))) with
 |true=>
  show fT (gd true false&&gd fd true) false _ _=_;rw[oO (by rfl)];show cond (true||_) _ _=_;rw[FA,fU];unfold ql;rw[hb1];rfl
 |false=>
  cases fd with
  |false=>
   show fT (gd false false&&gd false true) false _ _=_;rw[oO (by rfl)];exact tail false rfl hb1 rfl
  |true=>
   show fT (gd false false&&gd true true) false _ _=_;rw[dJ (by rfl)];show cond (false||(true&&_)) _ _=_;cases hb2:(((!nT t)||(t==([48]:aev)))||(t==([49]:aev))) with
   |true=>
    show some 1=_;unfold ql;rw[hb1,hb2];rfl
   |false=>exact tail false (by rw[hb2];rfl) hb1 rfl
def Us{t:aev}(hu:nT u=true)(ht:nT t=true)(YV:∀x∈u,x≠47)(lu:u.length<=1000)(lt:t.length<=1000):Yd (fun p=>qW p.1 (dZ u:Int)/\qW p.2 (dZ t:Int)/\p.1.2.length<=u.length/\p.2.2.length<=t.length) (je (u++47::t)):=by
 have au:=yR hu;have at':=yR ht;have hlt:(u++47::t).length=u.length+1+t.length:=by simp;omega
 unfold je;refine Yd.bd (IA YV (by omega)) (Yd.cond (fun h=>by have:=bg h;omega)<|fun _=>?_);have es:iR (u++47::t) 0 (u.length:Int)=some u:=by
  rw[ke (by omega) (by omega) (by omega)];simp
 have et:iR (u++47::t) ((u.length:Int)+1) ((u++47::t).length:Int)=some t:=by
  rw[ke (by omega) (by omega) (by omega),Int.toNat_natCast,fe<|bG _,show((u.length:Int)+1).toNat=u.length+1 by omega,<-ji];simp
 refine Yd.bd es (Yd.kD (Kr false au.1 au.2 (by omega)) fun p hp=>Yd.bd (aM ⟨by omega,by omega⟩) (Yd.bd et (Yd.kD (Kr false at'.1 at'.2 (by omega)) fun r hr=>Yd.mk ⟨hp.1,hr.1,hp.2,hr.2⟩)))
def Z3(hl:core.length<=14)(Qq:neg=false->core.head?≠some 45):kJ (bif neg then 45::core else core)=some (ql neg (sp core).1 (sp core).2.1 (sp core).2.2):=by
 have key:Yd (fun r=>r=ql neg (sp core).1 (sp core).2.1 (sp core).2.2) (kJ (bif neg then 45::core else core)):=by
  obtain⟨q1,q2,q3⟩:=XZ core;have hlen:=congrArg List.length q1;rw[List.length_append] at hlen;by_cases hF0:(bif neg then 45::core else core)=[]
  ·have hn:neg=false:=by cases neg;rfl;cases hF0
   subst hn;have hc:core=[]:=hF0;subst hc;exact Yd.mk rfl
  obtain⟨c,r,e⟩:∃c r,(bif neg then 45::core else core)=c::r:=by
   cases h:(bif neg then 45::core else core) with
   |nil=>exact absurd h hF0
   |cons c r=>exact⟨c,r,rfl⟩
  have hc:decide ((c.toNat:Int)=45)=neg:=by
   cases neg with
   |true=>
    have:c=45:=by cases e;rfl
    subst this;rfl
   |false=>
    have e:core=c::r:=e;refine bU fun h=>Qq rfl ?_
    have:c=45:=ML.1 (by show _=45;omega);rw[e,this];rfl
  have hs1:neg=true->r=core:=by rintro rfl;cases e;rfl
  have hs0:neg=false->c::r=core:=by rintro rfl;exact e.symm
  generalize hu:(sp core).1=u at*
  generalize ht:(sp core).2.1=t at*
  generalize hf:(sp core).2.2=fd at*
  have WV:u.length<=14:=by omega
  have SM:t.length<=14:=by
   cases fd
   ·rw[q3 rfl];simp
   ·rw[fU,List.length_cons] at hlen;omega
  unfold kJ;rw[e];have g1:gd (decide<|(0:Int)<((c::r).length:Int)) true=true:=by rw[bp (by simp only[List.length_cons];omega)];rfl
  rw[dJ g1];refine Yd.bd (x:=c) rfl ?_;have hb:((decide<|(0:Int)<((c::r).length:Int))&&(decide<|(c.toNat:Int)=(45:Int)))=neg:=by
   rw[bp (show(0:Int)<((c::r).length:Int) by simp only[List.length_cons];omega),sQ,hc]
  rw[hb];refine Yd.jn (fun s=>s=core) ?_<|fun k hk=>Yd.cond (fun hn=>?_)<|fun hn=>?_
  rotate_left
  ·have es:iR (c::r) (1:Int) ((c::r).length:Int)=some core:=by
    rw[ke (by omega) (by simp only[List.length_cons];omega) (by omega),<-hs1 hn];simp
   exact Yd.bd es<|hk _ rfl
  ·exact hk _<|hs0 hn
  ·intro s hs;rw[hs];clear hs s;have hsl:jd core=some (u.length:Int):=by
    rw[q1];cases fd
    ·rw[fA,wK];exact N5 q2 (by omega)
    ·rw[fU];exact IA q2 (by simp;omega)
   have hsu:iR core 0 (u.length:Int)=some u:=by
    rw[ke (by omega) (by omega) (by omega),q1];simp
   have hlt:decide ((u.length:Int)<(core.length:Int))=fd:=by
    cases fd
    ·exact bU (by rw[fA] at hlen;simp at hlen;omega)
    ·exact bp (by rw[fU] at hlen;simp only[List.length_cons] at hlen;omega)
   refine Yd.bd hsl (Yd.bd hsu (Yd.bd (Du (l:=u) (by omega)) ?_));rw[hlt];cases hdu:nT u with
   |false=>
    rw[oO (by rfl),oO (by rfl)];refine Yd.mk ?_;unfold ql;rw[hdu];rfl
   |true=>
    rw[dJ (by rfl)];refine Yd.bd (x:=c) rfl ?_;rw[hc];have aoR:∀K:aev->auz Int,((neg&&(u==([48]:aev)))=true->Yd (fun r=>r=ql neg u t fd) (K u))->((neg&&(u==([48]:aev)))=false->∀w,(neg&&(w==([48]:aev)))=false->Yd (fun r=>r=ql neg u t fd) (K w))->Yd (fun r=>r=ql neg u t fd) (fT (gd (!true) false&&gd neg true) ([]) (iR core 0 (u.length:Int)) K):=by
     intro K h1 h2;cases neg with
     |false=>rw[oO (by rfl)];exact h2 rfl _ rfl
     |true=>
      rw[dJ (by rfl)];refine Yd.bd hsu ?_;cases hb:(true&&(u==([48]:aev))) with
      |true=>exact h1 hb
      |false=>exact h2 hb _ hb
    refine aoR _ (fun hb1=>?_)<|fun hb1 w hw=>?_
    ·rw[hb1];refine Yd.mk ?_;unfold ql;rw[hb1,hdu];rfl
    ·rw[hw];refine Yd.cond (fun h=>by cases h)<|fun _=>?_
     have small:∀K:Int->Int->auz Int,Yd (fun r=>r=ql neg u t fd) (K ((core.length:Int)-(u.length:Int))<|(core.length:Int)-(u.length:Int)-1)->Yd (fun r=>r=ql neg u t fd) (fT (gd (decide<|(600:Int)<(u.length:Int)) false) (0) (aF<|(core.length:Int)-(u.length:Int)) fun z8=>fT (gd (decide<|(600:Int)<(u.length:Int)) false) (0) (aF<|z8-(1:Int)) fun vk=>K z8 vk):=by
      intro K h;rw[bU (show¬(600:Int)<(u.length:Int) by omega),dJ (by rfl)];refine Yd.bd (aM ⟨by omega,by omega⟩) ?_;rw[dJ (by rfl)];exact Yd.bd (aM ⟨by omega,by omega⟩) h
     cases fd with
     |false=>
      rw[oO (by rfl),oO (by rfl),oO (by rfl),oO (by rfl),oO (by rfl),oO (by rfl),oO (by rfl)];refine Yd.cond (fun h=>by cases h)<|fun _=>?_
      refine small (fun z8 vk=>_) ?_;rw[bU (show¬(600:Int)<(u.length:Int) by omega),bU (show¬(600:Int)<((core.length:Int)-(u.length:Int)-1) by omega)];refine Yd.mk ?_;unfold ql;rw[hdu,hb1];rfl
     |true=>
      rw[fU] at q1 hlen;rw[List.length_cons] at hlen;have f1:aF ((u.length:Int)+1)=some ((u.length:Int)+1):=aM ⟨by omega,by omega⟩;have et:iR core ((u.length:Int)+1) (core.length:Int)=some t:=by
       rw[ke (by omega) (by omega) (by omega),Int.toNat_natCast,fe<|bG _,show((u.length:Int)+1).toNat=u.length+1 by omega,q1,<-ji];simp
      rw[dJ (by rfl)];refine Yd.bd f1 ?_;rw[dJ (by rfl)];refine Yd.bd et ?_;rw[dJ (by rfl)];refine Yd.bd (Du (l:=t) (by omega)) ?_;cases hdt:nT t with
      |false=>
       rw[oO (by rfl),oO (by rfl),oO (by rfl),oO (by rfl)];refine Yd.mk ?_;unfold ql;rw[hdu,hb1,hdt];rfl
      |true=>
       rw[dJ (by rfl)];refine Yd.bd f1 ?_;rw[dJ (by rfl)];refine Yd.bd et ?_;cases h0:(t==([48]:aev)) with
       |true=>
        rw[oO (by rfl),oO (by rfl)];refine Yd.mk ?_;unfold ql;rw[hdu,hb1,hdt,h0];rfl
       |false=>
        rw[dJ (by rfl)];refine Yd.bd f1 ?_;rw[dJ (by rfl)];refine Yd.bd et ?_;cases h1:(t==([49]:aev)) with
        |true=>
         refine Yd.mk ?_;unfold ql;rw[hdu,hb1,hdt,h0,h1];rfl
        |false=>
         refine Yd.cond (fun h=>by cases h)<|fun _=>?_
         refine small (fun z8 vk=>_) ?_;rw[bU (show¬(600:Int)<(u.length:Int) by omega),bU (show¬(600:Int)<((core.length:Int)-(u.length:Int)-1) by omega)];refine Yd.cond (fun h=>by cases h)<|fun _=>?_
         refine Yd.jn (fun _=>Nat.gcd (dZ u) (dZ t)=1) (fun _ h=>Yd.mk ?_) (fun k hk=>Yd.cond (fun _=>?_) (fun h=>by cases h))
         ·unfold ql;rw[hdu,hb1,hdt,h0,h1,bp h];rfl
         ·have pp:=Us hdu hdt q2 (by omega) (by omega);rw[<-q1] at pp;refine Yd.kD pp fun p ⟨p1,p2,p3,p4⟩=>Yd.kD (Og p1.1 p2.1 (by omega) (by omega)) fun w ⟨w1,w2,w3⟩=>?_
          have hv:aH w=(Nat.gcd (dZ u) (dZ t):Int):=by
           rw[w2,p1.2.1,p2.2.1];simp[Int.gcd]
          have U8:=UK w1;rw[hv] at U8;have bad:Nat.gcd (dZ u) (dZ t)≠1->Yd (fun r=>r=ql neg u t true) (some (1:Int)):=fun h=>Yd.mk (by
           unfold ql;rw[hdu,hb1,hdt,h0,h1,bU h];rfl)
          refine Yd.fT (fun hg=>?_)<|fun hg=>?_
          ·have hlw:decide ((w.length:Int)=1)=true:=by
            cases h:decide ((w.length:Int)=1) with
            |true=>rfl
            |false=>rw[h] at hg;cases hg
           obtain⟨d,rfl⟩:∃d,w=[d]:=MY.1 (by have:=bg hlw;omega);refine⟨d,rfl,?_⟩;refine Yd.cond (fun h=>?_)<|fun h=>?_
           ·refine bad fun h'=>?_
            have:=(U8.2 (by omega)).2;have:d=1:=by simpa using this
            subst this;cases h
           ·refine hk () ?_;have:d=1:=by
             by_cases hd:d=1
             ·exact hd
             ·rw[bU hd] at h;rw[FD,Bool.or_true] at h;cases h
            subst this;have:=U8.1 ⟨rfl,rfl⟩;omega
          ·have hlw:decide ((w.length:Int)=1)=false:=by
            cases h:decide ((w.length:Int)=1) with
            |false=>rfl
            |true=>rw[h] at hg;cases hg
           rw[hlw];refine bad fun h'=>?_
           have:=(U8.2 (by omega)).1;rw[hlw] at this;cases this
 obtain⟨r,h1,h2⟩:=key;rw[h1,h2]
def isNum(s:aev)(q:Rat):Prop:=s=dh q/\bq q 14/\iT s=some q
def ad3:dw 0=[48]:=ax
def aj0:dw 1=[49]:=ax
def aiP{a:Int}(h0:d≠0)(hg:Nat.gcd a.natAbs d=1):∃q,mkq a (d:Int)=some q/\q.num=a/\q.den=d:=by
 obtain⟨k,rfl⟩:=Nat.exists_eq_succ_of_ne_zero h0;have h:mkq a ((k+1:Nat):Int)=some (mkRat a<|k+1):=by
  show z7 (Nat.beq (Nat.gcd a.natAbs<|k+1) 1) (mkRat a<|k+1)=_;rw[show Nat.beq (Nat.gcd a.natAbs<|k+1) 1=true from by rw[hg];rfl];rfl
 obtain⟨h1,h2⟩:=UD h;exact⟨_,h,h1,by omega⟩
def ad8(hl:(bif neg then 45::core else core).length<=14)(hc:ql neg (sp core).1 (sp core).2.1 (sp core).2.2=0):∃q,isNum (bif neg then 45::core else core) q:=by
 have hl:core.length<=14:=by cases neg<;>simp at hl<;>omega
 obtain⟨q1,q2,q3⟩:=XZ core;have hlen:=congrArg List.length q1;rw[List.length_append] at hlen;unfold isNum iT;rw[Vx hl]
 generalize hu:(sp core).1=u at*
 generalize ht:(sp core).2.1=t at*
 generalize hf:(sp core).2.2=fd at*
 have WV:u.length<=14:=by omega
 unfold ql at hc;cases ajo:((!nT u)||(neg&&(u==([48]:aev))))||(fd&&(((!nT t)||(t==([48]:aev)))||(t==([49]:aev)))) with
 |true=>rw[ajo] at hc;cases hc
 |false=>
 rw[ajo,fA] at hc;obtain⟨b1,b2⟩:=zL.1 ajo;obtain⟨b3,b4⟩:=zL.1 b1;have du:nT u=true:=by simpa using b3
 have au:=yR du;have lu:=yl u au.1;have p1:=vU (show 0<10 by omega) WV;have eu:=Pn _ u rfl du;obtain⟨z,hz,hzn,Tn⟩:∃z:Int,(bif neg then 45::u else u)=ff z/\z.natAbs=dZ u/\uP (bif neg then 45::u else u)=some z:=by
  cases neg with
  |false=>
   refine⟨(dZ u:Int),?_,by simp,F2 (l:=u) au.1 (by omega)⟩;unfold ff;rw[bU (by omega)];simp[<-eu]
  |true=>
   have h0:dZ u≠0:=fun h=>by
    rw[h,ad3] at eu;rw[eu] at b4;cases b4
   refine⟨-(dZ u:Int),?_,by simp,aa8 (l:=u) au.1 (by omega)⟩;unfold ff;rw[bp (by omega)];simp[<-eu]
 cases fd with
 |false=>
  rw[fA,wK] at q1;refine⟨(z:Rat),?_,⟨by rw[Rat.num_intCast];omega,by rw[Rat.den_intCast];omega⟩,?_⟩
  ·rw[q1,hz];unfold dh;rw[Rat.num_intCast,Rat.den_intCast];simp
  ·show bd (uP (bif neg then 45::u else u)) _=_;rw[Tn];rfl
 |true=>
  rw[fU] at q1 hlen;rw[List.length_cons] at hlen;rw[sQ] at b2 hc;obtain⟨c1,c2⟩:=zL.1 b2;obtain⟨c3,c4⟩:=zL.1 c1;have dt:nT t=true:=by simpa using c3
  have at':=yR dt;have lt:=yl t at'.1;have p2:=vU (show 0<10 by omega) (show t.length<=14 by omega);have et:=Pn _ t rfl dt;have h0:dZ t≠0:=fun h=>by
   rw[h,ad3] at et;rw[et] at c4;cases c4
  have h1:dZ t≠1:=fun h=>by
   rw[h,aj0] at et;rw[et] at c2;cases c2
  have hg:Nat.gcd (dZ u) (dZ t)=1:=by
   cases h:decide (Nat.gcd (dZ u) (dZ t)=1) with
   |true=>exact bg h
   |false=>rw[h] at hc;cases hc
  obtain⟨q,m1,m2,m3⟩:=aiP (a:=z) h0 (by rw[hzn];exact hg);refine⟨q,?_,⟨by omega,by omega⟩,?_⟩
  ·unfold dh;rw[m2,m3,bU h1,fA,<-hz,<-et,q1];cases neg<;>rfl
  ·show bd (uP (bif neg then 45::u else u)) _=_;rw[Tn];show bd (uP t) _=_;rw[F2 at'.1 (by omega)];show bd (mkq z (dZ t:Int)) _=_;rw[m1];rfl
def HH{s:aev}(hl:s.length<=14):∃c,iG s=some c/\kJ s=some c/\(c=0->∃q,isNum s q):=by
 obtain⟨neg,core,rfl,Qq⟩:∃(neg:Bool) (core:aev),s=(bif neg then 45::core else core)/\(neg=false->core.head?≠some 45):=by
  match s with
  |[]=>exact⟨false,[],rfl,fun _ h=>by cases h⟩
  |x::r=>
   by_cases hx:x=45
   ·exact⟨true,r,by rw[hx];rfl,fun h=>by cases h⟩
   ·exact⟨false,x::r,rfl,fun _ h=>hx<|fG h⟩
 have hlc:core.length<=14:=by cases neg<;>simp at hl<;>omega
 exact⟨_,TZ hlc Qq,Z3 hlc Qq,ad8 hl⟩
def oq(v:aev×aev×aev)(q:Rat×Rat×Rat):Prop:=isNum v.1 q.1/\isNum v.2.1 q.2.1/\isNum v.2.2 q.2.2
def short(v:aev×aev×aev):Prop:=v.1.length<=14/\v.2.1.length<=14/\v.2.2.length<=14
def f3(a b c:Int):Int:=bif !decide (a=0) then a else bif !decide (b=0) then b else c
def jr{σ ρ:Type}{B:(σ->auz ρ)->σ->auz ρ}(n:Nat)(s:σ):lp (n+1) B s=B (lp n B) s:=rfl
def l5{v:aev×aev×aev}(hl:short v):∃c,dc v=some c/\fj v=some c/\(c=0->∃q,oq v q):=by
 obtain⟨a,b,c⟩:=v;obtain⟨l1,l2,l3⟩:=hl;obtain⟨ca,a1,a2,a3⟩:=HH (s:=a) l1;obtain⟨cb,b1,b2,b3⟩:=HH (s:=b) l2;obtain⟨cc,c1,c2,c3⟩:=HH (s:=c) l3;refine⟨f3 ca cb cc,?_,?_,?_⟩
 ·unfold dc vI;rw[jr];show bd (bd (iG a) _) _=_;rw[a1,aG];unfold f3;cases ha: !decide (ca=0)
  ·show bd (lp _ _ (1:Int)) _=_;rw[jr];show bd (bd (iG b) _) _=_;rw[b1,aG];cases hb: !decide (cb=0)
   ·show bd (lp _ _ (2:Int)) _=_;rw[jr];show bd (bd (iG c) _) _=_;rw[c1,aG];cases hc: !decide (cc=0)
    ·have:cc=0:=by simpa using hc
     subst this;rfl
    ·rfl
   ·rfl
  ·rfl
 ·unfold fj vM;rw[jr];show bd (bd (kJ a) _) _=_;rw[a2,aG];unfold f3;cases ha: !decide (ca=0)
  ·show bd (lp _ _ (1:Int)) _=_;rw[jr];show bd (bd (kJ b) _) _=_;rw[b2,aG];cases hb: !decide (cb=0)
   ·show bd (lp _ _ (2:Int)) _=_;rw[jr];show bd (bd (kJ c) _) _=_;rw[c2,aG];cases hc: !decide (cc=0)
    ·have:cc=0:=by simpa using hc
     subst this;rfl
    ·rfl
   ·rfl
  ·rfl
 ·intro h;unfold f3 at h;have ea:ca=0:=by
   by_cases e:ca=0
   ·exact e
   ·rw[bU e] at h;exact h
  subst ea;have eb:cb=0:=by
   by_cases e:cb=0
   ·exact e
   ·rw[bU e] at h;exact h
  subst eb;have ec:cc=0:=h;obtain⟨x,hx⟩:=a3 rfl;obtain⟨y,hy⟩:=b3 rfl;obtain⟨z,hz⟩:=c3 ec;exact⟨(x,y,z),hx,hy,hz⟩
def bc(q:Rat)(c n:Nat):Prop:=q.num.natAbs<=c*10^n/\q.den<=10^n
def xk(h:bc q c n)(hc:1<=c/\c<100):bq q (n+2):=by
 have e:(10:Nat)^(n+2)=10^n*100:=by rw[qO]
 have hp:0<(10:Nat)^n:=Fv (by omega);have h1:c*10^n<10^(n+2):=by rw[e,pF];exact(Nat.mul_lt_mul_left hp).2 hc.2
 exact⟨SA h.1 h1,by have:=h.2;omega⟩
def aej(h:bq q n):bc q 1 n:=⟨by rw[uw];exact Fz h.1,Fz h.2⟩
def Ea(h:bq q n)(hn:n<=1000):DO q=true:=by
 have one:∀k:Nat,k<10^n->Nat.blt (Nat.log2 k) 68719476736=true:=by
  intro k hk;refine oG ?_;rcases xD k with h0|h0
  ·rw[h0];exact gP rfl
  ·have h1:(10:Nat)^n<=(2^4)^n:=Nat.pow_le_pow_left (by omega) n;rw[<-Nat.pow_mul] at h1;have:Nat.log2 k<4*n:=(yA (by omega)).2 (by omega);omega
 unfold DO;rw[one _ h.1,one _ h.2];rfl
def WC(c d m n:Nat):(c*10^m)*(d*10^n)=(c*d)*10^(m+n):=by
 rw[qO];grind
def kE(hx:bc x c m)(hy:bc y d n):bc (x*y) (c*d) (m+n):=by
 have h:=Wz (x:=x.num*y.num) (y:=(x.den:Int)*(y.den:Int))<|FG (xJ x)<|xJ y
 rw[Mv] at h;rw[uk,uk,kP,kP] at h;refine⟨fZ h.1 ?_,fZ h.2 ?_⟩
 ·rw[<-WC];exact vQ hx.1 hy.1
 ·rw[qO];exact vQ hx.2 hy.2
def HI(hx:bc x c m)(hy:bc y d n):bc (x+y) (c+d) (m+n):=by
 have h:=Wz (x:=x.num*y.den+y.num*x.den) (y:=(x.den:Int)*(y.den:Int))<|FG (xJ x)<|xJ y
 rw[Mw] at h;rw[uk,kP,kP] at h;have a1:=vQ hx.1 hy.2;have a2:=vQ hy.1 hx.2;have t:=Int.natAbs_add_le (x.num*y.den)<|y.num*x.den
 rw[uk,uk,kP,kP] at t;have e1:=WC c 1 m n;have e2:=WC d 1 n m;rw[uw,Nat.mul_one] at e1 e2;rw[CH n m] at e2;refine⟨?_,fZ h.2 ?_⟩
 ·rw[pg];omega
 ·rw[qO];exact vQ hx.2 hy.2
def akn(h:bc x c n):bc (-x) c n:=by
 refine⟨?_,?_⟩
 ·rw[Jl,FC];exact h.1
 ·rw[Jk];exact h.2
def XF(hx:bc x c m)(hy:bc y d n):bc (x-y) (c+d) (m+n):=by
 rw[Sz];exact HI hx<|akn hy
def okB(c n:Nat):Prop:=1<=c/\c<100/\n<=900
end
section
variable{x y:Rat}{c d m n:Nat}(hx:bc x c m)(hy:bc y d n)(h1:okB c m)(h2:okB d n)
include hx hy h1 h2
def Dw:oe x y=some (x*y):=by
 obtain⟨a,b,e⟩:=h1;obtain⟨a',b',e'⟩:=h2;unfold oe;rw[Ea (xk hx ⟨a,b⟩) (by omega),Ea (xk hy ⟨a',b'⟩) (by omega)];rfl
def Un:Cj x y=some (x+y):=by
 obtain⟨a,b,e⟩:=h1;obtain⟨a',b',e'⟩:=h2;unfold Cj;rw[Ea (xk hx ⟨a,b⟩) (by omega),Ea (xk hy ⟨a',b'⟩) (by omega)];rfl
def aca:BM x y=some (x-y):=by
 obtain⟨a,b,e⟩:=h1;obtain⟨a',b',e'⟩:=h2;unfold BM;rw[Ea (xk hx ⟨a,b⟩) (by omega),Ea (xk hy ⟨a',b'⟩) (by omega)];rfl
def Dv:gI (dh x) (dh y)=some (dh<|x*y):=by
 obtain⟨a,b,e⟩:=h1;obtain⟨a',b',e'⟩:=h2;exact afQ (xk hx ⟨a,b⟩) (xk hy ⟨a',b'⟩) (by omega) (by omega)
def Um:ka (dh x) (dh y)=some (dh<|x+y):=by
 obtain⟨a,b,e⟩:=h1;obtain⟨a',b',e'⟩:=h2;exact Yb (xk hx ⟨a,b⟩) (xk hy ⟨a',b'⟩) (by omega) (by omega)
def ab9:pZ (dh x) (dh y)=some (dh<|x-y):=by
 obtain⟨a,b,e⟩:=h1;obtain⟨a',b',e'⟩:=h2;exact afO (xk hx ⟨a,b⟩) (xk hy ⟨a',b'⟩) (by omega) (by omega)
end
section
variable{n:Nat}{v:Q3}{c m d:Nat}{w:Q3}{q:Rat}
abbrev T3:=aev×aev×aev
def vc(v:Q3)(c n:Nat):Prop:=bc v.1 c n/\bc v.2.1 c n/\bc v.2.2 c n
def c8(v:Q3):T3:=(dh v.1,dh v.2.1,dh v.2.2)
def Db(hv:vc v c m)(hw:vc w d n):bc (lR v w) (c*d+c*d+c*d) (m+n+(m+n)+(m+n)):=
 HI (HI (kE hv.1 hw.1)<|kE hv.2.1 hw.2.1) (kE hv.2.2 hw.2.2)
def mB(hv:vc v c m)(hw:vc w d n)(h1:1<=c/\c<=8)(h2:1<=d/\d<=4)(h3:m<=100/\n<=100):c7 v w=some (lR v w)/\lY (c8 v) (c8 w)=some (dh<|lR v w):=by
 have p0:c*d<=8*4:=vQ h1.2 h2.2;have p1:1*1<=c*d:=vQ h1.1 h2.1;have o1:okB c m:=⟨by omega,by omega,by omega⟩;have o2:okB d n:=⟨by omega,by omega,by omega⟩;have o3:okB (c*d) (m+n):=⟨by omega,by omega,by omega⟩;have o4:okB (c*d+c*d) (m+n+(m+n)):=⟨by omega,by omega,by omega⟩;have a1:=kE hv.1 hw.1;have a2:=kE hv.2.1 hw.2.1;have a3:=kE hv.2.2 hw.2.2;have a4:=HI a1 a2;constructor
 ·unfold c7;rw[Dw hv.1 hw.1 o1 o2,aG,Dw hv.2.1 hw.2.1 o1 o2,aG,Un a1 a2 o3 o3,aG,Dw hv.2.2 hw.2.2 o1 o2,aG,Un a4 a3 o4 o3];rfl
 ·unfold lY c8;dsimp only;rw[Dv hv.1 hw.1 o1 o2,aG,Dv hv.2.1 hw.2.1 o1 o2,aG,Um a1 a2 o3 o3,aG,Dv hv.2.2 hw.2.2 o1 o2,aG,Um a4 a3 o4 o3];rfl
def Pq(hv:vc v 1 m)(hw:vc w 1 n):vc (xK v w) 2 (m+n+(m+n)):=
 ⟨XF (kE hv.2.1 hw.2.2)<|kE hv.2.2 hw.2.1,XF (kE hv.2.2 hw.1)<|kE hv.1 hw.2.2,XF (kE hv.1 hw.2.1)<|kE hv.2.1 hw.1⟩
def Dc(hv:vc v 1 m)(hw:vc w 1 n)(h:m<=100/\n<=100):gX v w=some (xK v w)/\wB (c8 v) (c8 w)=some (c8<|xK v w):=by
 have o1:okB 1 m:=⟨by omega,by omega,by omega⟩;have o2:okB 1 n:=⟨by omega,by omega,by omega⟩;have o3:okB (1*1) (m+n):=⟨by omega,by omega,by omega⟩;constructor
 ·unfold gX;rw[Dw hv.2.1 hw.2.2 o1 o2,aG,Dw hv.2.2 hw.2.1 o1 o2,aG,aca (kE hv.2.1 hw.2.2) (kE hv.2.2 hw.2.1) o3 o3,aG,Dw hv.2.2 hw.1 o1 o2,aG,Dw hv.1 hw.2.2 o1 o2,aG,aca (kE hv.2.2 hw.1) (kE hv.1 hw.2.2) o3 o3,aG,Dw hv.1 hw.2.1 o1 o2,aG,Dw hv.2.1 hw.1 o1 o2,aG,aca (kE hv.1 hw.2.1) (kE hv.2.1 hw.1) o3 o3];rfl
 ·unfold wB c8;dsimp only;rw[Dv hv.2.1 hw.2.2 o1 o2,aG,Dv hv.2.2 hw.2.1 o1 o2,aG,ab9 (kE hv.2.1 hw.2.2) (kE hv.2.2 hw.2.1) o3 o3,aG,Dv hv.2.2 hw.1 o1 o2,aG,Dv hv.1 hw.2.2 o1 o2,aG,ab9 (kE hv.2.2 hw.1) (kE hv.1 hw.2.2) o3 o3,aG,Dv hv.1 hw.2.1 o1 o2,aG,Dv hv.2.1 hw.1 o1 o2,aG,ab9 (kE hv.1 hw.2.1) (kE hv.2.1 hw.1) o3 o3];rfl
def Yx{z:Int}(h:z.natAbs<10^600):vO z=some false:=by
 have key:Yd (fun b=>b=false) (vO z):=by
  have hs:=ym h (by omega);have hd:=nu 600 _ (by omega) h;unfold vO aeu;rw[hs];refine Yd.bd (x:=(bif decide (z=0) then 0 else(Nat.log2 z.natAbs:Int)+1)) rfl ?_
  generalize (bif decide (z=0) then 0 else(Nat.log2 z.natAbs:Int)+1)=n
  cases decide ((1800:Int)<n)
  ·exact Yd.mk rfl
  ·rw[dJ (by rfl)];refine Yd.bd (x:=ff z) (by unfold wN;rw[hs];rfl) ?_;rw[dJ (by rfl)];have apH:iu (ff z) [45]=some (dw z.natAbs):=by
    unfold ff;cases hc:decide (z<0)
    ·rw[fA];have hh:(dw z.natAbs).head?≠some 45:=fun e=>by
      have:=dC.1 (nX z.natAbs).1 45<|List.mem_of_mem_head? e
      cases this
     unfold iu fI;rw[Oi hh];rfl
    ·rw[fU];unfold iu fI;rw[Lj];show bd (bd (iR (45::dw z.natAbs) (([45]:aev).length:Int) ((45::dw z.natAbs).length:Int)) _) _=_;rw[ke (by simp) (by simp;omega) (by omega)];simp;rfl
   refine Yd.bd apH<|Yd.mk ?_
   rw[bU (by omega)];rfl
 obtain⟨r,e,rfl⟩:=key;exact e
def OM(h1:q.num.natAbs<10^600)(h2:q.den<10^600):gx q=some false:=by
 unfold gx;rw[Yx h1,aG,dJ (by rfl),Yx (z:=(q.den:Int)) (by rw[kP];exact h2)];rfl
def KT(h1:q.num.natAbs<10^600)(h2:q.den<10^600):gv q=some (dh q):=by
 have s1:wN q.num=some (ff q.num):=by unfold wN;rw[ym h1 (by omega)];rfl
 have s2:wN (q.den:Int)=some (dw q.den):=by
  unfold wN;rw[ym (z:=(q.den:Int)) (by rw[kP];exact h2) (by omega)];show some (ff (q.den:Int))=_;unfold ff;rw[bU (by omega)];simp
 have l1:=yP q.num;have l2:=nu 600 _ (by omega) h1;have l3:=nu 600 _ (by omega) h2;unfold gv mC dh;rw[aG,s1,s2];cases decide (q.den=1)
 ·rw[fA,aG,tQ (by simp;omega),aG,aG,tQ (by simp;omega)];simp[Trn.bd]
 ·rw[fU,fU,aG,wK]
def sj(v:Q3):Bool:=decide (v.1=0)&&(decide (v.2.1=0)&&decide (v.2.2=0))
def gz{v:T3}{q:Q3}(h:oq v q):vc q 1 14:=⟨aej h.1.2.1,aej h.2.1.2.1,aej h.2.2.2.1⟩
def iA{v:T3}{q:Q3}(h:oq v q):v=c8 q:=by
 obtain⟨a,b,c⟩:=v;have h1:a=_:=h.1.1;have h2:b=_:=h.2.1.1;have h3:c=_:=h.2.2.1;rw[h1,h2,h3];rfl
def my{v:T3}{q:Q3}(h:oq v q):fg v=some q:=by
 unfold fg;rw[h.1.2.2,aG,h.2.1.2.2,aG,h.2.2.2.2];rfl
def sign_zero(x:Rat):decide (x.num.sign=0)=decide (x=0):=by
 refine yI.2 ⟨fun h=>FF.1<|Int.sign_eq_zero_iff_zero.1 h,fun h=>by subst h;rfl⟩
def BF(h:bc q c n)(o:okB c n):(dh q).length<1000000:=by
 have:=QE (xk h ⟨o.1,o.2.1⟩) (by omega);have:=o.2.2;omega
def D8(v:Q3):dH v=some (sj v):=by
 unfold dH j9 sj;rw[aG,sign_zero];cases decide (v.1=0)
 ·rfl
 ·rw[dJ (by rfl),aG,sign_zero];cases decide (v.2.1=0)
  ·rfl
  ·rw[dJ (by rfl),aG,sign_zero];cases decide (v.2.2=0)<;>rfl
def Eu(h:vc v 1 14):ma (c8 v)=some (sj v):=by
 have o:okB 1 14:=⟨by omega,by omega,by omega⟩;have t1:=yO v.1<|BF h.1 o
 have t2:=yO v.2.1<|BF h.2.1 o
 have t3:=yO v.2.2<|BF h.2.2 o
 show some (decide<|c8 v=(([48]:aev),([48]:aev),([48]:aev)))=_;unfold sj;rw[<-t1,<-t2,<-t3]
 congr 1
 rw[Bool.eq_iff_iff];unfold c8;simp[yB]
def ag6(h:bc q c m)(hc:c<=d)(hm:m<=n):bc q d n:=by
 have hp:=vU (show 0<10 by omega) hm;exact⟨fZ h.1<|vQ hc hp,fZ h.2 hp⟩
def HN(hv:vc v c m)(hw:vc w d n):vc (Gj v w) (c+d) (m+n):=
 ⟨HI hv.1 hw.1,HI hv.2.1 hw.2.1,HI hv.2.2 hw.2.2⟩
def PA(hv:vc v c m)(hw:vc w d n)(o1:okB c m)(o2:okB d n):dr v w=some (Gj v w)/\mq (c8 v) (c8 w)=some (c8<|Gj v w):=by
 constructor
 ·unfold dr;rw[Un hv.1 hw.1 o1 o2,aG,Un hv.2.1 hw.2.1 o1 o2,aG,Un hv.2.2 hw.2.2 o1 o2];rfl
 ·unfold mq c8;dsimp only;rw[Um hv.1 hw.1 o1 o2,aG,Um hv.2.1 hw.2.1 o1 o2,aG,Um hv.2.2 hw.2.2 o1 o2];rfl
def IG{a:Rat}(hv:vc v c m)(ha:bc a d n):vc (Wj v a) (c*d) (m+n):=
 ⟨kE hv.1 ha,kE hv.2.1 ha,kE hv.2.2 ha⟩
def IF{a:Rat}(hv:vc v c m)(ha:bc a d n)(o1:okB c m)(o2:okB d n):dx v a=some (Wj v a)/\hC (dh a) (c8 v)=some (c8<|Wj v a):=by
 constructor
 ·unfold dx;rw[Dw hv.1 ha o1 o2,aG,Dw hv.2.1 ha o1 o2,aG,Dw hv.2.2 ha o1 o2];rfl
 ·unfold hC c8;dsimp only;rw[Dv ha hv.1 o2 o1,aG,Dv ha hv.2.1 o2 o1,aG,Dv ha hv.2.2 o2 o1,Rat.mul_comm a,Rat.mul_comm a,Rat.mul_comm a];rfl
abbrev PS:=Q3×Q3×Q3×Q3
abbrev Tt:=T3×T3×T3×T3
def tM(f:PS)(v:Q3):Q3:=Gj (Gj (Wj f.2.1 v.1)<|Wj f.2.2.1 v.2.1)<|Wj f.2.2.2 v.2.2
def Ir(f:PS):Tt:=(c8 f.1,c8 f.2.1,c8 f.2.2.1,c8 f.2.2.2)
def fc(f:PS):Prop:=vc f.1 1 14/\vc f.2.1 1 14/\vc f.2.2.1 1 14/\vc f.2.2.2 1 14
def Yl:okB 1 14:=⟨by omega,by omega,by omega⟩
def Ce{f:PS}(hf:fc f)(hv:vc v 1 14):vc (tM f v) (1*1+1*1+1*1) (14+14+(14+14)+(14+14)):=
 HN (HN (IG hf.2.1 hv.1)<|IG hf.2.2.1 hv.2.1) (IG hf.2.2.2 hv.2.2)
def BD{f:PS}(hf:fc f)(hv:vc v 1 14):jy f v=some (tM f v)/\nQ (Ir f) (c8 v)=some (c8<|tM f v):=by
 have s1:=IF hf.2.1 hv.1 Yl Yl;have s2:=IF hf.2.2.1 hv.2.1 Yl Yl;have s3:=IF hf.2.2.2 hv.2.2 Yl Yl;have o28:okB (1*1) (14+14):=⟨by omega,by omega,by omega⟩;have a1:=PA (IG hf.2.1 hv.1) (IG hf.2.2.1 hv.2.1) o28 o28;have a2:=PA (HN (IG hf.2.1 hv.1)<|IG hf.2.2.1 hv.2.1) (IG hf.2.2.2 hv.2.2) ⟨by omega,by omega,by omega⟩ o28;constructor
 ·unfold jy;rw[s1.1,aG,s2.1,aG,a1.1,aG,s3.1,aG,a2.1];rfl
 ·unfold nQ;show bd (hC (dh v.1)<|c8 f.2.1) _=_;rw[s1.2,aG];show bd (hC (dh v.2.1)<|c8 f.2.2.1) _=_;rw[s2.2,aG,a1.2,aG];show bd (hC (dh v.2.2)<|c8 f.2.2.2) _=_;rw[s3.2,aG,a2.2];rfl
def oz{f:PS}(hf:fc f)(hv:vc v 1 14):gF f v=some (Gj f.1<|tM f v)/\jT (Ir f) (c8 v)=some (c8<|Gj f.1<|tM f v):=by
 have t:=BD hf hv;have a:=PA hf.1 (Ce hf hv) Yl ⟨by omega,by omega,by omega⟩;constructor
 ·unfold gF;rw[t.1,aG,a.1];rfl
 ·unfold jT;rw[t.2,aG];show bd (mq (c8 f.1) _) _=_;rw[a.2];rfl
def aqY:10*10^100<10^600:=bg ax
def KW(h:bc q c n)(hc:c<=10)(hn:n<=100):q.num.natAbs<10^600/\q.den<10^600:=by
 have h:=ag6 h hc hn;have:=aqY;exact⟨SA h.1 this,by have:=h.2;omega⟩
def Kg(h:vc v c n)(hc:c<=10)(hn:n<=100):jq v=some false:=by
 have a:=KW h.1 hc hn;have b:=KW h.2.1 hc hn;have d:=KW h.2.2 hc hn;unfold jq;rw[OM a.1 a.2,aG,dJ (by rfl),OM b.1 b.2,aG,dJ (by rfl),OM d.1 d.2];rfl
def NO(h:vc v c n)(hc:c<=10)(hn:n<=100):ir v=some (c8 v):=by
 have a:=KW h.1 hc hn;have b:=KW h.2.1 hc hn;have d:=KW h.2.2 hc hn;unfold ir;rw[KT a.1 a.2,aG,KT b.1 b.2,aG,KT d.1 d.2];rfl
def Mu(h:bc q c n)(o:okB c n):gL (dh q)=some q.num.sign:=by
 rw[Ul<|BF h o]
 congr 1
 by_cases h0:q=0
 ·subst h0;rfl
 ·rw[bU h0,fA];have hn:q.num≠0:=fun e=>h0<|FF.1 e
  by_cases h1:q.num<0
  ·rw[bp h1,fU,sV h1]
  ·rw[bU h1,fA,ru (by omega)]
def ZE{x y:Rat}(hx:bq x n)(hy:bq y n)(h0:0<n)(hn:n<=1000)(h:dh x=dh y):x=y:=by
 obtain⟨p,e1,⟨p1,p2⟩,_⟩:=BN hx h0 hn;obtain⟨r,e2,⟨r1,r2⟩,_⟩:=BN hy h0 hn;rw[h,e2] at e1;have e:=fG e1;subst e;have key:∀{q:Bool×asv Int} {a b:Int},qW q a->qW q b->a=b:=by
  rintro q a b ⟨_,h2,h3⟩ ⟨_,k2,k3⟩;rw[h2] at k2;rw[h3] at k3;have:=yI.1 k3;omega
 have d:=key r2 p2;exact(Rat.ext (key r1 p1) (by omega)).symm
def ane{g:T3->auz Int}{a b c d:T3}{ca cb cc cd:Int}(ha:g a=some ca)(hb:g b=some cb)(hc:g c=some cc)(hd:g d=some cd){E:auz Int}:lp 18446744073709551616 (fun(k2:Int->auz Int) (s1:Int)=>
  cond (decide<|s1<(([a,b,c,d]:asv T3).length:Int)) (
   bd (bj ([a,b,c,d]:asv T3) s1) fun x4=>
   bd (g x4) fun x6=>
   cond (!decide (x6=(0:Int))) (
    some x6
   ) (
    bd (aF<|s1+(1:Int)) fun x9=>
    k2 x9
   )
  ) E
 ) (0:Int)=bif !decide (ca=0) then some ca else bif !decide (cb=0) then some cb else bif !decide (cc=0) then some cc else bif !decide (cd=0) then some cd else E:=by
 rw[jr];show bd (g a) _=_;rw[ha,aG];cases !decide (ca=0)
 ·show lp _ _ (1:Int)=_;rw[jr];show bd (g b) _=_;rw[hb,aG];cases !decide (cb=0)
  ·show lp _ _ (2:Int)=_;rw[jr];show bd (g c) _=_;rw[hc,aG];cases !decide (cc=0)
   ·show lp _ _ (3:Int)=_;rw[jr];show bd (g d) _=_;rw[hd,aG];cases !decide (cd=0)
    ·show lp _ _ (4:Int)=_;rw[jr];rfl
    ·rfl
   ·rfl
  ·rfl
 ·rfl
def ES(x y z:Q3):Int:=bif sj x||(sj y||sj z) then 6 else bif !decide (lR x y=0)||(!decide (lR y z=0)||(!decide (lR z x=0)||decide ((lR (xK x y) z).num.sign<=0))) then 15 else 0
def nJ(f:Tt)(q:PS):Prop:=oq f.1 q.1/\oq f.2.1 q.2.1/\oq f.2.2.1 q.2.2.1/\oq f.2.2.2 q.2.2.2
def zQ{f:Tt}{q:PS}(h:nJ f q):fc q:=⟨gz h.1,gz h.2.1,gz h.2.2.1,gz h.2.2.2⟩
def C0{f:Tt}{q:PS}(h:nJ f q):f=Ir q:=by
 obtain⟨a,b,c,d⟩:=f;have h1:a=_:=iA h.1;have h2:b=_:=iA h.2.1;have h3:c=_:=iA h.2.2.1;have h4:d=_:=iA h.2.2.2;rw[h1,h2,h3,h4];rfl
def C1{f:Tt}{q:PS}(h:nJ f q):lk f=some q:=by
 unfold lk;rw[my h.1,aG,my h.2.1,aG,my h.2.2.1,aG,my h.2.2.2];rfl
def OA(x:Rat):decide (x.num.sign=0)=decide (x=0):=sign_zero x
def TY{o x y z:Q3}(hx:vc x 1 14)(hy:vc y 1 14)(hz:vc z 1 14):(bd (yv (o,x,y,z)) fun x6=>
  bd (x6) fun fJ=>
  KH fJ (fun(k11:Int->auz Int) (x9:V3) (s8:Int)=>
   bd (dH x9) fun gH=>
   cond (gH) (
    some (6:Int)
   ) (
    k11 s8
   )
  ) 0 fun(s8:Int)=>
  bd (jA (o,x,y,z)) fun jG=>
  fT (gd (!jG) false) (0) (BW x y z) fun lN=>
  fT (gd (!jG) false) (0) (j9 lN) fun nZ=>
  bd (qJ ((!jG)||(decide<|nZ<=(0:Int))) (15:Int)) fun uR=>
  some uR)=some (ES x y z):=by
 show bd (dH x) _=_;rw[D8,aG];unfold ES;cases sj x
 ·show bd (dH y) _=_;rw[D8,aG];cases sj y
  ·show bd (dH z) _=_;rw[D8,aG];cases sj z
   ·have d1:=(mB hx hy ⟨by omega,by omega⟩ ⟨by omega,by omega⟩ ⟨by omega,by omega⟩).1;have d2:=(mB hy hz ⟨by omega,by omega⟩ ⟨by omega,by omega⟩ ⟨by omega,by omega⟩).1;have d3:=(mB hz hx ⟨by omega,by omega⟩ ⟨by omega,by omega⟩ ⟨by omega,by omega⟩).1;have c1:=(Dc hx hy ⟨by omega,by omega⟩).1;have e1:=(mB (Pq hx hy) hz ⟨by omega,by omega⟩ ⟨by omega,by omega⟩ ⟨by omega,by omega⟩).1;have ajl:BW x y z=some (lR (xK x y) z):=by
     unfold BW;rw[c1,aG,e1];rfl
    have ho:jA (o,x,y,z)=some (decide (lR x y=0)&&(decide (lR y z=0)&&decide (lR z x=0))):=by
     unfold jA j9;dsimp only;rw[d1,aG,aG,OA];cases decide (lR x y=0)
     ·rfl
     ·rw[dJ (by rfl),d2,aG,dJ (by rfl),aG,OA];cases decide (lR y z=0)
      ·rfl
      ·rw[dJ (by rfl),d3,aG,dJ (by rfl),aG,OA];rfl
    show bd (jA (o,x,y,z)) _=_;rw[ho,aG];cases decide (lR x y=0)
    ·rfl
    ·cases decide (lR y z=0)
     ·rfl
     ·cases decide (lR z x=0)
      ·rfl
      ·show fT _ _ _ _=_;rw[dJ (by rfl),ajl,aG,dJ (by rfl)];unfold j9;rw[aG];cases decide ((lR (xK x y) z).num.sign<=0)<;>rfl
   ·rfl
  ·cases sj z<;>rfl
 ·cases sj y<;>cases sj z<;>rfl
def ZZ{o x y z:Q3}(hx:vc x 1 14)(hy:vc y 1 14)(hz:vc z 1 14):lp 18446744073709551616 (fun(JD:Int->auz Int) (Dr:Int)=>
    cond (decide<|Dr<(([c8 o,c8 x,c8 y,c8 z]:asv T3).length:Int)) (
     bd (bj ([c8 o,c8 x,c8 y,c8 z]:asv T3) Dr) fun gH=>
     bd (ma gH) fun ib=>
     cond (ib) (
      some (6:Int)
     ) (
      bd (aF<|Dr+(1:Int)) fun jR=>
      JD jR
     )
    ) (
     bd (wA<|Ir (o,x,y,z)) fun kL=>
     some kL
    )
   ) (1:Int)=some (ES x y z):=by
 have L:((([c8 o,c8 x,c8 y,c8 z]:asv T3).length:Nat):Int)=4:=rfl;have i1:bj ([c8 o,c8 x,c8 y,c8 z]:asv T3) (1:Int)=some (c8 x):=rfl;have i2:bj ([c8 o,c8 x,c8 y,c8 z]:asv T3) (2:Int)=some (c8 y):=rfl;have i3:bj ([c8 o,c8 x,c8 y,c8 z]:asv T3) (3:Int)=some (c8 z):=rfl;rw[L,jr,show decide ((1:Int)<4)=true from rfl,fU,i1,aG,Eu hx,aG];unfold ES;cases sj x
 ·show lp _ _ (2:Int)=_;rw[jr,show decide ((2:Int)<4)=true from rfl,fU,i2,aG,Eu hy,aG];cases sj y
  ·show lp _ _ (3:Int)=_;rw[jr,show decide ((3:Int)<4)=true from rfl,fU,i3,aG,Eu hz,aG];cases sj z
   ·show lp _ _ (4:Int)=_;rw[jr,show decide ((4:Int)<4)=false from rfl,fA];have d1:=(mB hx hy ⟨by omega,by omega⟩ ⟨by omega,by omega⟩ ⟨by omega,by omega⟩).2;have d2:=(mB hy hz ⟨by omega,by omega⟩ ⟨by omega,by omega⟩ ⟨by omega,by omega⟩).2;have d3:=(mB hz hx ⟨by omega,by omega⟩ ⟨by omega,by omega⟩ ⟨by omega,by omega⟩).2;have c1:=(Dc hy hz ⟨by omega,by omega⟩).2;have e1:=(mB (v:=x) hx (Pq hy hz) ⟨by omega,by omega⟩ ⟨by omega,by omega⟩ ⟨by omega,by omega⟩).2;have eb:=Db hx<|Pq hy hz
    have ed:lR x (xK y z)=lR (xK x y) z:=by unfold lR xK;grind
    rw[ed] at e1 eb;have ajl:Av (c8 x) (c8 y) (c8 z)=some (dh<|lR (xK x y) z):=by
     unfold Av;rw[c1,aG,e1];rfl
    have o3:okB (1*1+1*1+1*1) (14+14+(14+14)+(14+14)):=⟨by omega,by omega,by omega⟩;have z0:∀{v w:Q3},vc v 1 14->vc w 1 14->jf (dh<|lR v w)=some (decide<|lR v w=0):=fun h k=>by
     unfold jf;rw[yO _<|BF (Db h k) o3]
    unfold wA Ir;dsimp only;rw[d1,aG,z0 hx hy,aG];cases decide (lR x y=0)
    ·rfl
    ·rw[dJ (by rfl),d2,aG,dJ (by rfl),z0 hy hz,aG];cases decide (lR y z=0)
     ·rfl
     ·rw[dJ (by rfl),d3,aG,dJ (by rfl),z0 hz hx,aG];cases decide (lR z x=0)
      ·rfl
      ·rw[dJ (by rfl),ajl,aG,dJ (by rfl),Mu eb ⟨by omega,by omega,by omega⟩,aG];cases decide ((lR (xK x y) z).num.sign<=0)<;>rfl
   ·rfl
  ·cases sj z<;>rfl
 ·cases sj y<;>cases sj z<;>rfl
def c4(a b c d e:Int):Int:=bif !decide (a=0) then a else bif !decide (b=0) then b else bif !decide (c=0) then c else bif !decide (d=0) then d else e
def ahV{a b c d e:Int}(h:(decide (a=0)&&(decide (b=0)&&(decide (c=0)&&decide (d=0))))=false):c4 a b c d e≠0/\∀e',c4 a b c d e'=c4 a b c d e:=by
 unfold c4;by_cases ha:a=0
 ·by_cases hb:b=0
  ·by_cases hc:c=0
   ·by_cases hd:d=0
    ·subst ha;subst hb;subst hc;subst hd;cases h
    ·rw[bp ha,bp hb,bp hc,bU hd];exact⟨hd,fun _=>rfl⟩
   ·rw[bp ha,bp hb,bU hc];exact⟨hc,fun _=>rfl⟩
  ·rw[bp ha,bU hb];exact⟨hb,fun _=>rfl⟩
 ·rw[bU ha];exact⟨ha,fun _=>rfl⟩
def Y8{a b c d:Int}{E:auz Int}{e:Int}(h:a=0->b=0->c=0->d=0->E=some e):(bif !decide (a=0) then some a else bif !decide (b=0) then some b else bif !decide (c=0) then some c else bif !decide (d=0) then some d else E)=some (c4 a b c d e):=by
 unfold c4;by_cases ha:a=0
 ·by_cases hb:b=0
  ·by_cases hc:c=0
   ·by_cases hd:d=0
    ·rw[h ha hb hc hd];subst ha;subst hb;subst hc;subst hd;rfl
    ·rw[bp ha,bp hb,bp hc,bU hd];rfl
   ·rw[bp ha,bp hb,bU hc];rfl
  ·rw[bp ha,bU hb];rfl
 ·rw[bU ha];rfl
end
section
variable{fo fx fy fz:T3}{co cx cy cz:Int}{o x y z:Q3}(h:co=0->cx=0->cy=0->cz=0->nJ (fo,fx,fy,fz) (o,x,y,z))
include h
def K7(ho:dc fo=some co)(hx:dc fx=some cx)(hy:dc fy=some cy)(hz:dc fz=some cz):iv (fo,fx,fy,fz)=some (c4 co cx cy cz<|ES x y z):=by
 have hv:mZ [fo,fx,fy,fz]=some (c4 co cx cy cz 0):=by
  unfold mZ;rw[ane ho hx hy hz];exact Y8 fun _ _ _ _=>rfl
 unfold iv;show bd (mZ [fo,fx,fy,fz]) _=_;rw[hv,aG];cases hb:(decide (co=0)&&(decide (cx=0)&&(decide (cy=0)&&decide (cz=0)))) with
 |false=>
  obtain⟨n1,n2⟩:=ahV (e:=0) hb;rw[bU n1,n2<|ES x y z];rfl
 |true=>
  obtain⟨h1,h2⟩:=eM hb;obtain⟨h2,h3⟩:=eM h2;obtain⟨h3,h4⟩:=eM h3;have e1:=bg h1;have e2:=bg h2;have e3:=bg h3;have e4:=bg h4;have F:=h e1 e2 e3 e4;subst e1;subst e2;subst e3;subst e4;show bd (lk (fo,fx,fy,fz)) _=_;rw[C1 F,aG];exact TY (gz F.2.1) (gz F.2.2.1)<|gz F.2.2.2
def QS(ho:fj fo=some co)(hx:fj fx=some cx)(hy:fj fy=some cy)(hz:fj fz=some cz):mo (fo,fx,fy,fz)=some (c4 co cx cy cz<|ES x y z):=by
 refine(ane ho hx hy hz).trans<|Y8 fun h1 h2 h3 h4=>?_
 have F:=h h1 h2 h3 h4;have e1:=iA F.1;have e2:=iA F.2.1;have e3:=iA F.2.2.1;have e4:=iA F.2.2.2;dsimp only at e1 e2 e3 e4;subst e1;subst e2;subst e3;subst e4;exact ZZ (gz F.2.1) (gz F.2.2.1)<|gz F.2.2.2
end
section
variable{f:Tt}{q:PS}{s:T3}{c n:Nat}{e:Int}{p:Q3}
def Mh(h:short f.1/\short f.2.1/\short f.2.2.1/\short f.2.2.2):∃c,iv f=some c/\mo f=some c/\(c=0->∃q,nJ f q):=by
 obtain⟨fo,fx,fy,fz⟩:=f;obtain⟨l1,l2,l3,l4⟩:=h;obtain⟨co,o1,o2,o3⟩:=l5 (v:=fo) l1;obtain⟨cx,x1,x2,x3⟩:=l5 (v:=fx) l2;obtain⟨cy,y1,y2,y3⟩:=l5 (v:=fy) l3;obtain⟨cz,z1,z2,z3⟩:=l5 (v:=fz) l4;cases hb:(decide (co=0)&&(decide (cx=0)&&(decide (cy=0)&&decide (cz=0)))) with
 |false=>
  have n:=ahV (e:=ES (0,0,0) (0,0,0) (0,0,0)) hb;have no:co=0->cx=0->cy=0->cz=0->nJ (fo,fx,fy,fz) ((0,0,0),(0,0,0),(0,0,0),(0,0,0)):=fun a b c d=>by subst a;subst b;subst c;subst d;cases hb
  exact⟨_,K7 no o1 x1 y1 z1,QS no o2 x2 y2 z2,fun e=>absurd e n.1⟩
 |true=>
  obtain⟨h1,h2⟩:=eM hb;obtain⟨h2,h3⟩:=eM h2;obtain⟨h3,h4⟩:=eM h3;obtain⟨o,ho⟩:=o3<|bg h1
  obtain⟨x,hx⟩:=x3<|bg h2
  obtain⟨y,hy⟩:=y3<|bg h3
  obtain⟨z,hz⟩:=z3<|bg h4
  have hF:nJ (fo,fx,fy,fz) (o,x,y,z):=⟨ho,hx,hy,hz⟩;exact⟨_,K7 (fun _ _ _ _=>hF) o1 x1 y1 z1,QS (fun _ _ _ _=>hF) o2 x2 y2 z2,fun _=>⟨_,hF⟩⟩
def AB{l:asv T3}{s1:Int}{x:T3}(h:bj l s1=some x){k2:Int->auz Bool}{R:Bool->Prop}(h1:R true)(h2:short x->Yd R (bd (aF<|s1+(1:Int)) k2)):Yd R (lp 18446744073709551616 (fun(k5:Int->auz Bool) (s4:Int)=>
    cond (decide<|s4<(3:Int)) (
     bd (bj l s1) fun x7=>
     bd (bj ([x7.1,x7.2.1,x7.2.2]:asv aev) s4) fun x9=>
     cond (decide<|(14:Int)<(x9.length:Int)) (
      some true
     ) (
      bd (aF<|s4+(1:Int)) fun fJ=>
      k5 fJ
     )
    ) (
     bd (aF<|s1+(1:Int)) fun gH=>
     k2 gH
    )
   ) (0:Int)):=by
 obtain⟨a,b,c⟩:=x;rw[jr];refine Yd.cond (fun _=>?_) (fun h=>by cases h);refine Yd.bd h<|Yd.bd (x:=a) rfl<|Yd.cond (fun _=>Yd.mk h1)<|fun g1=>Yd.bd (x:=1) rfl ?_
 rw[jr];refine Yd.cond (fun _=>?_) (fun h=>by cases h);refine Yd.bd h<|Yd.bd (x:=b) rfl<|Yd.cond (fun _=>Yd.mk h1)<|fun g2=>Yd.bd (x:=2) rfl ?_
 rw[jr];refine Yd.cond (fun _=>?_) (fun h=>by cases h);refine Yd.bd h<|Yd.bd (x:=c) rfl<|Yd.cond (fun _=>Yd.mk h1)<|fun g3=>Yd.bd (x:=3) rfl ?_
 rw[jr];refine Yd.cond (fun h=>by cases h)<|fun _=>h2 ⟨?_,?_,?_⟩
 ·have:=bV g1;show a.length<=14;omega
 ·have:=bV g2;show b.length<=14;omega
 ·have:=bV g3;show c.length<=14;omega
def alp(v:T3×T3×T3):Yd (fun b=>b=false->short v.1/\short v.2.1/\short v.2.2) (yx v):=by
 unfold yx qM;have key:∀o:auz Bool,Yd (fun b=>b=false->short v.1/\short v.2.1/\short v.2.2) o->Yd (fun b=>b=false->short v.1/\short v.2.1/\short v.2.2) (bd o fun x1=>some x1):=fun o h=>Yd.kD h fun x hx=>Yd.mk hx
 refine key _ ?_;rw[jr];refine Yd.cond (fun _=>AB (x:=v.1) rfl (fun h=>by cases h) fun s1=>Yd.bd (x:=1) rfl ?_) (fun h=>by cases h);rw[jr];refine Yd.cond (fun _=>AB (x:=v.2.1) rfl (fun h=>by cases h) fun s2=>Yd.bd (x:=2) rfl ?_) (fun h=>by cases h);rw[jr];refine Yd.cond (fun _=>AB (x:=v.2.2) rfl (fun h=>by cases h) fun s3=>Yd.bd (x:=3) rfl ?_) (fun h=>by cases h);rw[jr];exact Yd.cond (fun h=>by cases h)<|fun _=>Yd.mk fun _=>⟨s1,s2,s3⟩
def oJ(a b:Int):Int:=bif !decide (a=0) then a else b
def E5(a b:Int):fF [a,b]=some (oJ a b):=by
 unfold fF oJ;rw[jr];show cond (!decide (a=0)) _ _=_;cases h1: !decide (a=0)
 ·show lp _ _ (1:Int)=_;rw[jr];show cond (!decide (b=0)) _ _=_;cases h2: !decide (b=0)
  ·have:b=0:=by simpa using h2
   subst this;rfl
  ·rfl
 ·rfl
def OL(a b:Int):se [a,b]=some (oJ a b):=by
 unfold se oJ;rw[jr];show cond (!decide (a=0)) _ _=_;cases h1: !decide (a=0)
 ·show lp _ _ (1:Int)=_;rw[jr];show cond (!decide (b=0)) _ _=_;cases h2: !decide (b=0)
  ·have:b=0:=by simpa using h2
   subst this;rfl
  ·rfl
 ·rfl
def NN(a u:Q3):Int:=bif sj a||sj u then 6 else bif !decide (lR a u=0) then 15 else 0
def Pw{v:T3×T3×T3}(h:short v.1/\short v.2.1/\short v.2.2):∃c,gy v=some c/\pC v=some c/\(c=0->∃o a u,oq v.1 o/\oq v.2.1 a/\oq v.2.2 u/\NN a u=0):=by
 obtain⟨vo,va,vu⟩:=v;obtain⟨l1,l2,l3⟩:=h;obtain⟨ca,a1,a2,a3⟩:=l5 (v:=vo) l1;obtain⟨cb,b1,b2,b3⟩:=l5 (v:=va) l2;obtain⟨cc,c1,c2,c3⟩:=l5 (v:=vu) l3;unfold gy pC rl;rw[jr,jr];show ∃c,bd (bd (dc vo) _) _=_/\bd (fj vo) _=_/\_;rw[a1,aG,a2,aG];cases ha: !decide (ca=0) with
 |true=>
  refine⟨ca,?_,rfl,fun h=>by subst h;cases ha⟩;rw[fU,aG,ha];rfl
 |false=>
 have ha:ca=0:=by simpa using ha
 subst ha;show ∃c,bd (lp _ _ (1:Int)) _=_/\lp _ _ (1:Int)=_/\_;rw[jr,jr];show ∃c,bd (bd (dc va) _) _=_/\bd (fj va) _=_/\_;rw[b1,aG,b2,aG];cases hb: !decide (cb=0) with
 |true=>
  refine⟨cb,?_,rfl,fun h=>by subst h;cases hb⟩;rw[fU,aG,hb];rfl
 |false=>
 have hb:cb=0:=by simpa using hb
 subst hb;show ∃c,bd (lp _ _ (2:Int)) _=_/\lp _ _ (2:Int)=_/\_;rw[jr,jr];show ∃c,bd (bd (dc vu) _) _=_/\bd (fj vu) _=_/\_;rw[c1,aG,c2,aG];cases hc: !decide (cc=0) with
 |true=>
  refine⟨cc,?_,rfl,fun h=>by subst h;cases hc⟩;rw[fU,aG,hc];rfl
 |false=>
 have hc:cc=0:=by simpa using hc
 subst hc;show ∃c,bd (lp _ _ (3:Int)) _=_/\lp _ _ (3:Int)=_/\_;rw[jr,jr];obtain⟨o,ho⟩:=a3 rfl;obtain⟨a,ha⟩:=b3 rfl;obtain⟨u,hu⟩:=c3 rfl;have vo:=gz ho;have va:=gz ha;have vu:=gz hu;have hx:=Dc va vu ⟨by omega,by omega⟩;have hd:=mB va vu ⟨by omega,by omega⟩ ⟨by omega,by omega⟩ ⟨by omega,by omega⟩;have hdb:=Db va vu;refine⟨NN a u,?_,?_,fun h=>⟨o,a,u,ho,ha,hu,h⟩⟩
 ·show bd (iW _) _=_;unfold iW;rw[my ho,aG,my ha,aG,my hu,aG,hx.1,aG,aG,D8,aG];have hz:(fT (gd (sj a) false) (false) (dH u) fun x8=>
  bd (kb (sj a||x8) (6:Int)) fun eF=>
  bd (c7 a u) fun fJ=>
  bd (j9 fJ) fun gH=>
  bd (kb (!decide (gH=(0:Int))) (15:Int)) fun ib=>
  bd (fF ([eF,ib]:asv Int)) fun jG=>
  some jG)=bd (kb (sj a||sj u) (6:Int)) fun eF=>
  bd (c7 a u) fun fJ=>
  bd (j9 fJ) fun gH=>
  bd (kb (!decide (gH=(0:Int))) (15:Int)) fun ib=>
  bd (fF ([eF,ib]:asv Int)) fun jG=>
  some jG:=by
   cases sj a
   ·rw[dJ (by rfl),D8];rfl
   ·rw[oO (by rfl)];rfl
  refine hz.trans ?_;rw[hd.1];unfold NN j9 kb;simp only[aG,sign_zero];cases sj a||sj u<;>cases decide (lR a u=0)<;>simp only[fA,fU,aG,E5,Bool.not_true,FD]<;>rfl
 ·rw[show decide ((3:Int)<3)=false from rfl,fA];rw[iA ha,iA hu];dsimp only;rw[Eu va,aG,Eu vu];have o3:okB (1*1+1*1+1*1) (14+14+(14+14)+(14+14)):=⟨by omega,by omega,by omega⟩;have tail:sj a=false->sj u=false->(bd (lY (c8 a)<|c8 u) fun ib=>bd (jf ib) fun jG=>bif !jG then some 15 else some 0)=some (NN a u):=by
   intro h1 h2;rw[hd.2,aG];unfold jf;rw[aG,yO _<|BF hdb o3];unfold NN;rw[h1,h2];cases decide (lR a u=0)<;>rfl
  cases h1:sj a with
  |true=>rw[oO (by rfl)];unfold NN;rw[h1];rfl
  |false=>
   rw[dJ (by rfl),aG];cases h2:sj u with
   |true=>unfold NN;rw[h1,h2];rfl
   |false=>exact tail h1 h2
def alo(f:Tt)(p:T3):Yd (fun b=>b=false->(short f.1/\short f.2.1/\short f.2.2.1/\short f.2.2.2)/\short p) (qM [f.1,f.2.1,f.2.2.1,f.2.2.2,p]):=by
 unfold qM;rw[jr];refine Yd.cond (fun _=>AB (x:=f.1) rfl (fun h=>by cases h) fun s1=>Yd.bd (x:=1) rfl ?_) (fun h=>by cases h);rw[jr];refine Yd.cond (fun _=>AB (x:=f.2.1) rfl (fun h=>by cases h) fun s2=>Yd.bd (x:=2) rfl ?_) (fun h=>by cases h);rw[jr];refine Yd.cond (fun _=>AB (x:=f.2.2.1) rfl (fun h=>by cases h) fun s3=>Yd.bd (x:=3) rfl ?_) (fun h=>by cases h);rw[jr];refine Yd.cond (fun _=>AB (x:=f.2.2.2) rfl (fun h=>by cases h) fun s4=>Yd.bd (x:=4) rfl ?_) (fun h=>by cases h);rw[jr];refine Yd.cond (fun _=>AB (x:=p) rfl (fun h=>by cases h) fun s5=>Yd.bd (x:=5) rfl ?_) (fun h=>by cases h);rw[jr];exact Yd.cond (fun h=>by cases h)<|fun _=>Yd.mk fun _=>⟨⟨s1,s2,s3,s4⟩,s5⟩
def B3{o r u:Q3}{d e m k:Nat}(ho:vc o c m)(hr:vc r d n)(hu:vc u e k)(h1:c<=10/\m<=100)(h2:d<=10/\n<=100)(h3:e<=10/\k<=100):iI o r u=some ((c8 o,c8 r,c8 u),(0:Int)):=by
 unfold iI;rw[Kg ho h1.1 h1.2,aG,dJ (by rfl),Kg hr h2.1 h2.2,aG,dJ (by rfl),Kg hu h3.1 h3.2,aG];show bd (ir o) _=_;rw[NO ho h1.1 h1.2,aG,NO hr h2.1 h2.2,aG,NO hu h3.1 h3.2];rfl
abbrev TV:=T3×T3×T3
def aiM:TV:=(([],[],[]),([],[],[]),([],[],[]))
def acG(c e:Int)(v:Q3×Q3×Q3)(f:PS):TV×Int:=
 bif !decide (oJ c e=0) then(aiM,oJ c e) else
 bif !(decide (lR f.2.1 f.2.1=lR f.2.2.1 f.2.2.1)&&decide (lR f.2.1 f.2.1=lR f.2.2.2 f.2.2.2)) then(aiM,15) else
 ((c8<|Gj f.1<|tM f v.1,c8<|tM f v.2.1,c8<|tM f v.2.2),0)
def acb{x y:Rat}(hx:bc x c n)(hy:bc y c n)(o:okB c n):Dx x y=some (decide<|x=y):=by
 obtain⟨a,b,e⟩:=o;unfold Dx;rw[Ea (xk hx ⟨a,b⟩) (by omega),Ea (xk hy ⟨a,b⟩) (by omega)];rfl
def XU{x y:Rat}(hx:bc x c n)(hy:bc y c n)(o:okB c n):(dh x==dh y)=decide (x=y):=by
 obtain⟨a,b,e⟩:=o;rw[Bool.eq_iff_iff,wE,j4];exact⟨ZE (xk hx ⟨a,b⟩) (xk hy ⟨a,b⟩) (by omega) (by omega),fun h=>by rw[h]⟩
def o84:okB (1*1+1*1+1*1) (14+14+(14+14)+(14+14)):=⟨by omega,by omega,by omega⟩
def aag{v:TV}{c:Int}(hv:gy v=some c)(hf:iv f=some e){p:Q3×Q3×Q3}(h1:c=0->oq v.1 p.1/\oq v.2.1 p.2.1/\oq v.2.2 p.2.2)(h2:e=0->nJ f q):oV v f=some (acG c e p q):=by
 unfold oV acG;rw[hv,aG,hf,aG,E5,aG];cases hc: !decide (oJ c e=0) with
 |true=>rfl
 |false=>
  have hf0:oJ c e=0:=by simpa using hc
  have hc0:c=0:=by
   by_cases h:c=0
   ·exact h
   ·unfold oJ at hf0;rw[bU h] at hf0;exact hf0
  subst hc0;have he0:e=0:=hf0;obtain⟨p1,p2,p3⟩:=h1 rfl;have hq:=h2 he0;have F:=zQ hq;have xx:=mB F.2.1 F.2.1 ⟨by omega,by omega⟩ ⟨by omega,by omega⟩ ⟨by omega,by omega⟩;have yy:=mB F.2.2.1 F.2.2.1 ⟨by omega,by omega⟩ ⟨by omega,by omega⟩ ⟨by omega,by omega⟩;have zz:=mB F.2.2.2 F.2.2.2 ⟨by omega,by omega⟩ ⟨by omega,by omega⟩ ⟨by omega,by omega⟩;have bx:=Db F.2.1 F.2.1;have by_:=Db F.2.2.1 F.2.2.1;have bz:=Db F.2.2.2 F.2.2.2;have eo:iW v=some (p.1,p.2.1,p.2.2,xK p.2.1 p.2.2):=by
   unfold iW;rw[my p1,aG,my p2,aG,my p3,aG,(Dc (gz p2) (gz p3) ⟨by omega,by omega⟩).1];rfl
  rw[fA,fA,C1 hq,aG,xx.1,aG,yy.1,aG,acb bx by_ o84,aG];have fin:(bd (iW v) fun kL=>
   bd (gF q kL.1) fun lD=>
   bd (jy q kL.2.1) fun pt=>
   bd (jy q kL.2.2.1) fun pr=>
   bd (iI lD pt pr) fun xR=>
   some (xR.1,xR.2))=some ((c8<|Gj q.1<|tM q p.1,c8<|tM q p.2.1,c8<|tM q p.2.2),(0:Int)):=by
   rw[eo,aG,(oz F<|gz p1).1,aG,(BD F<|gz p2).1,aG,(BD F<|gz p3).1,aG,
    B3 (HN F.1<|Ce F<|gz p1) (Ce F<|gz p2) (Ce F<|gz p3) ⟨by omega,by omega⟩ ⟨by omega,by omega⟩ ⟨by omega,by omega⟩];rfl
  cases decide (lR q.2.1 q.2.1=lR q.2.2.1 q.2.2.1) with
  |false=>rfl
  |true=>
   rw[dJ (by rfl),zz.1,aG,dJ (by rfl),acb bx bz o84,aG];cases decide (lR q.2.1 q.2.1=lR q.2.2.2 q.2.2.2) with
   |false=>rfl
   |true=>exact fin
def Wq(h:nJ f q):qL f=some (decide (lR q.2.1 q.2.1=lR q.2.2.1 q.2.2.1)&&decide (lR q.2.1 q.2.1=lR q.2.2.2 q.2.2.2)):=by
 have F:=zQ h;have xx:=(mB F.2.1 F.2.1 ⟨by omega,by omega⟩ ⟨by omega,by omega⟩ ⟨by omega,by omega⟩).2;have yy:=(mB F.2.2.1 F.2.2.1 ⟨by omega,by omega⟩ ⟨by omega,by omega⟩ ⟨by omega,by omega⟩).2;have zz:=(mB F.2.2.2 F.2.2.2 ⟨by omega,by omega⟩ ⟨by omega,by omega⟩ ⟨by omega,by omega⟩).2;have bx:=Db F.2.1 F.2.1;have by_:=Db F.2.2.1 F.2.2.1;have bz:=Db F.2.2.2 F.2.2.2;rw[C0 h];unfold qL nO Ir;dsimp only;rw[xx,aG,aG,yy,aG,aG,zz,XU bx by_ o84];cases decide (lR q.2.1 q.2.1=lR q.2.2.1 q.2.2.1)
 ·rfl
 ·rw[dJ (by rfl),aG,aG,dJ (by rfl),aG,XU bx bz o84]
def ab6{v:TV}{p:Q3×Q3×Q3}(h1:oq v.1 p.1/\oq v.2.1 p.2.1/\oq v.2.2 p.2.2)(h2:nJ f q):qK v f=some (c8<|Gj q.1<|tM q p.1,c8<|tM q p.2.1,c8<|tM q p.2.2):=by
 obtain⟨p1,p2,p3⟩:=h1;have F:=zQ h2;unfold qK;rw[C0 h2,iA p1,iA p2,iA p3,(oz F<|gz p1).2,aG,(BD F<|gz p2).2,aG,(BD F<|gz p3).2];rfl
def S2(f:PS)(s:Q3):asv TV:=
 [(c8<|Gj f.1<|tM f (0,0,s.2.2),c8 f.2.1,c8 f.2.2.1),(c8<|Gj f.1<|tM f (0,s.2.1,s.2.2),c8 f.2.1,c8<|Wj f.2.2.2<| -1),
  (c8<|Gj f.1<|tM f (0,s.2.1,0),c8 f.2.1,c8<|Wj f.2.2.1<| -1),(c8 f.1,c8 f.2.1,c8 f.2.2.2)]
def DL:bc 0 1 14:=⟨jv _,Fv (n:=14) (show 0<10 by omega)⟩
def ael:bc (-1) 1 14:=⟨by rw[uw];exact Fv (n:=14) (show 0<10 by omega),Fv (n:=14) (show 0<10 by omega)⟩
def t_0:dh 0=[48]:=ax
def aon:dh (-1)=[45,49]:=ax
def aiN(v:Q3):(-v.1,-v.2.1,-v.2.2)=Wj v (-1):=by unfold Wj;rw[Rat.mul_neg,Rat.mul_neg,Rat.mul_neg,Rat.mul_one,Rat.mul_one,Rat.mul_one]
def XP(v:Q3):nx v=some (Wj v<| -1):=by rw[<-aiN];rfl
def aic(f:PS):Gj f.1 (tM f (0,0,0))=f.1:=by
 unfold Gj tM Gj Wj;refine Prod.ext ?_ (Prod.ext ?_ ?_)<;>dsimp only<;>grind
def Z2(hq:nJ f q)(hp:oq s p):rU f s=some (S2 q p):=by
 have F:=zQ hq;have v:=gz hp;have y:=(IF F.2.2.1 ael Yl Yl).2;have z:=(IF F.2.2.2 ael Yl Yl).2;have a:=(oz (v:=(0,0,p.2.2)) F ⟨DL,DL,v.2.2⟩).2;have b:=(oz (v:=(0,p.2.1,p.2.2)) F ⟨DL,v.2.1,v.2.2⟩).2;have c:=(oz (v:=(0,p.2.1,0)) F ⟨DL,v.2.1,DL⟩).2;rw[aon] at y z;unfold c8 at a b c;dsimp only at a b c;rw[t_0] at a b c;rw[C0 hq,iA hp];unfold rU;show bd (hC [45,49]<|c8 q.2.2.1) _=_;rw[y,aG];show bd (hC [45,49]<|c8 q.2.2.2) _=_;rw[z,aG];show bd (jT (Ir q) ([48],[48],dh p.2.2)) _=_;rw[a,aG];show bd (jT (Ir q) ([48],dh p.2.1,dh p.2.2)) _=_;rw[b,aG];show bd (jT (Ir q) ([48],dh p.2.1,[48])) _=_;rw[c];rfl
def aem(p:Q3):Bool:=decide (p.1.num.sign<=0)||(decide (p.2.1.num.sign<=0)||decide (p.2.2.num.sign<=0))
def Pg(c e:Int)(q:PS)(p:Q3):asv TV×Int:=bif !decide (oJ c e=0) then([],oJ c e) else bif aem p then([],3) else(S2 q p,0)
def ahn{v:Q3}(h:vc v 1 14):vc (Wj v<| -1) (1*1) (14+14):=IG h ael
def Xk{c:Int}(hf:iv f=some c)(hs:dc s=some e)(h1:c=0->nJ f q)(h2:e=0->oq s p):uh f s=some (Pg c e q p):=by
 unfold uh Pg;rw[hf,aG,hs,aG,E5,aG];cases hc: !decide (oJ c e=0) with
 |true=>rfl
 |false=>
  have hf0:oJ c e=0:=by simpa using hc
  have hc0:c=0:=by
   by_cases h:c=0
   ·exact h
   ·unfold oJ at hf0;rw[bU h] at hf0;exact hf0
  subst hc0;have he0:e=0:=hf0;have hq:=h1 rfl;have hp:=h2 he0;have F:=zQ hq;have v:=gz hp;rw[fA,fA,my hp,aG,C1 hq,aG];rw[jr];show cond (decide<|p.1.num.sign<=0) _ _=_;unfold aem;cases decide (p.1.num.sign<=0) with
  |true=>rfl
  |false=>
  show lp _ _ (1:Int)=_;rw[jr];show cond (decide<|p.2.1.num.sign<=0) _ _=_;cases decide (p.2.1.num.sign<=0) with
  |true=>rfl
  |false=>
  show lp _ _ (2:Int)=_;rw[jr];show cond (decide<|p.2.2.num.sign<=0) _ _=_;cases decide (p.2.2.num.sign<=0) with
  |true=>rfl
  |false=>
  have a:=(oz (v:=(0,0,p.2.2)) F ⟨DL,DL,v.2.2⟩).1;have b:=(oz (v:=(0,p.2.1,p.2.2)) F ⟨DL,v.2.1,v.2.2⟩).1;have d:=(oz (v:=(0,p.2.1,0)) F ⟨DL,v.2.1,DL⟩).1;have k:=(oz (v:=(0,0,0)) F ⟨DL,DL,DL⟩).1;rw[aic] at k;have g1:=B3 (HN F.1<|Ce F (v:=(0,0,p.2.2)) ⟨DL,DL,v.2.2⟩) F.2.1 F.2.2.1 ⟨by omega,by omega⟩ ⟨by omega,by omega⟩ ⟨by omega,by omega⟩;have g2:=B3 (HN F.1<|Ce F (v:=(0,p.2.1,p.2.2)) ⟨DL,v.2.1,v.2.2⟩) F.2.1 (ahn F.2.2.2) ⟨by omega,by omega⟩ ⟨by omega,by omega⟩ ⟨by omega,by omega⟩;have g3:=B3 (HN F.1<|Ce F (v:=(0,p.2.1,0)) ⟨DL,v.2.1,DL⟩) F.2.1 (ahn F.2.2.1) ⟨by omega,by omega⟩ ⟨by omega,by omega⟩ ⟨by omega,by omega⟩;have g4:=B3 F.1 F.2.1 F.2.2.2 ⟨by omega,by omega⟩ ⟨by omega,by omega⟩ ⟨by omega,by omega⟩;show lp _ _ (3:Int)=_;rw[jr];rw[show decide ((3:Int)<3)=false from rfl,fA,show qF (0:Int)=some (0:Rat) from rfl,aG,XP,aG,XP,aG];rw[jr];show bd (gF q (0,0,p.2.2)) _=_;rw[a,aG];show bd (iI _ q.2.1 q.2.2.1) _=_;rw[g1];show lp _ _ (_,(1:Int))=_;rw[jr];show bd (gF q (0,p.2.1,p.2.2)) _=_;rw[b,aG];show bd (iI _ q.2.1<|Wj q.2.2.2<| -1) _=_;rw[g2];show lp _ _ (_,(2:Int))=_;rw[jr];show bd (gF q (0,p.2.1,0)) _=_;rw[d,aG];show bd (iI _ q.2.1<|Wj q.2.2.1<| -1) _=_;rw[g3];show lp _ _ (_,(3:Int))=_;rw[jr];show bd (gF q (0,0,0)) _=_;rw[k,aG];show bd (iI _ q.2.1 q.2.2.2) _=_;rw[g4];show lp _ _ (_,(4:Int))=_;rw[jr];rfl
def sgB(s:T3)(K:Int->auz Bool)(w:Int):auz Bool:=lp 18446744073709551616 (fun(k36:(Int×Int)->auz Bool) (Lh:Int×Int)=>
      cond (((decide<|Lh.2<(3:Int))&&(decide<|Lh.1=(0:Int)))) (
       jn (fun(s38:Int)=>
        bd (aF<|Lh.2+(1:Int)) fun LI=>
        k36 (s38,LI)
       ) fun k39=>
       bd (bj ([s.1,s.2.1,s.2.2]:asv aev) Lh.2) fun Rv=>
       bd (gL Rv) fun Zp=>
       cond (decide<|Zp<=(0:Int)) (
        k39 (3:Int)
       ) (
        k39 Lh.1
       )
      ) (K Lh.1)) (w,(0:Int))
def afN(hp:oq s p)(w:Int){K:Int->auz Bool}:sgB s K w=K (bif decide (w=0)&&aem p then 3 else w):=by
 unfold sgB;have v:=gz hp;have e1:gL s.1=some p.1.num.sign:=by rw[iA hp];exact Mu v.1 Yl
 have e2:gL s.2.1=some p.2.1.num.sign:=by rw[iA hp];exact Mu v.2.1 Yl
 have e3:gL s.2.2=some p.2.2.num.sign:=by rw[iA hp];exact Mu v.2.2 Yl
 by_cases h0:w=0
 ·subst h0;unfold aem;rw[jr];show bd (gL s.1) _=_;rw[e1,aG];cases decide (p.1.num.sign<=0) with
  |true=>
   show lp _ _ ((3:Int),(1:Int))=_;rw[jr];rfl
  |false=>
  show lp _ _ ((0:Int),(1:Int))=_;rw[jr];show bd (gL s.2.1) _=_;rw[e2,aG];cases decide (p.2.1.num.sign<=0) with
  |true=>
   show lp _ _ ((3:Int),(2:Int))=_;rw[jr];rfl
  |false=>
  show lp _ _ ((0:Int),(2:Int))=_;rw[jr];show bd (gL s.2.2) _=_;rw[e3,aG];cases decide (p.2.2.num.sign<=0) with
  |true=>
   show lp _ _ ((3:Int),(3:Int))=_;rw[jr];rfl
  |false=>
  show lp _ _ ((0:Int),(3:Int))=_;rw[jr];rfl
 ·rw[jr,bU h0,yE];rfl
def ab7(w:Int)(h0:w≠0){K:Int->auz Bool}:sgB s K w=K w:=by
 unfold sgB;rw[jr,bU h0,yE];rfl
def ZM{a b c d:TV}{E:auz Bool}:lp 18446744073709551616 (fun(k54:Int->auz Bool) (Ue:Int)=>
          cond (decide<|Ue<(4:Int)) (
           bd (bj [a,b,c,d] Ue) fun Mk=>
           bd (bj [a,b,c,d] Ue) fun Mj=>
           cond (!decide (Mk=Mj)) (
            some false
           ) (
            bd (aF<|Ue+(1:Int)) fun Tu=>
            k54 Tu
           )
          ) E
         ) (0:Int)=E:=by
 have t:∀x:TV,decide (x=x)=true:=fun x=>bp rfl
 rw[jr];show cond (!decide (a=a)) _ _=_;rw[t];show lp _ _ (1:Int)=_;rw[jr];show cond (!decide (b=b)) _ _=_;rw[t];show lp _ _ (2:Int)=_;rw[jr];show cond (!decide (c=c)) _ _=_;rw[t];show lp _ _ (3:Int)=_;rw[jr];show cond (!decide (d=d)) _ _=_;rw[t];show lp _ _ (4:Int)=_;rw[jr];rfl
def Vr{a b:Int}(h:oJ a b=0):a=0/\b=0:=by
 by_cases h0:a=0
 ·subst h0;exact⟨rfl,h⟩
 ·unfold oJ at h;rw[bU h0] at h;exact⟨h,absurd h h0⟩
def QG(F:asv TV×Int)(f:Tt)(s:T3)(w:Int):auz Bool:=
 cond (!decide (w=(0:Int))) (
  fT (gd ((decide<|(F.1.length:Int)=(0:Int))&&(decide<|F.2=w)) true) (false) (jh) fun B7=>
  some (((decide<|(F.1.length:Int)=(0:Int))&&(decide<|F.2=w))&&B7)
 ) (
  bd (rU f s) fun PI=>
  cond (((!decide (F.2=(0:Int)))||(!decide ((F.1.length:Int)=(4:Int))))) (
   some false
  ) (
   lp 18446744073709551616 (fun(k54:Int->auz Bool) (Ue:Int)=>
    cond (decide<|Ue<(4:Int)) (
     bd (bj F.1 Ue) fun Mk=>
     bd (bj PI Ue) fun Mj=>
     cond (!decide (Mk=Mj)) (
      some false
     ) (
      bd (aF<|Ue+(1:Int)) fun Tu=>
      k54 Tu
     )
    ) (
     bd (jh) fun Ti=>
     some Ti
    )
   ) (0:Int)
  )
 )
def TU{w:Int}(hk:jh=some true)(h:w≠0):QG ([],w) f s w=some true:=by
 unfold QG;rw[bU h,bp (rfl:w=w),hk];rfl
def aff{z:Q3}(hk:jh=some true)(Q:nJ f q)(Z:oq s z):QG (S2 q z,0) f s 0=some true:=by
 unfold QG;rw[Z2 Q Z];show lp _ _ (0:Int)=_;unfold S2;refine ZM.trans ?_;rw[hk];rfl
def aaf(hk:jh=some true){d:Int}{z:Q3}(hq:e=0->nJ f q)(hz:d=0->oq s z):sgB s (QG (Pg e d q z) f s) (oJ e d)=some true:=by
 by_cases h0:oJ e d=0
 ·obtain⟨he,hd⟩:=Vr h0;subst he;subst hd;have Z:=hz rfl;have Q:=hq rfl;rw[afN Z];unfold Pg;rw[h0];cases hb:aem z with
  |true=>exact TU hk (by decide)
  |false=>exact aff hk Q Z
 ·rw[ab7 _ h0];unfold Pg;rw[bU h0];exact TU hk h0
def PE(hk:jh=some true)(v:TV)(f:Tt)(s:T3):kZ v f s=some true:=by
 obtain⟨b1,w1,s1⟩:=alp v;obtain⟨b2,w2,s2⟩:=alo f s;unfold kZ;rw[w1,aG,w2];cases b1 with
 |true=>rw[hk];rfl
 |false=>
 rw[dJ (by rfl),aG];cases b2 with
 |true=>rw[hk];rfl
 |false=>
 obtain⟨c,k1,k2,k3⟩:=Pw<|s1 rfl
 obtain⟨sf,ss⟩:=s2 rfl;obtain⟨e,f1,f2,f3⟩:=Mh sf;obtain⟨d,g1,g2,g3⟩:=l5 ss;obtain⟨p,hp⟩:∃p:Q3×Q3×Q3,c=0->oq v.1 p.1/\oq v.2.1 p.2.1/\oq v.2.2 p.2.2:=by
  by_cases h:c=0
  ·obtain⟨o,a,u,ho,ha,hu,_⟩:=k3 h;exact⟨(o,a,u),fun _=>⟨ho,ha,hu⟩⟩
  ·exact⟨((0,0,0),(0,0,0),(0,0,0)),fun k=>absurd k h⟩
 obtain⟨q,hq⟩:∃q:PS,e=0->nJ f q:=by
  by_cases h:e=0
  ·obtain⟨q,hq⟩:=f3 h;exact⟨q,fun _=>hq⟩
  ·exact⟨((0,0,0),(0,0,0),(0,0,0),(0,0,0)),fun k=>absurd k h⟩
 obtain⟨z,hz⟩:∃z:Q3,d=0->oq s z:=by
  by_cases h:d=0
  ·obtain⟨z,hz⟩:=g3 h;exact⟨z,fun _=>hz⟩
  ·exact⟨(0,0,0),fun k=>absurd k h⟩
 have T:=aaf hk hq hz;unfold sgB QG at T;show bd (oV v f) _=_;rw[aag k1 f1 hp hq,aG,Xk f1 g1 hq hz,aG,k2,aG,f2,aG,OL,aG,g2,aG,aG,OL,aG,T];unfold acG;by_cases h0:oJ c e=0
 ·obtain⟨hc,he⟩:=Vr h0;have P:=hp hc;have Q:=hq he;rw[h0,dJ (by rfl),Wq Q,aG,ab6 P Q];cases(decide (lR q.2.1 q.2.1=lR q.2.2.1 q.2.2.1)&&decide (lR q.2.1 q.2.1=lR q.2.2.2 q.2.2.2)) with
  |false=>rfl
  |true=>
   simp only[jn,decide_true,Bool.not_true,FD,fU,fA,yE,yD,Bool.or_self,aG]
 ·have hne:=bU h0;rw[oO (by rw[hne];rfl)];simp only[jn,hne,decide_true,Bool.not_true,FD,fU,fA,yE,CJ,yD,Bool.or_self,aG,aiM]
def aar:jh=some true:=ax
def PF(v:TV)(f:Tt)(s:T3):kZ v f s=some true:=PE aar v f s
end
end Trn
