/-
  Part of the proof of DrawViews.
-/
import Derived.Test.YtgmphoejohhmgaaGreatDoorLa
set_option maxRecDepth 100000
set_option maxHeartbeats 20000000
set_option linter.all false
open Go Go.RowKit Go.Proofs Go.Proofs.Tryz
namespace Trn
section
variable{n:Nat}{x y:Rat}{m:Nat}{q:Rat}{l u:adx}{c:Nat}{neg:Bool}{core:adx}{d:Nat}
def Xd(hx:bq x m)(hy:bq y n)(hm:0<m/\m<=1000)(hn:0<n/\n<=1000):gI (cW x) (cW y)=some (cW<|x*y):=by
 have key:Yd (fun r=>r=cW (x*y)) (gI (cW x)<|cW y):=by
  unfold gI;refine Yd.jQ (Em hx hm.1 hm.2) fun r hr=>Yd.jQ (Em hy hn.1 hn.2) fun s hs=>Yd.cond (fun hc=>?_)<|fun _=>?_
  ·obtain⟨c1,c2⟩:=eK hc;obtain⟨rfl,a1,a2⟩:r=(x.num,(x.den:Int),true)/\_/\_:=by rcases hr with h|h;rw[h] at c1;cases c1;exact h
   obtain⟨rfl,b1,b2⟩:s=(y.num,(y.den:Int),true)/\_/\_:=by rcases hs with h|h;rw[h] at c2;cases c2;exact h
   dsimp only;have p1:(x.num*y.num).natAbs<=999999999*999999999:=by rw[qw];exact pr (by omega) (by omega)
   have p2:x.den*y.den<=999999999*999999999:=pr (by omega) (by omega);have p3:0<x.den*y.den:=Nat.mul_pos x.den_pos y.den_pos;have e:((x.den:Int)*(y.den:Int))=((x.den*y.den:Nat):Int):=by rw[tw]
   have hOf:=aa8 (a:=x.num*y.num) (b:=(x.den:Int)*(y.den:Int)) (by omega) (by rw[e];omega);rw[HD] at hOf;exact Yd.bd (aM ⟨by omega,by omega⟩) (Yd.bd (aM ⟨by rw[e];omega,by rw[e];omega⟩)<|Yd.bd hOf<|Yd.mk rfl)
  ·refine Yd.jQ (Dz hx hm.1 hm.2) ?_;rintro⟨p1,p2⟩ ⟨⟨a1,a2⟩,a3,a4⟩;refine Yd.jQ (Dz hy hn.1 hn.2) ?_;rintro⟨q1,q2⟩ ⟨⟨b1,b2⟩,b3,b4⟩;dsimp only at*;refine Yd.jQ (AU a1 b1 (by omega) (by omega)) fun u ⟨u1,u2⟩=>Yd.jQ (AU a2 b2 (by omega) (by omega)) fun v ⟨v1,v2⟩=>?_
   have hf:=Bt u1 v1 (BW (tR x)<|tR y) (by omega) (by omega);rw[HD] at hf;exact Yd.bd hf<|Yd.mk rfl
 obtain⟨r,e,rfl⟩:=key;exact e
def Xe(hx:bq x m)(hy:bq y n)(hm:0<m/\m<=1000)(hn:0<n/\n<=1000):ml (cW x) (cW y)=some (cW<|x+y):=by
 have key:Yd (fun r=>r=cW (x+y)) (ml (cW x)<|cW y):=by
  unfold ml;refine Yd.jQ (Em hx hm.1 hm.2) fun r hr=>Yd.jQ (Em hy hn.1 hn.2) fun s hs=>Yd.cond (fun hc=>?_)<|fun _=>?_
  ·obtain⟨c1,c2⟩:=eK hc;obtain⟨rfl,a1,a2⟩:r=(x.num,(x.den:Int),true)/\_/\_:=by rcases hr with h|h;rw[h] at c1;cases c1;exact h
   obtain⟨rfl,b1,b2⟩:s=(y.num,(y.den:Int),true)/\_/\_:=by rcases hs with h|h;rw[h] at c2;cases c2;exact h
   dsimp only;have p1:(x.num*y.den).natAbs<=999999999*999999999:=by rw[qw,jd];exact pr (by omega) (by omega)
   have p1':(y.num*x.den).natAbs<=999999999*999999999:=by rw[qw,jd];exact pr (by omega) (by omega)
   have p2:x.den*y.den<=999999999*999999999:=pr (by omega) (by omega);have p3:0<x.den*y.den:=Nat.mul_pos x.den_pos y.den_pos;have e:((x.den:Int)*(y.den:Int))=((x.den*y.den:Nat):Int):=by rw[tw]
   have hOf:=aa8 (a:=x.num*y.den+y.num*x.den) (b:=(x.den:Int)*(y.den:Int)) (by omega) (by rw[e];omega);rw[Lw] at hOf;exact Yd.bd (aM ⟨by omega,by omega⟩) (Yd.bd (aM ⟨by omega,by omega⟩) (Yd.bd (aM ⟨by omega,by omega⟩) (Yd.bd (aM ⟨by rw[e];omega,by rw[e];omega⟩)<|Yd.bd hOf<|Yd.mk rfl)))
  ·refine Yd.jQ (Dz hx hm.1 hm.2) ?_;rintro⟨p1,p2⟩ ⟨⟨a1,a2⟩,a3,a4⟩;refine Yd.jQ (Dz hy hn.1 hn.2) ?_;rintro⟨q1,q2⟩ ⟨⟨b1,b2⟩,b3,b4⟩;dsimp only at*;refine Yd.jQ (AU a1 b2 (by omega) (by omega)) fun u ⟨u1,u2⟩=>Yd.jQ (AU b1 a2 (by omega) (by omega)) fun v ⟨v1,v2⟩=>Yd.jQ (aa6 u1 v1 (by omega) (by omega)) fun w ⟨w1,w2⟩=>Yd.jQ (AU a2 b2 (by omega) (by omega)) fun t ⟨t1,t2⟩=>?_
   have hf:=Bt w1 t1 (BW (tR x)<|tR y) (by omega) (by omega);rw[Lw] at hf;exact Yd.bd hf<|Yd.mk rfl
 obtain⟨r,e,rfl⟩:=key;exact e
def Vb:cW 0=[48]:=by kernel_rfl
def AO(q:Rat)(hl:(cW q).length<1000000):(cW q==([48]:adx))=decide (q=0):=by
 by_cases h:q=0
 ·subst h;rw[Vb];rfl
 ·rw[cr h];rw[BP];intro e;apply h;have hn:=F6 q.num;unfold cW at e;cases hd:decide (q.den=1) with
  |true=>
   rw[hd] at e;have e:eL q.num=[48]:=by simpa using e
   unfold eL at e;cases hc:decide (q.num<0) with
   |true=>rw[hc] at e;have e:45::dc q.num.natAbs=[48]:=e;cases e
   |false=>
    rw[hc] at e;have e:dc q.num.natAbs=[48]:=e;have hv:=(nh q.num.natAbs).2;rw[e] at hv;have:q.num=0:=by
     have:dD [48]=0:=rfl;omega
    exact zy.1 this
  |false=>
   rw[hd] at e;have e:eL q.num++47::dc q.den=[48]:=e;have:=congrArg List.length e;simp at this;have h2:=D6 q.den;omega
def aa7(hl:(cW q).length<1000000):tj (cW q)=some (bif decide (q=0) then 0 else bif decide (q.num<0) then -1 else 1):=by
 obtain⟨c,r,e,Pq,_,_⟩:=MZ q.num<|ma q
 have et:cW q=c::r:=e;unfold tj;rw[AO q hl];cases hz:decide (q=0) with
 |true=>rfl
 |false=>
  show fR _ _ _ _=_;rw[et];have g1:gd (decide<|(0:Int)<((c::r).length:Int)) true=true:=by rw[bD (by simp only[List.length_cons];omega)];rfl
  rw[fZ g1];show cond ((decide<|(0:Int)<((c::r).length:Int))&&(decide<|(c.toNat:Int)=(45:Int))) _ _=_;have hb:((decide<|(0:Int)<((c::r).length:Int))&&(decide<|(c.toNat:Int)=(45:Int)))=decide (q.num<0):=by
   rw[bD (show(0:Int)<((c::r).length:Int) by simp only[List.length_cons];omega),pq];exact zB.2 Pq
  rw[hb];cases decide (q.num<0)<;>rfl
def PI(h:bq q n)(hn:0<n):(cW q).length<=2*n+2:=by
 have hl:=WB h hn;have h2:=xH q.num;unfold cW;cases decide (q.den=1)
 ·simp;omega
 ·simp;omega
def aeN(h:bq q n)(hn:0<n/\n<=1000):pf (cW q)=some (cW<| -q):=by
 have hlen:=PI h hn.1;have hs:=aa7 (q:=q) (by omega);unfold pf;rw[hs];have ed:(-q).den=q.den:=Ik q;have en:(-q).num= -q.num:=Il q;cases hz:decide (q=0) with
 |true=>
  have hz:=bf hz;subst hz
  rfl
 |false=>
  have hz:=bP hz;have hnz:q.num≠0:=fun e=>hz<|zy.1 e
  cases hc:decide (q.num<0) with
  |true=>
   have zG:=bf hc;have et:cW q=45::(dc q.num.natAbs++ma q):=by
    show eL q.num++ma q=_;unfold eL;rw[hc];rfl
   have e2:cW (-q)=dc q.num.natAbs++ma q:=by
    show eL (-q).num++(bif decide ((-q).den=1) then [] else 47::dc (-q).den)=_;rw[en,ed];unfold eL;rw[cr (by omega),EB];rfl
   show bd (im (cW q) 1 ((cW q).length:Int)) (fun x4=>some x4)=_;rw[e2,et,jE (by omega) (by simp only[List.length_cons];omega) (by omega),Int.toNat_natCast,eJ<|bC _];rfl
  |false=>
   have zG:=bP hc;have et:cW q=dc q.num.natAbs++ma q:=by
    show eL q.num++ma q=_;unfold eL;rw[hc];rfl
   have e2:cW (-q)=45::(dc q.num.natAbs++ma q):=by
    show eL (-q).num++(bif decide ((-q).den=1) then [] else 47::dc (-q).den)=_;rw[en,ed];unfold eL;rw[bD (show -q.num<0 by omega),EB];rfl
   show bd (xS ([45]:adx)<|cW q) (fun x9=>some x9)=_;rw[sV (by simp;omega),e2,et];rfl
def aeM(hx:bq x m)(hy:bq y n)(hm:0<m/\m<=1000)(hn:0<n/\n<=1000):lk (cW x) (cW y)=some (cW<|x-y):=by
 unfold lk;rw[aeN hy hn];show bd (ml (cW x)<|cW<| -y) (fun x3=>some x3)=_;rw[Xe hx (ajk hy) hm hn,RH];rfl
def Q8(x:Rat):((x.den:Int):Rat)/(x.num:Rat)=x⁻¹ :=by
 rw[Rat.inv_def,vC]
def ajl(h:bq x n)(h0:x≠0):bq x⁻¹ n:=by
 have hn:x.num≠0:=fun e=>h0<|zy.1 e
 have hl:=JE (x:=(x.den:Int)) (y:=x.num) hn;rw[Q8,jd] at hl;exact⟨EF hl.1 h.2,EF hl.2 h.1⟩
def aeO(hx:bq x m)(hy:bq y n)(h0:y≠0)(hm:0<m/\m<=1000)(hn:0<n/\n<=1000):vY (cW x) (cW y)=some (cW<|x/y):=by
 have key:lK (cW y)=some (cW y⁻¹):=by
  have:Yd (fun r=>r=cW y⁻¹) (lK<|cW y):=by
   unfold lK;refine Yd.jQ (Dz hy hn.1 hn.2) ?_;rintro⟨q1,q2⟩ ⟨⟨b1,b2⟩,b3,b4⟩;dsimp only at*;have hf:=Bt b2 b1 (fun e=>h0<|zy.1 e) (by omega) (by omega);rw[Q8] at hf;exact Yd.bd hf<|Yd.mk rfl
  obtain⟨r,e,rfl⟩:=this;exact e
 unfold vY;rw[key];show bd (gI (cW x)<|cW y⁻¹) (fun x3=>some x3)=_;rw[Xd hx (ajl hy h0) hm hn,Rat.div_def];rfl
def Uy{e:Bool}(hl:l.length<1099511627776):lp 18446744073709551616 (fun(k2:Int->atg Bool) (s1:Int)=>
  cond (decide<|s1<(l.length:Int)) (
   bd (bm l s1) fun x4=>
   fR (gd (decide<|(x4.toNat:Int)<(48:Int)) false) (0) (bm l s1) fun x6=>
   cond (((decide<|(x4.toNat:Int)<(48:Int))||(decide<|(57:Int)<(x6.toNat:Int)))) (
    some false
   ) (
    bd (aF<|s1+(1:Int)) fun x9=>
    k2 x9
   )
  ) (
   some e
  )
 ) (0:Int)=some (l.all gZ&&e):=by
 have key:Yd (fun r=>r=(l.all gZ&&e)) (lp 18446744073709551616 (fun(k2:Int->atg Bool) (s1:Int)=>
  cond (decide<|s1<(l.length:Int)) (
   bd (bm l s1) fun x4=>
   fR (gd (decide<|(x4.toNat:Int)<(48:Int)) false) (0) (bm l s1) fun x6=>
   cond (((decide<|(x4.toNat:Int)<(48:Int))||(decide<|(57:Int)<(x6.toNat:Int)))) (
    some false
   ) (
    bd (aF<|s1+(1:Int)) fun x9=>
    k2 x9
   )
  ) (
   some e
  )
 ) (0:Int)):=by
  refine Yd.lp (fun i:Int=>0<=i/\i<=l.length/\(l.take i.toNat).all gZ=true) (fun i=>l.length-i.toNat) ?_ _ _ ⟨by omega,by omega,by simp⟩ (by omega);rintro next i ⟨g1,g2,g3⟩ hn
  obtain⟨n,rfl⟩:=gk g1;rw[Int.toNat_natCast] at g3;refine Yd.cond (fun hc=>?_)<|fun hc=>?_
  ·have hc:=bf hc;have hlt:n<l.length:=by omega
   have hg:bm l (n:Int)=some l[n]:=kb hlt;refine Yd.bd hg ?_;have bad:gZ l[n]=false->(l.all gZ&&e)=false:=fun h=>by
    have:l.all gZ=false:=by
     cases ha:l.all gZ with
     |false=>rfl
     |true=>rw[db.1 ha _<|qz hlt] at h;cases h
    rw[this];rfl
   by_cases Sy:(l[n].toNat:Int)<48
   ·have hd:=bD Sy;have g:gd (decide<|(l[n].toNat:Int)<48) false=false:=by rw[hd];rfl
    rw[oD g];refine Yd.cond (fun _=>Yd.mk ?_) (fun h=>by rw[hd,Ey] at h;cases h);rw[bad];unfold gZ;rw[show Nat.ble 48 l[n].toNat=false from by
     cases hb:Nat.ble 48 l[n].toNat with
     |false=>rfl
     |true=>have:=gj hb;omega];rfl
   ·have hd:=cr Sy;have g:gd (decide<|(l[n].toNat:Int)<48) false=true:=by rw[hd];rfl
    rw[fZ g];refine Yd.bd hg<|Yd.cond (fun h=>?_)<|fun h=>?_
    ·rw[hd,BV] at h;have h:=bf h;refine Yd.mk ?_;rw[bad];unfold gZ;rw[show Nat.ble l[n].toNat 57=false from by
      cases hb:Nat.ble l[n].toNat 57 with
      |false=>rfl
      |true=>have:=gj hb;omega,Is]
    ·rw[hd,BV] at h;have h:=bP h;refine Yd.bd (aM ⟨by omega,by omega⟩) (hn _ ⟨by omega,by omega,?_⟩ (by omega));rw[show(((n:Nat):Int)+1).toNat=n+1 by omega,LN,kb hlt,LQ,g3];simp only[Option.toList_some,rz,List.all_nil,Ip,pq];unfold gZ;rw[nE (by omega),nE (by omega)];rfl
  ·have hc:=bP hc;have:n=l.length:=by omega
   subst this;rw[eJ<|bC _] at g3;refine Yd.mk ?_;rw[g3];rfl
 obtain⟨r,e,rfl⟩:=key;exact e
def mZ(l:adx):Bool:=l.all gZ&&(!(l==[])&&(l==[48]|| !(l.head?==some 48)))
def Cy(hl:l.length<1099511627776):kM l=some (mZ l):=by
 have hd:tl l=some (l.all gZ):=by
  unfold tl;rw[Uy hl,Ip]
 unfold kM;rw[hd]
 match l,hl with
 |[],_=>rfl
 |[x],_=>
  show some ([x].all gZ)=_;unfold mZ;by_cases h:x=48
  ·subst h;rfl
  ·have e1:([x]==([]:adx))=false:=rfl;have e2:([x].head?==some (48:UInt8))=false:=by simpa using h
   rw[e1,e2];simp
 |x::y::r,hl=>
  have g:(gd (decide<|((x::y::r).length:Int)=(0:Int)) false&&gd (decide<|(1:Int)<((x::y::r).length:Int)) true)=true:=by
   rw[cr (by simp only[List.length_cons];omega),bD (by simp only[List.length_cons];omega)];rfl
  rw[fZ g];show cond ((decide<|((x::y::r).length:Int)=(0:Int))||((decide<|(1:Int)<((x::y::r).length:Int))&&(decide<|(x.toNat:Int)=(48:Int)))) _ _=_;rw[cr (show¬((x::y::r).length:Int)=0 by simp only[List.length_cons];omega),bD (show(1:Int)<((x::y::r).length:Int) by simp only[List.length_cons];omega),BV,pq];unfold mZ;have e1:((x::y::r)==([]:adx))=false:=rfl;have e3:((x::y::r)==([48]:adx))=false:=by
   rw[BP];intro e;cases e
  have e2:((x::y::r).head?==some (48:UInt8))=decide ((x.toNat:Int)=48):=by
   show(some x==some (48:UInt8))=_;by_cases h:x=48
   ·subst h;rfl
   ·rw[cr (fun h'=>h (LP.1 (by show _=48;omega)))];rw[BP];intro e;exact h<|fj e
  rw[e1,e2,e3];cases decide ((x.toNat:Int)=48)
  ·show some _=some _;simp
  ·show some _=some _;simp
def Kb(hl:l.length<1099511627776):mA l=some (mZ l):=by
 have hd:th l=some (l.all gZ&& !(l==[])):=by
  unfold th;rw[Uy hl]
 unfold mA;rw[hd];show fR _ _ _ _=_;unfold mZ
 match l with
 |[]=>rfl
 |x::r=>
  have e1:((x::r)==([]:adx))=false:=rfl;have e2:((x::r).head?==some (48:UInt8))=decide ((x.toNat:Int)=48):=by
   show(some x==some (48:UInt8))=_;by_cases h:x=48
   ·subst h;rfl
   ·rw[cr (fun h'=>h (LP.1 (by show _=48;omega)))];rw[BP];intro e;exact h<|fj e
  rw[e1,e2];have i0:bm (x::r) (0:Int)=some x:=rfl;rw[i0];cases(x::r).all gZ
  ·rfl
  ·cases((x::r)==([48]:adx))<;>rfl
def Om:∀(n:Nat) (l:adx),l.length=n->mZ l=true->l=dc (dD l)
 |0,l,hl,h=>by
  have:l=[]:=rT hl;subst this;cases h
 |n+1,l,hl,h=>by
  have hne:l≠[]:=by intro e;subst e;simp at hl
  obtain⟨h1,h2⟩:=eK h;obtain⟨h3,h4⟩:=eK h2;have hx:=List.dropLast_concat_getLast hne
  generalize hi:l.dropLast=i at hx
  generalize l.getLast hne=d at hx
  subst hx;rw[LQ] at h1;obtain⟨hi1,hd1⟩:=eK h1;have hd:gZ d=true:=by simpa using hd1
  have XT:=EU hd;have ed:UInt8.ofNat (48+(d.toNat-48))=d:=by
   rw[show 48+(d.toNat-48)=d.toNat by omega];simp
  have ev:dD [d]=d.toNat-48:=by simp[dD]
  rw[vJ,ev,List.length_singleton,Nat.pow_one];by_cases h0:i=[]
  ·subst h0;rw[show dD ([]:adx)=0 from rfl,LJ,vy,pE (by omega),ed];rfl
  ·have ah8: ¬(i.head?=some 48):=fun e=>by
    have e2:(i++[d]).head?=some 48:=by rw[List.head?_append,e];rfl
    rw[e2] at h4;have e3:((i++[d])==[48])=false:=by
     rw[BP];intro e;have:=congrArg List.length e;simp at this;exact h0 this
    rw[e3] at h4;cases h4
   have hid:mZ i=true:=by
    unfold mZ;rw[hi1];have e1:(i==([]:adx))=false:=by rw[BP];exact h0
    have e2:(i.head?==some (48:UInt8))=false:=by rw[BP];exact ah8
    rw[e1,e2];simp
   have hln:i.length=n:=by simpa using hl
   have ih:=Om n i hln hid;have hpos:0<dD i:=by
    rcases wH (dD i) with e|e
    ·rw[e] at ih;rw[ih] at ah8;exact absurd rfl ah8
    ·exact e
   rw[sC (by omega),show(dD i*10+(d.toNat-48))/10=dD i by omega,show(dD i*10+(d.toNat-48))%10=d.toNat-48 by omega,<-ih,ed]
def sp:adx->adx×adx×Bool
 |[]=>([],[],false)
 |b::l=>bif b==47 then([],l,true) else(b::(sp l).1,(sp l).2.1,(sp l).2.2)
def Oo:∀(s pre:adx),cutAt 47 pre s=(pre.reverse++(sp s).1,(sp s).2.1,(sp s).2.2)
 |[],pre=>by simp[cutAt,sp]
 |b::l,pre=>by
  unfold cutAt sp;cases h:b==47
  ·rw[fU,fU,Oo l];simp
  ·simp
def WY:∀(s:adx),s=(sp s).1++(bif (sp s).2.2 then 47::(sp s).2.1 else [])/\(∀x∈(sp s).1,x≠47)/\((sp s).2.2=false->(sp s).2.1=[])
 |[]=>⟨rfl,by simp[sp],fun _=>rfl⟩
 |b::l=>by
  obtain⟨h1,h2,h3⟩:=WY l;unfold sp;cases h:b==47
  ·rw[fU];dsimp only;refine⟨by(conv=>lhs;rw[h1]);rfl,fun x hx=>?_,h3⟩;rcases bM.1 hx with e|hx
   ·subst e;simpa using h
   ·exact h2 x hx
  ·have:b=47:=by simpa using h
   subst this;exact⟨rfl,by simp,fun h=>by cases h⟩
def pG(neg:Bool)(u t:adx)(fd:Bool):Int:=
 bif ((!mZ u)||(neg&&(u==([48]:adx))))||(fd&&(((!mZ t)||(t==([48]:adx)))||(t==([49]:adx)))) then 1
 else bif fd&& !decide (Nat.gcd (dD u) (dD t)=1) then 1 else 0
def xJ(h:mZ l=true):l.all gZ=true/\l≠[]:=by
 obtain⟨h1,h2⟩:=eK h;obtain⟨h3,_⟩:=eK h2;refine⟨h1,?_⟩;intro e;subst e;cases h3
def EY(h:l.all gZ=true)(hl:l.length<1000000):tT l=some (dD l:Int):=by
 unfold tT;split
 ·rename_i ds;have:=db.1 h 45 (by simp);cases this
 ·rw[h,show Nat.blt l.length 1000000=true from nE hl];rfl
def aad(h:l.all gZ=true)(hl:l.length<1000000):tT (45::l)=some (-(dD l:Int)):=by
 show yW (l.all gZ&&Nat.blt l.length 1000000) (-(dD l:Int))=_;rw[h,show Nat.blt l.length 1000000=true from nE hl];rfl
def PL{z:Int}(h:z.natAbs<10^14):tV z=true:=xj h (by omega)
def UA(hl:core.length<=14):Xw (bif neg then 45::core else core) [47]=some ((bif neg then 45::(sp core).1 else(sp core).1),(sp core).2.1,(sp core).2.2):=by
 cases neg
 ·show yW (Nat.blt core.length 4294967281) (cutAt 47 [] core)=_;rw[show Nat.blt core.length 4294967281=true from nE (by omega),Oo];rfl
 ·show yW (Nat.blt (45::core).length 4294967281) (cutAt 47 [] (45::core))=_;rw[show Nat.blt (45::core).length 4294967281=true from nE (by simp only[List.length_cons];omega),Oo];rfl
def Kn:br (45::u) [45]=some true:=by
 have e:im (45::u) 0 (([45]:adx).length:Int)=some [45]:=by rw[jE (by omega) (by simp) (by simp;omega)];rfl
 have hd:decide ((([45]:adx).length:Int)<=((45::u).length:Int))=true:=bD (by simp;omega);have g:gd (decide<|(([45]:adx).length:Int)<=((45::u).length:Int)) true=true:=by rw[hd];rfl
 unfold br;rw[fZ g,e];show some (_&&_)=_;rw[hd];rfl
def Vw:gH (45::u) [45]=some (u,true):=by
 have e2:im (45::u) (([45]:adx).length:Int) ((45::u).length:Int)=some u:=by
  rw[jE (by simp) (by simp;omega) (by omega)];simp
 unfold gH gR;rw[Kn];show bd (bd (im (45::u) (([45]:adx).length:Int) ((45::u).length:Int)) _) _=_;rw[e2];rfl
def Nq(h:u.head?≠some 45):br u [45]=some false:=by
 unfold br
 match u,h with
 |[],_=>rfl
 |x::r,h=>
  have e:im (x::r) 0 (([45]:adx).length:Int)=some [x]:=by rw[jE (by omega) (by simp) (by simp;omega)];rfl
  have hd:decide ((([45]:adx).length:Int)<=((x::r).length:Int))=true:=bD (by simp;omega);have g:gd (decide<|(([45]:adx).length:Int)<=((x::r).length:Int)) true=true:=by rw[hd];rfl
  rw[fZ g,e];show some (_&&_)=_;have:([x]==([45]:adx))=false:=by
   rw[BP];intro e;have e:x=45:=by simpa using e
   subst e;exact h rfl
  rw[this,Is]
def Vv(h:u.head?≠some 45):gH u [45]=some (u,false):=by
 unfold gH gR;rw[Nq h];rfl
def bE{α ρ:Type}(x:α)(K:α->atg ρ):bd (some x) K=K x:=rfl
def S2(hl:core.length<=14)(Pq:neg=false->core.head?≠some 45):ib (bif neg then 45::core else core)=some (pG neg (sp core).1 (sp core).2.1 (sp core).2.2):=by
 obtain⟨q1,q2,q3⟩:=WY core;have hlen:=congrArg List.length q1;rw[List.length_append] at hlen;unfold ib;rw[UA hl]
 generalize hu:(sp core).1=u at*
 generalize ht:(sp core).2.1=t at*
 generalize hf:(sp core).2.2=fd at*
 have VY:u.length<=14:=by omega
 have ON:t.length<=14:=by
  cases fd
  ·rw[q3 rfl];simp
  ·rw[fT,List.length_cons] at hlen;omega
 have hp:gH (bif neg then 45::u else u) [45]=some (u,neg):=by
  cases neg
  ·refine Vv ?_;have Pq:=Pq rfl;intro e;have e:u.head?=some 45:=e;apply Pq;rw[q1,List.head?_append,e];rfl
  ·exact Vw
 show bd (gH (bif neg then 45::u else u) [45]) _=_;rw[hp];show bd (mA u) _=_;rw[Kb (l:=u) (by omega)];show fR _ _ (mA t) _=_;rw[Kb (l:=t) (by omega)];have tail:∀ajn:Bool,ajn=(fd&&(((!mZ t)||(t==([48]:adx)))||(t==([49]:adx))))->((!mZ u)||(neg&&(u==([48]:adx))))=false->ajn=false->
  (cond (((decide<|(600:Int)<(u.length:Int))||(decide<|(600:Int)<(t.length:Int)))) (
   some (4:Int)
  ) (
   jn (fun(Jp:Unit)=>
    some (0:Int)
   ) fun Md=>
   cond (fd) (
    bd (tT u) fun gp=>
    bd (tT t) fun gS=>
    bd (Sj gp gS) fun iZ=>
    bd (GJ iZ) fun kR=>
    cond (((!kR.2)||(!decide (kR.1=(1:Int))))) (
     some (1:Int)
    ) (
     Md ()
    )
   ) (
    Md ()
   )
  ))=some (pG neg u t fd):=by
  intro ajn e1 e2 e3;rw[cr (by omega),cr (by omega)];unfold pG;rw[e2,<-e1,e3];cases fd
  ·rfl
  ·have du:mZ u=true:=by
    cases h:mZ u with
    |true=>rfl
    |false=>rw[h] at e2;cases e2
   have dt:mZ t=true:=by
    cases h:mZ t with
    |true=>rfl
    |false=>rw[h] at e1;rw[e1] at e3;cases e3
   have au:=xJ du;have at':=xJ dt;have lu:=xi u au.1;have lt:=xi t at'.1;have p1:=uP (show 0<10 by omega) VY;have p2:=uP (show 0<10 by omega) ON;have hg:Sj (dD u:Int) (dD t:Int)=some (Nat.gcd (dD u) (dD t):Int):=by
    unfold Sj;rw[PL (by simp;omega),PL (by simp;omega)];rfl
   have asb:Nat.gcd (dD u) (dD t)<10^14:=by
    rcases wH (dD u) with e|e
    ·rw[e,Nat.gcd_zero_left];omega
    ·have:=Nat.le_of_dvd e (Nat.gcd_dvd_left (dD u)<|dD t);omega
   have hs:GJ (Nat.gcd (dD u) (dD t):Int)=some ((Nat.gcd (dD u) (dD t):Int),true):=by
    unfold GJ A6;rw[cr (by omega),bD (by omega),bD (by omega)];rfl
   show bd (tT u) _=_;rw[EY au.1 (by omega)];show bd (tT t) _=_;rw[EY at'.1 (by omega)];show bd (Sj _ _) _=_;rw[hg];rw[bE];rw[hs];show cond (false|| !decide (((Nat.gcd (dD u) (dD t):Nat):Int)=1)) (some 1) (some 0)=some (bif false then 1 else bif true&& !decide (Nat.gcd (dD u) (dD t)=1) then 1 else 0);have e:decide (((Nat.gcd (dD u) (dD t):Nat):Int)=1)=decide (Nat.gcd (dD u) (dD t)=1):=zB.2 (by omega);rw[e];cases decide (Nat.gcd (dD u) (dD t)=1)<;>rfl
 cases hb1:((!mZ u)||(neg&&(u==([48]:adx)))) with
 |true=>
  show fR (gd true false&&gd fd true) false _ _=_;rw[oD (by rfl)];show cond (true||_) _ _=_;rw[Ey,fT];unfold pG;rw[hb1];rfl
 |false=>
  cases fd with
  |false=>
   show fR (gd false false&&gd false true) false _ _=_;rw[oD (by rfl)];exact tail false rfl hb1 rfl
  |true=>
   show fR (gd false false&&gd true true) false _ _=_;rw[fZ (by rfl)];show cond (false||(true&&_)) _ _=_;cases hb2:(((!mZ t)||(t==([48]:adx)))||(t==([49]:adx))) with
   |true=>
    show some 1=_;unfold pG;rw[hb1,hb2];rfl
   |false=>exact tail false (by rw[hb2];rfl) hb1 rfl
def Tt{t:adx}(hu:mZ u=true)(ht:mZ t=true)(XV:∀x∈u,x≠47)(lu:u.length<=1000)(lt:t.length<=1000):Yd (fun p=>rj p.1 (dD u:Int)/\rj p.2 (dD t:Int)/\p.1.2.length<=u.length/\p.2.2.length<=t.length) (ie (u++47::t)):=by
 have au:=xJ hu;have at':=xJ ht;have hlt:(u++47::t).length=u.length+1+t.length:=by simp;omega
 unfold ie;refine Yd.bd (Ht XV (by omega)) (Yd.cond (fun h=>by have:=bf h;omega)<|fun _=>?_);have es:im (u++47::t) 0 (u.length:Int)=some u:=by
  rw[jE (by omega) (by omega) (by omega)];simp
 have et:im (u++47::t) ((u.length:Int)+1) ((u++47::t).length:Int)=some t:=by
  rw[jE (by omega) (by omega) (by omega),Int.toNat_natCast,eJ<|bC _,show((u.length:Int)+1).toNat=u.length+1 by omega,<-iF];simp
 refine Yd.bd es (Yd.jQ (Jt false au.1 au.2 (by omega)) fun p hp=>Yd.bd (aM ⟨by omega,by omega⟩) (Yd.bd et (Yd.jQ (Jt false at'.1 at'.2 (by omega)) fun r hr=>Yd.mk ⟨hp.1,hr.1,hp.2,hr.2⟩)))
def Y9(hl:core.length<=14)(Pq:neg=false->core.head?≠some 45):j5 (bif neg then 45::core else core)=some (pG neg (sp core).1 (sp core).2.1 (sp core).2.2):=by
 have key:Yd (fun r=>r=pG neg (sp core).1 (sp core).2.1 (sp core).2.2) (j5 (bif neg then 45::core else core)):=by
  obtain⟨q1,q2,q3⟩:=WY core;have hlen:=congrArg List.length q1;rw[List.length_append] at hlen;by_cases hF0:(bif neg then 45::core else core)=[]
  ·have hn:neg=false:=by cases neg;rfl;cases hF0
   subst hn;have hc:core=[]:=hF0;subst hc;exact Yd.mk rfl
  obtain⟨c,r,e⟩:∃c r,(bif neg then 45::core else core)=c::r:=by
   cases h:(bif neg then 45::core else core) with
   |nil=>exact absurd h hF0
   |cons c r=>exact⟨c,r,rfl⟩
  have hc:decide ((c.toNat:Int)=45)=neg:=by
   cases neg with
   |true=>
    have:c=45:=by cases e;rfl
    subst this;rfl
   |false=>
    have e:core=c::r:=e;refine cr fun h=>Pq rfl ?_
    have:c=45:=LP.1 (by show _=45;omega);rw[e,this];rfl
  have hs1:neg=true->r=core:=by rintro rfl;cases e;rfl
  have ZC:neg=false->c::r=core:=by rintro rfl;exact e.symm
  generalize hu:(sp core).1=u at*
  generalize ht:(sp core).2.1=t at*
  generalize hf:(sp core).2.2=fd at*
  have VY:u.length<=14:=by omega
  have ON:t.length<=14:=by
   cases fd
   ·rw[q3 rfl];simp
   ·rw[fT,List.length_cons] at hlen;omega
  unfold j5;rw[e];have g1:gd (decide<|(0:Int)<((c::r).length:Int)) true=true:=by rw[bD (by simp only[List.length_cons];omega)];rfl
  rw[fZ g1];refine Yd.bd (x:=c) rfl ?_;have hb:((decide<|(0:Int)<((c::r).length:Int))&&(decide<|(c.toNat:Int)=(45:Int)))=neg:=by
   rw[bD (show(0:Int)<((c::r).length:Int) by simp only[List.length_cons];omega),pq,hc]
  rw[hb];refine Yd.jn (fun s=>s=core) ?_<|fun k hk=>Yd.cond (fun hn=>?_)<|fun hn=>?_
  rotate_left
  ·have es:im (c::r) (1:Int) ((c::r).length:Int)=some core:=by
    rw[jE (by omega) (by simp only[List.length_cons];omega) (by omega),<-hs1 hn];simp
   exact Yd.bd es<|hk _ rfl
  ·exact hk _<|ZC hn
  ·intro s hs;rw[hs];clear hs s;have hsl:iD core=some (u.length:Int):=by
    rw[q1];cases fd
    ·rw[fU,vB];exact Nc q2 (by omega)
    ·rw[fT];exact Ht q2 (by simp;omega)
   have hsu:im core 0 (u.length:Int)=some u:=by
    rw[jE (by omega) (by omega) (by omega),q1];simp
   have hlt:decide ((u.length:Int)<(core.length:Int))=fd:=by
    cases fd
    ·exact cr (by rw[fU] at hlen;simp at hlen;omega)
    ·exact bD (by rw[fT] at hlen;simp only[List.length_cons] at hlen;omega)
   refine Yd.bd hsl (Yd.bd hsu (Yd.bd (Cy (l:=u) (by omega)) ?_));rw[hlt];cases hdu:mZ u with
   |false=>
    rw[oD (by rfl),oD (by rfl)];refine Yd.mk ?_;unfold pG;rw[hdu];rfl
   |true=>
    rw[fZ (by rfl)];refine Yd.bd (x:=c) rfl ?_;rw[hc];have anD:∀K:adx->atg Int,((neg&&(u==([48]:adx)))=true->Yd (fun r=>r=pG neg u t fd) (K u))->((neg&&(u==([48]:adx)))=false->∀w,(neg&&(w==([48]:adx)))=false->Yd (fun r=>r=pG neg u t fd) (K w))->Yd (fun r=>r=pG neg u t fd) (fR (gd (!true) false&&gd neg true) ([]) (im core 0 (u.length:Int)) K):=by
     intro K h1 h2;cases neg with
     |false=>rw[oD (by rfl)];exact h2 rfl _ rfl
     |true=>
      rw[fZ (by rfl)];refine Yd.bd hsu ?_;cases hb:(true&&(u==([48]:adx))) with
      |true=>exact h1 hb
      |false=>exact h2 hb _ hb
    refine anD _ (fun hb1=>?_)<|fun hb1 w hw=>?_
    ·rw[hb1];refine Yd.mk ?_;unfold pG;rw[hb1,hdu];rfl
    ·rw[hw];refine Yd.cond (fun h=>by cases h)<|fun _=>?_
     have small:∀K:Int->Int->atg Int,Yd (fun r=>r=pG neg u t fd) (K ((core.length:Int)-(u.length:Int))<|(core.length:Int)-(u.length:Int)-1)->Yd (fun r=>r=pG neg u t fd) (fR (gd (decide<|(600:Int)<(u.length:Int)) false) (0) (aF<|(core.length:Int)-(u.length:Int)) fun yX=>fR (gd (decide<|(600:Int)<(u.length:Int)) false) (0) (aF<|yX-(1:Int)) fun uj=>K yX uj):=by
      intro K h;rw[cr (show¬(600:Int)<(u.length:Int) by omega),fZ (by rfl)];refine Yd.bd (aM ⟨by omega,by omega⟩) ?_;rw[fZ (by rfl)];exact Yd.bd (aM ⟨by omega,by omega⟩) h
     cases fd with
     |false=>
      rw[oD (by rfl),oD (by rfl),oD (by rfl),oD (by rfl),oD (by rfl),oD (by rfl),oD (by rfl)];refine Yd.cond (fun h=>by cases h)<|fun _=>?_
      refine small (fun yX uj=>_) ?_;rw[cr (show¬(600:Int)<(u.length:Int) by omega),cr (show¬(600:Int)<((core.length:Int)-(u.length:Int)-1) by omega)];refine Yd.mk ?_;unfold pG;rw[hdu,hb1];rfl
     |true=>
      rw[fT] at q1 hlen;rw[List.length_cons] at hlen;have f1:aF ((u.length:Int)+1)=some ((u.length:Int)+1):=aM ⟨by omega,by omega⟩;have et:im core ((u.length:Int)+1) (core.length:Int)=some t:=by
       rw[jE (by omega) (by omega) (by omega),Int.toNat_natCast,eJ<|bC _,show((u.length:Int)+1).toNat=u.length+1 by omega,q1,<-iF];simp
      rw[fZ (by rfl)];refine Yd.bd f1 ?_;rw[fZ (by rfl)];refine Yd.bd et ?_;rw[fZ (by rfl)];refine Yd.bd (Cy (l:=t) (by omega)) ?_;cases hdt:mZ t with
      |false=>
       rw[oD (by rfl),oD (by rfl),oD (by rfl),oD (by rfl)];refine Yd.mk ?_;unfold pG;rw[hdu,hb1,hdt];rfl
      |true=>
       rw[fZ (by rfl)];refine Yd.bd f1 ?_;rw[fZ (by rfl)];refine Yd.bd et ?_;cases h0:(t==([48]:adx)) with
       |true=>
        rw[oD (by rfl),oD (by rfl)];refine Yd.mk ?_;unfold pG;rw[hdu,hb1,hdt,h0];rfl
       |false=>
        rw[fZ (by rfl)];refine Yd.bd f1 ?_;rw[fZ (by rfl)];refine Yd.bd et ?_;cases h1:(t==([49]:adx)) with
        |true=>
         refine Yd.mk ?_;unfold pG;rw[hdu,hb1,hdt,h0,h1];rfl
        |false=>
         refine Yd.cond (fun h=>by cases h)<|fun _=>?_
         refine small (fun yX uj=>_) ?_;rw[cr (show¬(600:Int)<(u.length:Int) by omega),cr (show¬(600:Int)<((core.length:Int)-(u.length:Int)-1) by omega)];refine Yd.cond (fun h=>by cases h)<|fun _=>?_
         refine Yd.jn (fun _=>Nat.gcd (dD u) (dD t)=1) (fun _ h=>Yd.mk ?_) (fun k hk=>Yd.cond (fun _=>?_) (fun h=>by cases h))
         ·unfold pG;rw[hdu,hb1,hdt,h0,h1,bD h];rfl
         ·have pp:=Tt hdu hdt q2 (by omega) (by omega);rw[<-q1] at pp;refine Yd.jQ pp fun p ⟨p1,p2,p3,p4⟩=>Yd.jQ (No p1.1 p2.1 (by omega) (by omega)) fun w ⟨w1,w2,w3⟩=>?_
          have hv:aG w=(Nat.gcd (dD u) (dD t):Int):=by
           rw[w2,p1.2.1,p2.2.1];simp[Int.gcd]
          have Ud:=TQ w1;rw[hv] at Ud;have bad:Nat.gcd (dD u) (dD t)≠1->Yd (fun r=>r=pG neg u t true) (some (1:Int)):=fun h=>Yd.mk (by
           unfold pG;rw[hdu,hb1,hdt,h0,h1,cr h];rfl)
          refine Yd.fR (fun hg=>?_)<|fun hg=>?_
          ·have hlw:decide ((w.length:Int)=1)=true:=by
            cases h:decide ((w.length:Int)=1) with
            |true=>rfl
            |false=>rw[h] at hg;cases hg
           obtain⟨d,rfl⟩:∃d,w=[d]:=L3.1 (by have:=bf hlw;omega);refine⟨d,rfl,?_⟩;refine Yd.cond (fun h=>?_)<|fun h=>?_
           ·refine bad fun h'=>?_
            have:=(Ud.2 (by omega)).2;have:d=1:=by simpa using this
            subst this;cases h
           ·refine hk () ?_;have:d=1:=by
             by_cases hd:d=1
             ·exact hd
             ·rw[cr hd] at h;rw[LM,Bool.or_true] at h;cases h
            subst this;have:=Ud.1 ⟨rfl,rfl⟩;omega
          ·have hlw:decide ((w.length:Int)=1)=false:=by
            cases h:decide ((w.length:Int)=1) with
            |false=>rfl
            |true=>rw[h] at hg;cases hg
           rw[hlw];refine bad fun h'=>?_
           have:=(Ud.2 (by omega)).1;rw[hlw] at this;cases this
 obtain⟨r,h1,h2⟩:=key;rw[h1,h2]
def isNum(s:adx)(q:Rat):Prop:=s=cW q/\bq q 14/\ir s=some q
def ac4:dc 0=[48]:=by kernel_rfl
def ai0:dc 1=[49]:=by kernel_rfl
def ahJ{a:Int}(h0:d≠0)(hg:Nat.gcd a.natAbs d=1):∃q,Zm a (d:Int)=some q/\q.num=a/\q.den=d:=by
 obtain⟨k,rfl⟩:=Nat.exists_eq_succ_of_ne_zero h0;have h:Zm a ((k+1:Nat):Int)=some (mkRat a<|k+1):=by
  show yW (Nat.beq (Nat.gcd a.natAbs<|k+1) 1) (mkRat a<|k+1)=_;rw[show Nat.beq (Nat.gcd a.natAbs<|k+1) 1=true from by rw[hg];rfl];rfl
 obtain⟨h1,h2⟩:=TF h;exact⟨_,h,h1,by omega⟩
def ada(hl:(bif neg then 45::core else core).length<=14)(hc:pG neg (sp core).1 (sp core).2.1 (sp core).2.2=0):∃q,isNum (bif neg then 45::core else core) q:=by
 have hl:core.length<=14:=by cases neg<;>simp at hl<;>omega
 obtain⟨q1,q2,q3⟩:=WY core;have hlen:=congrArg List.length q1;rw[List.length_append] at hlen;unfold isNum ir;rw[UA hl]
 generalize hu:(sp core).1=u at*
 generalize ht:(sp core).2.1=t at*
 generalize hf:(sp core).2.2=fd at*
 have VY:u.length<=14:=by omega
 unfold pG at hc;cases aik:((!mZ u)||(neg&&(u==([48]:adx))))||(fd&&(((!mZ t)||(t==([48]:adx)))||(t==([49]:adx)))) with
 |true=>rw[aik] at hc;cases hc
 |false=>
 rw[aik,fU] at hc;obtain⟨b1,b2⟩:=wI.1 aik;obtain⟨b3,b4⟩:=wI.1 b1;have du:mZ u=true:=by simpa using b3
 have au:=xJ du;have lu:=xi u au.1;have p1:=uP (show 0<10 by omega) VY;have eu:=Om _ u rfl du;obtain⟨z,hz,hzn,Sr⟩:∃z:Int,(bif neg then 45::u else u)=eL z/\z.natAbs=dD u/\tT (bif neg then 45::u else u)=some z:=by
  cases neg with
  |false=>
   refine⟨(dD u:Int),?_,by simp,EY (l:=u) au.1 (by omega)⟩;unfold eL;rw[cr (by omega)];simp[<-eu]
  |true=>
   have h0:dD u≠0:=fun h=>by
    rw[h,ac4] at eu;rw[eu] at b4;cases b4
   refine⟨-(dD u:Int),?_,by simp,aad (l:=u) au.1 (by omega)⟩;unfold eL;rw[bD (by omega)];simp[<-eu]
 cases fd with
 |false=>
  rw[fU,vB] at q1;refine⟨(z:Rat),?_,⟨by rw[Rat.num_intCast];omega,by rw[Rat.den_intCast];omega⟩,?_⟩
  ·rw[q1,hz];unfold cW;rw[Rat.num_intCast,Rat.den_intCast];simp
  ·show bd (tT (bif neg then 45::u else u)) _=_;rw[Sr];rfl
 |true=>
  rw[fT] at q1 hlen;rw[List.length_cons] at hlen;rw[pq] at b2 hc;obtain⟨c1,c2⟩:=wI.1 b2;obtain⟨c3,c4⟩:=wI.1 c1;have dt:mZ t=true:=by simpa using c3
  have at':=xJ dt;have lt:=xi t at'.1;have p2:=uP (show 0<10 by omega) (show t.length<=14 by omega);have et:=Om _ t rfl dt;have h0:dD t≠0:=fun h=>by
   rw[h,ac4] at et;rw[et] at c4;cases c4
  have h1:dD t≠1:=fun h=>by
   rw[h,ai0] at et;rw[et] at c2;cases c2
  have hg:Nat.gcd (dD u) (dD t)=1:=by
   cases h:decide (Nat.gcd (dD u) (dD t)=1) with
   |true=>exact bf h
   |false=>rw[h] at hc;cases hc
  obtain⟨q,m1,m2,m3⟩:=ahJ (a:=z) h0 (by rw[hzn];exact hg);refine⟨q,?_,⟨by omega,by omega⟩,?_⟩
  ·unfold cW;rw[m2,m3,cr h1,fU,<-hz,<-et,q1];cases neg<;>rfl
  ·show bd (tT (bif neg then 45::u else u)) _=_;rw[Sr];show bd (tT t) _=_;rw[EY at'.1 (by omega)];show bd (Zm z (dD t:Int)) _=_;rw[m1];rfl
def GF{s:adx}(hl:s.length<=14):∃c,ib s=some c/\j5 s=some c/\(c=0->∃q,isNum s q):=by
 obtain⟨neg,core,rfl,Pq⟩:∃(neg:Bool) (core:adx),s=(bif neg then 45::core else core)/\(neg=false->core.head?≠some 45):=by
  match s with
  |[]=>exact⟨false,[],rfl,fun _ h=>by cases h⟩
  |x::r=>
   by_cases hx:x=45
   ·exact⟨true,r,by rw[hx];rfl,fun h=>by cases h⟩
   ·exact⟨false,x::r,rfl,fun _ h=>hx<|fj h⟩
 have hlc:core.length<=14:=by cases neg<;>simp at hl<;>omega
 exact⟨_,S2 hlc Pq,Y9 hlc Pq,ada hl⟩
def NP(v:adx×adx×adx)(q:Rat×Rat×Rat):Prop:=isNum v.1 q.1/\isNum v.2.1 q.2.1/\isNum v.2.2 q.2.2
def short(v:adx×adx×adx):Prop:=v.1.length<=14/\v.2.1.length<=14/\v.2.2.length<=14
def f3(a b c:Int):Int:=bif !decide (a=0) then a else bif !decide (b=0) then b else c
def tW{σ ρ:Type}{B:(σ->atg ρ)->σ->atg ρ}(n:Nat)(s:σ):lp (n+1) B s=B (lp n B) s:=rfl
def vF{v:adx×adx×adx}(hl:short v):∃c,eP v=some c/\iS v=some c/\(c=0->∃q,NP v q):=by
 obtain⟨a,b,c⟩:=v;obtain⟨l1,l2,l3⟩:=hl;obtain⟨ca,a1,a2,a3⟩:=GF (s:=a) l1;obtain⟨cb,b1,b2,b3⟩:=GF (s:=b) l2;obtain⟨cc,c1,c2,c3⟩:=GF (s:=c) l3;refine⟨f3 ca cb cc,?_,?_,?_⟩
 ·unfold eP uE;rw[tW];show bd (bd (ib a) _) _=_;rw[a1,bE];unfold f3;cases ha: !decide (ca=0)
  ·show bd (lp _ _ (1:Int)) _=_;rw[tW];show bd (bd (ib b) _) _=_;rw[b1,bE];cases hb: !decide (cb=0)
   ·show bd (lp _ _ (2:Int)) _=_;rw[tW];show bd (bd (ib c) _) _=_;rw[c1,bE];cases hc: !decide (cc=0)
    ·have:cc=0:=by simpa using hc
     subst this;rfl
    ·rfl
   ·rfl
  ·rfl
 ·unfold iS uI;rw[tW];show bd (bd (j5 a) _) _=_;rw[a2,bE];unfold f3;cases ha: !decide (ca=0)
  ·show bd (lp _ _ (1:Int)) _=_;rw[tW];show bd (bd (j5 b) _) _=_;rw[b2,bE];cases hb: !decide (cb=0)
   ·show bd (lp _ _ (2:Int)) _=_;rw[tW];show bd (bd (j5 c) _) _=_;rw[c2,bE];cases hc: !decide (cc=0)
    ·have:cc=0:=by simpa using hc
     subst this;rfl
    ·rfl
   ·rfl
  ·rfl
 ·intro h;unfold f3 at h;have ea:ca=0:=by
   by_cases e:ca=0
   ·exact e
   ·rw[cr e] at h;exact h
  subst ea;have eb:cb=0:=by
   by_cases e:cb=0
   ·exact e
   ·rw[cr e] at h;exact h
  subst eb;have ec:cc=0:=h;obtain⟨x,hx⟩:=a3 rfl;obtain⟨y,hy⟩:=b3 rfl;obtain⟨z,hz⟩:=c3 ec;exact⟨(x,y,z),hx,hy,hz⟩
def bc(q:Rat)(c n:Nat):Prop:=q.num.natAbs<=c*10^n/\q.den<=10^n
def wi(h:bc q c n)(hc:1<=c/\c<100):bq q (n+2):=by
 have e:(10:Nat)^(n+2)=10^n*100:=by rw[qa]
 have hp:0<(10:Nat)^n:=Nat.pow_pos (by omega);have h1:c*10^n<10^(n+2):=by rw[e,oI];exact(Nat.mul_lt_mul_left hp).2 hc.2
 exact⟨EF h.1 h1,by have:=h.2;omega⟩
def ado(h:bq q n):bc q 1 n:=⟨by rw[vw];exact Ex h.1,Ex h.2⟩
def Df(h:bq q n)(hn:n<=1000):CT q=true:=by
 have one:∀k:Nat,k<10^n->Nat.blt (Nat.log2 k) 68719476736=true:=by
  intro k hk;refine nE ?_;rcases wH k with h0|h0
  ·rw[h0];exact gj rfl
  ·have h1:(10:Nat)^n<=(2^4)^n:=Nat.pow_le_pow_left (by omega) n;rw[<-Nat.pow_mul] at h1;have:Nat.log2 k<4*n:=(xx (by omega)).2 (by omega);omega
 unfold CT;rw[one _ h.1,one _ h.2];rfl
def VF(c d m n:Nat):(c*10^m)*(d*10^n)=(c*d)*10^(m+n):=by
 rw[qa];grind
def kW(hx:bc x c m)(hy:bc y d n):bc (x*y) (c*d) (m+n):=by
 have h:=JE (x:=x.num*y.num) (y:=(x.den:Int)*(y.den:Int))<|BW (tR x)<|tR y
 rw[HD] at h;rw[qw,qw,jd,jd] at h;refine⟨fc h.1 ?_,fc h.2 ?_⟩
 ·rw[<-VF];exact pr hx.1 hy.1
 ·rw[qa];exact pr hx.2 hy.2
def Se(hx:bc x c m)(hy:bc y d n):bc (x+y) (c+d) (m+n):=by
 have h:=JE (x:=x.num*y.den+y.num*x.den) (y:=(x.den:Int)*(y.den:Int))<|BW (tR x)<|tR y
 rw[Lw] at h;rw[qw,jd,jd] at h;have a1:=pr hx.1 hy.2;have a2:=pr hy.1 hx.2;have t:=Int.natAbs_add_le (x.num*y.den)<|y.num*x.den
 rw[qw,qw,jd,jd] at t;have e1:=VF c 1 m n;have e2:=VF d 1 n m;rw[vw,Nat.mul_one] at e1 e2;rw[BU n m] at e2;refine⟨?_,fc h.2 ?_⟩
 ·rw[om];omega
 ·rw[qa];exact pr hx.2 hy.2
def ajm(h:bc x c n):bc (-x) c n:=by
 refine⟨?_,?_⟩
 ·rw[Il,EB];exact h.1
 ·rw[Ik];exact h.2
def J1(hx:bc x c m)(hy:bc y d n):bc (x-y) (c+d) (m+n):=by
 rw[RH];exact Se hx<|ajm hy
def okB(c n:Nat):Prop:=1<=c/\c<100/\n<=900
end
section
variable{x y:Rat}{c d m n:Nat}(hx:bc x c m)(hy:bc y d n)(h1:okB c m)(h2:okB d n)
include hx hy h1 h2
def HG:nr x y=some (x*y):=by
 obtain⟨a,b,e⟩:=h1;obtain⟨a',b',e'⟩:=h2;unfold nr;rw[Df (wi hx ⟨a,b⟩) (by omega),Df (wi hy ⟨a',b'⟩) (by omega)];rfl
def agn:Bv x y=some (x+y):=by
 obtain⟨a,b,e⟩:=h1;obtain⟨a',b',e'⟩:=h2;unfold Bv;rw[Df (wi hx ⟨a,b⟩) (by omega),Df (wi hy ⟨a',b'⟩) (by omega)];rfl
def PY:AV x y=some (x-y):=by
 obtain⟨a,b,e⟩:=h1;obtain⟨a',b',e'⟩:=h2;unfold AV;rw[Df (wi hx ⟨a,b⟩) (by omega),Df (wi hy ⟨a',b'⟩) (by omega)];rfl
def akj(h0:y≠0):HH x y=some (x/y):=by
 obtain⟨a,b,e⟩:=h1;obtain⟨a',b',e'⟩:=h2;unfold HH;rw[Df (wi hx ⟨a,b⟩) (by omega),Df (wi hy ⟨a',b'⟩) (by omega),cr h0];rfl
def HF:gI (cW x) (cW y)=some (cW<|x*y):=by
 obtain⟨a,b,e⟩:=h1;obtain⟨a',b',e'⟩:=h2;exact Xd (wi hx ⟨a,b⟩) (wi hy ⟨a',b'⟩) (by omega) (by omega)
def agm:ml (cW x) (cW y)=some (cW<|x+y):=by
 obtain⟨a,b,e⟩:=h1;obtain⟨a',b',e'⟩:=h2;exact Xe (wi hx ⟨a,b⟩) (wi hy ⟨a',b'⟩) (by omega) (by omega)
def PX:lk (cW x) (cW y)=some (cW<|x-y):=by
 obtain⟨a,b,e⟩:=h1;obtain⟨a',b',e'⟩:=h2;exact aeM (wi hx ⟨a,b⟩) (wi hy ⟨a',b'⟩) (by omega) (by omega)
def aki(h0:y≠0):vY (cW x) (cW y)=some (cW<|x/y):=by
 obtain⟨a,b,e⟩:=h1;obtain⟨a',b',e'⟩:=h2;exact aeO (wi hx ⟨a,b⟩) (wi hy ⟨a',b'⟩) h0 (by omega) (by omega)
end
section
variable{n m c d:Nat}{q:Rat}
abbrev Q3:=Rat×Rat×Rat
abbrev T3:=adx×adx×adx
def vc(v:Q3)(c n:Nat):Prop:=bc v.1 c n/\bc v.2.1 c n/\bc v.2.2 c n
def sQ(v:Q3):T3:=(cW v.1,cW v.2.1,cW v.2.2)
def nt(v w:Q3):Rat:=v.1*w.1+v.2.1*w.2.1+v.2.2*w.2.2
def YO(v w:Q3):Q3:=(v.1-w.1,v.2.1-w.2.1,v.2.2-w.2.2)
def qD(v w:Q3):Q3:=(v.2.1*w.2.2-v.2.2*w.2.1,v.2.2*w.1-v.1*w.2.2,v.1*w.2.1-v.2.1*w.1)
def Wk{v w:Q3}(hv:vc v c m)(hw:vc w d n):bc (nt v w) (c*d+c*d+c*d) (m+n+(m+n)+(m+n)):=
 Se (Se (kW hv.1 hw.1)<|kW hv.2.1 hw.2.1) (kW hv.2.2 hw.2.2)
def IU{v w:Q3}(hv:vc v c m)(hw:vc w d n)(h1:1<=c/\c<=8)(h2:1<=d/\d<=4)(h3:m<=100/\n<=100):dm v w=some (nt v w)/\ph (sQ v) (sQ w)=some (cW<|nt v w):=by
 have p0:c*d<=8*4:=pr h1.2 h2.2;have p1:1*1<=c*d:=pr h1.1 h2.1;have o1:okB c m:=⟨by omega,by omega,by omega⟩;have o2:okB d n:=⟨by omega,by omega,by omega⟩;have o3:okB (c*d) (m+n):=⟨by omega,by omega,by omega⟩;have o4:okB (c*d+c*d) (m+n+(m+n)):=⟨by omega,by omega,by omega⟩;have a1:=kW hv.1 hw.1;have a2:=kW hv.2.1 hw.2.1;have a3:=kW hv.2.2 hw.2.2;have a4:=Se a1 a2;constructor
 ·unfold dm;rw[HG hv.1 hw.1 o1 o2,bE,HG hv.2.1 hw.2.1 o1 o2,bE,agn a1 a2 o3 o3,bE,HG hv.2.2 hw.2.2 o1 o2,bE,agn a4 a3 o4 o3];rfl
 ·unfold ph sQ;dsimp only;rw[HF hv.1 hw.1 o1 o2,bE,HF hv.2.1 hw.2.1 o1 o2,bE,agm a1 a2 o3 o3,bE,HF hv.2.2 hw.2.2 o1 o2,bE,agm a4 a3 o4 o3];rfl
def aha{v w:Q3}(hv:vc v c m)(hw:vc w d n):vc (YO v w) (c+d) (m+n):=
 ⟨J1 hv.1 hw.1,J1 hv.2.1 hw.2.1,J1 hv.2.2 hw.2.2⟩
def aaL{v w:Q3}(hv:vc v c m)(hw:vc w d n)(o1:okB c m)(o2:okB d n):fS v w=some (YO v w)/\pe (sQ v) (sQ w)=some (sQ<|YO v w):=by
 constructor
 ·unfold fS;rw[PY hv.1 hw.1 o1 o2,bE,PY hv.2.1 hw.2.1 o1 o2,bE,PY hv.2.2 hw.2.2 o1 o2];rfl
 ·unfold pe sQ;dsimp only;rw[PX hv.1 hw.1 o1 o2,bE,PX hv.2.1 hw.2.1 o1 o2,bE,PX hv.2.2 hw.2.2 o1 o2];rfl
def ac7{v w:Q3}(hv:vc v 1 m)(hw:vc w 1 n):vc (qD v w) 2 (m+n+(m+n)):=
 ⟨J1 (kW hv.2.1 hw.2.2)<|kW hv.2.2 hw.2.1,J1 (kW hv.2.2 hw.1)<|kW hv.1 hw.2.2,J1 (kW hv.1 hw.2.1)<|kW hv.2.1 hw.1⟩
def Oq{v w:Q3}(hv:vc v 1 m)(hw:vc w 1 n)(h:m<=100/\n<=100):gx v w=some (qD v w)/\vp (sQ v) (sQ w)=some (sQ<|qD v w):=by
 have o1:okB 1 m:=⟨by omega,by omega,by omega⟩;have o2:okB 1 n:=⟨by omega,by omega,by omega⟩;have o3:okB (1*1) (m+n):=⟨by omega,by omega,by omega⟩;constructor
 ·unfold gx;rw[HG hv.2.1 hw.2.2 o1 o2,bE,HG hv.2.2 hw.2.1 o1 o2,bE,PY (kW hv.2.1 hw.2.2) (kW hv.2.2 hw.2.1) o3 o3,bE,HG hv.2.2 hw.1 o1 o2,bE,HG hv.1 hw.2.2 o1 o2,bE,PY (kW hv.2.2 hw.1) (kW hv.1 hw.2.2) o3 o3,bE,HG hv.1 hw.2.1 o1 o2,bE,HG hv.2.1 hw.1 o1 o2,bE,PY (kW hv.1 hw.2.1) (kW hv.2.1 hw.1) o3 o3];rfl
 ·unfold vp sQ;dsimp only;rw[HF hv.2.1 hw.2.2 o1 o2,bE,HF hv.2.2 hw.2.1 o1 o2,bE,PX (kW hv.2.1 hw.2.2) (kW hv.2.2 hw.2.1) o3 o3,bE,HF hv.2.2 hw.1 o1 o2,bE,HF hv.1 hw.2.2 o1 o2,bE,PX (kW hv.2.2 hw.1) (kW hv.1 hw.2.2) o3 o3,bE,HF hv.1 hw.2.1 o1 o2,bE,HF hv.2.1 hw.1 o1 o2,bE,PX (kW hv.1 hw.2.1) (kW hv.2.1 hw.1) o3 o3];rfl
def Xx{z:Int}(h:z.natAbs<10^600):uK z=some false:=by
 have key:Yd (fun b=>b=false) (uK z):=by
  have hs:=xj h (by omega);have hd:=mw 600 _ (by omega) h;unfold uK adw;rw[hs];refine Yd.bd (x:=(bif decide (z=0) then 0 else(Nat.log2 z.natAbs:Int)+1)) rfl ?_
  generalize (bif decide (z=0) then 0 else(Nat.log2 z.natAbs:Int)+1)=n
  cases decide ((1800:Int)<n)
  ·exact Yd.mk rfl
  ·rw[fZ (by rfl)];refine Yd.bd (x:=eL z) (by unfold vG;rw[hs];rfl) ?_;rw[fZ (by rfl)];have aow:gX (eL z) [45]=some (dc z.natAbs):=by
    unfold eL;cases hc:decide (z<0)
    ·rw[fU];have hh:(dc z.natAbs).head?≠some 45:=fun e=>by
      have:=db.1 (nh z.natAbs).1 45<|List.mem_of_mem_head? e
      cases this
     unfold gX fh;rw[Nq hh];rfl
    ·rw[fT];unfold gX fh;rw[Kn];show bd (bd (im (45::dc z.natAbs) (([45]:adx).length:Int) ((45::dc z.natAbs).length:Int)) _) _=_;rw[jE (by simp) (by simp;omega) (by omega)];simp;rfl
   refine Yd.bd aow<|Yd.mk ?_
   rw[cr (by omega)];rfl
 obtain⟨r,e,rfl⟩:=key;exact e
def NN(h1:q.num.natAbs<10^600)(h2:q.den<10^600):fQ q=some false:=by
 unfold fQ;rw[Xx h1,bE,fZ (by rfl),Xx (z:=(q.den:Int)) (by rw[jd];exact h2)];rfl
def JY(h1:q.num.natAbs<10^600)(h2:q.den<10^600):fN q=some (cW q):=by
 have s1:vG q.num=some (eL q.num):=by unfold vG;rw[xj h1 (by omega)];rfl
 have s2:vG (q.den:Int)=some (dc q.den):=by
  unfold vG;rw[xj (z:=(q.den:Int)) (by rw[jd];exact h2) (by omega)];show some (eL (q.den:Int))=_;unfold eL;rw[cr (by omega)];simp
 have l1:=xH q.num;have l2:=mw 600 _ (by omega) h1;have l3:=mw 600 _ (by omega) h2;unfold fN lQ cW;rw[bE,s1,s2];cases decide (q.den=1)
 ·rw[fU,bE,sV (by simp;omega),bE,bE,sV (by simp;omega)];simp[Trn.bd]
 ·rw[fT,fT,bE,vB]
def Bu{x:Rat}(h:x≠0):0<x*x:=by
 rcases Rat.le_total (a:=0) (b:=x) with h1|h1
 ·have:0<x:=by grind
  exact Rat.mul_pos this this
 ·have:0< -x:=by grind
  have:=Rat.mul_pos this this
  grind
def Ab(x:Rat):0<=x*x:=by
 by_cases h:x=0
 ·subst h;grind
 ·exact Rat.le_of_lt<|Bu h
def tM(v:Q3):Bool:=decide (v.1=0)&&(decide (v.2.1=0)&&decide (v.2.2=0))
def R9{v:Q3}(h:tM v=false):0<nt v v:=by
 obtain⟨a,b,c⟩:=v;unfold tM at h;unfold nt;dsimp only at*;have ha:=Ab a;have hb:=Ab b;have hc:=Ab c;by_cases h1:a=0
 ·by_cases h2:b=0
  ·have h3:c≠0:=fun h3=>by rw[bD h1,bD h2,bD h3] at h;cases h
   have:=Bu h3
   grind
  ·have:=Bu h2
   grind
 ·have:=Bu h1
  grind
def Z2{v w:Q3}(hv:tM v=false)(hw:tM w=false)(h:nt v w=0):0<nt (qD v w) (qD v w):=by
 have h1:=R9 hv;have h2:=R9 hw;have h3:=Rat.mul_pos h1 h2;have e:nt (qD v w) (qD v w)=nt v v*nt w w-nt v w*nt v w:=by
  unfold nt qD;grind
 rw[e,h]
 grind
def LI{l:ard T3}{s1:Int}{x:T3}(h:bm l s1=some x){k2:Int->atg Bool}{R:Bool->Prop}(h1:R true)(h2:short x->Yd R (bd (aF<|s1+(1:Int)) k2)):Yd R (lp 18446744073709551616 (fun(k5:Int->atg Bool) (s4:Int)=>
    cond (decide<|s4<(3:Int)) (
     bd (bm l s1) fun x7=>
     bd (bm ([x7.1,x7.2.1,x7.2.2]:ard adx) s4) fun x9=>
     cond (decide<|(14:Int)<(x9.length:Int)) (
      some true
     ) (
      bd (aF<|s4+(1:Int)) fun fp=>
      k5 fp
     )
    ) (
     bd (aF<|s1+(1:Int)) fun gp=>
     k2 gp
    )
   ) (0:Int)):=by
 obtain⟨a,b,c⟩:=x;rw[tW];refine Yd.cond (fun _=>?_) (fun h=>by cases h);refine Yd.bd h<|Yd.bd (x:=a) rfl<|Yd.cond (fun _=>Yd.mk h1)<|fun g1=>Yd.bd (x:=1) rfl ?_
 rw[tW];refine Yd.cond (fun _=>?_) (fun h=>by cases h);refine Yd.bd h<|Yd.bd (x:=b) rfl<|Yd.cond (fun _=>Yd.mk h1)<|fun g2=>Yd.bd (x:=2) rfl ?_
 rw[tW];refine Yd.cond (fun _=>?_) (fun h=>by cases h);refine Yd.bd h<|Yd.bd (x:=c) rfl<|Yd.cond (fun _=>Yd.mk h1)<|fun g3=>Yd.bd (x:=3) rfl ?_
 rw[tW];refine Yd.cond (fun h=>by cases h)<|fun _=>h2 ⟨?_,?_,?_⟩
 ·have:=bP g1;show a.length<=14;omega
 ·have:=bP g2;show b.length<=14;omega
 ·have:=bP g3;show c.length<=14;omega
def akn(p:T3):Yd (fun b=>b=false->short p) (p8 [p]):=by
 unfold p8;rw[tW];refine Yd.cond (fun _=>LI (x:=p) rfl (fun h=>by cases h) fun s1=>Yd.bd (x:=1) rfl ?_) (fun h=>by cases h);rw[tW];exact Yd.cond (fun h=>by cases h)<|fun _=>Yd.mk fun _=>s1
def akm(v:T3×T3×T3):Yd (fun b=>b=false->short v.1/\short v.2.1/\short v.2.2) (xt v):=by
 unfold xt p8;have key:∀o:atg Bool,Yd (fun b=>b=false->short v.1/\short v.2.1/\short v.2.2) o->Yd (fun b=>b=false->short v.1/\short v.2.1/\short v.2.2) (bd o fun x1=>some x1):=fun o h=>Yd.jQ h fun x hx=>Yd.mk hx
 refine key _ ?_;rw[tW];refine Yd.cond (fun _=>LI (x:=v.1) rfl (fun h=>by cases h) fun s1=>Yd.bd (x:=1) rfl ?_) (fun h=>by cases h);rw[tW];refine Yd.cond (fun _=>LI (x:=v.2.1) rfl (fun h=>by cases h) fun s2=>Yd.bd (x:=2) rfl ?_) (fun h=>by cases h);rw[tW];refine Yd.cond (fun _=>LI (x:=v.2.2) rfl (fun h=>by cases h) fun s3=>Yd.bd (x:=3) rfl ?_) (fun h=>by cases h);rw[tW];exact Yd.cond (fun h=>by cases h)<|fun _=>Yd.mk fun _=>⟨s1,s2,s3⟩
def yK{v:T3}{q:Q3}(h:NP v q):vc q 1 14:=⟨ado h.1.2.1,ado h.2.1.2.1,ado h.2.2.2.1⟩
def mJ{v:T3}{q:Q3}(h:NP v q):v=sQ q:=by
 obtain⟨a,b,c⟩:=v;have h1:a=_:=h.1.1;have h2:b=_:=h.2.1.1;have h3:c=_:=h.2.2.1;rw[h1,h2,h3];rfl
def rU{v:T3}{q:Q3}(h:NP v q):eM v=some q:=by
 unfold eM;rw[h.1.2.2,bE,h.2.1.2.2,bE,h.2.2.2.2];rfl
def sign_zero(x:Rat):decide (x.num.sign=0)=decide (x=0):=by
 refine zB.2 ⟨fun h=>zy.1<|Int.sign_eq_zero_iff_zero.1 h,fun h=>by subst h;rfl⟩
def Hj(h:bc q c n)(o:okB c n):(cW q).length<1000000:=by
 have:=PI (wi h ⟨o.1,o.2.1⟩) (by omega);have:=o.2.2;omega
def SR(v:Q3):fu v=some (tM v):=by
 unfold fu j9 tM;rw[bE,sign_zero];cases decide (v.1=0)
 ·rfl
 ·rw[fZ (by rfl),bE,sign_zero];cases decide (v.2.1=0)
  ·rfl
  ·rw[fZ (by rfl),bE,sign_zero];cases decide (v.2.2=0)<;>rfl
def Tk{v:Q3}(h:vc v 1 14):p7 (sQ v)=some (tM v):=by
 have o:okB 1 14:=⟨by omega,by omega,by omega⟩;have t1:=AO v.1<|Hj h.1 o
 have t2:=AO v.2.1<|Hj h.2.1 o
 have t3:=AO v.2.2<|Hj h.2.2 o
 show some (decide<|sQ v=(([48]:adx),([48]:adx),([48]:adx)))=_;unfold tM;rw[<-t1,<-t2,<-t3]
 congr 1
 rw[Bool.eq_iff_iff];unfold sQ;simp[xy]
def Gy(a b:Int):Int:=bif !decide (a=0) then a else b
def KD(a b:Int):fz [a,b]=some (Gy a b):=by
 unfold fz Gy;rw[tW];show cond (!decide (a=0)) _ _=_;cases h1: !decide (a=0)
 ·show lp _ _ (1:Int)=_;rw[tW];show cond (!decide (b=0)) _ _=_;cases h2: !decide (b=0)
  ·have:b=0:=by simpa using h2
   subst this;rfl
  ·rfl
 ·rfl
def VP(a b:Int):vt [a,b]=some (Gy a b):=by
 unfold vt Gy;rw[tW];show cond (!decide (a=0)) _ _=_;cases h1: !decide (a=0)
 ·show lp _ _ (1:Int)=_;rw[tW];show cond (!decide (b=0)) _ _=_;cases h2: !decide (b=0)
  ·have:b=0:=by simpa using h2
   subst this;rfl
  ·rfl
 ·rfl
def Hh(a u:Q3):Int:=bif tM a||tM u then 6 else bif !decide (nt a u=0) then 15 else 0
def Oz{v:T3×T3×T3}(h:short v.1/\short v.2.1/\short v.2.2):∃c,gG v=some c/\oF v=some c/\(c=0->∃o a u,NP v.1 o/\NP v.2.1 a/\NP v.2.2 u/\Hh a u=0):=by
 obtain⟨vo,va,vu⟩:=v;obtain⟨l1,l2,l3⟩:=h;obtain⟨ca,a1,a2,a3⟩:=vF (v:=vo) l1;obtain⟨cb,b1,b2,b3⟩:=vF (v:=va) l2;obtain⟨cc,c1,c2,c3⟩:=vF (v:=vu) l3;unfold gG oF qu;rw[tW,tW];show ∃c,bd (bd (eP vo) _) _=_/\bd (iS vo) _=_/\_;rw[a1,bE,a2,bE];cases ha: !decide (ca=0) with
 |true=>
  refine⟨ca,?_,rfl,fun h=>by subst h;cases ha⟩;rw[fT,bE,ha];rfl
 |false=>
 have ha:ca=0:=by simpa using ha
 subst ha;show ∃c,bd (lp _ _ (1:Int)) _=_/\lp _ _ (1:Int)=_/\_;rw[tW,tW];show ∃c,bd (bd (eP va) _) _=_/\bd (iS va) _=_/\_;rw[b1,bE,b2,bE];cases hb: !decide (cb=0) with
 |true=>
  refine⟨cb,?_,rfl,fun h=>by subst h;cases hb⟩;rw[fT,bE,hb];rfl
 |false=>
 have hb:cb=0:=by simpa using hb
 subst hb;show ∃c,bd (lp _ _ (2:Int)) _=_/\lp _ _ (2:Int)=_/\_;rw[tW,tW];show ∃c,bd (bd (eP vu) _) _=_/\bd (iS vu) _=_/\_;rw[c1,bE,c2,bE];cases hc: !decide (cc=0) with
 |true=>
  refine⟨cc,?_,rfl,fun h=>by subst h;cases hc⟩;rw[fT,bE,hc];rfl
 |false=>
 have hc:cc=0:=by simpa using hc
 subst hc;show ∃c,bd (lp _ _ (3:Int)) _=_/\lp _ _ (3:Int)=_/\_;rw[tW,tW];obtain⟨o,ho⟩:=a3 rfl;obtain⟨a,ha⟩:=b3 rfl;obtain⟨u,hu⟩:=c3 rfl;have vo:=yK ho;have va:=yK ha;have vu:=yK hu;have hx:=Oq va vu ⟨by omega,by omega⟩;have hd:=IU va vu ⟨by omega,by omega⟩ ⟨by omega,by omega⟩ ⟨by omega,by omega⟩;have hdb:=Wk va vu;refine⟨Hh a u,?_,?_,fun h=>⟨o,a,u,ho,ha,hu,h⟩⟩
 ·show bd (jA _) _=_;unfold jA;rw[rU ho,bE,rU ha,bE,rU hu,bE,hx.1,bE,bE,SR,bE];have hz:(fR (gd (tM a) false) (false) (fu u) fun x8=>
  bd (jx (tM a||x8) (6:Int)) fun dz=>
  bd (dm a u) fun fp=>
  bd (j9 fp) fun gp=>
  bd (jx (!decide (gp=(0:Int))) (15:Int)) fun gS=>
  bd (fz ([dz,gS]:ard Int)) fun iZ=>
  some iZ)=bd (jx (tM a||tM u) (6:Int)) fun dz=>
  bd (dm a u) fun fp=>
  bd (j9 fp) fun gp=>
  bd (jx (!decide (gp=(0:Int))) (15:Int)) fun gS=>
  bd (fz ([dz,gS]:ard Int)) fun iZ=>
  some iZ:=by
   cases tM a
   ·rw[fZ (by rfl),SR];rfl
   ·rw[oD (by rfl)];rfl
  refine hz.trans ?_;rw[hd.1];unfold Hh j9 jx;simp only[bE,sign_zero];cases tM a||tM u<;>cases decide (nt a u=0)<;>simp only[fU,fT,bE,KD,Bool.not_true,LM]<;>rfl
 ·rw[show decide ((3:Int)<3)=false from rfl,fU];rw[mJ ha,mJ hu];dsimp only;rw[Tk va,bE,Tk vu];have o3:okB (1*1+1*1+1*1) (14+14+(14+14)+(14+14)):=⟨by omega,by omega,by omega⟩;have tail:tM a=false->tM u=false->(bd (ph (sQ a)<|sQ u) fun gS=>bd (pg gS) fun iZ=>bif !iZ then some 15 else some 0)=some (Hh a u):=by
   intro h1 h2;rw[hd.2,bE];unfold pg;rw[bE,AO _<|Hj hdb o3];unfold Hh;rw[h1,h2];cases decide (nt a u=0)<;>rfl
  cases h1:tM a with
  |true=>rw[oD (by rfl)];unfold Hh;rw[h1];rfl
  |false=>
   rw[fZ (by rfl),bE];cases h2:tM u with
   |true=>unfold Hh;rw[h1,h2];rfl
   |false=>exact tail h1 h2
def Z0{x y:Rat}(hx:bc x 12 252)(hy:bc y 12 336)(h0:y≠0):(x/y).num.natAbs<10^600/\(x/y).den<10^600:=by
 have hn:y.num≠0:=fun e=>h0<|zy.1 e
 have hi:=JE (x:=(y.den:Int)) (y:=y.num) hn;rw[Q8,jd] at hi;have h:=JE (x:=x.num*y⁻¹.num) (y:=(x.den:Int)*(y⁻¹.den:Int))<|BW (tR x)<|tR y⁻¹
 rw[HD,<-Rat.div_def,qw,qw,jd,jd] at h;have a1:=pr hx.1<|fc hi.1 hy.2
 have a2:=pr hx.2<|fc hi.2 hy.1
 have e1:12*10^252*10^336<10^600:=bf (by kernel_rfl);have e2:10^252*(12*10^336)<10^600:=bf (by kernel_rfl);exact⟨EF (fc h.1 a1) e1,EF (fc h.2 a2) e2⟩
def Yh(h:bc q c m)(hc:c<=d)(hm:m<=n):bc q d n:=by
 have hp:=uP (show 0<10 by omega) hm;exact⟨fc h.1<|pr hc hp,fc h.2 hp⟩
def JA{s t:Q3}(hs:vc s 2 28)(ht:vc t d n)(hd:1<=d/\d<=2)(hn:n<=56)(h0:tM t=false):jy s t=some (nt s t/nt t t)/\jV (sQ t) (sQ s)=some (cW<|nt s t/nt t t)/\(nt s t/nt t t).num.natAbs<10^600/\(nt s t/nt t t).den<10^600:=by
 have p0:d*d<=2*2:=pr hd.2 hd.2;have p1:1*1<=d*d:=pr hd.1 hd.1;have b1:=IU hs ht (by omega) (by omega) ⟨by omega,by omega⟩;have b1':=IU ht hs (by omega) (by omega) ⟨by omega,by omega⟩;have b2:=IU ht ht (by omega) (by omega) ⟨by omega,by omega⟩;have c1:bc (nt s t) 12 252:=Yh (Wk hs ht) (by omega) (by omega);have c2:bc (nt t t) 12 336:=Yh (Wk ht ht) (by omega) (by omega);have o1:okB 12 252:=⟨by omega,by omega,by omega⟩;have o2:okB 12 336:=⟨by omega,by omega,by omega⟩;have hp:=R9 h0;have hne:nt t t≠0:=fun e=>by rw[e] at hp;exact absurd hp (by decide)
 have alq:nt t s=nt s t:=by unfold nt;grind
 refine⟨?_,?_,Z0 c1 c2 hne⟩
 ·unfold jy;rw[b1.1,bE,b2.1,bE,akj c1 c2 o1 o2 hne];rfl
 ·unfold jV ym;rw[b1'.2,bE,b2.2,bE,bE,alq,aki c1 c2 o1 o2 hne];rfl
def aeb{a u:Q3}(h:Hh a u=0):tM a=false/\tM u=false/\nt a u=0:=by
 unfold Hh at h;cases h1:tM a with
 |true=>rw[h1] at h;cases h
 |false=>
  cases h2:tM u with
  |true=>rw[h1,h2] at h;cases h
  |false=>
   refine⟨rfl,rfl,?_⟩;by_cases h3:nt a u=0
   ·exact h3
   ·rw[h1,h2,cr h3] at h;cases h
def U3{a u:Q3}(h:0<nt (qD a u) (qD a u)):tM (qD a u)=false:=by
 cases hz:tM (qD a u) with
 |false=>rfl
 |true=>
  unfold tM at hz;obtain⟨h1,h2⟩:=eK hz;obtain⟨h3,h4⟩:=eK h2;have e1:=bf h1;have e2:=bf h3;have e3:=bf h4;unfold nt at h;rw[e1,e2,e3] at h;exact absurd h (by grind)
def OG(hk:nW=some true)(v:T3×T3×T3)(p:T3):kq v p=some true:=by
 obtain⟨b1,w1,s1⟩:=akm v;obtain⟨b2,w2,s2⟩:=akn p;unfold kq;rw[w1,bE,w2,hk];cases b1 with
 |true=>rfl
 |false=>
 rw[fZ (by rfl),bE];cases b2 with
 |true=>rfl
 |false=>
 obtain⟨c,k1,k2,k3⟩:=Oz<|s1 rfl
 obtain⟨e,f1,f2,f3⟩:=vF<|s2 rfl
 show bd (tr v p) _=_;rw[k1,k2];unfold tr xu;rw[k1,f1,f2];simp only[bE,KD,VP,decide_true,Bool.not_true,fU];cases hc: !decide (Gy c e=0) with
 |true=>
  simp only[fT,bE,decide_true,pq,LR,Ip]
  rfl
 |false=>
  have hf:Gy c e=0:=by simpa using hc
  have hc0:c=0:=by
   by_cases h:c=0
   ·exact h
   ·unfold Gy at hf;rw[cr h] at hf;exact hf
  subst hc0;have he0:e=0:=hf;subst he0;obtain⟨o,a,u,ho,ha,hu,hvc⟩:=k3 rfl;obtain⟨q,hq⟩:=f3 rfl;obtain⟨z1,z2,z3⟩:=aeb hvc;have vo:=yK ho;have va:=yK ha;have vu:=yK hu;have vq:=yK hq;have hx:=Oq va vu ⟨by omega,by omega⟩;have hxb:=ac7 va vu;have hs:=aaL vq vo ⟨by omega,by omega,by omega⟩ ⟨by omega,by omega,by omega⟩;have hsb:=aha vq vo;have hcz:=U3<|Z2 z1 z2 z3
  have P1:=JA hsb va ⟨by omega,by omega⟩ (by omega) z1;have P2:=JA hsb vu ⟨by omega,by omega⟩ (by omega) z2;have P3:=JA hsb hxb ⟨by omega,by omega⟩ (by omega) hcz;have al9:jA v=some (o,a,u,qD a u):=by
   unfold jA;rw[rU ho,bE,rU ha,bE,rU hu,bE,hx.1];rfl
  have aiV:vm v p=some (cW<|nt (YO q o) a/nt a a,cW<|nt (YO q o) u/nt u u):=by
   unfold vm;rw[mJ hq,mJ ho,mJ ha,mJ hu,hs.2,bE,P1.2.1,bE,P2.2.1];rfl
  have aiY:vn v p=some (cW<|nt (YO q o) (qD a u)/nt (qD a u) (qD a u)):=by
   unfold vn yl;rw[mJ hq,mJ ho,mJ ha,mJ hu,hx.2,bE,bE,hs.2,bE,P3.2.1];rfl
  rw[al9,rU hq,aiV,aiY];unfold kr jW iw vZ;simp only[bE,fU,hs.1,P1.1,P2.1,P3.1,NN P1.2.2.1 P1.2.2.2,NN P2.2.2.1 P2.2.2.2,NN P3.2.2.1 P3.2.2.2,JY P1.2.2.1 P1.2.2.2,JY P2.2.2.1 P2.2.2.2,JY P3.2.2.1 P3.2.2.2];simp only[fZ (show gd false false=true by rfl),bE,Bool.or_false,fU,fT,decide_true,pq,Ip,fZ (show gd true true=true by rfl),LR]
def Zv:nW=some true:=by kernel_rfl
def OH(v:T3×T3×T3)(p:T3):kq v p=some true:=OG Zv v p
end
end Trn
