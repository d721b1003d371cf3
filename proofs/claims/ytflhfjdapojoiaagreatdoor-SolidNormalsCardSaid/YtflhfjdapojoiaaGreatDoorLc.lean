/-
  Part of the proof of SolidNormals.
-/
import Derived.Test.YtflhfjdapojoiaaGreatDoorLb
set_option maxRecDepth 100000
set_option maxHeartbeats 20000000
set_option linter.all false
open Go Go.RowKit Go.Proofs Go.Proofs.Tryz
namespace Trn
section
variable{n c m d:Nat}{q:Rat}{l u:ad3}{x:Rat}{neg:Bool}{core:ad3}{a:Q3}{y:Rat}{b:Q3}
def UG{e:Bool}(hl:l.length<1099511627776):lp 18446744073709551616 (fun(k2:Int->av8 Bool) (s1:Int)=>
  cond (decide<|s1<(l.length:Int)) (
   bd (bo l s1) fun x4=>
   iJ (gd (decide<|(x4.toNat:Int)<(48:Int)) false) (0) (bo l s1) fun x6=>
   cond (((decide<|(x4.toNat:Int)<(48:Int))||(decide<|(57:Int)<(x6.toNat:Int)))) (
    some false
   ) (
    bd (aL<|s1+(1:Int)) fun x9=>
    k2 x9
   )
  ) (
   some e
  )
 ) (0:Int)=some (l.all iA&&e):=by
 have key:Yd (fun r=>r=(l.all iA&&e)) (lp 18446744073709551616 (fun(k2:Int->av8 Bool) (s1:Int)=>
  cond (decide<|s1<(l.length:Int)) (
   bd (bo l s1) fun x4=>
   iJ (gd (decide<|(x4.toNat:Int)<(48:Int)) false) (0) (bo l s1) fun x6=>
   cond (((decide<|(x4.toNat:Int)<(48:Int))||(decide<|(57:Int)<(x6.toNat:Int)))) (
    some false
   ) (
    bd (aL<|s1+(1:Int)) fun x9=>
    k2 x9
   )
  ) (
   some e
  )
 ) (0:Int)):=by
  refine Yd.lp (fun i:Int=>0<=i/\i<=l.length/\(l.take i.toNat).all iA=true) (fun i=>l.length-i.toNat) ?_ _ _ ⟨by omega,by omega,by simp⟩ (by omega);rintro next i ⟨g1,g2,g3⟩ hn
  obtain⟨n,rfl⟩:=gL g1;rw[Int.toNat_natCast] at g3;refine Yd.cond (fun hc=>?_)<|fun hc=>?_
  ·have hc:=aZ hc;have hlt:n<l.length:=by omega
   have hg:bo l (n:Int)=some l[n]:=j7 hlt;refine Yd.bd hg ?_;have bad:iA l[n]=false->(l.all iA&&e)=false:=fun h=>by
    have:l.all iA=false:=by
     cases ha:l.all iA with
     |false=>rfl
     |true=>rw[dI.1 ha _<|rY hlt] at h;cases h
    rw[this];rfl
   by_cases Yj:(l[n].toNat:Int)<48
   ·have hd:=aW Yj;have g:gd (decide<|(l[n].toNat:Int)<48) false=false:=by rw[hd];rfl
    rw[mU g];refine Yd.cond (fun _=>Yd.mk ?_) (fun h=>by rw[hd,EO] at h;cases h);rw[bad];unfold iA;rw[show Nat.ble 48 l[n].toNat=false from by
     cases hb:Nat.ble 48 l[n].toNat with
     |false=>rfl
     |true=>have:=gK hb;omega];rfl
   ·have hd:=bC Yj;have g:gd (decide<|(l[n].toNat:Int)<48) false=true:=by rw[hd];rfl
    rw[eG g];refine Yd.bd hg<|Yd.cond (fun h=>?_)<|fun h=>?_
    ·rw[hd,An] at h;have h:=aZ h;refine Yd.mk ?_;rw[bad];unfold iA;rw[show Nat.ble l[n].toNat 57=false from by
      cases hb:Nat.ble l[n].toNat 57 with
      |false=>rfl
      |true=>have:=gK hb;omega,HW]
    ·rw[hd,An] at h;have h:=br h;refine Yd.bd (aM ⟨by omega,by omega⟩) (hn _ ⟨by omega,by omega,?_⟩ (by omega));rw[show(((n:Nat):Int)+1).toNat=n+1 by omega,Lr,j7 hlt,Lw,g3];simp only[Option.toList_some,ti,List.all_nil,Ln,rQ];unfold iA;rw[lz (by omega),lz (by omega)];rfl
  ·have hc:=br hc;have:n=l.length:=by omega
   subst this;rw[eF<|bp _] at g3;refine Yd.mk ?_;rw[g3];rfl
 obtain⟨r,e,rfl⟩:=key;exact e
def oO(l:ad3):Bool:=l.all iA&&(!(l==[])&&(l==[48]|| !(l.head?==some 48)))
def C1(hl:l.length<1099511627776):kW l=some (oO l):=by
 have hd:uU l=some (l.all iA):=by
  unfold uU;rw[UG hl,Ln]
 unfold kW;rw[hd]
 match l,hl with
 |[],_=>rfl
 |[x],_=>
  show some ([x].all iA)=_;unfold oO;by_cases h:x=48
  ·subst h;rfl
  ·have e1:([x]==([]:ad3))=false:=rfl;have e2:([x].head?==some (48:UInt8))=false:=by simpa using h
   rw[e1,e2];simp
 |x::y::r,hl=>
  have g:(gd (decide<|((x::y::r).length:Int)=(0:Int)) false&&gd (decide<|(1:Int)<((x::y::r).length:Int)) true)=true:=by
   rw[bC (by simp only[List.length_cons];omega),aW (by simp only[List.length_cons];omega)];rfl
  rw[eG g];show cond ((decide<|((x::y::r).length:Int)=(0:Int))||((decide<|(1:Int)<((x::y::r).length:Int))&&(decide<|(x.toNat:Int)=(48:Int)))) _ _=_;rw[bC (show¬((x::y::r).length:Int)=0 by simp only[List.length_cons];omega),aW (show(1:Int)<((x::y::r).length:Int) by simp only[List.length_cons];omega),An,rQ];unfold oO;have e1:((x::y::r)==([]:ad3))=false:=rfl;have e3:((x::y::r)==([48]:ad3))=false:=by
   rw[yw];intro e;cases e
  have e2:((x::y::r).head?==some (48:UInt8))=decide ((x.toNat:Int)=48):=by
   show(some x==some (48:UInt8))=_;by_cases h:x=48
   ·subst h;rfl
   ·rw[bC (fun h'=>h (Lv.1 (by show _=48;omega)))];rw[yw];intro e;exact h<|eQ e
  rw[e1,e2,e3];cases decide ((x.toNat:Int)=48)
  ·show some _=some _;simp
  ·show some _=some _;simp
def JX(hl:l.length<1099511627776):nF l=some (oO l):=by
 have hd:uO l=some (l.all iA&& !(l==[])):=by
  unfold uO;rw[UG hl]
 unfold nF;rw[hd];show iJ _ _ _ _=_;unfold oO
 match l with
 |[]=>rfl
 |x::r=>
  have e1:((x::r)==([]:ad3))=false:=rfl;have e2:((x::r).head?==some (48:UInt8))=decide ((x.toNat:Int)=48):=by
   show(some x==some (48:UInt8))=_;by_cases h:x=48
   ·subst h;rfl
   ·rw[bC (fun h'=>h (Lv.1 (by show _=48;omega)))];rw[yw];intro e;exact h<|eQ e
  rw[e1,e2];have i0:bo (x::r) (0:Int)=some x:=rfl;rw[i0];cases(x::r).all iA
  ·rfl
  ·cases((x::r)==([48]:ad3))<;>rfl
def NS:∀(n:Nat) (l:ad3),l.length=n->oO l=true->l=cz (dz l)
 |0,l,hl,h=>by
  have:l=[]:=pZ hl;subst this;cases h
 |n+1,l,hl,h=>by
  have hne:l≠[]:=by intro e;subst e;simp at hl
  obtain⟨h1,h2⟩:=eT h;obtain⟨h3,h4⟩:=eT h2;have hx:=List.dropLast_concat_getLast hne
  generalize hi:l.dropLast=i at hx
  generalize l.getLast hne=d at hx
  subst hx;rw[Lw] at h1;obtain⟨hi1,hd1⟩:=eT h1;have hd:iA d=true:=by simpa using hd1
  have Yi:=Fe hd;have ed:UInt8.ofNat (48+(d.toNat-48))=d:=by
   rw[show 48+(d.toNat-48)=d.toNat by omega];simp
  have ev:dz [d]=d.toNat-48:=by simp[dz]
  rw[xd,ev,List.length_singleton,Nat.pow_one];by_cases h0:i=[]
  ·subst h0;rw[show dz ([]:ad3)=0 from rfl,Ll,vd,qR (by omega),ed];rfl
  ·have ajj: ¬(i.head?=some 48):=fun e=>by
    have e2:(i++[d]).head?=some 48:=by rw[List.head?_append,e];rfl
    rw[e2] at h4;have e3:((i++[d])==[48])=false:=by
     rw[yw];intro e;have:=congrArg List.length e;simp at this;exact h0 this
    rw[e3] at h4;cases h4
   have hid:oO i=true:=by
    unfold oO;rw[hi1];have e1:(i==([]:ad3))=false:=by rw[yw];exact h0
    have e2:(i.head?==some (48:UInt8))=false:=by rw[yw];exact ajj
    rw[e1,e2];simp
   have hln:i.length=n:=by simpa using hl
   have ih:=NS n i hln hid;have hpos:0<dz i:=by
    rcases r9 (dz i) with e|e
    ·rw[e] at ih;rw[ih] at ajj;exact absurd rfl ajj
    ·exact e
   rw[tY (by omega),show(dz i*10+(d.toNat-48))/10=dz i by omega,show(dz i*10+(d.toNat-48))%10=d.toNat-48 by omega,<-ih,ed]
def sp:ad3->ad3×ad3×Bool
 |[]=>([],[],false)
 |b::l=>bif b==47 then([],l,true) else(b::(sp l).1,(sp l).2.1,(sp l).2.2)
def NT:∀(s pre:ad3),cutAt 47 pre s=(pre.reverse++(sp s).1,(sp s).2.1,(sp s).2.2)
 |[],pre=>by simp[cutAt,sp]
 |b::l,pre=>by
  unfold cutAt sp;cases h:b==47
  ·rw[a8,a8,NT l];simp
  ·simp
def Xq:∀(s:ad3),s=(sp s).1++(bif (sp s).2.2 then 47::(sp s).2.1 else [])/\(∀x∈(sp s).1,x≠47)/\((sp s).2.2=false->(sp s).2.1=[])
 |[]=>⟨rfl,by simp[sp],fun _=>rfl⟩
 |b::l=>by
  obtain⟨h1,h2,h3⟩:=Xq l;unfold sp;cases h:b==47
  ·rw[a8];dsimp only;refine⟨by(conv=>lhs;rw[h1]);rfl,fun x hx=>?_,h3⟩;rcases aY.1 hx with e|hx
   ·subst e;simpa using h
   ·exact h2 x hx
  ·have:b=47:=by simpa using h
   subst this;exact⟨rfl,by simp,fun h=>by cases h⟩
def qS(neg:Bool)(u t:ad3)(fd:Bool):Int:=
 bif ((!oO u)||(neg&&(u==([48]:ad3))))||(fd&&(((!oO t)||(t==([48]:ad3)))||(t==([49]:ad3)))) then 1
 else bif fd&& !decide (Nat.gcd (dz u) (dz t)=1) then 1 else 0
def yK(h:oO l=true):l.all iA=true/\l≠[]:=by
 obtain⟨h1,h2⟩:=eT h;obtain⟨h3,_⟩:=eT h2;refine⟨h1,?_⟩;intro e;subst e;cases h3
def Fi(h:l.all iA=true)(hl:l.length<1000000):vB l=some (dz l:Int):=by
 unfold vB;split
 ·rename_i ds;have:=dI.1 h 45 (by simp);cases this
 ·rw[h,show Nat.blt l.length 1000000=true from lz hl];rfl
def aaD(h:l.all iA=true)(hl:l.length<1000000):vB (45::l)=some (-(dz l:Int)):=by
 show Bl (l.all iA&&Nat.blt l.length 1000000) (-(dz l:Int))=_;rw[h,show Nat.blt l.length 1000000=true from lz hl];rfl
def Pm{z:Int}(h:z.natAbs<10^14):uC z=true:=wH h (by omega)
def UH(hl:core.length<=14):XP (bif neg then 45::core else core) [47]=some ((bif neg then 45::(sp core).1 else(sp core).1),(sp core).2.1,(sp core).2.2):=by
 cases neg
 ·show Bl (Nat.blt core.length 4294967281) (cutAt 47 [] core)=_;rw[show Nat.blt core.length 4294967281=true from lz (by omega),NT];rfl
 ·show Bl (Nat.blt (45::core).length 4294967281) (cutAt 47 [] (45::core))=_;rw[show Nat.blt (45::core).length 4294967281=true from lz (by simp only[List.length_cons];omega),NT];rfl
def J5:bu (45::u) [45]=some true:=by
 have e:iq (45::u) 0 (([45]:ad3).length:Int)=some [45]:=by rw[im (by omega) (by simp) (by simp;omega)];rfl
 have hd:decide ((([45]:ad3).length:Int)<=((45::u).length:Int))=true:=aW (by simp;omega);have g:gd (decide<|(([45]:ad3).length:Int)<=((45::u).length:Int)) true=true:=by rw[hd];rfl
 unfold bu;rw[eG g,e];show some (_&&_)=_;rw[hd];rfl
def VO:gS (45::u) [45]=some (u,true):=by
 have e2:iq (45::u) (([45]:ad3).length:Int) ((45::u).length:Int)=some u:=by
  rw[im (by simp) (by simp;omega) (by omega)];simp
 unfold gS ig;rw[J5];show bd (bd (iq (45::u) (([45]:ad3).length:Int) ((45::u).length:Int)) _) _=_;rw[e2];rfl
def MX(h:u.head?≠some 45):bu u [45]=some false:=by
 unfold bu
 match u,h with
 |[],_=>rfl
 |x::r,h=>
  have e:iq (x::r) 0 (([45]:ad3).length:Int)=some [x]:=by rw[im (by omega) (by simp) (by simp;omega)];rfl
  have hd:decide ((([45]:ad3).length:Int)<=((x::r).length:Int))=true:=aW (by simp;omega);have g:gd (decide<|(([45]:ad3).length:Int)<=((x::r).length:Int)) true=true:=by rw[hd];rfl
  rw[eG g,e];show some (_&&_)=_;have:([x]==([45]:ad3))=false:=by
   rw[yw];intro e;have e:x=45:=by simpa using e
   subst e;exact h rfl
  rw[this,HW]
def VN(h:u.head?≠some 45):gS u [45]=some (u,false):=by
 unfold gS ig;rw[MX h];rfl
def fi{α ρ:Type}(x:α)(K:α->av8 ρ):bd (some x) K=K x:=rfl
def SY(hl:core.length<=14)(OZ:neg=false->core.head?≠some 45):nG (bif neg then 45::core else core)=some (qS neg (sp core).1 (sp core).2.1 (sp core).2.2):=by
 obtain⟨q1,q2,q3⟩:=Xq core;have hlen:=congrArg List.length q1;rw[List.length_append] at hlen;unfold nG;rw[UH hl]
 generalize hu:(sp core).1=u at*
 generalize ht:(sp core).2.1=t at*
 generalize hf:(sp core).2.2=fd at*
 have Wd:u.length<=14:=by omega
 have RM:t.length<=14:=by
  cases fd
  ·rw[q3 rfl];simp
  ·rw[bD,List.length_cons] at hlen;omega
 have hp:gS (bif neg then 45::u else u) [45]=some (u,neg):=by
  cases neg
  ·refine VN ?_;have OZ:=OZ rfl;intro e;have e:u.head?=some 45:=e;apply OZ;rw[q1,List.head?_append,e];rfl
  ·exact VO
 show bd (gS (bif neg then 45::u else u) [45]) _=_;rw[hp];show bd (nF u) _=_;rw[JX (l:=u) (by omega)];show iJ _ _ (nF t) _=_;rw[JX (l:=t) (by omega)];have tail:∀akk:Bool,akk=(fd&&(((!oO t)||(t==([48]:ad3)))||(t==([49]:ad3))))->((!oO u)||(neg&&(u==([48]:ad3))))=false->akk=false->
  (cond (((decide<|(600:Int)<(u.length:Int))||(decide<|(600:Int)<(t.length:Int)))) (
   some (4:Int)
  ) (
   jn (fun(Pw:Unit)=>
    some (0:Int)
   ) fun PU=>
   cond (fd) (
    bd (vB u) fun jR=>
    bd (vB t) fun jG=>
    bd (Oc jR jG) fun kZ=>
    bd (Bf kZ) fun mC=>
    cond (((!mC.2)||(!decide (mC.1=(1:Int))))) (
     some (1:Int)
    ) (
     PU ()
    )
   ) (
    PU ()
   )
  ))=some (qS neg u t fd):=by
  intro akk e1 e2 e3;rw[bC (by omega),bC (by omega)];unfold qS;rw[e2,<-e1,e3];cases fd
  ·rfl
  ·have du:oO u=true:=by
    cases h:oO u with
    |true=>rfl
    |false=>rw[h] at e2;cases e2
   have dt:oO t=true:=by
    cases h:oO t with
    |true=>rfl
    |false=>rw[h] at e1;rw[e1] at e3;cases e3
   have au:=yK du;have at':=yK dt;have lu:=yj u au.1;have lt:=yj t at'.1;have p1:=pX (show 0<10 by omega) Wd;have p2:=pX (show 0<10 by omega) RM;have hg:Oc (dz u:Int) (dz t:Int)=some (Nat.gcd (dz u) (dz t):Int):=by
    unfold Oc;rw[Pm (by simp;omega),Pm (by simp;omega)];rfl
   have auJ:Nat.gcd (dz u) (dz t)<10^14:=by
    rcases r9 (dz u) with e|e
    ·rw[e,EY];omega
    ·have:=Nat.le_of_dvd e (Nat.gcd_dvd_left (dz u)<|dz t);omega
   have hs:Bf (Nat.gcd (dz u) (dz t):Int)=some ((Nat.gcd (dz u) (dz t):Int),true):=by
    unfold Bf yA;rw[bC (by omega),aW (by omega),aW (by omega)];rfl
   show bd (vB u) _=_;rw[Fi au.1 (by omega)];show bd (vB t) _=_;rw[Fi at'.1 (by omega)];show bd (Oc _ _) _=_;rw[hg];rw[fi];rw[hs];show cond (false|| !decide (((Nat.gcd (dz u) (dz t):Nat):Int)=1)) (some 1) (some 0)=some (bif false then 1 else bif true&& !decide (Nat.gcd (dz u) (dz t)=1) then 1 else 0);have e:decide (((Nat.gcd (dz u) (dz t):Nat):Int)=1)=decide (Nat.gcd (dz u) (dz t)=1):=l8.2 (by omega);rw[e];cases decide (Nat.gcd (dz u) (dz t)=1)<;>rfl
 cases hb1:((!oO u)||(neg&&(u==([48]:ad3)))) with
 |true=>
  show iJ (gd true false&&gd fd true) false _ _=_;rw[mU (by rfl)];show cond (true||_) _ _=_;rw[EO,bD];unfold qS;rw[hb1];rfl
 |false=>
  cases fd with
  |false=>
   show iJ (gd false false&&gd false true) false _ _=_;rw[mU (by rfl)];exact tail false rfl hb1 rfl
  |true=>
   show iJ (gd false false&&gd true true) false _ _=_;rw[eG (by rfl)];show cond (false||(true&&_)) _ _=_;cases hb2:(((!oO t)||(t==([48]:ad3)))||(t==([49]:ad3))) with
   |true=>
    show some 1=_;unfold qS;rw[hb1,hb2];rfl
   |false=>exact tail false (by rw[hb2];rfl) hb1 rfl
def Tt{t:ad3}(hu:oO u=true)(ht:oO t=true)(Sp:∀x∈u,x≠47)(lu:u.length<=1000)(lt:t.length<=1000):Yd (fun p=>qT p.1 (dz u:Int)/\qT p.2 (dz t:Int)/\p.1.2.length<=u.length/\p.2.2.length<=t.length) (iE (u++47::t)):=by
 have au:=yK hu;have at':=yK ht;have hlt:(u++47::t).length=u.length+1+t.length:=by simp;omega
 unfold iE;refine Yd.bd (G8 Sp (by omega)) (Yd.cond (fun h=>by have:=aZ h;omega)<|fun _=>?_);have es:iq (u++47::t) 0 (u.length:Int)=some u:=by
  rw[im (by omega) (by omega) (by omega)];simp
 have et:iq (u++47::t) ((u.length:Int)+1) ((u++47::t).length:Int)=some t:=by
  rw[im (by omega) (by omega) (by omega),Int.toNat_natCast,eF<|bp _,show((u.length:Int)+1).toNat=u.length+1 by omega,<-iS];simp
 refine Yd.bd es (Yd.iG (Je false au.1 au.2 (by omega)) fun p hp=>Yd.bd (aM ⟨by omega,by omega⟩) (Yd.bd et (Yd.iG (Je false at'.1 at'.2 (by omega)) fun r hr=>Yd.mk ⟨hp.1,hr.1,hp.2,hr.2⟩)))
def Zz(hl:core.length<=14)(OZ:neg=false->core.head?≠some 45):nL (bif neg then 45::core else core)=some (qS neg (sp core).1 (sp core).2.1 (sp core).2.2):=by
 have key:Yd (fun r=>r=qS neg (sp core).1 (sp core).2.1 (sp core).2.2) (nL (bif neg then 45::core else core)):=by
  obtain⟨q1,q2,q3⟩:=Xq core;have hlen:=congrArg List.length q1;rw[List.length_append] at hlen;by_cases hF0:(bif neg then 45::core else core)=[]
  ·have hn:neg=false:=by cases neg;rfl;cases hF0
   subst hn;have hc:core=[]:=hF0;subst hc;exact Yd.mk rfl
  obtain⟨c,r,e⟩:∃c r,(bif neg then 45::core else core)=c::r:=by
   cases h:(bif neg then 45::core else core) with
   |nil=>exact absurd h hF0
   |cons c r=>exact⟨c,r,rfl⟩
  have hc:decide ((c.toNat:Int)=45)=neg:=by
   cases neg with
   |true=>
    have:c=45:=by cases e;rfl
    subst this;rfl
   |false=>
    have e:core=c::r:=e;refine bC fun h=>OZ rfl ?_
    have:c=45:=Lv.1 (by show _=45;omega);rw[e,this];rfl
  have hs1:neg=true->r=core:=by rintro rfl;cases e;rfl
  have Wf:neg=false->c::r=core:=by rintro rfl;exact e.symm
  generalize hu:(sp core).1=u at*
  generalize ht:(sp core).2.1=t at*
  generalize hf:(sp core).2.2=fd at*
  have Wd:u.length<=14:=by omega
  have RM:t.length<=14:=by
   cases fd
   ·rw[q3 rfl];simp
   ·rw[bD,List.length_cons] at hlen;omega
  unfold nL;rw[e];have g1:gd (decide<|(0:Int)<((c::r).length:Int)) true=true:=by rw[aW (by simp only[List.length_cons];omega)];rfl
  rw[eG g1];refine Yd.bd (x:=c) rfl ?_;have hb:((decide<|(0:Int)<((c::r).length:Int))&&(decide<|(c.toNat:Int)=(45:Int)))=neg:=by
   rw[aW (show(0:Int)<((c::r).length:Int) by simp only[List.length_cons];omega),rQ,hc]
  rw[hb];refine Yd.jn (fun s=>s=core) ?_<|fun k hk=>Yd.cond (fun hn=>?_)<|fun hn=>?_
  rotate_left
  ·have es:iq (c::r) (1:Int) ((c::r).length:Int)=some core:=by
    rw[im (by omega) (by simp only[List.length_cons];omega) (by omega),<-hs1 hn];simp
   exact Yd.bd es<|hk _ rfl
  ·exact hk _<|Wf hn
  ·intro s hs;rw[hs];clear hs s;have hsl:fP core=some (u.length:Int):=by
    rw[q1];cases fd
    ·rw[a8,rW];exact MG q2 (by omega)
    ·rw[bD];exact G8 q2 (by simp;omega)
   have hsu:iq core 0 (u.length:Int)=some u:=by
    rw[im (by omega) (by omega) (by omega),q1];simp
   have hlt:decide ((u.length:Int)<(core.length:Int))=fd:=by
    cases fd
    ·exact bC (by rw[a8] at hlen;simp at hlen;omega)
    ·exact aW (by rw[bD] at hlen;simp only[List.length_cons] at hlen;omega)
   refine Yd.bd hsl (Yd.bd hsu (Yd.bd (C1 (l:=u) (by omega)) ?_));rw[hlt];cases hdu:oO u with
   |false=>
    rw[mU (by rfl),mU (by rfl)];refine Yd.mk ?_;unfold qS;rw[hdu];rfl
   |true=>
    rw[eG (by rfl)];refine Yd.bd (x:=c) rfl ?_;rw[hc];have ao1:∀K:ad3->av8 Int,((neg&&(u==([48]:ad3)))=true->Yd (fun r=>r=qS neg u t fd) (K u))->((neg&&(u==([48]:ad3)))=false->∀w,(neg&&(w==([48]:ad3)))=false->Yd (fun r=>r=qS neg u t fd) (K w))->Yd (fun r=>r=qS neg u t fd) (iJ (gd (!true) false&&gd neg true) ([]) (iq core 0 (u.length:Int)) K):=by
     intro K h1 h2;cases neg with
     |false=>rw[mU (by rfl)];exact h2 rfl _ rfl
     |true=>
      rw[eG (by rfl)];refine Yd.bd hsu ?_;cases hb:(true&&(u==([48]:ad3))) with
      |true=>exact h1 hb
      |false=>exact h2 hb _ hb
    refine ao1 _ (fun hb1=>?_)<|fun hb1 w hw=>?_
    ·rw[hb1];refine Yd.mk ?_;unfold qS;rw[hb1,hdu];rfl
    ·rw[hw];refine Yd.cond (fun h=>by cases h)<|fun _=>?_
     have small:∀K:Int->Int->av8 Int,Yd (fun r=>r=qS neg u t fd) (K ((core.length:Int)-(u.length:Int))<|(core.length:Int)-(u.length:Int)-1)->Yd (fun r=>r=qS neg u t fd) (iJ (gd (decide<|(600:Int)<(u.length:Int)) false) (0) (aL<|(core.length:Int)-(u.length:Int)) fun F0=>iJ (gd (decide<|(600:Int)<(u.length:Int)) false) (0) (aL<|F0-(1:Int)) fun BV=>K F0 BV):=by
      intro K h;rw[bC (show¬(600:Int)<(u.length:Int) by omega),eG (by rfl)];refine Yd.bd (aM ⟨by omega,by omega⟩) ?_;rw[eG (by rfl)];exact Yd.bd (aM ⟨by omega,by omega⟩) h
     cases fd with
     |false=>
      rw[mU (by rfl),mU (by rfl),mU (by rfl),mU (by rfl),mU (by rfl),mU (by rfl),mU (by rfl)];refine Yd.cond (fun h=>by cases h)<|fun _=>?_
      refine small (fun F0 BV=>_) ?_;rw[bC (show¬(600:Int)<(u.length:Int) by omega),bC (show¬(600:Int)<((core.length:Int)-(u.length:Int)-1) by omega)];refine Yd.mk ?_;unfold qS;rw[hdu,hb1];rfl
     |true=>
      rw[bD] at q1 hlen;rw[List.length_cons] at hlen;have f1:aL ((u.length:Int)+1)=some ((u.length:Int)+1):=aM ⟨by omega,by omega⟩;have et:iq core ((u.length:Int)+1) (core.length:Int)=some t:=by
       rw[im (by omega) (by omega) (by omega),Int.toNat_natCast,eF<|bp _,show((u.length:Int)+1).toNat=u.length+1 by omega,q1,<-iS];simp
      rw[eG (by rfl)];refine Yd.bd f1 ?_;rw[eG (by rfl)];refine Yd.bd et ?_;rw[eG (by rfl)];refine Yd.bd (C1 (l:=t) (by omega)) ?_;cases hdt:oO t with
      |false=>
       rw[mU (by rfl),mU (by rfl),mU (by rfl),mU (by rfl)];refine Yd.mk ?_;unfold qS;rw[hdu,hb1,hdt];rfl
      |true=>
       rw[eG (by rfl)];refine Yd.bd f1 ?_;rw[eG (by rfl)];refine Yd.bd et ?_;cases h0:(t==([48]:ad3)) with
       |true=>
        rw[mU (by rfl),mU (by rfl)];refine Yd.mk ?_;unfold qS;rw[hdu,hb1,hdt,h0];rfl
       |false=>
        rw[eG (by rfl)];refine Yd.bd f1 ?_;rw[eG (by rfl)];refine Yd.bd et ?_;cases h1:(t==([49]:ad3)) with
        |true=>
         refine Yd.mk ?_;unfold qS;rw[hdu,hb1,hdt,h0,h1];rfl
        |false=>
         refine Yd.cond (fun h=>by cases h)<|fun _=>?_
         refine small (fun F0 BV=>_) ?_;rw[bC (show¬(600:Int)<(u.length:Int) by omega),bC (show¬(600:Int)<((core.length:Int)-(u.length:Int)-1) by omega)];refine Yd.cond (fun h=>by cases h)<|fun _=>?_
         refine Yd.jn (fun _=>Nat.gcd (dz u) (dz t)=1) (fun _ h=>Yd.mk ?_) (fun k hk=>Yd.cond (fun _=>?_) (fun h=>by cases h))
         ·unfold qS;rw[hdu,hb1,hdt,h0,h1,aW h];rfl
         ·have pp:=Tt hdu hdt q2 (by omega) (by omega);rw[<-q1] at pp;refine Yd.iG pp fun p ⟨p1,p2,p3,p4⟩=>Yd.iG (MU p1.1 p2.1 (by omega) (by omega)) fun w ⟨w1,w2,w3⟩=>?_
          have hv:aJ w=(Nat.gcd (dz u) (dz t):Int):=by
           rw[w2,p1.2.1,p2.2.1];simp[Int.gcd]
          have Ui:=TV w1;rw[hv] at Ui;have bad:Nat.gcd (dz u) (dz t)≠1->Yd (fun r=>r=qS neg u t true) (some (1:Int)):=fun h=>Yd.mk (by
           unfold qS;rw[hdu,hb1,hdt,h0,h1,bC h];rfl)
          refine Yd.iJ (fun hg=>?_)<|fun hg=>?_
          ·have hlw:decide ((w.length:Int)=1)=true:=by
            cases h:decide ((w.length:Int)=1) with
            |true=>rfl
            |false=>rw[h] at hg;cases hg
           obtain⟨d,rfl⟩:∃d,w=[d]:=LL.1 (by have:=aZ hlw;omega);refine⟨d,rfl,?_⟩;refine Yd.cond (fun h=>?_)<|fun h=>?_
           ·refine bad fun h'=>?_
            have:=(Ui.2 (by omega)).2;have:d=1:=by simpa using this
            subst this;cases h
           ·refine hk () ?_;have:d=1:=by
             by_cases hd:d=1
             ·exact hd
             ·rw[bC hd] at h;rw[Lq,Bool.or_true] at h;cases h
            subst this;have:=Ui.1 ⟨rfl,rfl⟩;omega
          ·have hlw:decide ((w.length:Int)=1)=false:=by
            cases h:decide ((w.length:Int)=1) with
            |false=>rfl
            |true=>rw[h] at hg;cases hg
           rw[hlw];refine bad fun h'=>?_
           have:=(Ui.2 (by omega)).1;rw[hlw] at this;cases this
 obtain⟨r,h1,h2⟩:=key;rw[h1,h2]
def isNum(s:ad3)(q:Rat):Prop:=s=bU q/\bq q 14/\nP s=some q
def adz:cz 0=[48]:=aH
def aj1:cz 1=[49]:=aH
def aiS{a:Int}(h0:d≠0)(hg:Nat.gcd a.natAbs d=1):∃q,ZP a (d:Int)=some q/\q.num=a/\q.den=d:=by
 obtain⟨k,rfl⟩:=Nat.exists_eq_succ_of_ne_zero h0;have h:ZP a ((k+1:Nat):Int)=some (mkRat a<|k+1):=by
  show Bl (Nat.beq (Nat.gcd a.natAbs<|k+1) 1) (mkRat a<|k+1)=_;rw[show Nat.beq (Nat.gcd a.natAbs<|k+1) 1=true from by rw[hg];rfl];rfl
 obtain⟨h1,h2⟩:=TM h;exact⟨_,h,h1,by omega⟩
def adF(hl:(bif neg then 45::core else core).length<=14)(hc:qS neg (sp core).1 (sp core).2.1 (sp core).2.2=0):∃q,isNum (bif neg then 45::core else core) q:=by
 have hl:core.length<=14:=by cases neg<;>simp at hl<;>omega
 obtain⟨q1,q2,q3⟩:=Xq core;have hlen:=congrArg List.length q1;rw[List.length_append] at hlen;unfold isNum nP;rw[UH hl]
 generalize hu:(sp core).1=u at*
 generalize ht:(sp core).2.1=t at*
 generalize hf:(sp core).2.2=fd at*
 have Wd:u.length<=14:=by omega
 unfold qS at hc;cases ajz:((!oO u)||(neg&&(u==([48]:ad3))))||(fd&&(((!oO t)||(t==([48]:ad3)))||(t==([49]:ad3)))) with
 |true=>rw[ajz] at hc;cases hc
 |false=>
 rw[ajz,a8] at hc;obtain⟨b1,b2⟩:=se.1 ajz;obtain⟨b3,b4⟩:=se.1 b1;have du:oO u=true:=by simpa using b3
 have au:=yK du;have lu:=yj u au.1;have p1:=pX (show 0<10 by omega) Wd;have eu:=NS _ u rfl du;obtain⟨z,hz,hzn,X1⟩:∃z:Int,(bif neg then 45::u else u)=eh z/\z.natAbs=dz u/\vB (bif neg then 45::u else u)=some z:=by
  cases neg with
  |false=>
   refine⟨(dz u:Int),?_,by simp,Fi (l:=u) au.1 (by omega)⟩;unfold eh;rw[bC (by omega)];simp[<-eu]
  |true=>
   have h0:dz u≠0:=fun h=>by
    rw[h,adz] at eu;rw[eu] at b4;cases b4
   refine⟨-(dz u:Int),?_,by simp,aaD (l:=u) au.1 (by omega)⟩;unfold eh;rw[aW (by omega)];simp[<-eu]
 cases fd with
 |false=>
  rw[a8,rW] at q1;refine⟨(z:Rat),?_,⟨by rw[Ap];omega,by rw[EU];omega⟩,?_⟩
  ·rw[q1,hz];unfold bU;rw[Ap,EU];simp
  ·show bd (vB (bif neg then 45::u else u)) _=_;rw[X1];rfl
 |true=>
  rw[bD] at q1 hlen;rw[List.length_cons] at hlen;rw[rQ] at b2 hc;obtain⟨c1,c2⟩:=se.1 b2;obtain⟨c3,c4⟩:=se.1 c1;have dt:oO t=true:=by simpa using c3
  have at':=yK dt;have lt:=yj t at'.1;have p2:=pX (show 0<10 by omega) (show t.length<=14 by omega);have et:=NS _ t rfl dt;have h0:dz t≠0:=fun h=>by
   rw[h,adz] at et;rw[et] at c4;cases c4
  have h1:dz t≠1:=fun h=>by
   rw[h,aj1] at et;rw[et] at c2;cases c2
  have hg:Nat.gcd (dz u) (dz t)=1:=by
   cases h:decide (Nat.gcd (dz u) (dz t)=1) with
   |true=>exact aZ h
   |false=>rw[h] at hc;cases hc
  obtain⟨q,m1,m2,m3⟩:=aiS (a:=z) h0 (by rw[hzn];exact hg);refine⟨q,?_,⟨by omega,by omega⟩,?_⟩
  ·unfold bU;rw[m2,m3,bC h1,a8,<-hz,<-et,q1];cases neg<;>rfl
  ·show bd (vB (bif neg then 45::u else u)) _=_;rw[X1];show bd (vB t) _=_;rw[Fi at'.1 (by omega)];show bd (ZP z (dz t:Int)) _=_;rw[m1];rfl
def W6{s:ad3}(hl:s.length<=14):∃c,nG s=some c/\nL s=some c/\(c=0->∃q,isNum s q):=by
 obtain⟨neg,core,rfl,OZ⟩:∃(neg:Bool) (core:ad3),s=(bif neg then 45::core else core)/\(neg=false->core.head?≠some 45):=by
  match s with
  |[]=>exact⟨false,[],rfl,fun _ h=>by cases h⟩
  |x::r=>
   by_cases hx:x=45
   ·exact⟨true,r,by rw[hx];rfl,fun h=>by cases h⟩
   ·exact⟨false,x::r,rfl,fun _ h=>hx<|eQ h⟩
 have hlc:core.length<=14:=by cases neg<;>simp at hl<;>omega
 exact⟨_,SY hlc OZ,Zz hlc OZ,adF hl⟩
def short(v:ad3×ad3×ad3):Prop:=v.1.length<=14/\v.2.1.length<=14/\v.2.2.length<=14
def f3(a b c:Int):Int:=bif !decide (a=0) then a else bif !decide (b=0) then b else c
def bc(q:Rat)(c n:Nat):Prop:=q.num.natAbs<=c*10^n/\q.den<=10^n
def anm(h:bq q n):bc q 1 n:=⟨by rw[qf];exact EN h.1,EN h.2⟩
def VZ(c d m n:Nat):(c*10^m)*(d*10^n)=(c*d)*10^(m+n):=by
 rw[qe];grind
def vw(hx:bc x c m)(hy:bc y d n):bc (x*y) (c*d) (m+n):=by
 have h:=Rk (x:=x.num*y.num) (y:=(x.den:Int)*(y.den:Int))<|ET (xL x)<|xL y
 rw[K3] at h;rw[rT,rT,iU,iU] at h;refine⟨df h.1 ?_,df h.2 ?_⟩
 ·rw[<-VZ];exact pc hx.1 hy.1
 ·rw[qe];exact pc hx.2 hy.2
def En(hx:bc x c m)(hy:bc y d n):bc (x+y) (c+d) (m+n):=by
 have h:=Rk (x:=x.num*y.den+y.num*x.den) (y:=(x.den:Int)*(y.den:Int))<|ET (xL x)<|xL y
 rw[K4] at h;rw[rT,iU,iU] at h;have a1:=pc hx.1 hy.2;have a2:=pc hy.1 hx.2;have t:=Int.natAbs_add_le (x.num*y.den)<|y.num*x.den
 rw[rT,rT,iU,iU] at t;have e1:=VZ c 1 m n;have e2:=VZ d 1 n m;rw[qf,Nat.mul_one] at e1 e2;rw[wS n m] at e2;refine⟨?_,df h.2 ?_⟩
 ·rw[pb];omega
 ·rw[qe];exact pc hx.2 hy.2
def adS(h:bc x c n):bc (-x) c n:=by
 refine⟨?_,?_⟩
 ·rw[HM,ER];exact h.1
 ·rw[HL];exact h.2
def W9(hx:bc x c m)(hy:bc y d n):bc (x-y) (c+d) (m+n):=by
 rw[RA];exact En hx<|adS hy
abbrev T3:=ad3×ad3×ad3
def vc(v:Q3)(c n:Nat):Prop:=bc v.1 c n/\bc v.2.1 c n/\bc v.2.2 c n
def eJ(v:Q3):T3:=(bU v.1,bU v.2.1,bU v.2.2)
def XR{z:Int}(h:z.natAbs<10^600):we z=some false:=by
 have key:Yd (fun b=>b=false) (we z):=by
  have hs:=wH h (by omega);have hd:=nr 600 _ (by omega) h;unfold we ad1;rw[hs];refine Yd.bd (x:=(bif decide (z=0) then 0 else(Nat.log2 z.natAbs:Int)+1)) rfl ?_
  generalize (bif decide (z=0) then 0 else(Nat.log2 z.natAbs:Int)+1)=n
  cases decide ((1800:Int)<n)
  ·exact Yd.mk rfl
  ·rw[eG (by rfl)];refine Yd.bd (x:=eh z) (by unfold w6;rw[hs];rfl) ?_;rw[eG (by rfl)];have ap5:ir (eh z) [45]=some (cz z.natAbs):=by
    unfold eh;cases hc:decide (z<0)
    ·rw[a8];have hh:(cz z.natAbs).head?≠some 45:=fun e=>by
      have:=dI.1 (oR z.natAbs).1 45<|List.mem_of_mem_head? e
      cases this
     unfold ir fB;rw[MX hh];rfl
    ·rw[bD];unfold ir fB;rw[J5];show bd (bd (iq (45::cz z.natAbs) (([45]:ad3).length:Int) ((45::cz z.natAbs).length:Int)) _) _=_;rw[im (by simp) (by simp;omega) (by omega)];simp;rfl
   refine Yd.bd ap5<|Yd.mk ?_
   rw[bC (by omega)];rfl
 obtain⟨r,e,rfl⟩:=key;exact e
def acg(h1:q.num.natAbs<10^600)(h2:q.den<10^600):jq q=some false:=by
 unfold jq;rw[XR h1,fi,eG (by rfl),XR (z:=(q.den:Int)) (by rw[iU];exact h2)];rfl
def aam(h1:q.num.natAbs<10^600)(h2:q.den<10^600):jL q=some (bU q):=by
 have s1:w6 q.num=some (eh q.num):=by unfold w6;rw[wH h1 (by omega)];rfl
 have s2:w6 (q.den:Int)=some (cz q.den):=by
  unfold w6;rw[wH (z:=(q.den:Int)) (by rw[iU];exact h2) (by omega)];show some (eh (q.den:Int))=_;unfold eh;rw[bC (by omega)];simp
 have l1:=yF q.num;have l2:=nr 600 _ (by omega) h1;have l3:=nr 600 _ (by omega) h2;unfold jL mj bU;rw[fi,s1,s2];cases decide (q.den=1)
 ·rw[a8,fi,uE (by simp;omega),fi,fi,uE (by simp;omega)];simp[Trn.bd]
 ·rw[bD,bD,fi,rW]
def aga(v:Q3):Bool:=decide (v.1=0)&&(decide (v.2.1=0)&&decide (v.2.2=0))
def sign_zero(x:Rat):decide (x.num.sign=0)=decide (x=0):=by
 refine l8.2 ⟨fun h=>tm.1<|Int.sign_eq_zero_iff_zero.1 h,fun h=>by subst h;rfl⟩
def IE(h:bc q c m)(hc:c<=d)(hm:m<=n):bc q d n:=by
 have hp:=pX (show 0<10 by omega) hm;exact⟨df h.1<|pc hc hp,df h.2 hp⟩
theorem Xa{e:Nat}(hx:bc x c n)(h0:x≠0)(he:c<=10^e):bc x⁻¹ 1 (n+e):=by
 have hn:x.num≠0:=fun e=>h0<|tm.1 e
 have e1:=(Xz x).symm;have h:=Rk (x:=(x.den:Int)) (y:=x.num) hn;rw[<-e1] at h;rw[iU] at h;refine⟨?_,?_⟩
 ·rw[qf,qe];exact df h.1 (df hx.2 (Nat.le_mul_of_pos_right _ (Nat.pow_pos (by omega))))
 ·rw[qe,qJ];exact df h.2<|df hx.1<|mF _ he
def bc3(p:Q3)(c n:Nat):Prop:=bc p.1 c n/\bc p.2.1 c n/\bc p.2.2 c n
theorem Fg(ha:bc3 a c m)(hb:bc3 b d n):bc3 (aG a b) (2*(c*d)) (2*(m+n)):=by
 obtain⟨a1,a2,a3⟩:=ha;obtain⟨b1,b2,b3⟩:=hb;have k:∀{w x y z:Rat},bc w c m->bc x d n->bc y c m->bc z d n->bc (w*x-y*z) (2*(c*d)) (2*(m+n)):=fun h1 h2 h3 h4=>by
  have:=W9 (vw h1 h2)<|vw h3 h4
  rwa [<-Nat.two_mul,<-Nat.two_mul] at this
 exact⟨k a2 b3 a3 b2,k a3 b1 a1 b3,k a1 b2 a2 b1⟩
theorem akj(ha:bc3 a c m)(hb:bc3 b d n):bc (aP a b) (3*(c*d)) (3*(m+n)):=by
 obtain⟨a1,a2,a3⟩:=ha;obtain⟨b1,b2,b3⟩:=hb;have:=En (En (vw a1 b1)<|vw a2 b2)<|vw a3 b3
 exact IE this (by omega) (by omega)
theorem YG(ha:bc3 a c m)(hb:bc3 b d n):bc3 (j4 a b) (c+d) (m+n):=⟨En ha.1 hb.1,En ha.2.1 hb.2.1,En ha.2.2 hb.2.2⟩
theorem R6{t:Rat}(ha:bc3 a c m)(ht:bc t d n):bc3 (ik a t) (c*d) (m+n):=⟨vw ha.1 ht,vw ha.2.1 ht,vw ha.2.2 ht⟩
theorem aih{M:att H3}{p:Q3}{k:Nat}(hM:∀h∈M,bc3 h.1 1 k/\bc h.2 1 k)(hv:rG M p):bc3 p 6 (35*k+1):=by
 obtain⟨_,a,ma,b,mb,c,mc,hd,rfl⟩:=Dv.1 hv;obtain⟨a1,a2⟩:=hM a ma;obtain⟨b1,b2⟩:=hM b mb;obtain⟨c1,c2⟩:=hM c mc;have d:=Xa (e:=1) (akj (Fg a1 b1) c1) hd (by omega);have s:=YG (YG (R6 (Fg b1 c1) a2)<|R6 (Fg c1 a1) b2)<|R6 (Fg a1 b1) c2
 have r:=R6 s d;exact⟨IE r.1 (by omega) (by omega),IE r.2.1 (by omega) (by omega),IE r.2.2 (by omega) (by omega)⟩
def lv(n:Nat)(q:Rat):Prop:=bc q 1 n
def ql(n:Nat)(p:Q3):Prop:=lv n p.1/\lv n p.2.1/\lv n p.2.2
theorem gz(h:lv m q)(hm:m<=n):lv n q:=IE h (by omega) hm
theorem J9(h:bc q c m)(hc:c<=10)(hm:m+1<=n):lv n q:=by
 refine⟨?_,df h.2 (pX (by omega) (by omega))⟩;rw[qf];refine df h.1<|df (mF _ hc) ?_
 rw[qJ,<-Ai];exact pX (by omega) hm
theorem uA(h:lv n q)(hn:n<=10000000000):Dh q=true:=by
 have one:∀k:Nat,k<=10^n->Nat.blt (Nat.log2 k) 68719476736=true:=by
  intro k hk;refine lz ?_;rcases r9 k with h0|h0
  ·rw[h0];exact gK rfl
  ·have h1:(10:Nat)^n<=(2^4)^n:=Nat.pow_le_pow_left (by omega) n;rw[<-Nat.pow_mul] at h1;have h2:(2:Nat)^(4*n)<2^(4*n+1):=Nat.pow_lt_pow_right (by omega) (by omega);have:Nat.log2 k<4*n+1:=(yr (by omega)).2 (by omega);omega
 unfold Dh;have h1:=h.1;rw[qf] at h1;rw[one _ h1,one _ h.2];rfl
end
section
variable{x y:Rat}{n:Nat}(hx:lv n x)(hy:lv n y)(h1:1<=n)(hn:n<=10000000000)
include hx hy h1 hn
theorem nQ:uh x y=some (x*y)/\lv (4*n) (x*y):=
 ⟨by unfold uh;rw[uA hx hn,uA hy hn];rfl,J9 (vw hx hy) (by omega) (by omega)⟩
theorem Nl:Gb x y=some (x+y)/\lv (4*n) (x+y):=
 ⟨by unfold Gb;rw[uA hx hn,uA hy hn];rfl,J9 (En hx hy) (by omega) (by omega)⟩
theorem D5:KI x y=some (x-y)/\lv (4*n) (x-y):=
 ⟨by unfold KI;rw[uA hx hn,uA hy hn];rfl,J9 (W9 hx hy) (by omega) (by omega)⟩
theorem ab5(h0:y≠0):To x y=some (x/y)/\lv (4*n) (x/y):=
 ⟨by unfold To;rw[uA hx hn,uA hy hn,bC h0];rfl,by
  rw[Cq];exact J9 (vw hx (Xa (e:=0) hy h0 (by omega))) (by omega) (by omega)⟩
end
section
variable{a b:Q3}{n:Nat}(ha:ql n a)(hb:ql n b)(h1:1<=n)(hn:n<=10000000000)
include ha hb h1 hn
theorem QC:gR a b=some (cg a b)/\ql (4*n) (cg a b):=by
 obtain⟨e1,k1⟩:=D5 ha.1 hb.1 h1 hn;obtain⟨e2,k2⟩:=D5 ha.2.1 hb.2.1 h1 hn;obtain⟨e3,k3⟩:=D5 ha.2.2 hb.2.2 h1 hn;exact⟨by unfold gR;rw[e1,e2,e3];rfl,k1,k2,k3⟩
theorem aeQ:gn a b=some (j4 a b)/\ql (4*n) (j4 a b):=by
 obtain⟨e1,k1⟩:=Nl ha.1 hb.1 h1 hn;obtain⟨e2,k2⟩:=Nl ha.2.1 hb.2.1 h1 hn;obtain⟨e3,k3⟩:=Nl ha.2.2 hb.2.2 h1 hn;exact⟨by unfold gn;rw[e1,e2,e3];rfl,k1,k2,k3⟩
end
section
variable{n:Nat}{α:Type}{a:Q3}{ρ:Type}
theorem Pk{t:Rat}(ha:ql n a)(ht:lv n t)(h1:1<=n)(hn:n<=10000000000):iC a t=some (ik a t)/\ql (4*n) (ik a t):=by
 obtain⟨e1,k1⟩:=nQ ha.1 ht h1 hn;obtain⟨e2,k2⟩:=nQ ha.2.1 ht h1 hn;obtain⟨e3,k3⟩:=nQ ha.2.2 ht h1 hn;exact⟨by unfold iC;rw[e1,e2,e3];rfl,k1,k2,k3⟩
theorem Xj{b:Q3}(ha:ql n a)(hb:ql n b)(h1:1<=n)(hn:n<=100000000):nE a b=some (aP a b)/\lv (64*n) (aP a b):=by
 obtain⟨e1,k1⟩:=nQ ha.1 hb.1 h1 (by omega);obtain⟨e2,k2⟩:=nQ ha.2.1 hb.2.1 h1 (by omega);obtain⟨e3,k3⟩:=nQ ha.2.2 hb.2.2 h1 (by omega);obtain⟨e4,k4⟩:=Nl k1 k2 (by omega) (by omega);obtain⟨e5,k5⟩:=Nl k4 (gz k3 (show 4*n<=4*(4*n) by omega)) (by omega) (by omega);refine⟨?_,gz k5 (by omega)⟩;unfold nE;rw[e1,e2];simp only[bd];rw[e4];simp only[bd];rw[e3];simp only[bd];rw[e5];rfl
theorem Y0{b:Q3}(ha:ql n a)(hb:ql n b)(h1:1<=n)(hn:n<=100000000):kO a b=some (aG a b)/\ql (16*n) (aG a b):=by
 obtain⟨e1,k1⟩:=nQ ha.2.1 hb.2.2 h1 (by omega);obtain⟨e2,k2⟩:=nQ ha.2.2 hb.2.1 h1 (by omega);obtain⟨e3,k3⟩:=D5 k1 k2 (by omega) (by omega);obtain⟨e4,k4⟩:=nQ ha.2.2 hb.1 h1 (by omega);obtain⟨e5,k5⟩:=nQ ha.1 hb.2.2 h1 (by omega);obtain⟨e6,k6⟩:=D5 k4 k5 (by omega) (by omega);obtain⟨e7,k7⟩:=nQ ha.1 hb.2.1 h1 (by omega);obtain⟨e8,k8⟩:=nQ ha.2.1 hb.1 h1 (by omega);obtain⟨e9,k9⟩:=D5 k7 k8 (by omega) (by omega);refine⟨?_,gz k3 (by omega),gz k6 (by omega),gz k9 (by omega)⟩;unfold kO;rw[e1,e2];simp only[bd];rw[e3];simp only[bd];rw[e4,e5];simp only[bd];rw[e6];simp only[bd];rw[e7,e8];simp only[bd];rw[e9];rfl
theorem CE{h:H3}{p:Q3}(hh:ql n h.1/\lv n h.2)(hp:ql n p)(h1:1<=n)(hn:n<=100000000):iL h p=some (val h p)/\lv (256*n) (val h p):=by
 obtain⟨e1,k1⟩:=Xj hh.1 hp h1 hn;obtain⟨e2,k2⟩:=D5 k1 (gz hh.2 (show n<=64*n by omega)) (by omega) (by omega);refine⟨?_,gz k2 (by omega)⟩;unfold iL;rw[e1];simp only[bd];rw[e2];rfl
theorem zZ:∀l:att Q3,z7 l=tN l
 |[]=>rfl
 |a::l=>by
  have go:∀(f a:Q3) (l:att Q3),(a::l).zip (l++[f])=kF f (a::l):=by
   intro f a l
   induction l generalizing a with
   |nil=>rfl
   |cons b l ih=>simp only[Ax,List.zip_cons_cons,kF];rw[ih]
  exact go a a l
theorem Nq{α β ρ:Type}{K:att β->av8 ρ}{B:(att β->av8 ρ)->α->att β->av8 ρ}(f:α->att β)(w:Nat):∀(L:att α) (s:att β),(∀x∈L,(f x).length<=w/\∀(s:att β) (next:att β->av8 ρ),s.length<=100000000->B next x s=next (s++f x))->s.length+w*L.length<=100000000->Oh L B s K=K (s++L.flatMap f)
 |[],s,_,_=>by simp[Oh]
 |x::L,s,h,hl=>by
  obtain⟨h1,h2⟩:=h x gJ;rw[List.length_cons,Nat.mul_add] at hl;unfold Oh;rw[h2 s _ (by omega),Nq f w L _ (fun y hy=>h y<|cW _ hy) (by rw[List.length_append];omega),Ay,nR]
theorem adU{b:Nat}{s:att α}{x:α}(hb:b<=1000)(hs:s.length<=100000001):fX b s [x]=some (s++[x]):=by
 unfold fX;have h1:(s.length+[x].length)*b<=140737488355328:=df (pc (show s.length+[x].length<=100000002 by simp;omega) hb) (by omega);rw[aW h1,aW (show s.length+[x].length<=9223372036854775807 by simp;omega)];rfl
theorem app_1{b:Nat}{s:att α}{x:α}(hb:b<=1000)(hs:s.length<=100000000):fX b s [x]=some (s++[x]):=adU hb (by omega)
theorem HF{x:Rat}:x.num<0↔x<0:=by
 rw[<-Int.not_le,Rat.num_nonneg,Rat.not_le]
theorem DS{x:Rat}:0<x.num↔0<x:=by
 constructor
 ·intro h;have h1:0<=x:=Rat.num_nonneg.1 (by omega);have h2:x≠0:=fun e=>by rw[tm.2 e] at h;omega
  grind
 ·intro h;have h1:0<=x.num:=Rat.num_nonneg.2 (by grind);have h2:x.num≠0:=fun e=>by rw[tm.1 e] at h;grind
  omega
theorem Xu(x:Rat):decide (x.num.sign<=0)=decide (x<=0):=by
 rw[l8,<-Int.not_lt,<-Rat.not_lt,Int.sign_pos_iff,DS]
theorem abj(x y:Rat):decide (x.num.sign*y.num.sign<0)=Lb x y:=by
 rw[HY,uH,jc];have hx:x.num.sign=1/\0<x\/x.num.sign=0/\x=0\/x.num.sign= -1/\x<0:=by
  rcases rZ x.num 0 with h|h|h
  ·exact .inr<| .inr ⟨pY h,HF.1 h⟩
  ·exact .inr (.inl ⟨by rw[h];rfl,tm.1 h⟩)
  ·exact .inl ⟨pe h,DS.1 h⟩
 have hy:y.num.sign=1/\0<y\/y.num.sign=0/\y=0\/y.num.sign= -1/\y<0:=by
  rcases rZ y.num 0 with h|h|h
  ·exact .inr<| .inr ⟨pY h,HF.1 h⟩
  ·exact .inr (.inl ⟨by rw[h];rfl,tm.1 h⟩)
  ·exact .inl ⟨pe h,DS.1 h⟩
 rcases hx with⟨e,h⟩|⟨e,h⟩|⟨e,h⟩<;>rcases hy with⟨e',h'⟩|⟨e',h'⟩|⟨e',h'⟩<;>rw[e,e']<;>constructor<;>intro k<;>first|(exfalso;revert k;decide)|grind
theorem adi(x y:Rat):aL (x.num.sign*y.num.sign)=some (x.num.sign*y.num.sign):=by
 have h:∀z:Int,z.sign=1\/z.sign=0\/z.sign= -1:=fun z=>by
  rcases rZ z 0 with h|h|h
  ·exact .inr<| .inr<|pY h
  ·exact .inr (.inl (by rw[h];rfl))
  ·exact .inl<|pe h
 rcases h x.num with e|e|e<;>rcases h y.num with e'|e'|e'<;>rw[e,e']<;>rfl
theorem aav{l:att Q3}{h:H3}(hl:l.length<=1000000)(hh:ql n h.1/\lv n h.2)(hp:∀p∈l,ql n p)(h1:1<=n)(hn:n<=10000):kU l h=some (kY h l):=by
 unfold kU sD;have e:Bu l=some (tN l):=by
  unfold Bu;rw[lz (show l.length+1<=1000000000 by omega)|>(fun h=>(h:Nat.blt l.length 1000000000=true)),zZ];rfl
 rw[e];simp only[bd];have hs:(tN l).length=l.length:=by rw[<-zZ,EH]
 have hm:∀x∈tN l,x.1∈l/\x.2∈l:=fun x hx=>by
  rw[<-zZ] at hx;obtain⟨i,hi⟩:=List.mem_iff_getElem?.1 hx;obtain⟨a,b,_⟩:=Tu hi;exact⟨AA a,AA b⟩
 refine Nq (y5 h) 2 (tN l) [] (fun x hx=>⟨?_,fun s next hs=>?_⟩) (by simp[hs];omega)
 ·unfold y5;cases decide (val h x.1<=0)<;>cases Lb (val h x.1) (val h x.2)<;>simp
 ·obtain⟨m1,m2⟩:=hm x hx;obtain⟨v1,w1⟩:=CE hh (hp _ m1) h1 (by omega);obtain⟨v2,w2⟩:=CE hh (hp _ m2) h1 (by omega);have tail:∀s:att Q3,s.length<=100000001->(bd (tO<|val h x.1) fun mC=>bd (tO<|val h x.2) fun uk=>bd (aL<|mC*uk) fun wy=>cond (decide<|wy<0) (bd (KI (val h x.1)<|val h x.2) fun rJ=>bd (To (val h x.1) rJ) fun CU=>bd (gR x.2 x.1) fun CT=>bd (iC CT CU) fun EA=>bd (gn x.1 EA) fun C8=>bd (fX 192 s ([C8]:att V3)) fun Bi=>next Bi)<|next s)=next (s++(bif Lb (val h x.1) (val h x.2) then [Dc h x.1 x.2] else [])):=by
   intro s hs;unfold tO;simp only[bd];rw[adi];simp only[bd];rw[abj];cases ho:Lb (val h x.1) (val h x.2)
   ·simp
   ·have h0:val h x.1-val h x.2≠0:=by have:=uH.1 ho;grind
    obtain⟨a1,b1⟩:=D5 w1 w2 (by omega) (by omega);obtain⟨a2,b2⟩:=ab5 (gz w1 (show 256*n<=4*(256*n) by omega)) b1 (by omega) (by omega) h0;obtain⟨a3,b3⟩:=QC (hp _ m2) (hp _ m1) h1 (by omega);obtain⟨a4,b4⟩:=Pk (n:=4096*n) ⟨gz b3.1 (by omega),gz b3.2.1 (by omega),gz b3.2.2 (by omega)⟩ (gz b2 (by omega)) (by omega) (by omega);obtain⟨a5,b5⟩:=aeQ (n:=4*(4096*n)) ⟨gz (hp _ m1).1 (by omega),gz (hp _ m1).2.1 (by omega),gz (hp _ m1).2.2 (by omega)⟩ b4 (by omega) (by omega);simp only[bD];rw[a1];simp only[bd];rw[a2];simp only[bd];rw[a3];simp only[bd];rw[a4];simp only[bd];rw[a5];simp only[bd];have:fX 192 s [j4 x.1<|ik (cg x.2 x.1)<|val h x.1/(val h x.1-val h x.2)]=some (s++[j4 x.1<|ik (cg x.2 x.1)<|val h x.1/(val h x.1-val h x.2)]):=adU (by omega) hs;rw[this];rfl
  show bd (iL h x.1) _=_;rw[v1];simp only[bd];rw[v2];simp only[bd];unfold jn;unfold y5;cases hc:decide (val h x.1<=0)
  ·have hd:decide ((val h x.1).num.sign<=0)=false:=by rw[Xu];exact hc
   simp only[tO,hd,a8,qL];exact tail s (by omega)
  ·have hd:decide ((val h x.1).num.sign<=0)=true:=by rw[Xu];exact hc
   simp only[tO,hd,bD];rw[app_1 (by omega) hs];rw[<-nR];exact tail (s++[x.1]) (by simp;omega)
theorem Yd.from{σ S:Type}{R:ρ->Prop}(L:att α)(e:σ->Int->S)(P:att α->σ->Prop){B:(S->av8 ρ)->S->av8 ρ}{N:Nat}
 (hs:∀(A:att α) (x:α) (C:att α) (s:σ) (k:S->av8 ρ),L=A++x::C->P A s->(∀s',P (A++[x]) s'->Yd R (k<|e s' ((A.length+1:Nat):Int)))->Yd R (B k<|e s (A.length:Int)))
 (he:∀(s:σ) (k:S->av8 ρ),P L s->Yd R (B k<|e s (L.length:Int)))(A0 C0:att α){s0:σ}(hA:L=A0++C0)(h0:P A0 s0)(hl:L.length<N):Yd R (Trn.lp N B<|e s0 (A0.length:Int)):=by
 have main:∀(C A:att α) (F:Nat) (s:σ),L=A++C->P A s->C.length<F->Yd R (Trn.lp F B<|e s (A.length:Int)):=by
  intro C
  induction C with
  |nil=>
   intro A F s hL hp hF;obtain⟨F,rfl⟩:∃G,F=G+1:=⟨F-1,by omega⟩;rw[rW] at hL;subst hL;exact he s _ hp
  |cons x C ih=>
   intro A F s hL hp hF;obtain⟨F,rfl⟩:∃G,F=G+1:=⟨F-1,by omega⟩;rw[List.length_cons] at hF;refine hs A x C s _ hL hp fun s' hp'=>?_
   have:=ih (A++[x]) F s' (by rw[hL,nR];rfl) hp' (by omega);rwa [List.length_append] at this
 exact main C0 A0 N s0 hA h0 (by rw[hA] at hl;simp at hl;omega)
theorem Yd.each{σ S:Type}{R:ρ->Prop}(L:att α)(e:σ->Int->S)(P:att α->σ->Prop){B:(S->av8 ρ)->S->av8 ρ}{N:Nat}
 (hs:∀(A:att α) (x:α) (C:att α) (s:σ) (k:S->av8 ρ),L=A++x::C->P A s->(∀s',P (A++[x]) s'->Yd R (k<|e s' ((A.length+1:Nat):Int)))->Yd R (B k<|e s (A.length:Int)))
 (he:∀(s:σ) (k:S->av8 ρ),P L s->Yd R (B k<|e s (L.length:Int))){s0:σ}(h0:P [] s0)(hl:L.length<N):Yd R (Trn.lp N B<|e s0 0):=Yd.from L e P hs he [] L rfl h0 hl
end
section
variable{α:Type}{L A C:List α}{x:α}(h:L=A++x::C)
include h
theorem jM:decide ((A.length:Int)<(L.length:Int))=true:=by rw[h];simp<;>omega
theorem fp:bo L (A.length:Int)=some x:=by rw[Io,h];simp
theorem at_mem:x∈L:=by rw[h];simp
theorem jm:A.length+1<=L.length:=by rw[h];simp<;>omega
theorem fF(hl:L.length<=100000000):aL ((A.length:Int)+1)=some ((A.length+1:Nat):Int):=by
 have:=jm h;rw[aM ⟨by omega,by omega⟩];rfl
end
section
variable{n:Nat}{x:Rat}{k:Nat}{L:att H3}{y:Rat}{l:att Q3}{m:Nat}{a:Rat}{M:att H3}{S:att iK}
theorem gN{α:Type}(L:att α):decide ((L.length:Int)<(L.length:Int))=false:=bC (by omega)
theorem Yd.seq{α σ ρ:Type}{R:ρ->Prop}(L:att α)(P:att α->σ->Prop){B:(σ->av8 ρ)->α->σ->av8 ρ}{K:σ->av8 ρ}
  (hs:∀(A:att α) (x:α) (C:att α) (s:σ) (k:σ->av8 ρ),L=A++x::C->P A s->(∀s',P (A++[x]) s'->Yd R (k s'))->Yd R (B k x s))
  (he:∀s,P L s->Yd R (K s)){s0:σ}(h0:P [] s0):Yd R (Oh L B s0 K):=by
 have main:∀(C A:att α) (s:σ),L=A++C->P A s->Yd R (Oh C B s K):=by
  intro C
  induction C with
  |nil=>intro A s hL hp;rw[rW] at hL;subst hL;exact he s hp
  |cons x C ih=>
   intro A s hL hp;exact hs A x C s _ hL hp fun s' hp'=>ih (A++[x]) s' (by rw[hL,nR];rfl) hp'
 exact main L [] s0 rfl h0
theorem XA(hx:lv n x)(hy:lv n y)(hn:n<=10000000000):MW x y=some (bif decide (x<y) then -1 else bif decide (y<x) then 1 else 0):=by
 unfold MW;rw[uA hx hn,uA hy hn];rfl
theorem or3(a b c:Int):rB [a,b,c]=some (bif !decide (a=0) then a else bif !decide (b=0) then b else c):=by
 obtain⟨F,hF⟩:∃F,18446744073709551616=F+4:=⟨18446744073709551612,rfl⟩;unfold rB;rw[hF];show cond (!decide (a=0)) (some a) (cond (!decide (b=0)) (some b)<|cond (!decide (c=0)) (some c)<|some 0)=_;cases ha:decide (a=0)
 ·rfl
 ·cases hb:decide (b=0)
  ·rfl
  ·cases hc:decide (c=0)
   ·rfl
   ·rw[aZ hc];rfl
theorem QD{a b:Q3}(ha:ql n a)(hb:ql n b)(hn:n<=10000000000):∃v,jD a b=some v/\(v<0↔Og a b)/\(v=0↔a=b):=by
 unfold jD;rw[XA ha.1 hb.1 hn,XA ha.2.1 hb.2.1 hn,XA ha.2.2 hb.2.2 hn];simp only[bd];rw[or3];refine⟨_,rfl,?_⟩;obtain⟨a1,a2,a3⟩:=a;obtain⟨b1,b2,b3⟩:=b;have Vt:∀x y:Rat,(x<y/\ ¬y<x/\x≠y)\/(¬x<y/\ ¬y<x/\x=y)\/(¬x<y/\y<x/\x≠y):=fun x y=>by grind
 unfold Og;simp only[pg];rcases Vt a1 b1 with⟨h1,h2,h3⟩|⟨h1,h2,h3⟩|⟨h1,h2,h3⟩<;>rcases Vt a2 b2 with⟨g1,g2,g3⟩|⟨g1,g2,g3⟩|⟨g1,g2,g3⟩<;>rcases Vt a3 b3 with⟨k1,k2,k3⟩|⟨k1,k2,k3⟩|⟨k1,k2,k3⟩<;>simp[h1,h2,h3,g1,g2,g3,k1,k2,k3]
theorem Xb(hl:l.length<=100000000):gy [] (some l)=some l:=by
 have fl:l.flatMap (fun x=>[x])=l:=by
  clear hl
  induction l with
  |nil=>rfl
  |cons a l ih=>rw[Ay,ih];rfl
 unfold gy;show Oh l _ [] _=_;refine(Nq (fun x=>[x]) 1 l [] (fun x _=>⟨by simp,fun s next hs=>by rw[app_1 (by omega) hs];rfl⟩) (by simp;omega)).trans ?_;rw[fl];rfl
theorem UF(hp:∀p∈l,ql n p)(hn:n<=10000000000)(hl:l.length<=100000000):∃r,lQ l=some r/\r.Pairwise Og/\∀z,z∈r↔z∈l:=by
 have hO:GC (fun x:Q3×Q3=>jD x.1 x.2) Og l:=ab8 fun x mx y my=>by
  obtain⟨v,h1,h2,_⟩:=QD (hp x mx) (hp y my) hn;exact⟨v,h1,h2⟩
 obtain⟨s,s1,s2,s3⟩:=QR hO (by omega);have hs:∀p∈s,ql n p:=fun p mp=>hp p<|s2.mem_iff.1 mp
 obtain⟨r,r1,r2,r3⟩:=WL (e:=fun x:Q3×Q3=>jC x.1 x.2) (fun a ma b mb=>by
  obtain⟨v,h1,_,h2⟩:=QD (hs a ma) (hs b mb) hn;show bd (jD a b) _=_;rw[h1];show some (decide<|v=0)=_
  congr 1
  exact l8.2 h2) s3<|hO.perm s2
 refine⟨r,?_,r2,fun z=>by rw[r3,s2.mem_iff]⟩;unfold lQ il lk nI;have e:yG l=some l:=by
  unfold yG;rw[show Nat.blt l.length 4000000000=true from lz (by omega)];rfl
 rw[e];simp only[bd];rw[Xb hl];simp only[bd];rw[s1];simp only;rw[r1]
theorem ab6{a b:Q3}(h:Og a b):a≠b:=fun e=>Lj a (by rw[<-e] at h;exact h)
theorem Tj{f:H3}(hf:f.1≠o3)(hl:∀p∈l,rG L p/\val f p=0/\ql n p)(hn:ql n f.1)(h1:1<=n)(P2:n<=10000)(hlen:l.length<=100000000)(ao7:∀r:att Q3,(∀z∈l,z∈r)->2<=r.length):
  ∃r,lH l f.1=some r/\Kl f.1 r/\∀z,z∈r↔z∈l:=by
 obtain⟨d,d1,d2,d3⟩:=UF (fun p mp=>(hl p mp).2.2) (by omega) hlen;have h2:=ao7 d fun z mz=>(d3 z).2 mz
 cases d with
 |nil=>simp at h2
 |cons p t=>
  obtain⟨g1,g2⟩:=qM.1 d2;obtain⟨vp,tp,np⟩:=hl p<|(d3 p).1 gJ
  have ht:0<t.length:=by rw[List.length_cons] at h2;omega
  have hlt:t.length<4611686018427387904:=by
   have:=tQ (l:=p::t) (T:=l) (d2.imp fun h=>ab6 h) fun x mx=>(d3 x).1 mx
   rw[List.length_cons] at this;omega
  have hO:GC (fun x:Q3×Q3=>mN x.1 x.2 f.1 p) (fun x y=>0<qy f.1 p x y) t:=adX hf vp tp (fun x mx=>by
   obtain⟨a,b,_⟩:=hl x<|(d3 x).1<|cW _ mx
   exact⟨a,b,g1 x mx⟩) fun x mx y my=>by
   obtain⟨_,_,nx⟩:=hl x<|(d3 x).1<|cW _ mx
   obtain⟨_,_,ny⟩:=hl y<|(d3 y).1<|cW _ my
   obtain⟨e1,k1⟩:=QC ny np h1 (by omega);obtain⟨e2,k2⟩:=QC nx np h1 (by omega);obtain⟨e3,k3⟩:=Y0 k1 k2 (by omega) (by omega);obtain⟨e4,k4⟩:=Xj (n:=16*(4*n)) ⟨gz hn.1 (by omega),gz hn.2.1 (by omega),gz hn.2.2 (by omega)⟩ k3 (by omega) (by omega);refine⟨_,by show mN x y f.1 p=_;unfold mN;rw[e1];simp only[bd];rw[e2];simp only[bd];rw[e3];simp only[bd];rw[e4];simp only[bd,tO];rfl,?_⟩;rw[Int.sign_neg_iff,HF];have:qy f.1 p x y= -aP f.1 (aG (cg y p)<|cg x p):=by unfold qy aP aG cg;grind
   rw[this];grind
  obtain⟨s,s1,s2,s3⟩:=QR hO hlt;have hm:∀z,z∈p::s↔z∈l:=fun z=>by rw[<-d3,aY,aY,s2.mem_iff]
  have hn:s.Nodup:=s2.nodup_iff.2<|g2.imp fun h=>ab6 h
  refine⟨p::s,?_,Zv hf (L:=L) (fun x mx=>⟨(hl x<|(hm x).1 mx).1,(hl x<|(hm x).1 mx).2.1⟩) ?_,hm⟩
  ·unfold lH;rw[d1];have e1:((t.length+1:Nat):Int)-1=(t.length:Int):=by omega
   simp only[bd,bo,List.getElem?_cons_zero,List.length_cons,e1,Int.toNat_natCast,List.take_length,List.drop_succ_cons,wU,show((1:Int)).toNat=1 from rfl];rw[show decide ((0:Nat)<=1)=true from rfl,aW (show(1:Int)<((t.length+1:Nat):Int) by omega),aW (show((t.length+1:Nat):Int)<=((t.length+1:Nat):Int) by omega)];simp only[Bool.and_self,gC];rw[s1];dsimp only;have l1:s.length=t.length:=s2.length_eq;rw[show Nat.blt 0 t.length=true from lz ht,show Nat.ble (1+t.length) (t.length+1)=true from lz (by omega),show Nat.beq s.length t.length=true from by rw[l1];exact Nat.beq_refl _];simp[wS]
  ·exact LN (fun{a b} ma mb h=>h.1.resolve_left h.2)<|s3.and hn
def JP(k:Nat)(L:att H3):Prop:=∀g∈L,ql k g.1/\lv k g.2
theorem RX(h:JP k M){p:Q3}(hp:rG M p):ql (35*k+2) p:=by
 have b:=aih (k:=k) (fun g mg=>h g mg) hp;exact⟨J9 b.1 (by omega) (by omega),J9 b.2.1 (by omega) (by omega),J9 b.2.2 (by omega) (by omega)⟩
theorem xq{v:Q3}(h:ql m v)(hm:m<=n):ql n v:=⟨gz h.1 hm,gz h.2.1 hm,gz h.2.2 hm⟩
theorem aaw(h:H3)(l:att Q3):(kY h l).length<=2*l.length:=by
 have:∀s:att (Q3×Q3),(s.flatMap<|y5 h).length<=2*s.length:=fun s=>by
  induction s with
  |nil=>simp
  |cons x s ih=>
   have hx:(y5 h x).length<=2:=by
    unfold y5;cases decide (val h x.1<=0)<;>cases Lb (val h x.1) (val h x.2)<;>simp
   rw[Ay,List.length_append,List.length_cons];omega
 have k:=this<|tN l
 have e:(tN l).length=l.length:=by rw[<-zZ,EH]
 unfold kY;omega
theorem sign_neg(x:Rat):decide (x.num.sign<0)=decide (x<0):=l8.2 (by rw[Int.sign_neg_iff,HF])
theorem MI(x:Rat):decide (0<x.num.sign)=decide (0<x):=l8.2 (by rw[Int.sign_pos_iff,DS])
theorem IC(h:H3)(A:att iK)(f:iK):C7 h (A++[f])=C7 h A++(bif decide (2<(kY h f.2).length) then [(f.1,kY h f.2)] else []):=by
 unfold C7;rw[List.filterMap_append];cases hd:decide (2<(kY h f.2).length)<;>simp[hd]
theorem ado(I:nu S M)(hl:M.length<=60){f:iK}(mf:f∈S):f.2.length<=216000:=by
 obtain⟨_,g2,g3,g4⟩:=I.zF f mf;have:=Xi (g2.nodup g3) fun p mp=>((g4 p).1 mp).1
 have:=pc hl<|pc hl hl
 omega
theorem Yd.VF{h:H3}(I:nu S M)(hM:JP k (h::M))(hk:k<=280)(hlen:M.length<=60)(hz:h.1≠o3)(hn:∀a∈h::M,∀b∈h::M,Od a b->a=b):
  Yd (fun r:att iK×Bool=>(r.2=true/\nu r.1 (h::M))\/(r.2=false/\ ¬ ∃o,∀k∈h::M,val k o<0)) (iu S h):=by
 have hM':JP k M:=fun g mg=>hM g<|cW _ mg
 have np:∀f∈S,∀p∈f.2,ql (35*k+2) p:=fun f mf p mp=>RX hM' (((I.zF f mf).2.2.2 p).1 mp).1
 have nc:∀f∈S,∀p∈kY h f.2,ql (35*k+2) p:=fun f mf p mp=>RX hM ((I.BQ h f mf p).1 mp).1
 have hh:ql (35*k+2) h.1/\lv (35*k+2) h.2:=⟨xq (hM h gJ).1 (by omega),gz (hM h gJ).2 (by omega)⟩;have hS:=I.len;have fl:∀f∈S,f.2.length<=216000:=fun f mf=>ado I hlen mf
 unfold iu;refine Yd.each S (fun(s:Bool×Bool) i=>(s.1,s.2,i)) (fun A s=>(s.1=true↔∃f∈A,∃p∈f.2,val h p<0)/\(s.2=true↔∃f∈A,∃p∈f.2,0<val h p)) (fun A f C s k1 hL hP next=>?_) (fun s k1 hP=>?_) (s0:=(false,false)) (by simp) (by omega)
 ·dsimp only;rw[jM hL,bD];refine Yd.bd (fp hL) ?_;have mf:=at_mem hL;refine Yd.each f.2 (fun(s:Bool×Bool) i=>(s.1,s.2,i)) (fun B t=>(t.1=true↔(∃f∈A,∃p∈f.2,val h p<0)\/∃p∈B,val h p<0)/\(t.2=true↔(∃f∈A,∃p∈f.2,0<val h p)\/∃p∈B,0<val h p)) (fun B p D t k2 hL' hP' next'=>?_) (fun t k2 hP'=>?_) (s0:=s) (by simpa using hP) (by have:=fl f mf;omega)
  ·dsimp only;rw[jM hL',bD];refine Yd.jn (fun t:Bool×Bool=>(t.1=true↔(∃f∈A,∃p∈f.2,val h p<0)\/∃q∈B++[p],val h q<0)/\(t.2=true↔(∃f∈A,∃p∈f.2,0<val h p)\/∃q∈B++[p],0<val h q)) (fun t ht=>Yd.bd (fF hL' (by have:=fl f mf;omega))<|next' t ht) fun k3 hk3=>?_
   refine Yd.bd (fp hL') (Yd.bd (CE hh (np f mf p<|at_mem hL') (by omega) (by omega)).1<|Yd.bd (x:=(val h p).num.sign) rfl ?_);rw[sign_neg,MI];simp only[bN,cr,HN,exists_or,exists_eq_left] at hk3;refine Yd.cond (fun hc=>hk3 _ ?_) fun hc=>Yd.cond (fun GF=>hk3 _ ?_) fun GF=>hk3 _ ?_
   ·have hc:=aZ hc;have Bk: ¬0<val h p:=by grind
    simp only[hc,Bk,or_true,or_false,true_iff];exact⟨trivial,hP'.2⟩
   ·have hc:=br hc;have GF:=aZ GF;simp only[hc,GF,or_true,or_false];exact⟨hP'.1,by simp⟩
   ·have hc:=br hc;have GF:=br GF;simp only[hc,GF,or_false];exact hP'
  ·dsimp only;rw[gN,a8];refine Yd.bd (fF hL (by omega))<|next t ?_
   simpa[bN,HN,exists_or] using hP'
 ·dsimp only;rw[gN,a8];refine Yd.cond (fun hc=>Yd.mk<| .inr ⟨rfl,I.empty fun f mf p mp=>?_⟩) fun hc=>Yd.cond (fun GF=>Yd.mk<| .inl ⟨rfl,I.out hz hn fun f mf p mp=>?_⟩) fun GF=>?_
  ·refine eK fun g=>?_
   rw[hP.1.2 ⟨f,mf,p,mp,by grind⟩] at hc;cases hc
  ·refine eK fun g=>?_
   rw[hP.2.2 ⟨f,mf,p,mp,by grind⟩] at GF;cases GF
  ·obtain⟨f0,m0,p0,q0,h0⟩:=hP.1.1 (by simpa using hc);obtain⟨f1,m1,p1,q1,h1⟩:=hP.2.1 (by simpa using GF);obtain⟨_,c1,c2⟩:=I.cut hz m0 q0 h0 m1 q1 h1;refine Yd.each S (fun(s:att Q3×att iK) i=>(s.1,s.2,i)) (fun A s=>s.2=C7 h A/\(∀p,p∈s.1↔(∃f∈A,p∈kY h f.2)/\val h p=0)/\s.1.length<=A.length*432000) (fun A f C s k1 hL hP next=>?_) (fun s k1 hP=>?_) (s0:=([],[])) (by simp[C7]) (by omega)
   ·dsimp only;have mf:=at_mem hL;have cl:=aaw h f.2;have fl':=fl f mf;have al:=jm hL;have fal:(C7 h A).length<=A.length:=List.length_filterMap_le _ _;rw[jM hL,bD];refine Yd.jn (fun t:att Q3×att iK=>t.2=C7 h (A++[f])/\(∀p,p∈t.1↔(∃g∈A++[f],p∈kY h g.2)/\val h p=0)/\t.1.length<=(A++[f]).length*432000) (fun t ht=>Yd.bd (fF hL (by omega))<|next t ht) fun k3 hk3=>?_
    refine Yd.bd (fp hL) (Yd.bd (aav (by omega) hh (np f mf) (by omega) (by omega)) ?_);have mc:=nc f mf;refine Yd.each (kY h f.2) (fun(t:att Q3) i=>(t,i)) (fun B t=>(∀p,p∈t↔((∃f∈A,p∈kY h f.2)\/p∈B)/\val h p=0)/\t.length<=A.length*432000+B.length) (fun B p D t k2 hL' hP' next'=>?_) (fun t k2 hP'=>?_) (s0:=s.1) (by simpa using hP.2) (by omega)
    ·dsimp only;have bl:=jm hL';rw[jM hL',bD];refine Yd.jn (fun t:att Q3=>(∀q,q∈t↔((∃f∈A,q∈kY h f.2)\/q∈B++[p])/\val h q=0)/\t.length<=A.length*432000+(B++[p]).length) (fun t ht=>Yd.bd (fF hL' (by omega))<|next' t ht) fun k4 hk4=>?_
     refine Yd.bd (fp hL') (Yd.bd (CE hh (mc p<|at_mem hL') (by omega) (by omega)).1<|Yd.bd (x:=(val h p).num.sign) rfl ?_);rw[sign_zero];refine Yd.cond (fun hc=>Yd.bd (app_1 (by omega) (by omega)) (hk4 _ ⟨fun q=>?_,by have:=hP'.2;simp;omega⟩)) fun hc=>hk4 _ ⟨fun q=>?_,by have:=hP'.2;simp;omega⟩
     ·have hc:=aZ hc;rw[bN,bN,hP'.1,cr];constructor
      ·rintro(⟨a,b⟩|rfl)
       ·exact⟨a.imp id .inl,b⟩
       ·exact⟨.inr<| .inr rfl,hc⟩
      ·rintro⟨a|a|a,b⟩
       ·exact .inl ⟨.inl a,b⟩
       ·exact .inl ⟨.inr a,b⟩
       ·exact .inr a
     ·have hc:=br hc;rw[bN,hP'.1,cr];constructor
      ·rintro⟨a,b⟩;exact⟨a.imp id .inl,b⟩
      ·rintro⟨a|a|rfl,b⟩
       ·exact⟨.inl a,b⟩
       ·exact⟨.inr a,b⟩
       ·exact absurd b hc
    ·dsimp only;rw[gN,a8];have g1:∀p,p∈t↔(∃g∈A++[f],p∈kY h g.2)/\val h p=0:=fun p=>by
      rw[hP'.1];simp[bN,HN,exists_or]
     have g2:t.length<=(A++[f]).length*432000:=by have:=hP'.2;simp;omega
     have hd:decide (2<((kY h f.2).length:Int))=decide (2<(kY h f.2).length):=l8.2 (by omega);rw[hd];refine Yd.cond (fun hc=>?_) fun hc=>hk3 _ ⟨?_,g1,g2⟩
     ·rw[hP.1];exact Yd.bd (app_1 (by omega) (by omega)) (hk3 _ ⟨by rw[IC,hc];rfl,g1,g2⟩)
     ·rw[IC,hc,hP.1];simp
   ·dsimp only;rw[gN,a8];obtain⟨r,r1,r2,r3⟩:=Tj (L:=h::M) hz (l:=s.1) (n:=35*k+2) (fun p mp=>by
     obtain⟨⟨f,mf,mp'⟩,hv⟩:=(hP.2.1 p).1 mp;exact⟨((I.BQ h f mf p).1 mp').1,hv,nc f mf p mp'⟩) hh.1 (by omega) (by omega) (by have:=hP.2.2;omega) fun l hl=>by
      have:=c2 l fun p vp tp=>hl p<|(hP.2.1 p).2<|(c1 p).2 ⟨vp,tp⟩
      omega
    have fsl:(C7 h S).length<=S.length:=List.length_filterMap_le _ _;rw[hP.1];refine Yd.bd r1 (Yd.bd (app_1 (by omega) (by omega))<|Yd.mk<| .inl ⟨rfl,?_⟩);exact I.clip hz hn m0 q0 h0 m1 q1 h1 r2 fun p=>by rw[r3,hP.2.1]
theorem Yd.OL(I:nu S M)(hM:JP k (L++M))(hk:k<=280)(hlen:L.length+M.length<=60)(hz:∀h∈L,h.1≠o3)(hn:∀a∈L++M,∀b∈L++M,Od a b->a=b):
  Yd (fun r:att iK×Bool=>(r.2=true/\∃N,(∀h,h∈N↔h∈L\/h∈M)/\N.length=L.length+M.length/\nu r.1 N)\/(r.2=false/\ ¬ ∃o,∀k∈L++M,val k o<0)) (fY S L):=by
 unfold fY;refine Yd.each L (fun(s:att iK) i=>(s,i)) (fun A s=>∃N,(∀h,h∈N↔h∈A\/h∈M)/\N.length=A.length+M.length/\nu s N) (fun A h C s k1 hL hP next=>?_) (fun s k1 hP=>?_) (s0:=S) ⟨M,by simp,by simp,I⟩ (by omega)
 ·obtain⟨N,n1,n2,n3⟩:=hP;have al:=jm hL;dsimp only;rw[jM hL,bD];refine Yd.bd (fp hL) ?_;have sub:∀g∈h::N,g∈L++M:=fun g mg=>by
   rcases aY.1 mg with e|mg
   ·rw[e];exact pd _<|at_mem hL
   ·rcases(n1 g).1 mg with m|m
    ·exact pd _ (by rw[hL];exact pd _ m)
    ·exact AD _ m
  refine Yd.iG (Yd.VF (k:=k) n3 (fun g mg=>hM g<|sub g mg) hk (by omega) (hz h<|at_mem hL) fun a ma b mb=>hn a (sub a ma) b<|sub b mb) fun r hr=>?_
  rcases hr with⟨e,hr⟩|⟨e,hr⟩
  ·rw[e,Am,a8];refine Yd.bd (fF hL (by omega)) (next _ ⟨h::N,fun g=>?_,by simp;omega,hr⟩);rw[aY,n1];simp only[bN,cr];constructor
   ·rintro(a|a|a)
    ·exact .inl<| .inr a
    ·exact .inl<| .inl a
    ·exact .inr a
   ·rintro((a|a)|a)
    ·exact .inr<| .inl a
    ·exact .inl a
    ·exact .inr<| .inr a
  ·rw[e,Lq,bD];exact Yd.mk<| .inr ⟨rfl,fun⟨o,ho⟩=>hr ⟨o,fun g mg=>ho g<|sub g mg⟩⟩
 ·dsimp only;rw[gN,a8];exact Yd.mk<| .inl ⟨rfl,hP⟩
theorem xD{d:Int}(h:d=1\/d= -1):qF d=some (d:Rat):=by rcases h with rfl|rfl<;>rfl
theorem o8{d:Int}(h:d=1\/d= -1)(n:Nat):lv n (d:Rat):=by
 have e:(10:Nat)^0<=10^n:=pX (by omega) (by omega);have:1<=10^n:=e;rcases h with rfl|rfl<;>exact⟨by show 1<=1*10^n;omega,by show 1<=10^n;omega⟩
theorem afE:pB 0 0 0=some ((0:Rat),(0:Rat),(0:Rat)):=aH
theorem yL(ha:0<a)(hk:JP k (gw a))(hk2:k<=280){N:Q3}(hN:(N,a)∈gw a)(hz:N≠o3){f:Rat->Rat->Q3}
 (hf:∀p,(∃x y,(x=a\/x= -a)/\(y=a\/y= -a)/\p=f x y)↔rG (gw a) p/\val (N,a) p=0)(hne:f a a≠f (-a) (-a))(hl:l=KH a f):
  ∃r,lH l N=some r/\Kl N r/\∀p,p∈r↔rG (gw a) p/\val (N,a) p=0:=by
 subst hl;have hm:∀p,p∈KH a f↔rG (gw a) p/\val (N,a) p=0:=fun p=>by rw[Tm,hf]
 obtain⟨r,r1,r2,r3⟩:=Tj (L:=gw a) (f:=(N,a)) hz (l:=KH a f) (n:=35*k+2) (fun p mp=>⟨((hm p).1 mp).1,((hm p).1 mp).2,RX hk ((hm p).1 mp).1⟩) (xq (hk _ hN).1 (by omega)) (by omega) (by omega) (by unfold KH;simp) fun r hr=>by
  have:=tQ (l:=[f a a,f (-a)<| -a]) (T:=r) (by simp[hne]) (by
   intro x mx;refine hr x<|Tm.2 ?_
   rcases aY.1 mx with e|mx
   ·exact⟨a,a,.inl rfl,.inl rfl,e⟩
   ·exact⟨-a,-a,.inr rfl,.inr rfl,cr.1 mx⟩)
  exact this
 exact⟨r,r1,r2,fun p=>by rw[r3,hm]⟩
def cpt(a:Rat)(m:Nat)(s:Int)(d:Int×Int):Q3:=match m with
 |0=>((s:Rat)*a,(d.1:Rat)*a,(d.2:Rat)*a)
 |1=>((d.2:Rat)*a,(s:Rat)*a,(d.1:Rat)*a)
 |_=>((d.1:Rat)*a,(d.2:Rat)*a,(s:Rat)*a)
abbrev four:att (Int×Int):=[((-1),(-1)),((-1),1),(1,(-1)),(1,1)]
theorem agO{d:Int×Int}(h:d∈four):(d.1=1\/d.1= -1)/\(d.2=1\/d.2= -1):=by
 simp[four] at h;rcases h with rfl|rfl|rfl|rfl<;>simp
theorem JG(a:Rat):((1:Int):Rat)*a=a:=by rw[show((1:Int):Rat)=1 from rfl];grind
theorem JF(a:Rat):((-1:Int):Rat)*a= -a:=by rw[show((-1:Int):Rat)= -1 from by kernel_rfl];grind
theorem agV(ha:0<a)(h1:1<=k)(hk:lv k a)(hk2:k<=280):Yd (fun S=>nu S<|gw a) (uQ a):=by
 have few:JP k (gw a):=by
  have o:=o8 (.inl rfl:(1:Int)=1\/(1:Int)= -1) k;have m:=o8 (.inr rfl:(-1:Int)=1\/(-1:Int)= -1) k;have z:lv k (0:Rat):=⟨iR _,o.2⟩;exact nt.2 ⟨⟨⟨m,z,z⟩,hk⟩,⟨⟨o,z,z⟩,hk⟩,⟨⟨z,m,z⟩,hk⟩,⟨⟨z,o,z⟩,hk⟩,⟨⟨z,z,m⟩,hk⟩,⟨z,z,o⟩,hk⟩
 unfold uQ;refine Yd.each ([0,1,2]:att Nat) (fun(s:att iK) i=>(s,i)) (fun A s=>s.map Prod.fst=(gw a).take (2*A.length)/\∀f∈s,Kl f.1.1 f.2/\∀p,p∈f.2↔rG (gw a) p/\val f.1 p=0) (fun A i C s k1 hL hP next=>?_) (fun s k1 hP=>?_) (s0:=[]) ⟨rfl,by simp⟩ (by simp)
 ·have hm:=jm hL;rw[show([0,1,2]:att Nat).length=3 from rfl] at hm;rw[List.length_append] at next
  generalize A.length=m at*
  clear hL;dsimp only;rw[aW (show(m:Int)<3 by omega),bD];refine Yd.each ([(-1),1]:att Int) (fun(t:att iK) j=>(t,j)) (fun B t=>t.map Prod.fst=(gw a).take (2*m+B.length)/\∀f∈t,Kl f.1.1 f.2/\∀p,p∈f.2↔rG (gw a) p/\val f.1 p=0) (fun B sg C t k2 hL hP xp=>?_) (fun t k2 hP=>?_) (s0:=s) (by simpa using hP) (by simp)
  ·dsimp only;rw[jM hL,bD];have hsg:sg=1\/sg= -1:=by have:=at_mem hL;simp at this;omega
   have hb:=jm hL;rw[show([(-1),1]:att Int).length=2 from rfl] at hb;have hbs:sg=2*(B.length:Int)-1:=by
    rcases B with _|⟨b0,_|⟨b1,B⟩⟩
    ·simp at hL;simp;omega
    ·simp at hL;simp;omega
    ·simp at hb
   have tl:t.length<=6:=by
    rw[<-c7 Prod.fst,hP.1];simp[gw];omega
   refine Yd.bd (fp hL)<|Yd.bd afE<|Yd.bd (xD hsg) ?_
   have fin:∀(N:Q3) (l:att Q3),(∃r,lH l N=some r/\Kl N r/\∀p,p∈r↔rG (gw a) p/\val (N,a) p=0)->(gw a)[2*m+B.length]? =some (N,a)->Yd (fun S=>nu S<|gw a) (bd (lH l N) fun JR=>bd (fX 280 t ([((N,a),JR)]:att iK)) fun Pf=>bd (aL<|(B.length:Int)+1) fun Sd=>k2 (Pf,Sd)):=by
    rintro N l ⟨r,r1,r2,r3⟩ hix;refine Yd.bd r1 (Yd.bd (app_1 (by omega) (by omega)) (Yd.bd (fF hL (by simp))<|xp _ ⟨?_,fun f mf=>?_⟩))
    ·rw[wh,hP.1,List.length_append,<-rR];show _=List.take (2*m+B.length+1) _;rw[List.take_add_one,hix];rfl
    ·rcases bN.1 mf with mf|mf
     ·exact hP.2 f mf
     ·rw[cr.1 mf];exact⟨r2,r3⟩
   have hm:m=0\/m=1\/m=2:=by omega
   refine Yd.bd (x:=(0:Rat)) (by rcases hm with rfl|rfl|rfl<;>rfl) ?_;refine Yd.each four (fun(u:att Q3) j=>(u,j)) (fun D u=>u=D.map (cpt a m sg)) (fun D d E u k3 hL3 hP3 PO=>?_) (fun u k3 hP3=>?_) (s0:=[]) rfl (by simp[four])
   ·dsimp only;rw[jM hL3,bD];obtain⟨d1,d2⟩:=agO<|at_mem hL3
    have ul:u.length<=100000000:=by rw[hP3,c7];have:=jm hL3;simp at this;omega
    rcases hm with rfl|rfl|rfl
    ·exact Yd.bd (fp hL3) (Yd.bd (afE) (Yd.bd ((rfl)) (Yd.bd ((rfl)) (Yd.bd ((rfl)) (Yd.bd ((rfl)) (Yd.bd (xD hsg) (Yd.bd ((nQ (o8 hsg k) hk h1 (by omega)).1) (Yd.bd (xD d1) (Yd.bd ((nQ (o8 d1 k) hk h1 (by omega)).1) (Yd.bd (xD d2) (Yd.bd ((nQ (o8 d2 k) hk h1 (by omega)).1) (Yd.bd ((rfl)) (Yd.bd ((rfl)) (Yd.bd ((rfl)) (Yd.bd (app_1 (by omega) ul) (Yd.bd (fF hL3 (by simp)) (PO _ (by rw[hP3,wh];rfl))))))))))))))))))
    ·exact Yd.bd (fp hL3) (Yd.bd (afE) (Yd.bd ((rfl)) (Yd.bd ((rfl)) (Yd.bd ((rfl)) (Yd.bd ((rfl)) (Yd.bd (xD hsg) (Yd.bd ((nQ (o8 hsg k) hk h1 (by omega)).1) (Yd.bd (xD d1) (Yd.bd ((nQ (o8 d1 k) hk h1 (by omega)).1) (Yd.bd (xD d2) (Yd.bd ((nQ (o8 d2 k) hk h1 (by omega)).1) (Yd.bd ((rfl)) (Yd.bd ((rfl)) (Yd.bd ((rfl)) (Yd.bd (app_1 (by omega) ul) (Yd.bd (fF hL3 (by simp)) (PO _ (by rw[hP3,wh];rfl))))))))))))))))))
    ·exact Yd.bd (fp hL3) (Yd.bd (afE) (Yd.bd ((rfl)) (Yd.bd ((rfl)) (Yd.bd ((rfl)) (Yd.bd ((rfl)) (Yd.bd (xD hsg) (Yd.bd ((nQ (o8 hsg k) hk h1 (by omega)).1) (Yd.bd (xD d1) (Yd.bd ((nQ (o8 d1 k) hk h1 (by omega)).1) (Yd.bd (xD d2) (Yd.bd ((nQ (o8 d2 k) hk h1 (by omega)).1) (Yd.bd ((rfl)) (Yd.bd ((rfl)) (Yd.bd ((rfl)) (Yd.bd (app_1 (by omega) ul) (Yd.bd (fF hL3 (by simp)) (PO _ (by rw[hP3,wh];rfl))))))))))))))))))
   ·dsimp only;rw[gN,a8,hP3];have ne:a≠ -a:=by grind
    rcases hm with rfl|rfl|rfl<;>rcases hsg with rfl|rfl
    ·exact fin _ _ (yL (N:=(1,0,0)) (f:=fun x y=>(a,x,y)) ha few hk2 (by simp[gw]) (fun e=>by simp only[o3,pg] at e;grind) (fun p=>by rw[yR ha,yW];exact⟨fun⟨x,y,hx,hy,e⟩=>by subst e;grind,fun h=>⟨p.2.1,p.2.2,by grind,by grind,Prod.ext (by dsimp only<;>grind) (Prod.ext (by dsimp only<;>grind) (by dsimp only<;>grind))⟩⟩) (fun e=>by simp[Prod.ext_iff] at e;grind) (by simp[cpt,KH,JG,JF]<;>grind)) (by rw[show B.length=1 by omega];rfl)
    ·exact fin _ _ (yL (N:=(-1,0,0)) (f:=fun x y=>(-a,x,y)) ha few hk2 (by simp[gw]) (fun e=>by simp only[o3,pg] at e;grind) (fun p=>by rw[yR ha,yX];exact⟨fun⟨x,y,hx,hy,e⟩=>by subst e;grind,fun h=>⟨p.2.1,p.2.2,by grind,by grind,Prod.ext (by dsimp only<;>grind) (Prod.ext (by dsimp only<;>grind) (by dsimp only<;>grind))⟩⟩) (fun e=>by simp[Prod.ext_iff] at e;grind) (by simp[cpt,KH,JG,JF]<;>grind)) (by rw[show B.length=0 by omega];rfl)
    ·exact fin _ _ (yL (N:=(0,1,0)) (f:=fun x y=>(y,a,x)) ha few hk2 (by simp[gw]) (fun e=>by simp only[o3,pg] at e;grind) (fun p=>by rw[yR ha,yU];exact⟨fun⟨x,y,hx,hy,e⟩=>by subst e;grind,fun h=>⟨p.2.2,p.1,by grind,by grind,Prod.ext (by dsimp only<;>grind) (Prod.ext (by dsimp only<;>grind) (by dsimp only<;>grind))⟩⟩) (fun e=>by simp[Prod.ext_iff] at e;grind) (by simp[cpt,KH,JG,JF]<;>grind)) (by rw[show B.length=1 by omega];rfl)
    ·exact fin _ _ (yL (N:=(0,-1,0)) (f:=fun x y=>(y,-a,x)) ha few hk2 (by simp[gw]) (fun e=>by simp only[o3,pg] at e;grind) (fun p=>by rw[yR ha,yV];exact⟨fun⟨x,y,hx,hy,e⟩=>by subst e;grind,fun h=>⟨p.2.2,p.1,by grind,by grind,Prod.ext (by dsimp only<;>grind) (Prod.ext (by dsimp only<;>grind) (by dsimp only<;>grind))⟩⟩) (fun e=>by simp[Prod.ext_iff] at e;grind) (by simp[cpt,KH,JG,JF]<;>grind)) (by rw[show B.length=0 by omega];rfl)
    ·exact fin _ _ (yL (N:=(0,0,1)) (f:=fun x y=>(x,y,a)) ha few hk2 (by simp[gw]) (fun e=>by simp only[o3,pg] at e;grind) (fun p=>by rw[yR ha,yS];exact⟨fun⟨x,y,hx,hy,e⟩=>by subst e;grind,fun h=>⟨p.1,p.2.1,by grind,by grind,Prod.ext (by dsimp only<;>grind) (Prod.ext (by dsimp only<;>grind) (by dsimp only<;>grind))⟩⟩) (fun e=>by simp[Prod.ext_iff] at e;grind) (by simp[cpt,KH,JG,JF]<;>grind)) (by rw[show B.length=1 by omega];rfl)
    ·exact fin _ _ (yL (N:=(0,0,-1)) (f:=fun x y=>(x,y,-a)) ha few hk2 (by simp[gw]) (fun e=>by simp only[o3,pg] at e;grind) (fun p=>by rw[yR ha,yT];exact⟨fun⟨x,y,hx,hy,e⟩=>by subst e;grind,fun h=>⟨p.1,p.2.1,by grind,by grind,Prod.ext (by dsimp only<;>grind) (Prod.ext (by dsimp only<;>grind) (by dsimp only<;>grind))⟩⟩) (fun e=>by simp[Prod.ext_iff] at e;grind) (by simp[cpt,KH,JG,JF]<;>grind)) (by rw[show B.length=0 by omega];rfl)
  ·dsimp only;rw[gN,a8];refine Yd.bd (x:=((m+1:Nat):Int)) (by rw[aM ⟨by omega,by omega⟩];rfl)<|next t ?_
   have:2*(m+[i].length)=2*m+([(-1),1]:att Int).length:=by simp;omega
   rw[this];exact hP
 ·dsimp only;rw[show decide (((([0,1,2]:att Nat).length:Nat):Int)<3)=false from rfl,a8];exact Yd.mk<|aaq ha hP.1 hP.2
def zI(n:Q3):Prop:=∃x y z:Int,n=((x:Rat),(y:Rat),(z:Rat))/\Nat.gcd (Nat.gcd x.natAbs y.natAbs) z.natAbs=1
theorem zI.OU{n:Q3}:zI n->KL n|⟨x,y,z,h,_⟩=>by rw[h];exact⟨⟨x,rfl⟩,⟨y,rfl⟩,⟨z,rfl⟩⟩
theorem WV{x:Int}(h:(x:Rat)=0):x=0:=by
 have:=congrArg Rat.num h;rwa [Ap] at this
theorem zI.nz{n:Q3}(p:zI n):n≠o3:=fun e=>by
 obtain⟨x,y,z,h,g⟩:=p;rw[h] at e;simp only[o3,pg] at e;rw[WV e.1,WV e.2.1,WV e.2.2] at g;cases g
theorem R0{s:Rat}{x y:Int}(h:(x:Rat)*s=(y:Rat)):s.den∣x.natAbs/\s.num.natAbs∣y.natAbs:=by
 have e:x*s.num=y*(s.den:Int):=by
  have hd:(s.den:Rat)≠0:=by
   have:=s.den_nz;intro c;exact this<|Rat.natCast_eq_zero_iff.1 c
  have h2:(x:Rat)*(s.num:Rat)=(y:Rat)*(s.den:Rat):=by
   have h3:(s.num:Rat)=s*(s.den:Rat):=by
    have:=Rat.num_divInt_den s;rw[vi,Rat.intCast_natCast] at this;have t:=wV (a:=(s.num:Rat)) hd;rw[this] at t;exact t.symm
   rw[h3,<-h,Rat.mul_assoc]
  have h4:((x*s.num:Int):Rat)=((y*(s.den:Int):Int):Rat):=by rw[Rat.intCast_mul,Rat.intCast_mul];exact h2
  exact Lu.1 h4
 have n:=congrArg Int.natAbs e;rw[rT,rT,iU] at n;have c:=s.reduced;exact⟨(Nat.Coprime.dvd_of_dvd_mul_right c.symm ⟨y.natAbs,by rw[n,qJ]⟩),(Nat.Coprime.dvd_of_dvd_mul_right c ⟨x.natAbs,by rw[<-n,qJ]⟩)⟩
theorem ZB{h k:H3}(a:zI h.1)(b:zI k.1):Od h k->h=k:=fun⟨s,s0,e⟩=>by
 obtain⟨x,y,z,e1,g1⟩:=a;obtain⟨x',y',z',e2,g2⟩:=b;have e3:ik h.1 s=k.1:=by rw[e]
 rw[e1,e2] at e3;simp only[ik,pg] at e3;obtain⟨c1,c2⟩:=R0 e3.1;obtain⟨d1,d2⟩:=R0 e3.2.1;obtain⟨f1,f2⟩:=R0 e3.2.2;have u:=Nat.dvd_gcd (Nat.dvd_gcd c1 d1) f1;have v:=Nat.dvd_gcd (Nat.dvd_gcd c2 d2) f2;rw[g1] at u;rw[g2] at v;have u:=Nat.dvd_one.1 u;have v:=Nat.dvd_one.1 v;have:0<s.num:=DS.2 s0;have s1:s=1:=Rat.ext (by show s.num=1;omega) (by show s.den=1;omega);rw[e,s1];exact Prod.ext (lW (by simp only[ik];grind) (by simp only[ik];grind) (by simp only[ik];grind)) (by simp only;grind)
theorem aas:∀h∈gw a,zI h.1:=nt.2 ⟨⟨-1,0,0,aH,rfl⟩,⟨1,0,0,aH,rfl⟩,⟨0,-1,0,aH,rfl⟩,⟨0,1,0,aH,rfl⟩,⟨0,0,-1,aH,rfl⟩,⟨0,0,1,aH,rfl⟩⟩
def Oa(x:Rat):Rat:=bif decide (x<0) then -x else x
theorem LY{m:Rat}(h:Oa x<=m):wi x m:=by
 unfold Oa at h;unfold wi;cases hc:decide (x<0) with
 |true=>rw[hc] at h;have:=aZ hc;simp only[bD] at h;grind
 |false=>rw[hc] at h;have:=br hc;simp only[a8] at h;grind
theorem LZ(h:lv n x):lv n (Oa x):=by
 unfold Oa;cases decide (x<0)
 ·exact h
 ·exact adS h
theorem Xt(x:Rat):uP x=some (Oa x):=by
 unfold uP tO Oa Tn;rw[fi,sign_neg];cases decide (x<0)<;>rfl
theorem Kh{l:att Rat}(h:∀x∈l,lv n x)(hn:n<=10000000000)(hl:l.length<=10000000):Yd (fun r=>1<=r/\lv n r/\∀x∈l,x<=r) (oB l):=by
 have hL:∀x∈l++[1],lv n x:=fun x mx=>by
  rcases bN.1 mx with m|m
  ·exact h x m
  ·rw[cr.1 m];exact o8 (d:=1) (.inl rfl) n
 have fin:∀r,r∈l++[1]->(∀x∈l++[1],x<=r)->1<=r/\lv n r/\∀x∈l,x<=r:=fun r mr hr=>⟨hr 1 (by simp),hL r mr,fun x mx=>hr x (by simp[mx])⟩
 have len:(l++[1]).length=l.length+1:=by simp
 unfold oB;refine Yd.bd (xD<| .inl rfl) (Yd.bd (app_1 (by omega) (by omega)) ?_);rw[show((1:Int):Rat)=1 from rfl]
 generalize l++[1]=L at*
 unfold jk;cases L with
 |nil=>simp at len
 |cons y T=>
  rw[bC (show¬(((y::T).length:Nat):Int)<1 by simp;omega),a8];refine Yd.iG (S:=fun r=>r∈y::T/\∀x∈y::T,x<=r) (Yd.bd (x:=y) rfl ?_) fun r hr=>Yd.mk<|fin r hr.1 hr.2
  refine Yd.from (y::T) (fun(m:Rat) i=>(m,i)) (fun A m=>m∈y::T/\∀x∈A,x<=m) (fun A x C m k hA hP next=>?_) (fun m k hP=>?_) [y] T (s0:=y) rfl ⟨by simp,by simp[j6]⟩ (by omega)
  ·dsimp only;rw[jM hA,bD];have mx:=at_mem hA;refine Yd.jn (fun m':Rat=>m'∈y::T/\∀z∈A++[x],z<=m') (fun m' Z7=>Yd.bd (fF hA (by omega))<|next m' Z7) fun k8 h8=>?_
   refine Yd.bd (fp hA)<|Yd.bd (XA (hL x mx) (hL m hP.1) hn)<|Yd.cond (fun hc=>Yd.bd (fp hA)<|h8 x ⟨mx,fun z mz=>?_⟩) fun hc=>h8 m ⟨hP.1,fun z mz=>?_⟩
   ·have hm:m<=x:=by
     refine eK fun g=>?_
     rw[aW (show x<m by grind)] at hc;cases hc
    rcases bN.1 mz with mz|mz
    ·exact Cr (hP.2 z mz) hm
    ·rw[cr.1 mz];exact j6
   ·have hm:x<=m:=by
     refine eK fun g=>?_
     rw[bC (show¬x<m by grind),aW (show m<x by grind)] at hc;cases hc
    rcases bN.1 mz with mz|mz
    ·exact hP.2 z mz
    ·rw[cr.1 mz];exact hm
  ·dsimp only;rw[gN,a8];exact Yd.mk hP
theorem UI(hk:lv k a):JP k (gw a):=by
 have o:=o8 (.inl rfl:(1:Int)=1\/(1:Int)= -1) k;have m:=o8 (.inr rfl:(-1:Int)=1\/(-1:Int)= -1) k;have z:lv k (0:Rat):=⟨iR _,o.2⟩;exact nt.2 ⟨⟨⟨m,z,z⟩,hk⟩,⟨⟨o,z,z⟩,hk⟩,⟨⟨z,m,z⟩,hk⟩,⟨⟨z,o,z⟩,hk⟩,⟨⟨z,z,m⟩,hk⟩,⟨z,z,o⟩,hk⟩
theorem HJ(hx:lv m x)(hy:lv n y)(hm:m<=1000)(hn:n<=1000):uh x y=some (x*y):=by
 unfold uh;rw[uA hx (by omega),uA hy (by omega)];rfl
def Oe(L:att H3)(k:Nat)(r:att iK×Bool):Prop:=
 ∃a m D:Rat,a=7*(m*m*D)/\0<m/\0<D/\lv (3*k+1) a/\(∀h∈L,YW h.1 m/\wi h.2 D)/\
  ((r.2=true/\∃N,(∀h,h∈N↔h∈L\/h∈gw a)/\nu r.1 N)\/(r.2=false/\ ¬ ∃o,∀k∈L++gw a,val k o<0))
theorem UQ(hL:JP k L)(h1:1<=k)(hk:k<=90)(hlen:L.length<=50)(hp:∀h∈L,zI h.1):Yd (Oe L k) (nH L):=by
 unfold nH;refine Yd.each L (fun(s:att Rat×att Rat) i=>(s.1,s.2,i)) (fun A s=>((∀x∈s.1,lv k x)/\∀x∈s.2,lv k x)/\(∀h∈A,Oa h.1.1∈s.1/\Oa h.1.2.1∈s.1/\Oa h.1.2.2∈s.1/\Oa h.2∈s.2)/\s.1.length=3*A.length/\s.2.length=A.length) (fun A h C s k1 hA hP next=>?_) (fun s k1 hP=>?_) (s0:=([],[])) (by simp) (by omega)
 ·dsimp only;rw[jM hA,bD];refine Yd.bd (fp hA) ?_;obtain⟨g1,g2⟩:=hL h<|at_mem hA
  have al:=jm hA;refine Yd.each [h.1.1,h.1.2.1,h.1.2.2] (fun(t:att Rat) i=>(t,i)) (fun B t=>t=s.1++B.map Oa) (fun B x D t k2 hB hQ xp=>?_) (fun t k2 hQ=>?_) (s0:=s.1) (by simp) (by simp)
  ·dsimp only;have bl:=jm hB;rw[show [h.1.1,h.1.2.1,h.1.2.2].length=3 from rfl] at bl;rw[aW (show(B.length:Int)<3 by omega),bD];refine Yd.bd (fp hB) (Yd.bd (Xt x) (Yd.bd (app_1 (by omega) (by rw[hQ];simp;omega)) (Yd.bd (fF hB (by simp))<|xp _ ?_)));rw[hQ,wh,nR];rfl
  ·dsimp only;rw[show decide ((([h.1.1,h.1.2.1,h.1.2.2].length:Nat):Int)<3)=false from rfl,a8];refine Yd.bd (Xt h.2) (Yd.bd (app_1 (by omega) (by omega)) (Yd.bd (fF hA (by omega))<|next (_,_) ⟨⟨?_,?_⟩,?_,?_,?_⟩))
   ·intro x mx;rw[hQ] at mx;simp only[qg,HR,bN,aY,Aw,or_false] at mx;rcases mx with m|rfl|rfl|rfl
    ·exact hP.1.1 x m
    ·exact LZ g1.1
    ·exact LZ g1.2.1
    ·exact LZ g1.2.2
   ·intro x mx;rcases bN.1 mx with m|m
    ·exact hP.1.2 x m
    ·rw[cr.1 m];exact LZ g2
   ·intro g mg;rcases bN.1 mg with m|m
    ·obtain⟨a,b,c,d⟩:=hP.2.1 g m;rw[hQ];exact⟨pd _ a,pd _ b,pd _ c,pd _ d⟩
    ·rw[cr.1 m,hQ];simp
   ·rw[hQ];simp;omega
   ·simp;omega
 ·dsimp only;rw[gN,a8];obtain⟨⟨p1,p2⟩,p3,p4,p5⟩:=hP;refine Yd.iG (Kh p1 (by omega) (by omega)) fun m ⟨m1,m2,m3⟩=>?_
  have s7:lv 1 (7:Rat):=⟨gK aH,gK aH⟩;have a1:=vw s7 m2;have a2:=vw a1 m2;refine Yd.bd (x:=(7:Rat)) aH (Yd.bd (HJ s7 m2 (by omega) (by omega)) (Yd.bd (HJ a1 m2 (by omega) (by omega)) ?_));refine Yd.iG (Kh p2 (by omega) (by omega)) fun D ⟨D1,D2,D3⟩=>?_
  have a3:lv (3*k+1) (7*m*m*D):=gz (vw a2 D2) (by omega);have e:7*m*m*D=7*(m*m*D):=by grind
  have m0:0<m:=by grind
  have D0:0<D:=by grind
  have pos:0<7*m*m*D:=by
   have:=kC (kC m0 m0) D0;rw[e];grind
  refine Yd.bd (HJ a2 D2 (by omega) (by omega)) (Yd.iG (agV pos (by omega) a3 (by omega)) fun S IS=>?_);have pr:∀g∈L++gw (7*m*m*D),zI g.1:=fun g mg=>(bN.1 mg).elim (hp g)<|aas g
  have fw:JP (3*k+1) (L++gw (7*m*m*D)):=fun g mg=>(bN.1 mg).elim (fun h=>⟨xq (hL g h).1 (by omega),gz (hL g h).2 (by omega)⟩)<|UI a3 g
  refine Yd.iG (Yd.OL IS fw (by omega) (by simp[gw];omega) (fun h mh=>(hp h mh).nz) fun a ma b mb=>ZB (pr a ma)<|pr b mb) fun r hr=>Yd.mk ⟨_,m,D,e,m0,D0,a3,fun h mh=>?_,?_⟩
  ·obtain⟨a,b,c,d⟩:=p3 h mh;exact⟨⟨LY<|m3 _ a,LY<|m3 _ b,LY<|m3 _ c⟩,LY<|D3 _ d⟩
  ·rcases hr with⟨e1,N,n1,_,n3⟩|⟨e1,n⟩
   ·exact .inl ⟨e1,N,n1,n3⟩
   ·exact .inr ⟨e1,n⟩
theorem Oe.aj4(hp:∀h∈L,zI h.1)(hb:zQ L){m D:Rat}(e:a=7*(m*m*D))(m0:0<m)(D0:0<D)(hw:∀h∈L,YW h.1 m/\wi h.2 D){p:Q3}(mp:Mem L p):∀h∈gw a,val h p<0:=by
 rw[e];exact agc hb m0 D0 (fun h mh=>⟨(hp h mh).OU,hw h mh⟩) mp
theorem Oe.arw{r:att iK×Bool}(h:Oe L k r)(hp:∀h∈L,zI h.1)(hb:zQ L):(r.2=true/\nu r.1 L)\/(r.2=false/\ ¬ ∃o,∀k∈L,val k o<0):=by
 obtain⟨a,m,D,e,m0,D0,_,hw,hr⟩:=h;rcases hr with⟨e1,N,n1,n2⟩|⟨e1,n⟩
 ·exact .inl ⟨e1,(n2.drop n1 hb fun p mp=>Oe.aj4 hp hb e m0 D0 hw mp).1⟩
 ·refine .inr ⟨e1,fun⟨o,ho⟩=>n ⟨o,fun g mg=>?_⟩⟩;rcases bN.1 mg with mg|mg
  ·exact ho g mg
  ·exact Oe.aj4 hp hb e m0 D0 hw (fun g mg=>jQ<|ho g mg) g mg
theorem acp{g:H3->av8 Bool}{p:H3->Bool}(hg:∀x∈L,g x=some (p x))(hl:L.length<=100000000):fC L g=some (L.any p):=by
 have key:Yd (fun i=>decide (0<=i)=L.any p) (fZ L g):=by
  unfold fZ;refine Yd.each L (fun(_:Unit) i=>i) (fun A _=>A.any p=false) (fun A x C s k hA hP next=>?_) (fun s k hP=>?_) (s0:=()) rfl (by omega)
  ·rw[jM hA,bD];refine Yd.bd (fp hA) (Yd.bd (hg x<|at_mem hA) (Yd.cond (fun hc=>Yd.mk ?_) fun hc=>Yd.bd (fF hA (by omega))<|next () ?_))
   ·rw[aW (by omega),hA,Lt,List.any_cons,hc];simp
   ·rw[Lt,hP,List.any_cons,hc];rfl
  ·rw[gN,a8];exact Yd.mk (by rw[hP];rfl)
 obtain⟨r,r1,r2⟩:=key;unfold fC;rw[r1,<-r2];rfl
theorem Zk{x f:H3}(hx:ql n x.1/\lv n x.2)(hf:ql n f.1/\lv n f.2)(hn:n<=10000000000):mY x (f,l)=some (decide<|x=f):=by
 obtain⟨v,v1,_,v2⟩:=QD hx.1 hf.1 hn;have s:jC x.1 f.1=some (decide<|x.1=f.1):=by
  unfold jC;rw[v1];show some (decide<|v=0)=_
  congr 1;exact l8.2 v2
 have q:J4 x.2 f.2=some (decide<|x.2=f.2):=by unfold J4;rw[uA hx.2 hn,uA hf.2 hn];rfl
 have e:decide (x=f)=(decide (x.1=f.1)&&decide (x.2=f.2)):=by
  rw[HY];simp[Prod.ext_iff]
 unfold mY;rw[s,fi,e];cases decide (x.1=f.1)
 ·rfl
 ·show bd (J4 x.2 f.2) _=_;rw[q];rfl
theorem W5(hL:JP k L)(h1:1<=k)(hk:k<=90)(hlen:L.length<=50)(hp:∀h∈L,zI h.1):Yd (fun b=>b=true↔zQ L) (sZ L):=by
 unfold sZ;refine Yd.each L (fun(s:att H3) i=>(s,i)) (fun A s=>s=A.map fun h=>(h.1,(1:Rat))) (fun A h C s k1 hA hP next=>?_) (fun s k1 hP=>?_) (s0:=[]) rfl (by omega)
 ·dsimp only;rw[jM hA,bD];have al:=jm hA;refine Yd.bd (fp hA) (Yd.bd (xD<| .inl rfl) (Yd.bd (app_1 (by omega) (by rw[hP];simp;omega)) (Yd.bd (fF hA (by omega))<|next _ ?_)));rw[hP,wh];rfl
 ·dsimp only;rw[gN,a8];have hO:∀h∈s,∃g∈L,h=(g.1,(1:Rat)):=fun h mh=>by
   rw[hP] at mh;obtain⟨g,mg,e⟩:=bT.1 mh;exact⟨g,mg,e.symm⟩
  have hI:∀g∈L,(g.1,(1:Rat))∈s:=fun g mg=>by rw[hP];exact bT.2 ⟨g,mg,rfl⟩
  have sl:s.length=L.length:=by rw[hP,c7]
  have sp:∀h∈s,zI h.1:=fun h mh=>by obtain⟨g,mg,e⟩:=hO h mh;rw[e];exact hp g mg
  have sf:JP k s:=fun h mh=>by
   obtain⟨g,mg,e⟩:=hO h mh;rw[e];exact⟨(hL g mg).1,o8 (d:=1) (.inl rfl) k⟩
  have sb:zQ s↔zQ L:=by
   constructor
   ·intro hb d hd;obtain⟨h,mh,k⟩:=hb d hd;obtain⟨g,mg,e⟩:=hO h mh;rw[e] at k;exact⟨g,mg,k⟩
   ·intro hb d hd;obtain⟨g,mg,k⟩:=hb d hd;exact⟨_,hI g mg,k⟩
  refine Yd.iG (UQ sf h1 hk (by omega) sp) fun r hr=>?_
  obtain⟨a,m,D,e,m0,D0,la,hw,hr⟩:=hr;have a0:0<a:=by rw[e];have:=kC (kC m0 m0) D0;grind
  have s1:∀h∈s,0<h.2:=fun h mh=>by obtain⟨g,mg,e⟩:=hO h mh;rw[e];show(0:Rat)<1;grind
  rcases hr with⟨e1,N,n1,n2⟩|⟨e1,n⟩
  ·have nf:JP (3*k+1) N:=fun g mg=>(n1 g).1 mg|>.elim (fun h=>⟨xq (sf g h).1 (by omega),gz (sf g h).2 (by omega)⟩) (UI la g)
   have bf:=adR n2 n1 a0 s1 fun hb p mp=>Oe.aj4 sp hb e m0 D0 hw mp
   rw[<-sb,bf]
   generalize r.1=S at*
   have SL:S.length<=100000000:=by
    have:=tQ (l:=S.map (·.1)) (T:=s++gw a) (yu.2<|n2.WH.imp fun h=>h) fun x mx=>by
     obtain⟨f,mf,rfl⟩:=bT.1 mx;exact bN.2<|(n1 _).1 (n2.zF f mf).1
    simp[gw] at this;omega
   refine Yd.each S (fun(_:Unit) i=>i) (fun A _=>∀f∈A,f.1∈s) (fun A f C u k2 hA hQ next=>?_) (fun u k2 hQ=>?_) (s0:=()) (by simp) (by omega)
   ·rw[jM hA,bD];have mf:=at_mem hA;have ff:=nf f.1 (n2.zF f mf).1;refine Yd.bd (fp hA) (Yd.bd (acp (p:=fun x=>decide<|x=f.1) (fun x mx=>Zk (l:=f.2) ⟨xq (sf x mx).1 (show k<=3*k+1 by omega),gz (sf x mx).2 (by omega)⟩ ff (by omega)) (by omega)) ?_);refine Yd.cond (fun hc=>Yd.mk ?_) fun hc=>Yd.bd (fF hA SL)<|next () fun g mg=>?_
    ·constructor
     ·intro c;cases c
     ·intro c;have:=c f mf;rw[jl,LA] at hc;exact absurd (aW rfl)<|hc f.1 this
    ·rcases bN.1 mg with m|m
     ·exact hQ g m
     ·rw[cr.1 m];rw[Ib,H8] at hc;obtain⟨x,mx,e⟩:=hc;rw[<-aZ e];exact mx
   ·rw[gN,a8];exact Yd.mk ⟨fun _=>hQ,fun _=>rfl⟩
  ·refine absurd ⟨o3,fun g mg=>?_⟩ n;have v:val g o3= -g.2:=by unfold val;rw[Qa];grind
   rw[v];rcases bN.1 mg with mg|mg
   ·have:=s1 g mg;grind
   ·have ca:∀h∈gw a,h.2=a:=by rw[nt];exact⟨rfl,rfl,rfl,rfl,rfl,rfl⟩
    rw[ca g mg];grind
abbrev Q12:=Q3×Q3×Q3×Q3
def fc(f:Q12):Prop:=vc f.1 1 14/\vc f.2.1 1 14/\vc f.2.2.1 1 14/\vc f.2.2.2 1 14
def Y6(hx:bq x n)(hy:bq y n)(h0:0<n)(hn:n<=19000)(h:bU x=bU y):x=y:=by
 obtain⟨p,e1,⟨p1,p2⟩,_⟩:=zd hx h0 hn;obtain⟨r,e2,⟨r1,r2⟩,_⟩:=zd hy h0 hn;rw[h,e2] at e1;have e:=eQ e1;subst e;have key:∀{q:Bool×att Int} {a b:Int},qT q a->qT q b->a=b:=by
  rintro q a b ⟨_,h2,h3⟩ ⟨_,k2,k3⟩;rw[h2] at k2;rw[h3] at k3;have:=l8.1 k3;omega
 have d:=key r2 p2;exact(Rat.ext (key r1 p1) (by omega)).symm
def c4(a b c d e:Int):Int:=bif !decide (a=0) then a else bif !decide (b=0) then b else bif !decide (c=0) then c else bif !decide (d=0) then d else e
theorem D6(h:lv n x):bq x (n+1):=by
 have h1:=h.1;rw[qf] at h1;have e:(10:Nat)^n<10^(n+1):=Nat.pow_lt_pow_right (by omega) (by omega);exact⟨by omega,by have:=h.2;omega⟩
theorem V7(hx:lv m x)(hy:lv n y):lv (m+n) (x*y):=vw hx hy
theorem ab4(h:bc x (1+1) n):lv (n+1) x:=J9 h (by omega) (by omega)
theorem lva(hx:lv m x)(hy:lv n y):lv (m+n+1) (x+y):=ab4<|En hx hy
theorem lvs(hx:lv m x)(hy:lv n y):lv (m+n+1) (x-y):=ab4<|W9 hx hy
theorem lvi(hx:lv n x)(h0:x≠0):lv n x⁻¹ :=Xa (e:=0) hx h0 (by omega)
end
section
variable{m n:Nat}{x y:Rat}(hx:lv m x)(hy:lv n y)(hm:m<=18000)(hn:n<=18000)
include hx hy hm hn
theorem Kj:fJ (bU x) (bU y)=some (bU<|x*y):=afn (D6 hx) (D6 hy) ⟨by omega,by omega⟩ ⟨by omega,by omega⟩
theorem UD:jK (bU x) (bU y)=some (bU<|x+y):=Xx (D6 hx) (D6 hy) ⟨by omega,by omega⟩ ⟨by omega,by omega⟩
theorem P7:jo (bU x) (bU y)=some (bU<|x-y):=afl (D6 hx) (D6 hy) ⟨by omega,by omega⟩ ⟨by omega,by omega⟩
end
section
variable{n:Nat}{x:Rat}
theorem Nj(h:lv n x)(hn:n<=18000):(bU x).length<1000000:=by have:=Pl (D6 h) (by omega);omega
theorem WB(h:lv n x)(hn:n<=18000):jg (bU x)=some x.num.sign:=by
 rw[Tl<|Nj h hn]
 congr 1
 by_cases h0:x=0
 ·subst h0;rfl
 ·rw[bC h0,a8];have hn:x.num≠0:=fun e=>h0<|tm.1 e
  by_cases h1:x.num<0
  ·rw[aW h1,bD,pY h1]
  ·rw[bC h1,a8,pe (by omega)]
theorem adp{m:Nat}{y:Rat}(hx:lv m x)(hy:lv n y)(hm:m<=18000)(hn:n<=18000)(h:bU x=bU y):x=y:=
 Y6 (D6<|gz hx hm) (D6<|gz hy hn) (by omega) (by omega) h
end
section
variable{m n:Nat}{v w:Q3}(hv:ql m v)(hw:ql n w)
include hv hw
theorem afL:ql (m+n+1) (cg v w):=⟨lvs hv.1 hw.1,lvs hv.2.1 hw.2.1,lvs hv.2.2 hw.2.2⟩
theorem Li:ql (m+n+1) (j4 v w):=⟨lva hv.1 hw.1,lva hv.2.1 hw.2.1,lva hv.2.2 hw.2.2⟩
theorem sN:ql (2*(m+n)+1) (aG v w):=by
 have k:∀{a b c d:Rat},lv m a->lv n b->lv m c->lv n d->lv (2*(m+n)+1) (a*b-c*d):=fun h1 h2 h3 h4=>gz (lvs (V7 h1 h2)<|V7 h3 h4) (by omega)
 exact⟨k hv.2.1 hw.2.2 hv.2.2 hw.2.1,k hv.2.2 hw.1 hv.1 hw.2.2,k hv.1 hw.2.1 hv.2.1 hw.1⟩
theorem Nk:lv (3*(m+n)+2) (aP v w):=gz (lva (lva (V7 hv.1 hw.1)<|V7 hv.2.1 hw.2.1)<|V7 hv.2.2 hw.2.2) (by omega)
theorem ajV(h:m+n<=18000):uT (eJ v) (eJ w)=some (eJ<|cg v w):=by
 unfold uT eJ;dsimp only;rw[P7 hv.1 hw.1 (by omega) (by omega),fi,P7 hv.2.1 hw.2.1 (by omega) (by omega),fi,P7 hv.2.2 hw.2.2 (by omega) (by omega)];rfl
theorem adq(h:m+n<=18000):qE (eJ v) (eJ w)=some (eJ<|j4 v w):=by
 unfold qE eJ;dsimp only;rw[UD hv.1 hw.1 (by omega) (by omega),fi,UD hv.2.1 hw.2.1 (by omega) (by omega),fi,UD hv.2.2 hw.2.2 (by omega) (by omega)];rfl
theorem Yt(h:2*(m+n)+1<=18000):oZ (eJ v) (eJ w)=some (bU<|aP v w):=by
 unfold oZ eJ;dsimp only;rw[Kj hv.1 hw.1 (by omega) (by omega),fi,Kj hv.2.1 hw.2.1 (by omega) (by omega),fi,UD (V7 hv.1 hw.1) (V7 hv.2.1 hw.2.1) (by omega) (by omega),fi,Kj hv.2.2 hw.2.2 (by omega) (by omega),fi,UD (lva (V7 hv.1 hw.1)<|V7 hv.2.1 hw.2.1) (V7 hv.2.2 hw.2.2) (by omega) (by omega)];rfl
theorem Fb(h:m+n<=18000):iF (eJ v) (eJ w)=some (eJ<|aG v w):=by
 have k:∀{a b c d:Rat},lv m a->lv n b->lv m c->lv n d->∀{ρ:Type} (K:ad3->av8 ρ),(bd (fJ (bU a)<|bU b) fun x=>bd (fJ (bU c)<|bU d) fun y=>bd (jo x y) K)=K (bU<|a*b-c*d):=fun h1 h2 h3 h4 ρ K=>by
  rw[Kj h1 h2 (by omega) (by omega),fi,Kj h3 h4 (by omega) (by omega),fi,P7 (V7 h1 h2) (V7 h3 h4) (by omega) (by omega),fi]
 unfold iF eJ;dsimp only;rw[k hv.2.1 hw.2.2 hv.2.2 hw.2.1,k hv.2.2 hw.1 hv.1 hw.2.2,k hv.1 hw.2.1 hv.2.1 hw.1];rfl
end
section
variable{h:bV}{n:Nat}{v:Q3}{m:Nat}
theorem Gg{a:Rat}(hv:ql m v)(ha:lv n a):ql (m+n) (ik v a):=⟨V7 hv.1 ha,V7 hv.2.1 ha,V7 hv.2.2 ha⟩
theorem IA{a:Rat}(hv:ql m v)(ha:lv n a)(h:m+n<=18000):km (bU a) (eJ v)=some (eJ<|ik v a):=by
 unfold km eJ;dsimp only;rw[Kj ha hv.1 (by omega) (by omega),fi,Kj ha hv.2.1 (by omega) (by omega),fi,Kj ha hv.2.2 (by omega) (by omega),Rat.mul_comm a,Rat.mul_comm a,Rat.mul_comm a];rfl
theorem ajW{w:Q3}(hv:ql m v)(hw:ql n w)(hm:m<=18000)(hn:m+n<=18000)(h:eJ v=eJ w):v=w:=by
 have a:=congrArg (·.1) h;have b:=congrArg (·.2.1) h;have c:=congrArg (·.2.2) h;exact lW (adp hv.1 hw.1 (by omega) (by omega) a) (adp hv.2.1 hw.2.1 (by omega) (by omega) b) (adp hv.2.2 hw.2.2 (by omega) (by omega) c)
theorem acn:aga v=true↔v=o3:=by
 unfold aga o3;simp[Prod.ext_iff]
theorem WA(h:ql n v)(hn:n<=18000):oJ (eJ v)=some (decide<|v=o3):=by
 have t1:=Bt v.1<|Nj h.1 hn
 have t2:=Bt v.2.1<|Nj h.2.1 hn
 have t3:=Bt v.2.2<|Nj h.2.2 hn
 have e:decide (v=o3)=aga v:=by rw[HY,acn,jc]
 show some (decide<|eJ v=(([48]:ad3),([48]:ad3),([48]:ad3)))=_;rw[e];unfold aga;rw[<-t1,<-t2,<-t3]
 congr 1
 rw[HY];unfold eJ;simp[Prod.ext_iff]
abbrev N3:=Int×Int×Int
def rq(s:ad3):Rat:=(nP s).getD 0
def rn(n:N3):Q3:=((n.1:Rat),(n.2.1:Rat),(n.2.2:Rat))
def rh(h:bV):H3:=(rn h.1,rq h.2)
def xv(n:N3):Nat:=Nat.gcd (Nat.gcd n.1.natAbs n.2.1.natAbs) n.2.2.natAbs
def p7(x:Int):Bool:=decide (999999999<x)||decide (x< -999999999)
structure xP(h:bV):Prop where
 num:isNum h.2 (rq h.2)
 x:p7 h.1.1=false
 y:p7 h.1.2.1=false
 z:p7 h.1.2.2=false
 g:xv h.1=1
theorem AI{x:Int}(h:p7 x=false): -999999999<=x/\x<=999999999:=by
 unfold p7 at h;rw[se] at h;have a:=br h.1;have b:=br h.2;omega
theorem xP.aoq(o:xP h):zI (rh h).1:=⟨_,_,_,rfl,o.g⟩
theorem Rx{x:Int}(h:p7 x=false)(hn:9<=n):lv n (x:Rat):=by
 have:=AI h;have e:(10:Nat)^9<=10^n:=pX (by omega) hn;refine⟨?_,?_⟩
 ·rw[Ap];omega
 ·rw[EU];omega
theorem xP.lvn(o:xP h)(hn:9<=n):ql n (rh h).1:=⟨Rx o.x hn,Rx o.y hn,Rx o.z hn⟩
theorem xP.Rw(o:xP h):lv 14 (rh h).2:=anm o.num.2.1
theorem xP.few{L:att bV}(o:∀h∈L,xP h):JP 14 (L.map rh):=fun g mg=>by
 obtain⟨h,mh,rfl⟩:=bT.1 mg;exact⟨(o h mh).lvn (by omega),(o h mh).Rw⟩
theorem xP.ahp{L:att bV}(o:∀h∈L,xP h):∀g∈L.map rh,zI g.1:=fun g mg=>by
 obtain⟨h,mh,rfl⟩:=bT.1 mg;exact(o h mh).aoq
theorem xP.txt(o:xP h):h.2=bU (rh h).2:=o.num.1
theorem QX{k:bV}(a:xP h)(b:xP k)(e:rh h=rh k):h=k:=by
 have e1:=congrArg (·.1.1) e;have e2:=congrArg (·.1.2.1) e;have e3:=congrArg (·.1.2.2) e;have e4:=congrArg (·.2) e;exact Prod.ext (Prod.ext (Lu.1 e1)<|Prod.ext (Lu.1 e2)<|Lu.1 e3) (by rw[a.txt,b.txt,e])
def NU(n:N3)(c:Int):Int:=bif decide (xv n=0) then 6 else bif p7 n.1||(p7 n.2.1||p7 n.2.2) then 3 else bif !decide (xv n=1) then 1 else c
theorem Qx(b:Bool)(n:Int):uN b n=some (bif b then n else 0):=by cases b<;>rfl
theorem ajU(a b c d:Int):wM [a,b,c,d]=some (bif !decide (a=0) then a else bif !decide (b=0) then b else bif !decide (c=0) then c else d):=by
 obtain⟨F,hF⟩:∃F,18446744073709551616=F+5:=⟨18446744073709551611,rfl⟩;unfold wM;rw[hF];show cond (!decide (a=0)) (some a) (cond (!decide (b=0)) (some b)<|cond (!decide (c=0)) (some c)<|cond (!decide (d=0)) (some d)<|some 0)=_;cases ha:decide (a=0)
 ·rfl
 ·cases hb:decide (b=0)
  ·rfl
  ·cases hc:decide (c=0)
   ·rfl
   ·cases hd:decide (d=0)
    ·rfl
    ·rw[aZ hd];rfl
theorem KX{z:Int}(h:z.natAbs<=9223372036854775808):uC z=true:=wH (n:=20) (by omega) (by omega)
def in3(n:N3):Prop:=Bh n.1/\Bh n.2.1/\Bh n.2.2
theorem KA(hi:in3 h.1){c:Int}(hc:nG h.2=some c):fe h=some (NU h.1 c):=by
 have key:Yd (fun r=>r=NU h.1 c) (fe h):=by
  unfold fe;refine Yd.bd (x:=0) rfl ?_;refine Yd.each [h.1.1,h.1.2.1,h.1.2.2] (fun(s:Int×Bool) i=>(s.1,s.2,i)) (fun A s=>s.1=((A.foldl (fun g x=>Nat.gcd g x.natAbs) 0:Nat):Int)/\s.2=A.any p7) (fun A x C s k hA hP next=>?_) (fun s k hP=>?_) (s0:=(0,false)) ⟨rfl,rfl⟩ (by simp)
  ·dsimp only;have al:=jm hA;rw[show [h.1.1,h.1.2.1,h.1.2.2].length=3 from rfl] at al;rw[aW (show(A.length:Int)<3 by omega),bD];have ix:Bh x:=by have:=at_mem hA;simp at this;rcases this with rfl|rfl|rfl;exact hi.1;exact hi.2.1;exact hi.2.2
   have gl:(A.foldl (fun g x=>Nat.gcd g x.natAbs) 0)<=9223372036854775808:=by
    have hA':∀y∈A,y.natAbs<=9223372036854775808:=fun y my=>by
     have:y∈[h.1.1,h.1.2.1,h.1.2.2]:=by rw[hA];simp[my]
     have b1:=hi.1;have b2:=hi.2.1;have b3:=hi.2.2;unfold Bh at b1 b2 b3;simp at this;omega
    have:∀(l:att Int) (g:Nat),g<=9223372036854775808->(∀y∈l,y.natAbs<=9223372036854775808)->l.foldl (fun g x=>Nat.gcd g x.natAbs) g<=9223372036854775808:=by
     intro l
     induction l with
     |nil=>intro g hg _;exact hg
     |cons y l ih=>
      intro g hg hl;refine ih _ ?_ fun z mz=>hl z<|cW _ mz
      have:=hl y gJ;rcases r9 g with e|e
      ·subst e;show Nat.gcd 0 y.natAbs<=_;rw[EY];exact this
      ·exact df (Nat.gcd_le_left _ e) hg
    exact this A 0 (by omega) hA'
   unfold Bh at ix;refine Yd.bd (fp hA) (Yd.bd (aM ix) (Yd.bd (x:=(x.natAbs:Int)) rfl (Yd.bd (x:=((Nat.gcd (A.foldl (fun g x=>Nat.gcd g x.natAbs) 0) x.natAbs:Nat):Int)) ?_ (Yd.bd (fF hA (by simp))<|next (_,_) ⟨?_,?_⟩))))
   ·unfold Oc;rw[hP.1,KX (by rw[iU];exact gl),KX (by rw[iU];omega)];rfl
   ·rw[List.foldl_append];rfl
   ·rw[Lt,hP.2];show((A.any p7||_)||_)=(_||(p7 x||false));rw[Lp,Bool.or_assoc];rfl
  ·dsimp only;rw[show decide ((([h.1.1,h.1.2.1,h.1.2.2].length:Nat):Int)<3)=false from rfl,a8];have e1:s.1=((xv h.1:Nat):Int):=by rw[hP.1];show((Nat.gcd (Nat.gcd (Nat.gcd 0 _) _) _:Nat):Int)=_;rw[EY];rfl
   have e2:s.2=(p7 h.1.1||(p7 h.1.2.1||p7 h.1.2.2)):=by rw[hP.2];simp[List.any]
   rw[e1,e2];have sm:Bf ((xv h.1:Nat):Int)=some (bif yA ((xv h.1:Nat):Int) then(((xv h.1:Nat):Int),true) else(((xv h.1:Nat):Int).sign,false)):=by
    unfold Bf;rw[bC (by omega)];rfl
   refine Yd.bd sm<|Yd.bd (x:=((xv h.1:Nat):Int).sign) rfl<|Yd.bd (Qx _ _)<|Yd.bd (Qx _ _)<|Yd.bd (Qx _ _)<|Yd.bd hc<|Yd.bd (ajU _ _ _ _)<|Yd.mk ?_
   unfold NU
   generalize (p7 h.1.1||(p7 h.1.2.1||p7 h.1.2.2))=f at*
   have hs:decide (((xv h.1:Nat):Int).sign=0)=decide (xv h.1=0):=l8.2 (by rw[Int.sign_eq_zero_iff_zero];omega);rw[hs];cases h0:decide (xv h.1=0)
   ·cases f
    ·by_cases hb:yA ((xv h.1:Nat):Int)=true
     ·rw[hb];have h1:decide (((xv h.1:Nat):Int)=1)=decide (xv h.1=1):=l8.2 (by omega);simp only[bD,h1,Am,An,a8];cases decide (xv h.1=1)<;>rfl
     ·rw[Lz] at hb;have h1:decide (xv h.1=1)=false:=by
       refine bC fun e=>?_
       rw[e] at hb;cases hb
      rw[hb,h1];rfl
    ·rfl
   ·rfl
 obtain⟨r,e,rfl⟩:=key;exact e
theorem MT{a b:Int}(ha: -999999999<=a/\a<=999999999)(hb: -999999999<=b/\b<=999999999):oG a b=some ((Nat.gcd a.natAbs b.natAbs:Nat):Int):=by
 have key:Yd (fun r=>r=((Nat.gcd a.natAbs b.natAbs:Nat):Int)) (oG a b):=by
  unfold oG;refine Yd.lp (fun s:Int×Int=>Nat.gcd s.1.natAbs s.2.natAbs=Nat.gcd a.natAbs b.natAbs/\(-999999999<=s.1/\s.1<=999999999)/\(-999999999<=s.2/\s.2<=999999999)) (fun s=>s.2.natAbs) (fun next s hs hn=>?_) _ _ ⟨rfl,ha,hb⟩ (by show b.natAbs<_;omega);obtain⟨h1,h2,h3⟩:=hs;refine Yd.cond (fun hc=>?_) fun hc=>?_
  ·have h0:s.2≠0:=by simpa using hc
   have t:=Int.natAbs_tmod s.1 s.2;have lt:=te s.1.natAbs (show 0<s.2.natAbs by omega);refine Yd.bd (x:=s.1.tmod s.2) (by unfold tC;rw[bC h0];rfl) (hn (_,_) ⟨?_,h3,by dsimp only;omega⟩ (by dsimp only;omega));dsimp only;rw[t,Ak,<-Nat.gcd_rec,Ak,h1]
  ·have h0:s.2=0:=by simpa using hc
   refine Yd.bd (x:=0-s.1) (aM ⟨by omega,by omega⟩)<|Yd.mk ?_
   rw[VY,<-h1,h0];simp
 obtain⟨r,e,rfl⟩:=key;exact e
theorem OP{c:Int}(hc:nL h.2=some c):iV h=some (NU h.1 c):=by
 have key:Yd (fun r=>r=NU h.1 c) (iV h):=by
  unfold iV NU;have z:decide (h.1=((0:Int),(0:Int),(0:Int)))=decide (xv h.1=0):=l8.2 (by
   unfold xv;rw[Nat.gcd_eq_zero_iff,Nat.gcd_eq_zero_iff,Prod.ext_iff,Prod.ext_iff];simp only[Int.natAbs_eq_zero,and_assoc])
  rw[z];refine Yd.cond (fun hz=>by rw[hz];exact Yd.mk rfl) fun hz=>?_
  rw[hz,a8];refine Yd.each [h.1.1,h.1.2.1,h.1.2.2] (fun(_:Unit) i=>i) (fun A _=>A.any p7=false) (fun A x C s k hA hP next=>?_) (fun s k hP=>?_) (s0:=()) rfl (by simp)
  ·have al:=jm hA;rw[show [h.1.1,h.1.2.1,h.1.2.2].length=3 from rfl] at al;rw[aW (show(A.length:Int)<3 by omega),bD];refine Yd.bd (fp hA) ?_;have fin:∀y,y=x\/decide (x< -999999999)=true->Yd (fun r=>r=(bif p7 h.1.1||(p7 h.1.2.1||p7 h.1.2.2) then 3 else bif !decide (xv h.1=1) then 1 else c)) (cond (decide (x< -999999999)||decide (999999999<y)) (some 3)<|bd (aL<|(A.length:Int)+1) k):=by
    intro y hy;have e:(decide (x< -999999999)||decide (999999999<y))=p7 x:=by
     unfold p7;rcases hy with rfl|hy
     ·rw[Bool.or_comm]
     ·rw[hy];simp
    rw[e];refine Yd.cond (fun hf=>Yd.mk ?_) fun hf=>Yd.bd (fF hA (by simp))<|next () ?_
    ·have:(p7 h.1.1||(p7 h.1.2.1||p7 h.1.2.2))=true:=by
      have:=at_mem hA;simp at this;rcases this with rfl|rfl|rfl<;>rw[hf]<;>simp
     rw[this];rfl
    ·rw[Lt,hP];show(false||(p7 x||false))=false;rw[hf];rfl
   cases hx:decide (x< -999999999)
   ·rw[hx] at fin;exact Yd.bd (fp hA)<|fin x<| .inl rfl
   ·rw[hx] at fin;exact fin 0<| .inr rfl
  ·rw[show decide ((([h.1.1,h.1.2.1,h.1.2.2].length:Nat):Int)<3)=false from rfl,a8];simp only[List.any_cons,List.any_nil,Lp,se] at hP;obtain⟨p1,p2,p3⟩:=hP;have b1:=AI p1;have b2:=AI p2;have b3:=AI p3;have g0:xv h.1≠0:=br hz;have gl:Nat.gcd h.1.1.natAbs h.1.2.1.natAbs<=999999999:=by
    rcases r9 h.1.1.natAbs with e|e
    ·rw[e,EY];omega
    ·exact df (Nat.gcd_le_left _ e) (by omega)
   refine Yd.bd (MT b1 b2) (Yd.bd (MT (b:=h.1.2.2) ⟨by omega,by omega⟩ b3) ?_);rw[iU,p1,p2,p3];have e:decide ((((Nat.gcd (Nat.gcd h.1.1.natAbs h.1.2.1.natAbs) h.1.2.2.natAbs:Nat)):Int)=1)=decide (xv h.1=1):=l8.2 (by unfold xv;omega);rw[e];refine Yd.cond (fun h1=>by rw[h1];exact Yd.mk rfl) fun h1=>by rw[h1];exact Yd.bd hc<|Yd.mk rfl
 obtain⟨r,e,rfl⟩:=key;exact e
theorem N2(hi:in3 h.1)(hl:h.2.length<=14):∃c,fe h=some c/\iV h=some c/\(c=0->xP h):=by
 obtain⟨c,c1,c2,c3⟩:=W6 hl;refine⟨_,KA hi c1,OP c2,fun e=>?_⟩;unfold NU at e;cases h0:decide (xv h.1=0) with
 |true=>rw[h0] at e;cases e
 |false=>
  rw[h0,a8] at e;cases hf:p7 h.1.1||(p7 h.1.2.1||p7 h.1.2.2) with
  |true=>rw[hf] at e;cases e
  |false=>
   rw[hf,a8] at e;cases h1:decide (xv h.1=1) with
   |false=>rw[h1] at e;cases e
   |true=>
    rw[h1] at e;obtain⟨q,hq⟩:=c3 e;rw[se,se] at hf;refine⟨?_,hf.1,hf.2.1,hf.2.2,aZ h1⟩;unfold rq;rw[hq.2.2];exact hq
theorem JI{l:att bV}(hl:∀h∈l,in3 h.1/\h.2.length<=14)(hn:l.length<=100000000):∃c,jF l=some c/\kV l=some c/\(c=0->∀h∈l,xP h):=by
 let f:bV->Int:=fun h=>(fe h).getD 0
 have hf:∀h∈l,fe h=some (f h)/\iV h=some (f h)/\(f h=0->xP h):=fun h mh=>by
  obtain⟨c,c1,c2,c3⟩:=N2 (hl h mh).1 (hl h mh).2;have:f h=c:=by show(fe h).getD 0=c;rw[c1];rfl
  rw[this];exact⟨c1,c2,c3⟩
 let g:att bV->Int:=fun l=>((l.map f).find? fun c=> !decide (c=0)).getD 0
 have one:∀(chk:bV->av8 Int),(∀h∈l,chk h=some (f h))->Yd (fun r=>r=g l) (lp 18446744073709551616 (fun k2 (s1:Int)=>cond (decide<|s1<(l.length:Int)) (bd (bo l s1) fun x4=>bd (chk x4) fun x6=>cond (!decide (x6=0)) (some x6)<|bd (aL<|s1+1) fun x9=>k2 x9)<|some 0) 0):=by
  intro chk ap7;refine Yd.each l (fun(_:Unit) i=>i) (fun A _=>∀h∈A,f h=0) (fun A x C s k hA hP next=>?_) (fun s k hP=>?_) (s0:=()) (by simp) (by omega)
  ·rw[jM hA,bD];refine Yd.bd (fp hA)<|Yd.bd (ap7 x<|at_mem hA)<|Yd.cond (fun hc=>Yd.mk ?_) fun hc=>Yd.bd (fF hA hn)<|next () fun h mh=>?_
   ·show _=((l.map f).find? _).getD 0;rw[hA,wh,List.find?_append,List.find?_eq_none.2 (fun c mc=>by obtain⟨h,mh,rfl⟩:=bT.1 mc;rw[hP h mh];simp),qg,List.find?_cons_of_pos (p:=fun c:Int=> !decide (c=0)) (a:=f x) hc];rfl
   ·rcases bN.1 mh with m|m
    ·exact hP h m
    ·rw[cr.1 m];simpa using hc
  ·rw[gN,a8];refine Yd.mk ?_;show _=((l.map f).find? _).getD 0;rw[List.find?_eq_none.2 (fun c mc=>by obtain⟨h,mh,rfl⟩:=bT.1 mc;rw[hP h mh];simp)];rfl
 obtain⟨r,r1,rfl⟩:=one fe fun h mh=>(hf h mh).1
 obtain⟨r,r2,rfl⟩:=one iV fun h mh=>(hf h mh).2.1
 refine⟨g l,r1,r2,fun e h mh=>(hf h mh).2.2 ?_⟩;refine eK fun hne=>?_
 have:((l.map f).find? fun c=> !decide (c=0)).getD 0=0:=e;cases hF:(l.map f).find? fun c=> !decide (c=0) with
 |none=>exact List.find?_eq_none.1 hF (f h) (bT.2 ⟨h,mh,rfl⟩) (by simpa using hne)
 |some c=>
  rw[hF] at this;have c0:c=0:=this;have:=List.find?_some hF;rw[c0] at this;cases this
theorem VM{x:Int}(h:p7 x=false):qF x=some (x:Rat):=by
 have:=AI h;unfold qF;rw[aM ⟨by omega,by omega⟩];rfl
theorem xP.from(o:xP h):ou h=some (rh h):=by
 unfold ou pB;rw[VM o.x,VM o.y,VM o.z,o.num.2.2];rfl
theorem afo{l:att bV}(o:∀h∈l,xP h)(hl:l.length<=100000000):rp l=some (l.map rh):=by
 have key:Yd (fun r=>r=l.map rh) (rp l):=by
  unfold rp;refine Yd.each l (fun(s:att H3) i=>(s,i)) (fun A s=>s=A.map rh) (fun A x C s k hA hP next=>?_) (fun s k hP=>?_) (s0:=[]) rfl (by omega)
  ·dsimp only;rw[jM hA,bD];have al:=jm hA;exact Yd.bd (fp hA) (Yd.bd (o x<|at_mem hA).from (Yd.bd (app_1 (by omega) (by rw[hP,c7];omega)) (Yd.bd (fF hA hl) (next _ (by rw[hP,wh];rfl)))))
  ·dsimp only;rw[gN,a8];exact Yd.mk hP
 obtain⟨r,e,rfl⟩:=key;exact e
def O5(a b:N3):Prop:=a.1<b.1\/a.1=b.1/\(a.2.1<b.2.1\/a.2.1=b.2.1/\a.2.2<b.2.2)
instance(a b:N3):Decidable (O5 a b):=by unfold O5;exact inferInstance
theorem Ek(a b:Int):kL a b=some (bif decide (a<b) then -1 else bif decide (b<a) then 1 else 0):=by
 unfold kL pD;rw[aW rfl,aW rfl];simp only[bd,Am,a8];cases decide (a<b)
 ·cases decide (b<a)<;>rfl
 ·rfl
theorem Qj(a b:N3):∃v,oD a b=some v/\(v<0↔O5 a b):=by
 unfold oD;rw[Ek,Ek,Ek];simp only[bd];rw[or3];refine⟨_,rfl,?_⟩;obtain⟨a1,a2,a3⟩:=a;obtain⟨b1,b2,b3⟩:=b;unfold O5;simp only;have Vt:∀x y:Int,(x<y/\ ¬y<x/\x≠y)\/(¬x<y/\ ¬y<x/\x=y)\/(¬x<y/\y<x/\x≠y):=fun x y=>by omega
 rcases Vt a1 b1 with⟨h1,h2,h3⟩|⟨h1,h2,h3⟩|⟨h1,h2,h3⟩<;>rcases Vt a2 b2 with⟨g1,g2,g3⟩|⟨g1,g2,g3⟩|⟨g1,g2,g3⟩<;>rcases Vt a3 b3 with⟨k1,k2,k3⟩|⟨k1,k2,k3⟩|⟨k1,k2,k3⟩<;>simp[h1,h2,h3,g1,g2,g3,k1,k2,k3]
theorem MV(a b:N3):oF a b=some (decide<|O5 a b):=by
 have key:Yd (fun r=>r=decide (O5 a b)) (oF a b):=by
  unfold oF;refine Yd.each [(a.1,b.1),(a.2.1,b.2.1),(a.2.2,b.2.2)] (fun(_:Unit) i=>i) (fun A _=>∀p∈A,p.1=p.2) (fun A x C s k hA hP next=>?_) (fun s k hP=>?_) (s0:=()) (by simp) (by simp)
  ·have al:=jm hA;rw[show [(a.1,b.1),(a.2.1,b.2.1),(a.2.2,b.2.2)].length=3 from rfl] at al;rw[aW (show(A.length:Int)<3 by omega),bD];have ix:=fp hA;have i1:bo [a.1,a.2.1,a.2.2] (A.length:Int)=some x.1:=by
    rw[Io] at ix⊢;have:=congrArg (Option.map (·.1)) ix;rwa [<-kD] at this
   have i2:bo [b.1,b.2.1,b.2.2] (A.length:Int)=some x.2:=by
    rw[Io] at ix⊢;have:=congrArg (Option.map (·.2)) ix;rwa [<-kD] at this
   refine Yd.bd i1 (Yd.bd i2 (Yd.cond (fun hc=>Yd.bd i1<|Yd.bd i2<|Yd.mk<|l8.2 ?_) fun hc=>Yd.bd (fF hA (by simp))<|next () fun p mp=>?_))
   ·have hne:x.1≠x.2:=by simpa using hc
    unfold O5;rcases A with _|⟨a0,_|⟨a1,_|⟨a2,A⟩⟩⟩
    ·simp only[qL,H4] at hA;obtain⟨e,_⟩:=hA;subst e;dsimp only at hne⊢;omega
    ·simp only[Ax,qL,H4] at hA;obtain⟨e0,e,_⟩:=hA;have h0:=hP a0 (by simp);subst e0 e;dsimp only at hne h0⊢;omega
    ·simp only[Ax,qL,H4] at hA;obtain⟨e0,e1,e,_⟩:=hA;have h0:=hP a0 (by simp);have h1:=hP a1 (by simp);subst e0 e1 e;dsimp only at hne h0 h1⊢;omega
    ·simp at al
   ·rcases bN.1 mp with m|m
    ·exact hP p m
    ·rw[cr.1 m];simpa using hc
  ·rw[show decide ((([(a.1,b.1),(a.2.1,b.2.1),(a.2.2,b.2.2)].length:Nat):Int)<3)=false from rfl,a8];refine Yd.mk (bC ?_).symm;have h0:=hP _ (by simp:(a.1,b.1)∈_);have h1:=hP _ (by simp:(a.2.1,b.2.1)∈_);have h2:=hP _ (by simp:(a.2.2,b.2.2)∈_);dsimp only at h0 h1 h2;unfold O5;omega
 obtain⟨r,e,rfl⟩:=key;exact e
end
end Trn
