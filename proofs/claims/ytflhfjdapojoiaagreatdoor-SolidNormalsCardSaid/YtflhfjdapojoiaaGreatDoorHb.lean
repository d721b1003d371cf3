/-
  Part of the proof of SolidNormals.
-/
import Derived.Test.YtflhfjdapojoiaaGreatDoorHa
set_option maxRecDepth 100000
set_option maxHeartbeats 20000000
set_option linter.all false
open Go Go.RowKit Go.Proofs Go.Proofs.Tryz
namespace Trn
section
variable{r:Int×att Int}{x y z:Int}{s:Int×att Int}
def Na{a b:att Int}(ha:Norm a)(hb:Norm b)(h0:b≠[])(hla:a.length<2199023255552)(Z9:b.length<2199023255552):
  Yd (fun r=>(Norm r.1/\aO r.1=aO a/aO b)/\Norm r.2/\aO r.2=aO a%aO b) (uW a b):=by
 unfold uW;have hbl:0<b.length:=by cases b;exact absurd rfl h0;simp
 have ha0:=(dw ha.1).1;refine Yd.iG (BD ha hb (by omega) (by omega)) fun c hc=>?_
 refine Yd.cond (fun hlt=>?_)<|fun hlt=>?_
 ·have hlt:=aZ hlt;have hv:aO a<aO b:=by rcases hc with h|h|h<;>omega
  exact Yd.mk ⟨⟨Norm.nil,by rw[Int.ediv_eq_zero_of_lt ha0 hv];rfl⟩,ha,by rw[Cw ha0 hv]⟩
 have hlt:=br hlt;have hv:aO b<=aO a:=by rcases hc with h|h|h<;>omega
 have auy:b.length<=a.length:=by
  rcases kQ a.length b.length with h|h
  ·have:=yY ha.1 hb h;omega
  ·exact h
 refine Yd.cond (fun h1=>?_)<|fun h1=>?_
 ·
  have h1:=aZ h1;have hl1:b.length=1:=by omega
  obtain⟨y,rfl⟩:∃y,b=[y]:=by
   cases b with
   |nil=>cases hl1
   |cons x t=>cases t with
    |nil=>exact⟨x,rfl⟩
    |cons _ _=>simp at hl1
  have hy:0<y/\y<BB:=by
   have:=sy.1 hb.1;have h2:y≠0:=fun e=>hb.2 (by rw[e];rfl)
   omega
  have eV:aO [y]=y:=by simp[aO]
  rw[eV] at hv⊢;refine Yd.bd (HG (by omega) (by omega) (by omega)) (Yd.bd (aM ⟨by omega,by omega⟩) ?_);refine Yd.lp (fun s:att Int×Int×Int=>okW s.1/\s.1.length=a.length/\(0<=s.2.1/\s.2.1<y)/\ -1<=s.2.2/\s.2.2<a.length/\aO (a.drop (s.2.2+1).toNat)=aO (s.1.drop (s.2.2+1).toNat)*y+s.2.1)
   (fun s:att Int×Int×Int=>(s.2.2+1).toNat) ?_ _ _ ⟨pL _,by simp only[xI];omega,⟨by dsimp only;omega,by dsimp only;omega⟩,by dsimp only;omega,by dsimp only;omega,?_⟩ (by dsimp only;omega)
  rotate_left
  ·have:((a.length:Int)-1+1).toNat=a.length:=by omega
   dsimp only;rw[this,Au,xJ (by simp)];simp[aO]
  rintro next ⟨o,r,i⟩ ⟨g1,g2,g3,g4,g5,g6⟩ hn
  dsimp only at g1 g2 g3 g4 g5 g6 hn⊢;refine Yd.cond (fun hp=>?_)<|fun hp=>?_
  ·have hp:=aZ hp;obtain⟨n,rfl⟩:=gL hp;simp only[toNat_succ',Int.toNat_natCast,u6] at*;refine Yd.bd (bJ (by omega))<|Yd.bd (show bo [y] 0=some y from rfl) ?_
   refine Yd.iG (Qb g3 (fg ha.1 n) hy.2) ?_;rintro⟨q,z⟩ ⟨d1,d2,d3⟩;dsimp only at d1 d2 d3⊢;refine Yd.bd (bJ (by omega)) (Yd.bd (bJ (by omega)) (Yd.bd (aM ⟨by omega,by omega⟩) ?_));refine hn _ ⟨mW g1 _ d1,by simpa using g2,d2,by dsimp only;omega,by dsimp only;omega,?_⟩ (by dsimp only;omega);have e:(((n:Nat):Int)-1+1).toNat=n:=by omega
   simp only[e];rw[oQ (by omega),wX (by omega),mK,mK,g6,kP,bt,eP,Int.mul_comm BB r];omega
  ·have hp:=br hp;have hi:i= -1:=by omega
   subst hi;have g6:aO a=aO o*y+r:=g6;refine Yd.iG (xo g1 (by omega)) fun w ⟨w1,w2,_⟩=>?_
   refine Yd.iG (xo (a:=[r]) (sy.2 ⟨⟨g3.1,by omega⟩,Hz⟩) (by simp)) fun z ⟨z1,z2,_⟩=>?_
   have er:aO [r]=r:=by simp[aO]
   obtain⟨u1,u2⟩:=xx g6 g3.1 g3.2;exact Yd.mk ⟨⟨w1,by dsimp only;rw[w2,u1]⟩,z1,by dsimp only;rw[z2,er,u2]⟩
 ·
  have h1:=br h1;obtain⟨k,hk⟩:∃k,b.length=k+2:=⟨b.length-2,by omega⟩;have hbt:0<b.getD (k+1) 0:=by
   have h3:=(fg hb.1<|k+1).1;rcases(show 0<b.getD (k+1) 0\/b.getD (k+1) 0=0 by omega) with h|h
   ·exact h
   ·refine absurd ?_ hb.2;rw[List.getLast?_eq_getElem?,show b.length-1=k+1 from by omega];rw[iy] at h;rw[j7 (by omega)] at h⊢;simpa using h
  obtain⟨s,l1,l2,l3,l4⟩:=ab3 hbt (fg hb.1<|k+1).2;have e1:((b.length:Int)-1)=((k+1:Nat):Int):=by omega
  rw[e1];refine Yd.bd (aM ⟨by omega,by omega⟩) (Yd.bd (bJ (by omega))<|Yd.bd l1 ?_);refine Yd.iG (J6 hb.1 l2 (by omega)) fun w0 ⟨p1,p2,p3⟩=>?_
  refine Yd.iG (xo p1 (by omega)) fun v ⟨v1,v2,_⟩=>?_
  rw[p3] at v2;obtain⟨v3,v4,v5,v6⟩:=Ro hb.1 hk l2 l3 l4 v1 v2;refine Yd.iG (J6 ha.1 l2 (by omega)) fun u0 ⟨q1,q2,q3⟩=>?_
  obtain⟨d,hd⟩:∃d,a.length=d+(k+2):=⟨a.length-(k+2),by omega⟩;have e2:((a.length:Int)-(v.length:Int))=((d:Nat):Int):=by omega
  rw[e2,v3];refine Yd.bd (aM ⟨by omega,by omega⟩) (Yd.bd (aM ⟨by omega,by omega⟩) (Yd.bd (HG (by omega) (by omega) (by omega)) (Yd.bd (aM ⟨by omega,by omega⟩) ?_)));have ps:=two_pos s;have hV0:0<aO v:=by
   have:=Int.mul_pos (o5<|k+1) ps;omega
  refine Yd.lp (fun t:att Int×att Int×Int=>okW t.1/\t.1.length=a.length+1/\okW t.2.1/\t.2.1.length=d+1/\ -1<=t.2.2/\t.2.2<=d/\aO (t.1.drop (t.2.2+1).toNat)<aO v/\
    aO a*2^s=aO v*(gX (t.2.2+1).toNat*aO (t.2.1.drop (t.2.2+1).toNat))+aO t.1)
   (fun t:att Int×att Int×Int=>(t.2.2+1).toNat) ?_ _ _ ⟨q1,q2,pL _,by simp only[xI];omega,by dsimp only;omega,by dsimp only;omega,?_,?_⟩ (by dsimp only;omega)
  rotate_left
  ·dsimp only;rw[toNat_succ'];have h3:=qu u0 (d+1) (by omega);have h4:=(dw<|mV q1<|d+1).1;rw[q3] at h3;have h5:=(dw ha.1).2;have h6:aO a*2^s<gX a.length*2^s:=Int.mul_lt_mul_of_pos_right h5 ps;rw[hd,show d+(k+2)=(d+1)+(k+1) from by omega,K7,eP] at h6;have h7:aO (u0.drop<|d+1)<gX (k+1)*2^s:=by
    rcases(show aO (u0.drop<|d+1)<gX (k+1)*2^s\/gX (k+1)*2^s<=aO (u0.drop<|d+1) by omega) with h|h
    ·exact h
    ·have:=gM h (fU<|o5<|d+1);omega
   omega
  ·dsimp only;rw[toNat_succ',xJ (by simp),<-q3];simp[aO]
  rintro next ⟨u,o,j⟩ ⟨g1,g2,g3,g4,g5,g6,g7,g8⟩ hn
  dsimp only at g1 g2 g3 g4 g5 g6 g7 g8 hn⊢;refine Yd.cond (fun hp=>?_)<|fun hp=>?_
  ·have hp:=aZ hp;obtain⟨n,rfl⟩:=gL hp;simp only[toNat_succ',Int.toNat_natCast,u6] at*;have e3:(((n:Nat):Int)+((k+2:Nat):Int))=((n+(k+2):Nat):Int):=by omega
   have e4:(((n+(k+2):Nat):Int)+1)=((n+(k+3):Nat):Int):=by omega
   have e5:(((n+(k+3):Nat):Int)-((n:Nat):Int)).toNat=k+3:=by omega
   rw[e3];refine Yd.bd (aM ⟨by omega,by omega⟩) ?_;rw[e4];refine Yd.bd (aM ⟨by omega,by omega⟩)<|Yd.gC ?_ ?_
   ·rw[aW (show(0:Int)<=(n:Int) by omega),aW (show((n:Nat):Int)<((n+(k+3):Nat):Int) by omega),aW (show((n+(k+3):Nat):Int)<=(u.length:Int) by omega)]
    rfl
   rw[e5];have okd:=xm g1 n;have hdl:(u.drop n).length=a.length+1-n:=by rw[lr,g2]
   have hw:((u.drop n).take<|k+3).length=k+3:=by rw[List.length_take];omega
   have hdn:u.drop n=u.getD n 0::u.drop (n+1):=oQ (by omega);have hun:=fg g1 n;have Wl:aO ((u.drop n).take<|k+3)<BB*aO v:=by
    rw[hdn,show k+3=(k+2)+1 from rfl,LH,mK];have h3:=aeU (xm g1<|n+1)<|k+2
    unfold BB at*;omega
   have acs:aO (u.drop<|n+(k+3))=0:=by
    have:=drop_zero (xm g1<|n+1) (n:=k+2) (by rw[lr];omega) (by omega);rw[iS] at this;rw[show n+(k+3)=n+1+(k+2) from by omega];exact this
   refine Yd.iG (abT (k:=k) (mV okd _) v1.1 hw v3 (by omega) v4 Wl) ?_;rintro⟨w,q⟩ ⟨s1,s2,s3,s4,s5⟩;dsimp only at s1 s2 s3 s4 s5⊢;refine Yd.gC ?_ ?_
   ·rw[s2,show Nat.blt 0 (k+3)=true from lz (by omega),show Nat.ble (n+(k+3)) u.length=true from lz (by omega),Nat.beq_refl]
    rfl
   refine Yd.bd (bJ (by omega)) (Yd.bd (bJ (by omega)) (Yd.bd (aM ⟨by omega,by omega⟩) ?_));have okt:=mV g1 n;have okz:=xm g1<|n+(k+3)
   have RM:(u.take n).length=n:=by rw[List.length_take];omega
   have e7:(((n:Nat):Int)-1+1).toNat=n:=by omega
   have evu:aO u=aO (u.take n)+gX n*aO ((u.drop n).take<|k+3):=by
    rw[qu u n (by omega),qu (u.drop n) (k+3) (by omega),iS,acs,Aj,EM]
   have evn:aO (u.take n++w++u.drop (n+(k+3)))=aO (u.take n)+gX n*aO w:=by
    rw[tM,tM,acs,Aj,EM,RM]
   have edn:(u.take n++w++u.drop (n+(k+3))).drop n=w++u.drop (n+(k+3)):=by
    rw[nR,vh,xJ (by omega),RM];simp
   refine hn _ ⟨M5.2 ⟨M5.2 ⟨okt,s1⟩,okz⟩,?_,mW g3 _ s3,by simpa using g4,by dsimp only;omega,by dsimp only;omega,?_,?_⟩ (by dsimp only;omega)
   ·dsimp only;rw[List.length_append,List.length_append,RM,s2,lr,g2];omega
   ·dsimp only;rw[e7,edn,tM,acs,Aj,EM];exact s5
   ·dsimp only;rw[e7,evn,wX (by omega),mK,g8,evu,s4,jA];have k1:aO v*(gX n*(q+BB*aO (o.drop<|n+1)))=gX n*(q*aO v)+aO v*(BB*gX n*aO (o.drop<|n+1)):=by
     rw[bt,bt,iT<|aO v,Int.mul_comm (aO v) q,iT (gX n) BB,eP BB]
    rw[k1,bt];omega
  ·have hp:=br hp;have hj:j= -1:=by omega
   subst hj;have g7:aO u<aO v:=g7;have g8:aO a*2^s=aO v*(gX 0*aO o)+aO u:=g8;rw[DL,Int.one_mul] at g8;have hu0:0<=aO u:=(dw g1).1;have hue:aO u=2^s*(aO a-aO b*aO o):=by
    rw[mE,Int.mul_comm _<|aO a,g8,v2,Int.mul_comm<|aO b,eP];omega
   have amt:∃c:Int,BB=2^s*c:=⟨_,(sr (s:=s) (by omega)).symm⟩;have ao6:u.getD 0 0%2^s=0:=by
    obtain⟨c,hc⟩:=amt;have h3:u=u.getD 0 0::u.drop 1:=oQ (n:=0) (l:=u) (by omega);have h4:aO u=u.getD 0 0+BB*aO (u.drop 1):=by rw[<-mK,<-h3]
    have h5:u.getD 0 0=2^s*(aO a-aO b*aO o-c*aO (u.drop 1)):=by
     rw[mE,<-hue,<-eP,<-hc];omega
    rw[h5,Int.mul_emod_right]
   refine Yd.lp (fun t:att Int×Int=>okW t.1/\t.1.length=a.length+1/\0<=t.2/\t.2<=(k+2:Nat)/\(∀m,t.2.toNat<=m->t.1.getD m 0=u.getD m 0)/\
     aO (t.1.take t.2.toNat)*2^s=aO (u.take t.2.toNat)+gX t.2.toNat*(u.getD t.2.toNat 0%2^s))
    (fun t:att Int×Int=>k+2-t.2.toNat) ?_ _ _ ⟨g1,g2,by dsimp only;omega,by dsimp only;omega,fun _ _=>rfl,?_⟩ (by dsimp only;omega)
   rotate_left
   ·show aO (u.take 0)*2^s=aO (u.take 0)+gX 0*(u.getD 0 0%2^s);rw[ao6];simp[aO]
   rintro xp ⟨r,i⟩ ⟨f1,f2,f3,f4,f5,f6⟩ P2;dsimp only at f1 f2 f3 f4 f5 f6 P2⊢;obtain⟨m,rfl⟩:=gL f3;simp only[Int.toNat_natCast,u6] at*;refine Yd.cond (fun hf=>?_)<|fun hf=>?_
   ·have hf:=aZ hf;refine Yd.jn (fun z:att Int=>okW z/\z.length=a.length+1/\(∀x,m+1<=x->z.getD x 0=u.getD x 0)/\aO (z.take<|m+1)*2^s=aO (u.take<|m+1)+gX (m+1)*(u.getD (m+1) 0%2^s)) ?_ ?_
    ·rintro z ⟨z1,z2,z3,z4⟩;refine Yd.bd (aM ⟨by omega,by omega⟩) (P2 _ ⟨z1,z2,by dsimp only;omega,by dsimp only;omega,?_⟩ (by dsimp only;omega));dsimp only;rw[toNat_succ'];exact⟨z3,z4⟩
    ·intro k69 ama;have hx:=fg f1 m;have hx2:=fg f1<|m+1
     have Ir:0<=r.getD m 0/2^s/\r.getD m 0/2^s<BB:=⟨rV hx.1<|fU ps,Int.lt_of_le_of_lt (As _ hx.1) hx.2⟩;refine Yd.bd (bJ (by omega)) (Yd.bd (bJ (by omega)) (Yd.bd (ae6 (by omega)) (Yd.bd (bJ (by omega)) (Yd.bd (bJ (by omega)) ?_))));have e8:(((m:Nat):Int)+1)=((m+1:Nat):Int):=by omega
     have Da:∀z:Int,z*2^s=r.getD m 0-r.getD m 0%2^s+BB*(r.getD (m+1) 0%2^s)->(aO (r.take m)+gX m*z)*2^s=aO (u.take<|m+1)+gX (m+1)*(u.getD (m+1) 0%2^s):=by
      intro z hz;rw[<-f5 (m+1) (by omega),bm u,<-f5 m (bp _),kP,f6,eP,hz,<-f5 m (bp _),jA,bt,mE,iT (gX m) BB,eP BB];omega
     refine Yd.iJ (fun hg=>?_)<|fun hg=>?_
     ·have hg:=aZ hg;refine⟨_,aM ⟨by omega,by omega⟩,Yd.cond (fun hh=>?_)<|fun hh=>?_⟩
      ·obtain⟨lo,b1,b2,b3,b4⟩:=VE (s:=s) (x:=r.getD m 0) (y:=r.getD (m+1) 0) (by omega) l2 hx hx2;have Is:(r.set m<|r.getD m 0/2^s).length=a.length+1:=by rw[pU];exact f2
       have e9:((64:Int)-(s:Int))=((64-s:Nat):Int):=by omega
       rw[e8,e9];refine Yd.bd (bJ (by omega)) (Yd.bd (bJ (by omega)) (Yd.bd (aM ⟨by omega,by omega⟩) (Yd.bd (bJ (by omega)) (Yd.bd (bJ (by omega)) (Yd.bd (aM ⟨by omega,by omega⟩) ?_)))));rw[getD_set_ne (show m+1≠m by omega),dr (show m<r.length by omega)];refine Yd.bd b1 (Yd.bd (bJ (by omega)) (Yd.bd (bJ (by omega)) ?_));refine ama _ ⟨mW (mW f1 _ Ir) _ ⟨b2,b3⟩,by simpa using f2,?_,?_⟩
       ·intro x hxm;rw[getD_set_ne (by omega),getD_set_ne (by omega)];exact f5 x (by omega)
       ·rw[bm,dq<|bp _,dr (by omega),dq<|bp _];exact Da _ b4
      ·rw[aW hg,rQ] at hh;have:=br hh;simp only[pU] at this;omega
     ·have hg:=br hg;have Wf:s=0:=by omega
      subst Wf;refine Yd.cond (fun hh=>?_)<|fun hh=>?_
      ·exact absurd (aZ (eT hh).1) hg
      ·refine ama _ ⟨mW f1 _ Ir,by simpa using f2,?_,?_⟩
       ·intro x hxm;rw[getD_set_ne (by omega)];exact f5 x (by omega)
       ·rw[bm,dq<|bp _,dr (by omega)];refine Da _ ?_;simp[Int.emod_one]
   ·have hf:=br hf;have Z7:m=k+2:=by omega
    subst Z7;have hz:=drop_zero g1 (n:=k+2) (by omega) (by omega);have hz2:u.getD (k+2) 0=0:=Mt hz g1<|bp _
    have hu:aO u=aO (u.take<|k+2):=by
     rw[qu u (k+2) (by omega),hz];omega
    rw[hz2,Int.zero_emod,Aj,EM,<-hu,hue,Int.mul_comm] at f6;have f7:aO (r.take<|k+2)=aO a-aO b*aO o:=Int.eq_of_mul_eq_mul_left (by omega) f6;have f8:aO (r.take<|k+2)<aO b:=by
     have h3:2^s*(aO a-aO b*aO o)<2^s*aO b:=by rw[<-hue,Int.mul_comm,<-v2];exact g7
     rw[f7];exact LO h3<|fU ps
    refine Yd.iG (xo g3 (by omega)) fun x ⟨x1,x2,_⟩=>?_
    refine Yd.bd (im (by omega) (by omega) (by omega)) ?_;refine Yd.iG (xo (xm (mV f1 _) _) (by rw[lr,List.length_take];omega)) fun z ⟨z1,z2,_⟩=>?_
    have z3:aO z=aO (r.take<|k+2):=z2;obtain⟨w1,w2⟩:=xx (A:=aO a) (B:=aO b) (q:=aO o) (r:=aO<|r.take<|k+2) (by rw[f7,Int.mul_comm];omega) (dw<|mV f1 _).1 f8;exact Yd.mk ⟨⟨x1,by dsimp only;rw[x2];exact w1⟩,z1,by dsimp only;rw[z3];exact w2⟩
def rI.norm(h:rI r z):Norm r.2:=by
 rcases h with⟨h,_⟩|⟨_,_,h1,h2,_⟩
 ·rw[h];exact Norm.nil
 ·exact⟨h1,h2⟩
def Rz{n k:Nat}(h:2^k<=n):k<=Nat.log2 n:=by
 have h0:n≠0:=by have:=EV k;omega
 exact(Nat.le_log2 h0).2 h
def QZ:∀n:Nat,gX n=((2^(64*n):Nat):Int)
 |0=>rfl
 |n+1=>by
  rw[jA,QZ n,show 64*(n+1)=64+64*n from by omega,qe,uZ];rfl
def rI.len(h:rI r z)(hz:uC z=true):r.2.length<1099511627776:=by
 rcases h with⟨h,_⟩|⟨h0,h1,h2,h3,h4,h5⟩
 ·rw[h];simp
 ·have hl:=vP h2 h0 h3;have hz:=gK hz;have e:(z.natAbs:Int)=aO r.2:=by
   have:=(dw h2).1;rcases h1 with e|e<;>rw[h4,e]<;>omega
  rw[QZ,<-e] at hl;have hl:2^(64*(r.2.length-1))<=z.natAbs:=by exact_mod_cast hl
  have:=Rz hl;omega
def M9{n:Int}(h:Bh n):v8 n=some (n.natAbs:Int):=by
 unfold Bh at h;unfold v8;by_cases h0:n<0
 ·rw[aW h0];show some (wr .u64<|wr .i64<|0-n)=_;by_cases h1:n= -9223372036854775808
  ·subst h1;rfl
  ·have e1:wr .i64 (0-n)=0-n:=wrap_i64 ⟨by omega,by omega⟩;have e2:wr .u64 (0-n)=0-n:=wrap_u64 ⟨by omega,by omega⟩;rw[e1,e2]
   congr 1;omega
 ·rw[bC h0];show some (wr .u64 n)=_;have e2:wr .u64 n=n:=wrap_u64 ⟨by omega,by omega⟩;rw[e2]
  congr 1;omega
def ri(h:rI r z):Yd (fun p=>p.1=decide (z<0)/\Norm p.2/\aO p.2=(z.natAbs:Int)/\p.2.length<=r.2.length+1) (gi r):=by
 unfold gi;rcases h with⟨h1,h2,h3⟩|⟨h0,h1,h2,h3,h4,h5⟩
 ·rw[h1];refine Yd.cond (fun hc=>by simp at hc)<|fun _=>?_
  rw[h2];refine Yd.cond (fun hc=>?_)<|fun hc=>?_
  ·have hc:=aZ hc;subst hc;exact Yd.mk ⟨rfl,Norm.nil,rfl,by simp⟩
  ·have hc:=br hc;refine Yd.bd (M9 h3) (Yd.mk ⟨rfl,⟨?_,?_⟩,by simp[aO],by simp⟩)
   ·rw[sy];unfold Bh at h3;exact⟨⟨by omega,by unfold BB;omega⟩,Hz⟩
   ·simp;omega
 ·have hv:=(dw h2).1;refine Yd.cond (fun _=>Yd.mk ⟨?_,⟨h2,h3⟩,?_,by dsimp only;omega⟩)<|fun hc=>?_
  ·dsimp only;rcases h1 with e|e<;>rw[h4,e]<;>simp<;>omega
  ·dsimp only;rcases h1 with e|e<;>rw[h4,e]<;>omega
  ·simp at hc;exact absurd hc h0
def zh{w:att Int}(h:Norm w)(neg:Bool):Yd (fun r=>rI r<|bif neg then -aO w else aO w) (nM neg w):=by
 unfold nM;obtain⟨hw,hl⟩:=h
 match w,hw,hl with
 |[],_,_=>
  refine Yd.cond (fun _=>Yd.mk (.inl ⟨rfl,by cases neg<;>rfl,by cases neg<;>(unfold Bh;simp[aO])⟩)) (fun hc=>by simp at hc)
 |[x],hw,hl=>
  rw[sy] at hw;obtain⟨⟨Ve,hx1⟩,_⟩:=hw;have ev:aO [x]=x:=by simp[aO]
  have hx:x≠0:=fun e=>hl (by rw[e];rfl)
  have g0:bo [x] (0:Int)=some x:=rfl;rw[ev];refine Yd.cond (fun hc=>by simp at hc)<|fun _=>?_
  refine Yd.iJ (fun _=>⟨x,g0,?_⟩) (fun hc=>by simp[gd] at hc);refine Yd.cond (fun hc=>?_)<|fun hc=>?_
  ·obtain⟨hc,zB⟩:=eT hc;obtain⟨_,hc⟩:=eT hc;have hc:=aZ hc;subst zB;have e1:wr .i64 x=x:=wrap_i64 ⟨by omega,by omega⟩;exact Yd.bd g0 (Yd.bd (aM (by rw[e1];exact⟨by omega,by omega⟩)) (Yd.mk (.inl ⟨rfl,by rw[e1];rfl,by unfold Bh;simp only[bD];omega⟩)))
  ·refine Yd.iJ (fun _=>⟨x,g0,?_⟩) (fun hc=>by simp[gd] at hc);refine Yd.cond (fun hd=>?_)<|fun hd=>?_
   ·obtain⟨_,hd'⟩:=eT hd;have au7:=aZ hd';rw[hd] at hc;have zB:neg=false:=by simpa using hc
    subst zB;have e1:wr .i64 x=x:=wrap_i64 ⟨by omega,by omega⟩;exact Yd.bd g0 (Yd.mk (.inl ⟨rfl,by rw[e1];rfl,by unfold Bh;simp only[a8];omega⟩))
   ·have Fu:9223372036854775807<x:=by
     have:decide (([x].length:Int)=(1:Int))=true:=rfl;rw[this,rQ] at hd;have:=br hd;omega
    have ij:okW [x]:=by rw[sy];exact⟨⟨Ve,hx1⟩,Hz⟩
    refine Yd.cond (fun hn=>?_)<|fun hn=>?_
    ·subst hn;exact Yd.gC rfl (Yd.mk (.inr ⟨by simp,.inr rfl,ij,hl,by rw[ev];simp,by rw[ev];exact Fu⟩))
    ·subst hn;exact Yd.gC rfl (Yd.mk (.inr ⟨by simp,.inl rfl,ij,hl,by rw[ev];simp,by rw[ev];exact Fu⟩))
 |x::y::l,hw,hl=>
  have Fu:9223372036854775807<aO (x::y::l):=by
   have h1:=vP hw (by simp) hl;have h2:gX 1<=gX ((x::y::l).length-1):=Hn (by simp);have h3:gX 1=BB:=rfl;unfold BB at h3;omega
  have Wj:decide (((x::y::l).length:Int)=(1:Int))=false:=bC (by simp;omega);refine Yd.cond (fun hc=>by have:=aZ hc;simp at this;omega)<|fun _=>?_
  refine Yd.iJ (fun hc=>by simp only[gd] at hc;rw[Wj] at hc;cases hc)<|fun _=>?_
  refine Yd.cond (fun hc=>by rw[Wj] at hc;simp at hc)<|fun _=>?_
  refine Yd.iJ (fun hc=>by simp only[gd] at hc;rw[Wj] at hc;cases hc)<|fun _=>?_
  refine Yd.cond (fun hc=>by rw[Wj] at hc;simp at hc)<|fun _=>?_
  refine Yd.cond (fun hn=>?_)<|fun hn=>?_
  ·subst hn;exact Yd.gC rfl (Yd.mk (.inr ⟨by simp,.inr rfl,hw,hl,by simp,Fu⟩))
  ·subst hn;exact Yd.gC rfl (Yd.mk (.inr ⟨by simp,.inl rfl,hw,hl,by simp,Fu⟩))
def BE(h:rI r z):jE r=some z.sign:=by
 unfold jE
 congr 1
 unfold mx_ mn_;rcases h with⟨h1,h2,h3⟩|⟨h0,h1,h2,h3,h4,h5⟩
 ·rw[h2];rcases rZ z 0 with h|h|h
  ·rw[aW (show z<1 by omega),pY h];by_cases e:z= -1
   ·subst e;rfl
   ·rw[bD,bC (show¬(-1:Int)<z by omega)];rfl
  ·subst h;rfl
  ·rw[pe h];by_cases e:z=1
   ·subst e;rfl
   ·rw[bC (show¬z<1 by omega)];rfl
 ·have hp:0<aO r.2:=by omega
  rcases h1 with e|e
  ·rw[h4,e,Int.one_mul,pe hp];rfl
  ·rw[h4,e,pY (by omega)];rfl
def Ab(h:rI r z):Yd (fun q=>rI q<| -z) (jb r):=by
 unfold jb;refine Yd.cond (fun hc=>?_)<|fun hc=>?_
 ·obtain⟨h1,h2⟩:=eT hc;rw[jl,me] at h2;rcases h with⟨g1,g2,g3⟩|⟨h0,_⟩
  ·unfold Bh at g3;exact Yd.bd (aM ⟨by omega,by omega⟩) (Yd.mk (.inl ⟨rfl,by dsimp only;omega,by unfold Bh;omega⟩))
  ·rw[Ar] at h1;exact absurd h1 h0
 ·refine Yd.iG (ri h) fun p ⟨p1,p2,p3,_⟩=>Yd.iG (zh p2<| !p.1) fun q hq=>Yd.mk ?_
  rw[p1,p3] at hq;by_cases hz:z<0
  ·rw[aW hz] at hq;have:(z.natAbs:Int)= -z:=by omega
   simpa[this] using hq
  ·rw[bC hz] at hq;have: -(z.natAbs:Int)= -z:=by omega
   simp only[Lq,bD] at hq;rwa [this] at hq
def Rn(h:rI r z):Yd (fun q=>rI q (z.natAbs:Int)) (sM r):=by
 unfold sM;have hs:r.1<0↔z<0:=by
  rcases h with⟨g1,g2,g3⟩|⟨h0,h1,h2,h3,h4,h5⟩
  ·rw[g2]
  ·rcases h1 with e|e<;>rw[h4,e]<;>omega
 refine Yd.cond (fun hc=>?_)<|fun hc=>?_
 ·have hc:=hs.1 (aZ hc);refine Yd.iG (Ab h) fun q hq=>Yd.mk ?_
  rwa [show((z.natAbs:Nat):Int)= -z by omega]
 ·have hc:=br hc;have: ¬z<0:=fun h=>hc<|hs.2 h
  refine Yd.mk ?_;rwa [show((z.natAbs:Nat):Int)=z by omega]
def Lg(hr:rI r x)(hs:rI s y)(hlr:r.2.length<2199023255552)(hls:s.2.length<2199023255552):Yd (fun q=>rI q<|x+y) (nO r s):=by
 unfold nO;refine Yd.jn (fun _=>True) (fun _ _=>?_)<|fun k hk=>Yd.cond (fun hc=>?_)<|fun _=>hk _ trivial
 ·refine Yd.iG (ri hr) fun p ⟨p1,p2,p3,p4⟩=>Yd.iG (ri hs) fun q ⟨q1,q2,q3,q4⟩=>?_
  refine Yd.cond (fun hc=>?_)<|fun hc=>?_
  ·refine Yd.iG (Rl p2.1 q2.1 (by omega) (by omega)) fun w ⟨w1,w2⟩=>Yd.iG (zh w1 p.1) fun z hz=>Yd.mk ?_
   rw[w2,p3,q3,p1] at hz;rw[p1,q1,yq] at hc;by_cases h1:x<0
   ·have h2:y<0:=by simpa[h1] using hc.symm
    rw[aW h1] at hz;simp only[bD] at hz;rwa [show -((x.natAbs:Int)+(y.natAbs:Int))=x+y by omega] at hz
   ·have h2: ¬y<0:=by simpa[h1] using hc.symm
    rw[bC h1] at hz;simp only[a8] at hz;rwa [show((x.natAbs:Int)+(y.natAbs:Int))=x+y by omega] at hz
  ·have hne: ¬(x<0↔y<0):=by
    intro h;rw[p1,q1] at hc;simp[h] at hc
   refine Yd.iG (BD p2 q2 (by omega) (by omega)) fun c hcmp=>Yd.cond (fun hd=>?_)<|fun hd=>?_
   ·have hd:=aZ hd;have hle:aO q.2<=aO p.2:=by omega
    have hlen:q.2.length<=p.2.length:=by
     rcases kQ p.2.length q.2.length with h|h
     ·have:=yY p2.1 q2 h;omega
     ·exact h
    refine Yd.iG (HE p2.1 q2.1 hlen (by omega) hle) fun w ⟨w1,w2⟩=>Yd.iG (zh w1 p.1) fun z hz=>Yd.mk ?_
    rw[w2,p3,q3,p1] at hz;by_cases h1:x<0
    ·have h2: ¬y<0:=fun h=>hne ⟨fun _=>h,fun _=>h1⟩
     rw[aW h1] at hz;simp only[bD] at hz;rwa [show -((x.natAbs:Int)-(y.natAbs:Int))=x+y by omega] at hz
    ·have h2:y<0:=eK fun h=>hne ⟨fun k=>absurd k h1,fun k=>absurd k h⟩
     rw[bC h1] at hz;simp only[a8] at hz;rwa [show((x.natAbs:Int)-(y.natAbs:Int))=x+y by omega] at hz
   ·have hd:=br hd;have hle:aO p.2<=aO q.2:=by omega
    have hlen:p.2.length<=q.2.length:=by
     rcases kQ q.2.length p.2.length with h|h
     ·have:=yY q2.1 p2 h;omega
     ·exact h
    refine Yd.iG (HE q2.1 p2.1 hlen (by omega) hle) fun w ⟨w1,w2⟩=>Yd.iG (zh w1 q.1) fun z hz=>Yd.mk ?_
    rw[w2,p3,q3,q1] at hz;by_cases h1:y<0
    ·have h2: ¬x<0:=fun h=>hne ⟨fun _=>h1,fun _=>h⟩
     rw[aW h1] at hz;simp only[bD] at hz;rwa [show -((y.natAbs:Int)-(x.natAbs:Int))=x+y by omega] at hz
    ·have h2:x<0:=eK fun h=>hne ⟨fun k=>absurd k h,fun k=>absurd k h1⟩
     rw[bC h1] at hz;simp only[a8] at hz;rwa [show((y.natAbs:Int)-(x.natAbs:Int))=x+y by omega] at hz
 ·obtain⟨h1,h2⟩:=eT hc;rw[Ar] at h1 h2;rcases hr with⟨_,e1,i1⟩|⟨h0,_⟩
  ·rcases hs with⟨_,e2,i2⟩|⟨h0,_⟩
   ·rw[e1,e2];unfold Bh at i1 i2;refine Yd.cond (fun hd=>Yd.mk<| .inl ⟨rfl,?_,?_⟩)<|fun _=>hk _ trivial
    all_goals
     by_cases agr: -9223372036854775808<=x+y/\x+y<=9223372036854775807
     ·first
      |exact wrap_i64 agr
      |exact agr
     ·exfalso;rw[yq] at hd;rcases Int.lt_or_lt_of_ne (show x+y≠0 by omega) with hlt|hgt
      ·have e3:wr .i64 (x+y)=x+y+18446744073709551616:=by
        have:wr .i64 (x+y)=wr .i64 (x+y+18446744073709551616):=by
         unfold wr IntKind.wrap;simp[IntKind.bits,IntKind.signed]
        rw[this];exact wrap_i64 ⟨by omega,by omega⟩
       rw[e3] at hd;have a1:x<x+y+18446744073709551616:=by omega
       have a2: ¬0<y:=by omega
       simp[a1,a2] at hd
      ·have e3:wr .i64 (x+y)=x+y-18446744073709551616:=by
        have:wr .i64 (x+y)=wr .i64 (x+y-18446744073709551616):=by
         unfold wr IntKind.wrap;simp[IntKind.bits,IntKind.signed]
        rw[this];exact wrap_i64 ⟨by omega,by omega⟩
       rw[e3] at hd;have a1: ¬x<x+y-18446744073709551616:=by omega
       have a2:0<y:=by omega
       simp[a1,a2] at hd
   ·exact absurd h2 h0
  ·exact absurd h1 h0
def QH(z:Int):uC (-z)=uC z:=by unfold uC;rw[ER]
def I7(h:x.natAbs<=y.natAbs)(hy:uC y=true):uC x=true:=by
 unfold uC at*;refine lz ?_;have:=gK hy;by_cases h0:x.natAbs=0
 ·rw[h0];decide
 ·have h1:Nat.log2 x.natAbs<=Nat.log2 y.natAbs:=(Nat.le_log2 (by omega)).2 (df ((Nat.le_log2 h0).1<|bp _) h);omega
def XH(hr:rI r x)(hs:rI s y)(hx:uC x=true)(hy:uC y=true):Yd (fun q=>rI q<|x-y) (sJ r s):=by
 unfold sJ;refine Yd.iG (Ab hs) fun n hn=>Yd.iG (Lg hr hn (by have:=hr.len hx;omega) (by have:=hn.len (by rw[QH];exact hy);omega)) fun q hq=>Yd.mk ?_
 rwa [Int.sub_eq_add_neg]
def XI(hr:rI r x)(hs:rI s y)(hx:uC x=true)(hy:uC y=true):Yd (fun q=>rI q<|x*y) (nN r s):=by
 have sgn:∀(b:Bool),b=(!(decide (x<0)==decide (y<0)))->(bif b then -((x.natAbs:Int)*(y.natAbs:Int)) else(x.natAbs:Int)*(y.natAbs:Int))=x*y:=by
  intro b hb;subst hb;rcases Int.lt_or_le x 0 with h1|h1<;>rcases Int.lt_or_le y 0 with h2|h2
  ·rw[aW h1,aW h2];show((x.natAbs:Int)*(y.natAbs:Int))=_;rw[show(x.natAbs:Int)= -x by omega,show(y.natAbs:Int)= -y by omega,Int.neg_mul_neg]
  ·rw[aW h1,bC (show¬y<0 by omega)];show -((x.natAbs:Int)*(y.natAbs:Int))=_;rw[show(x.natAbs:Int)= -x by omega,show(y.natAbs:Int)=y by omega,Int.neg_mul,Int.neg_neg]
  ·rw[bC (show¬x<0 by omega),aW h2];show -((x.natAbs:Int)*(y.natAbs:Int))=_;rw[show(x.natAbs:Int)=x by omega,show(y.natAbs:Int)= -y by omega,Int.mul_neg,Int.neg_neg]
  ·rw[bC (show¬x<0 by omega),bC (show¬y<0 by omega)];show((x.natAbs:Int)*(y.natAbs:Int))=_;rw[show(x.natAbs:Int)=x by omega,show(y.natAbs:Int)=y by omega]
 unfold nN;refine Yd.jn (fun _=>True) (fun _ _=>?_)<|fun k hk=>Yd.cond (fun hc=>?_)<|fun _=>hk _ trivial
 ·refine Yd.iG (ri hr) fun p ⟨p1,p2,p3,p4⟩=>Yd.iG (ri hs) fun q ⟨q1,q2,q3,q4⟩=>?_
  have l1:=hr.len hx;have l2:=hs.len hy;refine Yd.iG (Rj p2.1 q2.1 (by omega) (by omega)) fun w ⟨w1,w2⟩=>Yd.iG (zh w1<| !(p.1==q.1)) fun z hz=>Yd.mk ?_
  rw[w2,p3,q3,sgn _ (by rw[p1,q1])] at hz;exact hz
 ·obtain⟨h1,h2⟩:=eT hc;rw[Ar] at h1 h2;rcases hr with⟨_,e1,i1⟩|⟨h0,_⟩
  ·rcases hs with⟨_,e2,i2⟩|⟨h0,_⟩
   ·rw[e1,e2];unfold Bh at i1 i2;have bx:(0:Int)<=(x.natAbs:Int)/\(x.natAbs:Int)<BB:=⟨by omega,by unfold BB;omega⟩;have by':(0:Int)<=(y.natAbs:Int)/\(y.natAbs:Int)<BB:=⟨by omega,by unfold BB;omega⟩;obtain⟨hi,lo,m1,m2,m3,m4,m5,m6⟩:=Lh bx by';refine Yd.bd (M9 i1)<|Yd.bd (M9 i2)<|Yd.bd m1<|Yd.cond (fun hd=>?_)<|fun _=>hk _ trivial
    obtain⟨d1,d2⟩:=eT hd;have d1:=aZ d1;have d2:=aZ d2;have e3:wr .i64 lo=lo:=wrap_i64 ⟨by omega,by omega⟩;have d1:hi=0:=d1;have hp:(x.natAbs:Int)*(y.natAbs:Int)=lo:=by rw[m6,d1];omega
    have s2:=sgn _ rfl;rw[hp] at s2;refine Yd.cond (fun hn=>?_)<|fun hn=>?_
    ·rw[hn] at s2;simp only[bD] at s2;rw[e3];exact Yd.bd (aM ⟨by omega,by omega⟩) (Yd.mk (.inl ⟨rfl,s2,by unfold Bh;omega⟩))
    ·rw[hn] at s2;simp only[a8] at s2;rw[e3];exact Yd.mk (.inl ⟨rfl,s2,by unfold Bh;omega⟩)
   ·exact absurd h2 h0
  ·exact absurd h1 h0
def afF(hr:rI r x)(hs:rI s y)(hx:uC x=true)(hy:uC y=true):wQ r s=some (UN x y):=by
 have key:Yd (fun q=>q=UN x y) (wQ r s):=by
  unfold wQ;refine Yd.cond (fun hc=>?_)<|fun _=>Yd.iG (XH hr hs hx hy) fun q hq=>Yd.bd (BE hq)<|Yd.mk ?_
  ·obtain⟨h1,h2⟩:=eT hc;rw[Ar] at h1 h2;rcases hr with⟨_,e1,i1⟩|⟨h0,_⟩
   ·rcases hs with⟨_,e2,i2⟩|⟨h0,_⟩
    ·rw[e1,e2];unfold UN;refine Yd.cond (fun h=>Yd.mk (by rw[h];rfl)) (fun h=>Yd.cond (fun k=>Yd.mk (by rw[h,k];rfl)) (fun k=>Yd.mk (by rw[h,k];rfl)))
    ·exact absurd h2 h0
   ·exact absurd h1 h0
  ·unfold UN;rcases rZ x y with h|h|h
   ·rw[aW h,pY (by omega)];rfl
   ·subst h;rw[bC<|Int.lt_irrefl _,Int.sub_self];rfl
   ·rw[bC (by omega),aW h,pe (by omega)];rfl
 obtain⟨q,e,rfl⟩:=key;exact e
def ZL(h:rI r z)(hz:z≠ -9223372036854775808):td r=some (bif yA z then(z,true) else(z.sign,false)):=by
 unfold td
 congr 1
 rcases h with⟨h1,h2,h3⟩|⟨h0,h1,h2,h3,h4,h5⟩
 ·unfold Bh at h3;have:yA z=true:=by unfold yA;rw[aW h3.1,aW h3.2];rfl
  rw[this,h1,h2];rfl
 ·have:yA z=false:=by
   unfold yA;rcases h1 with e|e
   ·rw[e,Int.one_mul] at h4;rw[bC (show¬z<=9223372036854775807 by omega)];simp
   ·rw[e] at h4;rw[bC (show¬ -9223372036854775808<=z by omega)];rfl
  rw[this];have hs:r.1=z.sign:=by
   rcases h1 with e|e
   ·rw[h4,e,Int.one_mul,pe (by omega)]
   ·rw[h4,e,pY (by omega)]
  have he:r.2.isEmpty=false:=by cases hr:r.2 with
   |nil=>exact absurd hr h0
   |cons _ _=>rfl
  rw[hs,he];rfl
def K5{q r:Int}(h0:0<y)(h:r+y*q=x)(h1:0<=r)(h2:r<y):q=x/y/\r=x%y:=by
 obtain⟨h3,h4⟩:=(Int.ediv_emod_unique h0).2 ⟨h,h1,h2⟩;exact⟨h3.symm,h4.symm⟩
def NM(h0:0<y):(0<=x->0<=x/y/\x/y<=x)/\(x<0->x<=x/y/\x/y<0):=by
 constructor
 ·intro h;exact⟨rV h (by omega),As y h⟩
 ·intro h;refine⟨(Int.le_ediv_iff_mul_le h0).2 ?_,Int.ediv_neg_of_neg_of_pos h h0⟩;have:x*y<=x*1:=Int.mul_le_mul_of_nonpos_left (by omega) (by omega);omega
def Nb(hr:rI r x)(hs:rI s y)(hx:uC x=true)(hy:uC y=true)(h0:0<y):Yd (fun q=>rI q.1 (x/y)/\rI q.2 (x%y)) (oK r s):=by
 unfold oK;have hm0:=tG x (show y≠0 by omega);have hm1:=r8 x h0;have hdm:=zy x y;refine Yd.cond (fun hc=>?_)<|fun hc=>?_
 ·obtain⟨hc,h3⟩:=eT hc;obtain⟨h1,h2⟩:=eT hc;rw[Ar] at h1 h2;rw[jl,me] at h3;rcases hr with⟨_,e1,i1⟩|⟨h0,_⟩
  ·rcases hs with⟨_,e2,i2⟩|⟨h0,_⟩
   ·rw[e1] at h3;rw[e1,e2];unfold Bh at i1 i2;have t1:=Int.tmod_add_mul_tdiv x y;have hsm:=NM (x:=x) h0;have q1:wo x y=some (x.tdiv y):=by
     unfold wo;rw[bC (by omega)];refine aM ?_;have a1:=Int.natAbs_tdiv_le_natAbs x y;exact⟨by omega,by omega⟩
    have q2:tC x y=some (x.tmod y):=by
     unfold tC;rw[bC (by omega)];rfl
    have b2:(0<=x->0<=x.tmod y/\x.tmod y<y)/\(x<0-> -y<x.tmod y/\x.tmod y<=0):=by
     refine⟨fun h=>⟨Int.tmod_nonneg y h,Int.tmod_lt_of_pos x h0⟩,fun h=>?_⟩;have h5:=Int.tmod_lt_of_pos (-x) h0;have h6:=Int.tmod_nonneg y (show 0<= -x by omega);rw[Int.neg_tmod] at h5 h6;omega
    refine Yd.bd q1<|Yd.bd q2<|Yd.jn (fun s=>s.1=x/y/\s.2=x%y) (fun s ⟨s1,s2⟩=>Yd.mk ⟨.inl ⟨rfl,s1,?_⟩,.inl ⟨rfl,s2,?_⟩⟩)<|fun k hk=>Yd.cond (fun hd=>?_)<|fun hd=>?_
    ·unfold Bh;omega
    ·unfold Bh;omega
    ·have hd:=aZ hd;obtain⟨e3,e4⟩:=K5 (x:=x) (q:=x.tdiv y-1) (r:=x.tmod y+y) h0 (by rw[mE,ni];omega) (by omega) (by omega);refine Yd.bd (aM ⟨by omega,by omega⟩) (Yd.bd (aM ⟨by omega,by omega⟩)<|hk _ ⟨e3,e4⟩)
    ·have hd:=br hd;obtain⟨e3,e4⟩:=K5 (x:=x) (q:=x.tdiv y) (r:=x.tmod y) h0 t1 (by omega) (by omega);exact hk _ ⟨e3,e4⟩
   ·exact absurd h2 h0
  ·exact absurd h1 h0
 ·have l1:=hr.len hx;have l2:=hs.len hy;refine Yd.iG (ri hr) fun p ⟨p1,p2,p3,p4⟩=>Yd.iG (ri hs) fun q ⟨q1,q2,q3,q4⟩=>?_
  have Z4:q.2≠[]:=fun e=>by rw[e] at q3;simp[aO] at q3;omega
  refine Yd.iG (Na p2 q2 Z4 (by omega) (by omega)) fun d ⟨⟨d1,d2⟩,d3,d4⟩=>Yd.iG (zh d1 p.1) fun Q hQ=>Yd.iG (zh d3 p.1) fun R hR=>?_
  rw[d2,p3,q3,p1] at hQ;rw[d4,p3,q3,p1] at hR;have ey:(y.natAbs:Int)=y:=by omega
  rw[ey] at hQ hR;have am0:=tG (x.natAbs:Int) (show y≠0 by omega);have am1:=r8 (x.natAbs:Int) h0;have adm:=zy (x.natAbs:Int) y;refine Yd.bd (BE hR)<|Yd.jn (fun s=>rI s.1 (x/y)/\rI s.2 (x%y)) (fun s hs=>Yd.mk hs)<|fun k hk=>Yd.cond (fun hd=>?_)<|fun hd=>?_
  ·have hd:=aZ hd;have zB:(bif decide (x<0) then -((x.natAbs:Int)%y) else(x.natAbs:Int)%y)<0:=by
    rcases rZ (bif decide (x<0) then -((x.natAbs:Int)%y) else(x.natAbs:Int)%y) 0 with h|h|h
    ·exact h
    ·rw[h] at hd;exact absurd hd (by decide)
    ·rw[pe h] at hd;omega
   by_cases Ve:x<0
   ·rw[aW Ve] at hQ hR zB;simp only[bD] at hQ hR zB;have Oi:(x.natAbs:Int)= -x:=by omega
    rw[Oi] at hQ hR zB am0 am1 adm;obtain⟨e3,e4⟩:=K5 (x:=x) (q:= -(-x/y)-1) (r:= -(-x%y)+y) h0 (by rw[mE,ni,Int.mul_neg];omega) (by omega) (by omega);have hof:qI 1=some (1,[]):=rfl;have h1r:rI (1,[]) 1:= .inl ⟨rfl,rfl,by unfold Bh;omega⟩;have apc:uC (-(-x/y))=true:=by
     refine I7 ?_ hx;have:=(NM (x:= -x) h0).1 (by omega);omega
    have apb:uC (-(-x%y))=true:=by
     refine I7 ?_ hy;omega
    refine Yd.bd hof (Yd.iG (XH hQ h1r apc rfl) fun a ha=>Yd.iG (Lg hR hs (by have:=hR.len apb;omega) (by omega)) fun b hb=>hk _ ⟨?_,?_⟩)
    ·rwa [e3] at ha
    ·rwa [e4] at hb
   ·rw[bC Ve] at zB;simp only[a8] at zB;omega
  ·have hd:=br hd;refine hk _ ?_;by_cases Ve:x<0
   ·rw[aW Ve] at hQ hR hd;simp only[bD] at hQ hR hd;have Oi:(x.natAbs:Int)= -x:=by omega
    rw[Oi] at hQ hR hd am0 am1 adm;have hz: -x%y=0:=by
     rcases rZ (-x%y) 0 with h|h|h
     ·omega
     ·exact h
     ·rw[pY (by omega)] at hd;omega
    obtain⟨e3,e4⟩:=K5 (x:=x) (q:= -(-x/y)) (r:= -(-x%y)) h0 (by rw[Int.mul_neg];omega) (by omega) (by omega);rw[e3] at hQ;rw[e4] at hR;exact⟨hQ,hR⟩
   ·rw[bC Ve] at hQ hR;simp only[a8] at hQ hR;have Oi:(x.natAbs:Int)=x:=by omega
    rw[Oi] at hQ hR;exact⟨hQ,hR⟩
def Rm(hr:rI r x)(hs:rI s y)(hx:uC x=true)(hy:uC y=true)(h0:y≠0):Yd (fun q=>rI q<|x.fdiv y) (sK r s):=by
 unfold sK;refine Yd.bd (BE hs)<|Yd.jn (fun t=>∃a b:Int,rI t.1 a/\rI t.2 b/\uC a=true/\uC b=true/\0<b/\a/b=x.fdiv y) ?_<|fun k hk=>Yd.cond (fun hd=>?_)<|fun hd=>?_
 ·rintro t ⟨a,b,h1,h2,h3,h4,h5,h6⟩;refine Yd.iG (Nb h1 h2 h3 h4 h5) fun q ⟨hq,_⟩=>Yd.mk ?_
  rwa [h6] at hq
 ·have hd:=aZ hd;have hn:y<0:=by
   rcases rZ y 0 with h|h|h
   ·exact h
   ·exact absurd h h0
   ·rw[pe h] at hd;omega
  refine Yd.iG (Ab hr) fun a ha=>Yd.iG (Ab hs) fun b hb=>hk _ ⟨-x,-y,ha,hb,by rw[QH];exact hx,by rw[QH];exact hy,by omega,?_⟩
  rw[<-Im _ (show 0<= -y by omega),Int.neg_fdiv_neg]
 ·have hd:=br hd;have hn:0<y:=by
   rcases rZ y 0 with h|h|h
   ·rw[pY h] at hd;omega
   ·exact absurd h h0
   ·exact h
  exact hk _ ⟨x,y,hr,hs,hx,hy,hn,(Im _ (by omega)).symm⟩
def afh(r:Int×att Int):Int:=if r.2=[] then r.1 else r.1*aO r.2
def rI.val(h:rI r z):afh r=z:=by
 unfold afh;rcases h with⟨h1,h2,_⟩|⟨h0,_,_,_,h4,_⟩
 ·rw[if_pos h1,h2]
 ·rw[if_neg h0,h4]
def muG(a b:Nat):Nat:=if b=0 then 0 else Nat.log2 (a*b)+1+(if a<b then 1 else 0)
def XS{m n:Nat}(h:m<=n):Nat.log2 m<=Nat.log2 n:=by
 by_cases h0:m=0
 ·subst h0;simp
 ·exact Rz<|df ((Nat.le_log2 h0).1<|bp _) h
def Nd{a b:Nat}(hb:b≠0):muG b (a%b)<muG a b:=by
 have hlt:=te a (show b>0 by omega);unfold muG;rw[if_neg hb];by_cases h0:a%b=0
 ·rw[if_pos h0];omega
 ·rw[if_neg h0,if_neg (show¬b<a%b by omega)];by_cases Oi:a<b
  ·rw[if_pos Oi,Av Oi,qJ];omega
  ·rw[if_neg Oi];have h1:2*(a%b)<=a:=by
    have:=Nat.mod_add_div a b;have h2:1<=a/b:=(Nat.one_le_div_iff (by omega)).2 (by omega);have h3:b*1<=b*(a/b):=E2 _ h2;omega
   have h2:2*(b*(a%b))<=a*b:=by
    have:=E2 b h1;rw[Nat.mul_left_comm,qJ b a] at this;exact this
   have h3:b*(a%b)≠0:=Nat.mul_ne_zero hb h0;have h4:=XS h2;have h5:Nat.log2 (2*(b*(a%b)))=Nat.log2 (b*(a%b))+1:=by
    rw[Nat.log2_two_mul h3]
   omega
def V2{a b:Nat}(ha:Nat.log2 a<1099511627776)(hb:Nat.log2 b<1099511627776):muG a b<18446744073709551616:=by
 unfold muG;have h1:a<2^(Nat.log2 a+1):=Nat.lt_log2_self;have h2:b<2^(Nat.log2 b+1):=Nat.lt_log2_self;have h3:Nat.log2 (a*b)<Nat.log2 a+1+(Nat.log2 b+1):=by
  by_cases h0:a*b=0
  ·rw[h0];simp;omega
  ·rw[yr h0,qe];exact Nat.mul_lt_mul'' h1 h2
 split
 ·omega
 ·split<;>omega
def XJ(hr:rI r x)(hs:rI s y)(hx:uC x=true)(hy:uC y=true):Yd (fun q=>rI q (Int.gcd x y:Int)) (EJ r s):=by
 unfold EJ;refine Yd.iG (Rn hr) fun a ha=>Yd.iG (Rn hs) fun b hb=>?_
 have hx':=gK hx;have hy':=gK hy;refine Yd.lp (fun t:(Int×att Int)×(Int×att Int)=>∃a b:Nat,rI t.1 (a:Int)/\rI t.2 (b:Int)/\Nat.gcd a b=Int.gcd x y/\uC a=true/\uC b=true) (fun t:(Int×att Int)×(Int×att Int)=>muG (afh t.1).natAbs (afh t.2).natAbs) ?_ _ _ ⟨x.natAbs,y.natAbs,ha,hb,rfl,by simpa[uC] using hx,by simpa[uC] using hy⟩ ?_
 ·rintro next ⟨p,q⟩ ⟨a,b,h1,h2,h3,h4,h5⟩ hn
  simp only at h1 h2 hn⊢;refine Yd.bd (BE h2)<|Yd.cond (fun hc=>?_)<|fun hc=>?_
  ·have hb0:b≠0:=fun e=>by subst e;simp at hc
   refine Yd.iG (Nb h1 h2 h4 h5 (by omega)) fun d ⟨_,hd⟩=>?_
   have hd':rI d.2 ((a%b:Nat):Int):=by rw[Int.natCast_emod];exact hd
   have hlt:=te a (show b>0 by omega);refine hn _ ⟨b,a%b,h2,hd',?_,h5,I7 (by omega) h5⟩ ?_
   ·rw[<-h3,Ak b<|a%b,<-Nat.gcd_rec,Ak]
   ·dsimp only;rw[h2.val,hd'.val,h1.val];exact Nd hb0
  ·have hb0:b=0:=by
    rw[Ib,jc] at hc;have:=Int.sign_eq_zero_iff_zero.1 hc;omega
   subst hb0;refine Yd.mk ?_;rw[Nat.gcd_zero_right] at h3;rw[<-h3];exact h1
 ·dsimp only;rw[ha.val,hb.val];exact V2 (by show Nat.log2 x.natAbs<_;omega) (by show Nat.log2 y.natAbs<_;omega)
end
end Trn
namespace Go.Proofs
section
open Go.Shelf
def D9:Go.Shelf.Ren:=⟨fun|166=>243|169=>244|240=>290|276=>321|n=>n,fun|0=>0|3=>3|9=>9|5=>5|72=>301|70=>298|37=>299|4=>4|20=>20|75=>260|80=>236|164=>358|n=>n,fun|n=>n⟩
def afU:Go.Proofs.Lays.n166 prog D9:={
 mixed:=Trn.aH
 f166:=func243.trans<|congrArg some Trn.aH
 f240:=func290.trans<|congrArg some Trn.aH
 f276:=func321.trans<|congrArg some Trn.aH
 t0:=underlying0
 a0:=isAgg0
 z0:=sizeOf0
 v0:=zeroValue0
 t3:=underlying3
 a3:=isAgg3
 z3:=sizeOf3
 v3:=zeroValue3
 t4:=underlying4
 a4:=isAgg4
 z4:=sizeOf4
 v4:=zeroValue4
 t9:=underlying9
 a9:=isAgg9
 z9:=sizeOf9
 v9:=zeroValue9
 t20:=underlying20
 a20:=isAgg20
 z20:=sizeOf20
 v20:=zeroValue20
 t37:=underlying299
 a37:=isAgg299
 z37:=sizeOf299
 v37:=zeroValue299
 t70:=underlying298
 a70:=isAgg298
 z70:=sizeOf298
 v70:=zeroValue298
 t72:=underlying301
 a72:=isAgg301
 z72:=sizeOf301
 v72:=zeroValue301
 t75:=underlying260
 a75:=isAgg260
 z75:=sizeOf260
 v75:=zeroValue260
 t164:=underlying358
 a164:=isAgg358
 z164:=sizeOf358
 v164:=zeroValue358}
def IN:Builder.Extra prog D9:={
 sizeBuilder:=Trn.aH
 liesBuilder:=Trn.aH
 t5:=underlying5
 a5:=isAgg5
 z5:=sizeOf5
 v5:=zeroValue5
 infoByte:=Trn.aH
 cellsByte:=Trn.aH
 sizeByte:=Trn.aH
 neB5:=by decide}
end
end Go.Proofs
namespace Trn
section
open Go.Shelf
variable[D:DR]
variable{x c y:Int}{r:Int×Int}
def Tc{l s:ad3}{r:ad3×Int×Unit}(hm:BI l s=some r):kN prog 243 [] (.N5 301 5<|lB l) (.N5 301 5<|lB r.1) [TS s] [TI .i64 r.2.1,akr r.2.2]:=
 aaz (ρ:=D9) afU IN aH hm
def Zm{l r:ad3}(hm:BJ l=some r):kN prog 244 [] (.N5 301 5<|lB l) .gone [] [TS r]:=
 W7 (ρ:=D8) afT IM aH hm
def index_one(c:UInt8):∀s:ad3,Lib.index s [c]= -1\/0<=Lib.index s [c]
 |[]=> .inl rfl
 |b::l=>by
  have:=Lib.index_ge (b::l) [c];omega
def adB(c b:UInt8)(l:ad3):Lib.cut (b::l) [c]=if c==b then([],l,true) else(b::(Lib.cut l [c]).1,(Lib.cut l [c]).2.1,(Lib.cut l [c]).2.2):=by
 have e:Lib.index (b::l) [c]=if c==b then 0 else if Lib.index l [c]== -1 then -1 else Lib.index l [c]+1:=by
  simp[Lib.index,List.isPrefixOf]
 unfold Lib.cut;rw[e];by_cases h:(c==b)=true
 ·simp[h]
 ·simp only[Lz] at h;simp only[h];rcases index_one c l with h1|h1
  ·simp[h1]
  ·have h2: ¬Lib.index l [c]= -1:=by omega
   have h3:(0:Int)<=Lib.index l [c]+1:=by omega
   have h4:(Lib.index l [c]+1).toNat=(Lib.index l [c]).toNat+1:=by omega
   simp[h1,h2,h3,h4]
def IB(c:UInt8):∀(s pre:ad3),cutAt c pre s=(pre.reverse++(Lib.cut s [c]).1,(Lib.cut s [c]).2.1,(Lib.cut s [c]).2.2)
 |[],pre=>by
  have:Lib.cut [] [c]=([],[],false):=by unfold Lib.cut;simp[Lib.index]
  simp[cutAt,this]
 |b::l,pre=>by
  rw[adB];unfold cutAt;by_cases h:(c==b)=true
  ·have h':(b==c)=true:=by rw[yq] at h⊢;exact h.symm
   simp[h,h']
  ·have h':(b==c)=false:=by
    cases e:(b==c) with
    |false=>rfl
    |true=>exact absurd (by rw[yq] at e⊢;exact e.symm) h
   simp only[Lz] at h;simp[h,h',IB c l (b::pre)]
def am8{w:arG}{H:HV}(sub:∀r o,H r=some o->w.heap[r]? =some o)(gl:qU prog H):∃m,w.cell? ⟨0,0,none⟩=some (.int .i64 m):=by
 have hT:(prog.globals[0]?).map (·.type)=some 3:=aH;have:=gl 0 3 hT;have hu:prog.underlying 3=some (.int .i64):=aH;unfold Ew at this;rw[hu] at this;obtain⟨m,E,fr,e⟩:=this;exact⟨m,by simp[World.cell?,sub _ _ e]⟩
def ahm{x y:ad3}{r:ad3×ad3×Bool}(hm:XP x y=some r):c8 139 [TS x,TS y] [TS r.1,TS r.2.1,bj r.2.2]:=by
 match y,hm with
 |[c],hm=>
  obtain⟨hb,rfl⟩:=jh hm;have hb:x.length<4294967281:=gK hb;refine tW aH fun w H vs sub gl ha=>?_
  obtain⟨u,v,rfl,hu,hv⟩:=Cd ha;have hu:u= .string ⟨x.toArray⟩:=hu;have hv:v= .string ⟨#[c]⟩:=hv;subst hu;subst hv;obtain⟨m,hm⟩:=am8 sub gl;refine(strings_Cut ⟨x.toArray⟩ ⟨#[c]⟩ m w (by simpa[ByteArray.size] using hb) hm).mono ?_;rintro e w' ⟨rfl,n,rfl⟩;refine⟨_,rfl,⟨⟨rfl,rfl,rfl,bp _,fun _ _=>rfl⟩,JQ.of<|Cv _ _⟩,_,rfl,_,_,rfl,?_,_,_,rfl,?_,_,_,rfl,?_,rfl⟩
  ·rw[IB];rfl
  ·rw[IB];rfl
  ·rw[IB];rfl
def NZ(w:arG)(e:ato)(s:ByteArray):Ex w.heap.size w (Lib.bytesWorld w e s):=
 ⟨⟨by unfold Lib.bytesWorld World.freeze;split<;>rfl,by unfold Lib.bytesWorld World.freeze;split<;>rfl,by unfold Lib.bytesWorld World.freeze;split<;>rfl,by rw[Lib.bytesWorld_size];omega,fun k hk=>Lib.bytesWorld_at_old w e s k hk⟩,JQ.of (by unfold Lib.bytesWorld World.freeze;split<;>exact wR _)⟩
def Kk:∀(l:ad3) (acc:Nat),l.all iA=true->Lib.decFrom acc l=some (l.foldl (fun n b=>10*n+(b.toNat-48)) acc)
 |[],acc,_=>rfl
 |b::l,acc,h=>by
  rw[ti,bY] at h;obtain⟨h1,h2⟩:=h;unfold iA at h1;rw[bY] at h1;have h3:=gK h1.1;have h4:=gK h1.2;unfold Lib.decFrom Lib.digitVal;rw[if_pos ⟨h3,h4⟩];simp only[Lx];rw[Kk l _ h2,qJ]
def UY{s:ad3}(h0:s.isEmpty=false)(h:s.all iA=true):Lib.atoi s=some (dz s:Int):=by
 match s,h0,h with
 |b::l,_,h=>
  have hb:iA b=true:=by rw[ti,bY] at h;exact h.1
  unfold iA at hb;rw[bY] at hb;have h3:=gK hb.1;have h5:(b==45)=false:=by
   cases e:b==45 with
   |false=>rfl
   |true=>rw[yq] at e;subst e;exact absurd h3 (by decide)
  have h6:(b==43)=false:=by
   cases e:b==43 with
   |false=>rfl
   |true=>rw[yq] at e;subst e;exact absurd h3 (by decide)
  have hd:Lib.decNat (b::l)=some (dz (b::l)):=by
   unfold Lib.decNat;rw[if_neg (by simp)];exact Kk _ 0 h
  show(if(b==45)=true then(Lib.decNat l).map fun(m:Nat)=> -(m:Int) else if(b==43)=true then(Lib.decNat l).map fun(m:Nat)=>(m:Int) else(Lib.decNat (b::l)).map fun(m:Nat)=>(m:Int))=_;rw[h5,h6,hd]
  rfl
def aiA{x:ad3}{r:Int×Unit}(hm:Ni x=some r):c8 208 [TS x] [TI .i64 r.1,akr r.2]:=by
 obtain⟨hb,rfl⟩:=jh hm;rw[bY,bY] at hb;obtain⟨⟨h1,h2⟩,h3⟩:=hb;have h1:x.isEmpty=false:=by simpa using h1
 have h2:=gK h2;refine tW aH fun w H vs sub gl ha=>?_
 obtain⟨u,rfl,hu⟩:=uK ha;have hu:u= .string ⟨x.toArray⟩:=hu;subst hu;refine(strconv_Atoi ⟨x.toArray⟩ (dz x:Int) (by simpa[ByteArray.size] using h2) (UY h1 h3) w).mono ?_;rintro e w' ⟨rfl,t,rfl⟩;exact⟨_,rfl,NZ w 5 t,_,rfl,_,_,rfl,rfl,_,_,rfl,rfl,rfl⟩
def F7:awa arH->Sem arH:=fun args=>do
 let(x,y,b)<-Extern.MathBitsCarry.three "Sub64" args
 pure (Extern.MathBitsCarry.pair ((x+Extern.MathBitsCarry.m64-y-b)%Extern.MathBitsCarry.m64)<|if x<y+b then 1 else 0)
def Zp{P:atp}(X Y k:Nat)(hk:k<=1)(w:arG):(F7 #[.int .u64 (X:Int),.int .u64 (Y:Int),.int .u64 (k:Int)]).run P w=
  .ok (Extern.MathBitsCarry.pair ((X+18446744073709551616-Y-k)%18446744073709551616)<|if X<Y+k then 1 else 0) w:=by
 have:k=0\/k=1:=by omega
 rcases this with rfl|rfl<;>rfl
def tU(h:xr x=true):∃n:Nat,x=n/\n<18446744073709551616:=by
 unfold xr at h;rw[bY,jc,jc] at h;obtain⟨n,rfl⟩:=gL h.1;exact⟨n,rfl,by omega⟩
def NX(h:(decide (c=0)||decide (c=1))=true):∃k:Nat,c=k/\k<=1:=by
 rw[rX,jc,jc] at h;rcases h with rfl|rfl
 ·exact⟨0,rfl,by omega⟩
 ·exact⟨1,rfl,by omega⟩
def PN{H:HV}{τ σ υ:Ty}{vs:att arH}(h:Ce H [τ,σ,υ] vs):∃v u t,vs=[v,u,t]/\τ.ok H v/\σ.ok H u/\υ.ok H t:=by
 obtain⟨v,rest,e,hv,hr⟩:=h;obtain⟨u,t,e2,hu,ht⟩:=Cd hr;subst e2;exact⟨v,u,t,e,hv,hu,ht⟩
def ae0(M X Y k:Nat)(hY:Y<M)(hk:k<=1):(((X+M-Y-k)%M:Nat):Int)=((X:Int)-Y-k)%(M:Int):=by
 have:((X+M-Y-k:Nat):Int)=((X:Int)-Y-k)+M:=by omega
 rw[Int.natCast_emod,this,Int.add_emod_right]
def sub_lt(X Y k:Nat):((if X<Y+k then 1 else 0:Nat):Int)=bif decide ((X:Int)<Y+k) then 1 else 0:=by
 by_cases h:X<Y+k
 ·have h':(X:Int)<(Y:Int)+(k:Int):=by omega
  simp[h,h']
 ·have h': ¬(X:Int)<(Y:Int)+(k:Int):=by omega
  simp[h,h']
def B7(hm:o7 x y c=some r):Sb prog 258 [TI .u64 x,TI .u64 y,TI .u64 c] [TI .u64 r.1,TI .u64 r.2]:=by
 unfold o7 at hm;cases hb:((xr x&&xr y)&&(decide (c=0)||decide (c=1)))
 ·rw[hb] at hm;cases hm
 rw[hb] at hm;have hm:=eQ hm;subst hm;rw[bY,bY] at hb;obtain⟨⟨h1,h2⟩,h3⟩:=hb;obtain⟨X,rfl,hX⟩:=tU h1;obtain⟨Y,rfl,hY⟩:=tU h2;obtain⟨k,rfl,hk⟩:=NX h3;refine⟨fun w H vs ha=>?_⟩;obtain⟨u,v,t,rfl,hu,hv,ht⟩:=PN ha;have hu:u= .int .u64 (X:Int):=hu;have hv:v= .int .u64 (Y:Int):=hv;have ht:t= .int .u64 (k:Int):=ht;subst hu;subst hv;subst ht;refine⟨.tuple #[.int .u64<|((X:Int)+Y+k)%18446744073709551616,.int .u64<|((X:Int)+Y+k)/18446744073709551616],w,?_,⟨Below.refl _ _,bp _⟩,?_⟩
 ·rw[run_callFunc_extern func258 aH aH aH (e:=add64Entry) aH];show Result.andThen ((add64Entry #[.int .u64 (X:Int),.int .u64 (Y:Int),.int .u64 (k:Int)]).run prog w) _=_;rw[run_add64 _ _ _ (by omega) (by omega) (by omega) (by omega) w]
  rfl
 ·exact⟨_,rfl,_,_,rfl,rfl,_,_,rfl,rfl,rfl⟩
def QV(hm:Ah x y c=some r):Sb prog 260 [TI .u64 x,TI .u64 y,TI .u64 c] [TI .u64 r.1,TI .u64 r.2]:=by
 unfold Ah at hm;cases hb:((xr x&&xr y)&&(decide (c=0)||decide (c=1)))
 ·rw[hb] at hm;cases hm
 rw[hb] at hm;have hm:=eQ hm;subst hm;rw[bY,bY] at hb;obtain⟨⟨h1,h2⟩,h3⟩:=hb;obtain⟨X,rfl,hX⟩:=tU h1;obtain⟨Y,rfl,hY⟩:=tU h2;obtain⟨k,rfl,hk⟩:=NX h3;refine⟨fun w H vs ha=>?_⟩;obtain⟨u,v,t,rfl,hu,hv,ht⟩:=PN ha;have hu:u= .int .u64 (X:Int):=hu;have hv:v= .int .u64 (Y:Int):=hv;have ht:t= .int .u64 (k:Int):=ht;subst hu;subst hv;subst ht;refine⟨Extern.MathBitsCarry.pair ((X+18446744073709551616-Y-k)%18446744073709551616)<|if X<Y+k then 1 else 0,w,?_,⟨Below.refl _ _,bp _⟩,?_⟩
 ·rw[run_callFunc_extern func260 aH aH aH (e:=F7) aH];show Result.andThen ((F7 #[.int .u64 (X:Int),.int .u64 (Y:Int),.int .u64 (k:Int)]).run prog w) _=_;rw[Zp _ _ _ hk w]
  rfl
 ·refine⟨_,rfl,_,_,rfl,?_,_,_,rfl,?_,rfl⟩
  ·exact congrArg (Value.int .u64)<|ae0 18446744073709551616 X Y k hY hk
  ·exact congrArg (Value.int .u64)<|sub_lt X Y k
def KZ(hm:yo x y=some r):c8 210 [TI .u64 x,TI .u64 y] [TI .u64 r.1,TI .u64 r.2]:=by
 unfold yo at hm;cases hb:(xr x&&xr y)
 ·rw[hb] at hm;cases hm
 rw[hb] at hm;have hm:=eQ hm;subst hm;rw[bY] at hb;obtain⟨X,rfl,hX⟩:=tU hb.1;obtain⟨Y,rfl,hY⟩:=tU hb.2;refine tW aH fun w H vs sub gl ha=>?_
 obtain⟨u,v,rfl,hu,hv⟩:=Cd ha;have hu:u= .int .u64 (X:Int):=hu;have hv:v= .int .u64 (Y:Int):=hv;subst hu;subst hv;refine(bits_Mul64 X Y hX hY w).mono ?_;rintro e w' ⟨rfl,rfl⟩;exact⟨_,rfl,Ex.refl _ _,_,rfl,_,_,rfl,congrArg (Value.int .u64) (by rw[Int.natCast_ediv,uZ];rfl),_,_,rfl,congrArg (Value.int .u64) (by rw[Int.natCast_emod,uZ];rfl),rfl⟩
def ID:∀(f n:Nat),n<2^f->Lib.bitLenAux f n=C4 n
 |0,n,h=>by
  have:n=0:=by simpa using h
  subst this;rfl
 |f+1,n,h=>by
  unfold Lib.bitLenAux C4;by_cases h0:n=0
  ·subst h0;rfl
  ·rw[if_neg h0,ID f (n/2) (by rw[Ai] at h;omega)];have hb:Nat.beq n 0=false:=by
    cases e:Nat.beq n 0 with
    |false=>rfl
    |true=>exact absurd (fL e) h0
   rw[hb];unfold C4;by_cases h1:n/2=0
   ·have:n=1:=by omega
    subst this;rfl
   ·have hb2:Nat.beq (n/2) 0=false:=by
     cases e:Nat.beq (n/2) 0 with
     |false=>rfl
     |true=>exact absurd (fL e) h1
    rw[hb2];show 1+(Nat.log2 (n/2)+1)=Nat.log2 n+1
    conv=>rhs;rw[Nat.log2_def,if_pos (by omega)]
    omega
def bitLen_eq{n:Nat}(h:n<18446744073709551616):Lib.bitLen n=C4 n:=ID 64 n h
def afb{r:Int}(hm:HI x=some r):c8 203 [TI .u64 x] [TI .i64 r]:=by
 unfold HI at hm;cases hb:xr x
 ·rw[hb] at hm;cases hm
 rw[hb] at hm;have hm:=eQ hm;subst hm;obtain⟨X,rfl,hX⟩:=tU hb;refine tW aH fun w H vs sub gl ha=>?_
 obtain⟨u,rfl,hu⟩:=uK ha;have hu:u= .int .u64 (X:Int):=hu;subst hu;refine(bits_Len64 (X:Int) w (by omega) (by omega)).mono ?_;rintro e w' ⟨rfl,rfl⟩;exact⟨_,rfl,Ex.refl _ _,congrArg (Value.int .i64) (by rw[Int.toNat_natCast,bitLen_eq hX])⟩
def abo{r:Int}(hm:Jq x=some r):c8 283 [TI .u64 x] [TI .i64 r]:=by
 unfold Jq at hm;cases hb:xr x
 ·rw[hb] at hm;cases hm
 rw[hb] at hm;have hm:=eQ hm;subst hm;obtain⟨X,rfl,hX⟩:=tU hb;refine tW aH fun w H vs sub gl ha=>?_
 obtain⟨u,rfl,hu⟩:=uK ha;have hu:u= .int .u64 (X:Int):=hu;subst hu;refine(bits_LeadingZeros64 (X:Int) w (by omega) (by omega)).mono ?_;rintro e w' ⟨rfl,rfl⟩;exact⟨_,rfl,Ex.refl _ _,congrArg (Value.int .i64) (by rw[Int.toNat_natCast,bitLen_eq hX])⟩
end
section
variable{k:Nat}{x y:Rat}{z:Int}{n j:Nat}{r:Int×att Int}{a b:Nat}
def aiD:Bool:=(List.range 19).all fun k=>decide<|sL (10,[]) (k:Int)=some ((10:Int)^k,[])
def ZC:aiD=true:=aH
def ZM(h:k<=18):sL (10,[]) (k:Int)=some ((10:Int)^k,[]):=by
 have:=dI.1 ZC k (yt.2 (by omega));exact aZ this
def EC:∀(l:ad3) (n:Nat),l.foldl (fun n b=>10*n+(b.toNat-48)) n=n*10^l.length+dz l
 |[],n=>by simp[dz]
 |b::l,n=>by
  have e:dz (b::l)=(b.toNat-48)*10^l.length+dz l:=by
   show l.foldl (fun n b=>10*n+(b.toNat-48)) (10*0+(b.toNat-48))=_;rw[EC l,Nat.mul_zero,vd]
  rw[Lx,EC l,e,pb,List.length_cons,Ai];have:10*n*10^l.length=n*(10^l.length*10):=by rw[qJ 10 n,Nat.mul_assoc,qJ 10]
  omega
def xd(l m:ad3):dz (l++m)=dz l*10^m.length+dz m:=by
 show(l++m).foldl _ 0=_;rw[List.foldl_append,EC m];rfl
def Z0{b:UInt8}(h:iA b=true):b.toNat-48<=9:=by
 unfold iA at h;obtain⟨_,h2⟩:=eT h;have:=gK h2;omega
def yj:∀(l:ad3),l.all iA=true->dz l<10^l.length
 |[],_=>by simp[dz]
 |b::l,h=>by
  rw[ti] at h;obtain⟨h1,h2⟩:=eT h;have:=yj l h2;have hb:=Z0 h1;show(b::l).foldl _ 0<_;rw[Lx,EC l,List.length_cons,Ai];have:(10*0+(b.toNat-48))*10^l.length<=9*10^l.length:=mF _ (by omega);omega
def wH(h:z.natAbs<10^n)(hn:n<=1000000):uC z=true:=by
 unfold uC;refine lz ?_;rcases r9 z.natAbs with h0|h0
 ·rw[h0];exact lz (by simp)|>gK
 ·have h1:(10:Nat)^n<=(2^4)^n:=Nat.pow_le_pow_left (by omega) n;rw[<-Nat.pow_mul] at h1;have:Nat.log2 z.natAbs<4*n:=(yr (by omega)).2 (by omega);omega
def abU{s:ad3}(h:vB s=some z):Yd (fun q=>rI q z) (Co s):=by
 have core:∀(ds:ad3) (neg:Bool) (w:Int),(ds.all iA&&Nat.blt ds.length 1000000)=true->w=(bif neg then -(dz ds:Int) else(dz ds:Int))->
   Yd (fun q=>rI q w) (lp 18446744073709551616 (fun(k6:(ad3×(Int×att Int))->av8 _) (s5:ad3×(Int×att Int))=>
    cond (decide<|(0:Int)<(s5.1.length:Int)) (
     bd (iq s5.1 0<|mn_ (18:Int) (s5.1.length:Int)) fun x8=>
     bd (Ni x8) fun iI=>
     bd (qI (10:Int)) fun iY=>
     bd (sL iY<|mn_ (18:Int) (s5.1.length:Int)) fun jR=>
     bd (nN s5.2 jR) fun jG=>
     bd (qI iI.1) fun kZ=>
     bd (nO jG kZ) fun mC=>
     bd (iq s5.1 (mn_ (18:Int) (s5.1.length:Int)) (s5.1.length:Int)) fun uk=>
     k6 (uk,mC)
    ) (
     cond neg (
      bd (jb s5.2) fun qW=>
      some qW
     ) (
      some s5.2
     )
    )
   ) (ds,(0,[]))):=by
  intro ds neg w hds hw;obtain⟨hd,hl⟩:=eT hds;have hl:ds.length<1000000:=gK hl;refine Yd.lp (fun t:ad3×(Int×att Int)=>t.1.all iA=true/\t.1.length<=ds.length/\∃v:Nat,rI t.2 (v:Int)/\v<10^(ds.length-t.1.length)/\v*10^t.1.length+dz t.1=dz ds)
   (fun t:ad3×(Int×att Int)=>t.1.length) ?_ _ _ ⟨hd,bp _,0,.inl ⟨rfl,rfl,by unfold Bh;omega⟩,by dsimp only;rw[Nat.sub_self];decide,by dsimp only;omega⟩ (by dsimp only;omega)
  rintro next ⟨ss,r⟩ ⟨h1,h2,v,h3,h4,h5⟩ hn
  dsimp only at h1 h2 h3 h4 h5 hn⊢;have hsv:uC (v:Int)=true:=wH (n:=ds.length-ss.length) (by simpa using h4) (by omega);refine Yd.cond (fun hc=>?_)<|fun hc=>?_
  ·have hc:=aZ hc;obtain⟨m,hm,hm1,hm2,hm3⟩:∃m:Nat,mn_ 18 (ss.length:Int)=(m:Int)/\m<=18/\m<=ss.length/\0<m:=by
    unfold mn_;by_cases h:(ss.length:Int)<18
    ·rw[aW h];exact⟨ss.length,rfl,by omega,by omega,by omega⟩
    ·rw[bC h];exact⟨18,rfl,by omega,by omega,by omega⟩
   rw[hm];have hss:ss=ss.take m++ss.drop m:=(zz m ss).symm;have hall:=h1;rw[hss,Lw] at hall;obtain⟨a1,a2⟩:=eT hall;have hlt:(ss.take m).length=m:=by rw[List.length_take];omega
   have hld:(ss.drop m).length=ss.length-m:=lr;have Da:=xd (ss.take m)<|ss.drop m
   rw[<-hss,hld] at Da;have hb:=yj _ a1;rw[hlt] at hb;have aae:dz (ss.take m)<10^18:=nT hb (pX (by omega) hm1);have aun:(10:Nat)^m<=10^18:=pX (by omega) hm1;have amy:((10:Int)^m)=((10^m:Nat):Int):=by rw[Int.natCast_pow];rfl
   have hat:Ni (ss.take m)=some ((dz (ss.take m):Int),()):=by
    unfold Ni;have e1:(ss.take m).isEmpty=false:=by
     cases he:(ss.take m) with
     |nil=>rw[he] at hlt;simp at hlt;omega
     |cons _ _=>rfl
    have e2:Nat.ble (ss.take m).length 18=true:=lz (by omega);rw[e1,e2,a1];rfl
   refine Yd.bd (im (by omega) (by omega) (by omega)) ?_;have e0:(ss.take ((m:Nat):Int).toNat).drop ((0:Int)).toNat=ss.take m:=by simp
   rw[e0];refine Yd.bd hat<|Yd.bd (show qI 10=some (10,[]) from rfl)<|Yd.bd (ZM hm1) ?_
   have hp:0<(10:Nat)^m:=Nat.pow_pos (by omega);have hrp:rI ((10:Int)^m,[]) ((10^m:Nat):Int):= .inl ⟨rfl,by dsimp only;exact amy,by unfold Bh;omega⟩;have uo:(10:Nat)^18<10^19:=by decide
   have apa:uC ((10^m:Nat):Int)=true:=wH (n:=19) (by simp only[iU];omega) (by omega);refine Yd.iG (XI h3 hrp hsv apa) fun q hq=>?_
   refine Yd.bd (show qI (dz (ss.take m):Int)=some ((dz (ss.take m):Int),[]) from rfl) ?_;have hrd:rI ((dz (ss.take m):Int),[]) (dz (ss.take m):Int):= .inl ⟨rfl,rfl,by unfold Bh;omega⟩;have ap1:ds.length-(ss.drop m).length=(ds.length-ss.length)+m:=by rw[hld];omega
   have Nx:v*10^m+dz (ss.take m)<10^(ds.length-(ss.drop m).length):=by
    rw[ap1,qe];have:(v+1)*10^m<=10^(ds.length-ss.length)*10^m:=mF _ (by omega);rw[pb,qf] at this;omega
   have ao9:uC ((v:Int)*((10^m:Nat):Int))=true:=by
    rw[<-uZ];exact wH (n:=ds.length-(ss.drop m).length) (by simp only[iU];omega) (by omega)
   have hlq:=hq.len ao9;refine Yd.iG (Lg hq hrd (by omega) (by simp)) fun q2 hq2=>?_
   refine Yd.bd (im (by omega) (by omega) (by omega)) ?_;have e1:(ss.take ((ss.length:Nat):Int).toNat).drop ((m:Nat):Int).toNat=ss.drop m:=by simp
   rw[e1];refine hn _ ⟨a2,by dsimp only;omega,v*10^m+dz (ss.take m),?_,Nx,?_⟩ (by dsimp only;omega)
   ·dsimp only;rw[Int.natCast_add,uZ];exact hq2
   ·dsimp only;rw[<-h5,Da,pb,Nat.mul_assoc,<-qe,hld,show m+(ss.length-m)=ss.length from by omega];omega
  ·have hc:=br hc;have h0:ss=[]:=pZ (by omega);subst h0;have h5:v=dz ds:=by simpa[dz] using h5
   subst h5;subst hw;cases neg
   ·exact Yd.cond (fun h=>by cases h)<|fun _=>Yd.mk h3
   ·exact Yd.cond (fun _=>Yd.iG (Ab h3) fun q hq=>Yd.mk hq) (fun h=>by cases h)
 have hp:∀b:Bool,(decide ((([45]:ad3).length:Int)<=(s.length:Int))&&(s.take 1==[45]))=b->bu s [45]=some b:=by
  intro b hb;unfold bu;cases hc:decide ((([45]:ad3).length:Int)<=(s.length:Int)) with
  |false=>
   rw[hc] at hb;rw[HX] at hb;subst hb;rfl
  |true=>
   rw[hc] at hb;have hc:=aZ hc;show bd (iq s 0<|(([45]:ad3).length:Int)) _=_;rw[im (by omega) (by omega) hc];exact congrArg some hb
 have pre:∀(b:Bool) (ds:ad3),bu s [45]=some b->(b=true->s=45::ds)->(b=false->ds=s)->(ds.all iA&&Nat.blt ds.length 1000000)=true->z=(bif b then -(dz ds:Int) else(dz ds:Int))->Yd (fun q=>rI q z) (Co s):=by
  intro b ds e1 e2 e2' e3 e4;unfold Co;refine Yd.bd (x:=b) ?_<|Yd.bd (x:=ds) ?_<|core ds b z e3 e4
  ·unfold rP;rw[e1];rfl
  ·unfold ir fB;rw[e1];cases b
   ·rw[e2' rfl];rfl
   ·rw[e2 rfl];show bd (bd (iq (45::ds) 1 (((45::ds:ad3).length:Nat):Int)) _) _=_;rw[im (by omega) (by rw[List.length_cons];omega)<|Int.le_refl _];show some _=some _;simp
 unfold vB at h;split at h
 ·rename_i ds;obtain⟨hb,rfl⟩:=jh h;refine pre true ds (hp true ?_) (fun _=>rfl) (fun h=>by cases h) hb rfl;rw[aW (show((([45]:ad3).length:Nat):Int)<=(((45::ds:ad3).length:Nat):Int) by simp only[List.length_cons,Cu];omega)]
  rfl
 ·rename_i hne;obtain⟨hb,rfl⟩:=jh h;refine pre false s (hp false ?_) (fun h=>by cases h) (fun _=>rfl) hb rfl;cases s with
  |nil=>rfl
  |cons c l=>
   have:c≠45:=fun e=>hne l (by rw[e])
   have h2:((c::l).take 1==[45])=false:=by
    simp[this]
   rw[h2,HW]
def ZR(h0:n≠0)(h1:2^k<=n)(h2:n<2^(k+1)):Nat.log2 n=k:=(Nat.log2_eq_iff h0).2 ⟨h1,h2⟩
def aa4{w:att Int}{t:Nat}(hw:okW w)(hl:w.length=k+1)(ht:w.getD k 0=(t:Int))(h0:t≠0):((aO w).toNat).log2=64*k+t.log2:=by
 have hs:aO w=aO (w.take k)+gX k*(t:Int):=by
  have:aO (w.take<|k+1)=aO w:=by rw[eF (by omega)]
  rw[<-this,bm,ht]
 obtain⟨b0,b1⟩:=dw<|mV hw k
 rw[List.length_take,fW (by omega)] at b1;rw[QZ] at hs b1;obtain⟨L,hL⟩:=gL b0;rw[hL] at hs b1;have e:(aO w).toNat=L+2^(64*k)*t:=by
  rw[hs,<-uZ];omega
 have hL':L<2^(64*k):=by exact_mod_cast b1
 obtain⟨l1,l2⟩:=BK h0;have hp:0<2^(64*k):=EV _;have m1:2^(64*k)*2^t.log2<=2^(64*k)*t:=E2 _ l1;have m2:2^(64*k)*(t+1)<=2^(64*k)*2^(t.log2+1):=E2 _ l2;rw[<-qe] at m1 m2;rw[Nat.mul_add,Nat.mul_one] at m2;have hp2:0<2^(64*k+t.log2):=EV _;rw[e];exact ZR (by omega) (by omega) (by rw[rR];omega)
def abW(h:rI r z)(hz:uC z=true):uX r=some (bif decide (z=0) then 0 else(Nat.log2 z.natAbs:Int)+1):=by
 have key:Yd (fun n=>n=(bif decide (z=0) then 0 else(Nat.log2 z.natAbs:Int)+1)) (uX r):=by
  unfold uX;have hlen:=h.len hz;refine Yd.iG (ri h) ?_;rintro⟨neg,w⟩ ⟨_,hw,hv,hl⟩;dsimp only at hw hv hl⊢;refine Yd.cond (fun hc=>?_)<|fun hc=>?_
  ·have hc:=aZ hc;have h0:w=[]:=pZ (by omega);subst h0;have:z=0:=by
    have:(0:Int)=(z.natAbs:Int):=hv;omega
   subst this;exact Yd.mk rfl
  ·have hc:=br hc;obtain⟨k,hk⟩:∃k,w.length=k+1:=⟨w.length-1,by omega⟩;have e1:((w.length:Int)-1)=((k:Nat):Int):=by omega
   rw[e1];have ht:=fg hw.1 k;obtain⟨t,ht'⟩:=gL ht.1;have h0:t≠0:=by
    intro e;subst e;refine hw.2 ?_;rw[List.getLast?_eq_getElem?,show w.length-1=k from by omega];rw[iy,j7 (by omega)] at ht';rw[j7 (by omega)];simpa using ht'
   have Z8:=aa4 hw.1 hk ht' h0;rw[hv,Int.toNat_natCast] at Z8;have hz0:z≠0:=by
    intro e;subst e;have:=vP hw.1 (by intro e;rw[e] at hk;simp at hk) hw.2;have hp:=o5<|w.length-1
    rw[hv] at this;simp at this;omega
   have ht2:t<2^64:=by have:=ht.2;rw[ht'] at this;unfold BB at this;omega
   have ajm:HI (t:Int)=some ((t.log2:Int)+1):=by
    unfold HI xr;rw[aW (show(0:Int)<=(t:Int) by omega),aW (show((t:Nat):Int)<18446744073709551616 by omega)];show some ((C4 ((t:Nat):Int).toNat:Nat):Int)=_;have:C4 t=Nat.log2 t+1:=by
     unfold C4;have:Nat.beq t 0=false:=by
      cases hb:Nat.beq t 0 with
      |false=>rfl
      |true=>exact absurd (fL hb) h0
     rw[this];rfl
    rw[Int.toNat_natCast,this];rfl
   have hlt:t.log2<64:=(yr h0).2 ht2;refine Yd.bd (aM ⟨by omega,by omega⟩) (Yd.bd (aM ⟨by omega,by omega⟩) (Yd.bd (aM ⟨by omega,by omega⟩) (Yd.bd (bJ (by omega)) ?_)));rw[ht'];refine Yd.bd ajm (Yd.bd (aM ⟨by omega,by omega⟩)<|Yd.mk ?_);rw[bC hz0,Z8];simp only[a8];omega
 obtain⟨n,e,rfl⟩:=key;exact e
def rI.one(h:rI r z):((List.isEmpty r.2)&&decide (r.1=(1:Int)))=decide (z=1):=by
 rcases h with⟨h1,h2,h3⟩|⟨h0,h1,h2,h3,h4,h5⟩
 ·rw[h1,h2];rfl
 ·have e:List.isEmpty r.2=false:=by
   cases hr:r.2 with
   |nil=>exact absurd hr h0
   |cons _ _=>rfl
  rw[e,HX]
  symm
  rw[me];rcases h1 with e|e<;>rw[h4,e]<;>omega
def abV{s:Int×att Int}{x y:Int}(hr:rI r x)(hs:rI s y)(hx:uC x=true)(hy:uC y=true)(h0:y≠0):Yd (fun q=>rI q.1 ((x:Rat)/(y:Rat)).num/\rI q.2 (((x:Rat)/(y:Rat)).den:Int)) (Gf r s):=by
 unfold Gf;have en:((x:Rat)/(y:Rat)).num=(y.sign*x)/(Int.gcd y x:Int):=by rw[<-vi,HU]
 have ed:(((x:Rat)/(y:Rat)).den:Int)=(y.natAbs:Int)/(Int.gcd y x:Int):=by
  rw[<-vi,HT,if_neg h0];rfl
 rw[en,ed];refine Yd.bd (BE hs)<|Yd.jn (fun t=>rI t.1 (y.sign*x)/\rI t.2 (y.natAbs:Int)) ?_<|fun k hk=>Yd.cond (fun hd=>?_)<|fun hd=>?_
 ·rintro⟨a,b⟩ ⟨ha,hb⟩;dsimp only at ha hb⊢;have hg:Int.gcd (y.sign*x) (y.natAbs:Int)=Int.gcd y x:=by
   rw[Int.gcd_comm];unfold Int.gcd;rw[rT,iU]
   congr 1
   rcases rZ y 0 with h|h|h
   ·rw[pY h];simp
   ·exact absurd h h0
   ·rw[pe h];simp
  have hg0:0<Int.gcd y x:=LR _ h0;have sa:uC (y.sign*x)=true:=I7 (y:=x) (by
   rw[rT];rcases rZ y 0 with h|h|h
   ·rw[pY h];simp
   ·exact absurd h h0
   ·rw[pe h];simp) hx
  have sb:uC (y.natAbs:Int)=true:=I7 (y:=y) (by simp) hy;rw[rI.one hb];refine Yd.cond (fun hc=>?_)<|fun hc=>?_
  ·have hc:=aZ hc;have h1:Int.gcd y x=1:=by
    unfold Int.gcd;rw[show y.natAbs=1 from by omega,Nat.gcd_one_left]
   rw[h1];refine Yd.mk ⟨?_,?_⟩
   ·dsimp only;rw[show((1:Nat):Int)=1 from rfl,Int.ediv_one];exact ha
   ·dsimp only;rw[show((1:Nat):Int)=1 from rfl,Int.ediv_one];exact hb
  ·refine Yd.iG (XJ ha hb sa sb) fun g hgr=>?_
   rw[hg] at hgr;have sg:uC (Int.gcd y x:Int)=true:=I7 (y:=y) (by
    rw[iU];exact Nat.le_of_dvd (by omega)<|Nat.gcd_dvd_left _ _) hy
   refine Yd.iG (Rm ha hgr sa sg (by omega)) fun p hp=>Yd.iG (Rm hb hgr sb sg (by omega)) fun q hq=>Yd.mk ⟨?_,?_⟩
   ·dsimp only;rw[Im _ (by omega)] at hp;exact hp
   ·dsimp only;rw[Im _ (by omega)] at hq;exact hq
 ·have hd:=aZ hd;have hn:y<0:=by
   rcases rZ y 0 with h|h|h
   ·exact h
   ·exact absurd h h0
   ·rw[pe h] at hd;omega
  refine Yd.iG (Ab hr) fun a ha=>Yd.iG (Ab hs) fun b hb=>hk _ ⟨?_,?_⟩
  ·rw[pY hn];simpa using ha
  ·rw[show(y.natAbs:Int)= -y from by omega];exact hb
 ·have hd:=br hd;have hn:0<y:=by
   rcases rZ y 0 with h|h|h
   ·rw[pY h] at hd;omega
   ·exact absurd h h0
   ·exact h
  refine hk _ ⟨?_,?_⟩
  ·rw[pe hn,Int.one_mul];exact hr
  ·rw[show(y.natAbs:Int)=y from by omega];exact hs
def Yy:∀(f n:Nat) (acc:ad3),n<f->ady f n acc=Lib.decDigits n++acc
 |0,n,_,h=>by omega
 |f+1,n,acc,h=>by
  unfold ady;by_cases h1:n<10
  ·rw[show Nat.blt n 10=true from lz h1,Lib.decDigits_one h1];rfl
  ·have:Nat.blt n 10=false:=by
    cases hb:Nat.blt n 10 with
    |false=>rfl
    |true=>exact absurd (gK hb) h1
   rw[this];show ady f (n/10) _=_;rw[Yy f (n/10) _ (by omega)]
   conv=>rhs;rw[Lib.decDigits,dif_neg h1]
   simp
def Ff(n:Nat):cz n=Lib.decDigits n:=by unfold cz;rw[Yy _ _ _ (by omega)];simp
def qR(h:n<10):cz n=[UInt8.ofNat<|48+n]:=by rw[Ff,Lib.decDigits_one h]
def tY(h: ¬n<10):cz n=cz (n/10)++[UInt8.ofNat<|48+n%10]:=by
 rw[Ff,Ff,Lib.decDigits,dif_neg h]
def nr:∀(k n:Nat),0<k->n<10^k->(cz n).length<=k
 |0,_,h,_=>by omega
 |k+1,n,_,h=>by
  by_cases h1:n<10
  ·rw[qR h1];simp
  ·rw[tY h1,List.length_append];rcases r9 k with h0|h0
   ·subst h0;simp at h;omega
   ·have:=nr k (n/10) h0 (by rw[Ai] at h;omega);simp;omega
def ze(k r:Nat):ad3:=List.replicate (k-(cz r).length) 48++cz r
def ZG{r:Nat}(hk:0<k)(hr:r/10<10^k):ze (k+1) r=ze k (r/10)++[UInt8.ofNat<|48+r%10]:=by
 unfold ze;by_cases h:r<10
 ·rw[show r/10=0 from by omega,qR h,qR (show 0<10 by omega),show r%10=r from by omega];have:List.replicate (k+1-1) (48:UInt8)=List.replicate (k-1) 48++[48]:=by
   rw[show k+1-1=(k-1)+1 from by omega,List.replicate_succ']
  simp only[List.length_singleton];rw[this];rfl
 ·rw[tY h,List.length_append,List.length_singleton,show k+1-((cz<|r/10).length+1)=k-(cz<|r/10).length from by omega,nR]
def Gy:∀(k q r:Nat),0<q->0<k->r<10^k->cz (q*10^k+r)=cz q++ze k r
 |0,_,_,_,h,_=>by omega
 |k+1,q,r,hq,_,hr=>by
  rw[Ai] at hr⊢;have hp:0<10^k:=Nat.pow_pos (by omega);have Fu:10^k<=q*10^k:=Nat.le_mul_of_pos_left _ hq;rw[<-Nat.mul_assoc];rw[tY (by omega),show(q*10^k*10+r)/10=q*10^k+r/10 from by omega,show(q*10^k*10+r)%10=r%10 from by omega];rcases r9 k with h0|h0
  ·subst h0;have h9:r<10:=by simpa using hr
   rw[show r/10=0 from by omega,Nat.pow_zero,Nat.mul_one,Al];unfold ze;rw[qR h9,show r%10=r from by omega];rfl
  ·rw[Gy k q (r/10) hq h0 (by omega),ZG h0 (by omega),nR]
def Xw(c:Nat):afi [48] c=List.replicate c 48:=by
 induction c with
 |zero=>rfl
 |succ c ih=>rw[List.replicate_succ,<-ih];rfl
def Norm.pos{w:att Int}(h:Norm w)(h0:w≠[]):0<aO w:=by
 have:=vP h.1 h0 h.2;have:=o5<|w.length-1
 omega
def WI{r:Nat}(h:r<1000000000000000000):(cz r).length<=18:=nr 18 r (by omega) (by simpa using h)
def adv{l:att ad3}{x:ad3}(h:l[n]? =some x):(l.drop n).reverse.flatten=(l.drop<|n+1).reverse.flatten++x:=by
 obtain⟨hn,e⟩:=kE.1 h;rw[D7 hn,e,List.reverse_cons,List.flatten_append];simp
def Uz{l:att ad3}(h:∀x∈l,x.length<=18):l.flatten.length<=18*l.length:=by
 induction l with
 |nil=>simp
 |cons a l ih=>
  rw[List.flatten_cons,List.length_append,List.length_cons];have h1:=h a (by simp);have h2:=ih fun x hx=>h x (by simp[hx])
  omega
def VW(h:rI r z)(hz:uC z=true):Yd (fun s=>s=eh z) (wg r):=by
 unfold wg;have hlen:=h.len hz;refine Yd.cond (fun hc=>?_)<|fun hc=>?_
 ·rcases h with⟨h1,h2,h3⟩|⟨h1,_⟩
  ·have e:Nh z=some (eh z):=by
    unfold Nh;have:yA z=true:=by
     unfold Bh at h3;unfold yA;rw[aW h3.1,aW h3.2];rfl
    rw[this];rfl
   rw[h2];exact Yd.bd e<|Yd.mk rfl
  ·exact absurd (Ar.1 hc) h1
 have Fu:z.natAbs≠0:=by
  rcases h with⟨h1,_⟩|⟨h0,h1,h2,h3,h4,h5⟩
  ·rw[h1] at hc;simp at hc
  ·rcases h1 with e|e<;>rw[h4,e]<;>omega
 have Z8:Nat.log2 z.natAbs<1099511627776:=gK hz;refine Yd.iG (ri h) ?_;rintro⟨neg,w0⟩ ⟨p1,p2,p3,p4⟩;dsimp only at p1 p2 p3 p4⊢;refine Yd.lp (fun t:att Int×att ad3=>Norm t.1/\(∀x∈t.2,x.length<=18)/\∃v:Nat,aO t.1=(v:Int)/\v<=z.natAbs/\t.2.length+(if v=0 then 0 else Nat.log2 v+1)<=Nat.log2 z.natAbs+1/\cz z.natAbs=(if v=0 then [] else cz v)++t.2.reverse.flatten)
  (fun t:att Int×att ad3=>if aO t.1=0 then 0 else Nat.log2 (aO t.1).toNat+1) ?_ _ _ ⟨p2,by simp,z.natAbs,p3,bp _,by dsimp only;rw[if_neg Fu];simp,by dsimp only;rw[if_neg Fu];simp⟩ (by
   dsimp only;rw[p3,Int.toNat_natCast];split<;>omega)
 rintro next ⟨w,l⟩ ⟨h1,h2,v,h3,h4,h5,h6⟩ hn
 dsimp only at h1 h2 h3 h4 h5 h6 hn⊢;refine Yd.cond (fun hd=>?_)<|fun hd=>?_
 ·have hd:=aZ hd;have hw0:w≠[]:=by intro e;rw[e] at hd;simp at hd
  have Nu:v≠0:=by have:=h1.pos hw0;omega
  rw[if_neg Nu] at h5 h6;have hwl:w.length<=w0.length:=h1.len (by have:=(dw p2.1).2;omega);have acJ:Norm ([1000000000000000000]:att Int):=⟨by rw[sy];exact⟨⟨by omega,by unfold BB;omega⟩,Hz⟩,by simp⟩;refine Yd.iG (Na h1 acJ (by simp) (by omega) (by simp)) ?_;rintro⟨q,m⟩ ⟨⟨d1,d2⟩,d3,d4⟩;dsimp only at d1 d2 d3 d4⊢;have evb:aO ([1000000000000000000]:att Int)=1000000000000000000:=by simp[aO]
  rw[evb,h3] at d2 d4;have d2:aO q=((v/1000000000000000000:Nat):Int):=by rw[d2];rfl
  have d4:aO m=((v%1000000000000000000:Nat):Int):=by rw[d4];rfl
  have hml:v%1000000000000000000<1000000000000000000:=te _ (by omega)
  generalize hR:v%1000000000000000000=R at*
  refine Yd.jn (fun s=>s=cz R) ?_ ?_
  rotate_left
  ·intro k hk;refine Yd.cond (fun he=>?_)<|fun he=>?_
   ·have he:=aZ he;have hm1:m.length<=1:=d3.len (n:=1) (by rw[d4];unfold gX;unfold BB;omega);obtain⟨x,rfl⟩:∃x,m=[x]:=by
     cases m with
     |nil=>simp at he
     |cons x t=>cases t with
      |nil=>exact⟨x,rfl⟩
      |cons _ _=>simp at hm1
    have ex:x=(R:Int):=by rw[<-d4];simp[aO]
    subst ex;have ef:Rv (R:Int) 10=some (cz R):=by
     unfold Rv xr;rw[aW (show(0:Int)<=(R:Int) by omega),aW (show((R:Nat):Int)<18446744073709551616 by omega)]
     rfl
    exact Yd.bd (show bo [(R:Int)] 0=some (R:Int) from rfl)<|Yd.bd ef<|hk _ rfl
   ·have he:=br he;have hm0:m=[]:=pZ (by omega);subst hm0;have:R=0:=by
     have:(0:Int)=(R:Int):=d4;omega
    subst this;exact hk _ rfl
  rintro s rfl;have hsl:=WI hml;refine Yd.jn (fun s=>s.length<=18/\cz v=(if v/1000000000000000000=0 then [] else cz (v/1000000000000000000))++s) ?_ ?_
  rotate_left
  ·intro k hk;refine Yd.cond (fun he=>?_)<|fun he=>?_
   ·have he:=aZ he;have Z4:v/1000000000000000000≠0:=by
     intro e;have:=d1.pos (by intro e';rw[e'] at he;simp at he);rw[d2,e] at this;simp at this
    have er:Ru [48] ((18:Int)-((cz R).length:Int))=some (List.replicate (18-(cz R).length) 48):=by
     unfold Ru;rw[aW (show(0:Int)<=(18:Int)-((cz R).length:Int) by omega),aW (show(18:Int)-((cz R).length:Int)<=64 by omega)];show some (afi [48] ((18:Int)-((cz R).length:Int)).toNat)=_;rw[Xw]
     congr 2
     omega
    have es:zL (List.replicate (18-(cz R).length) 48) (cz R)=some (ze 18 R):=by
     unfold zL;rw[aW (by rw[xI];omega)];rfl
    refine Yd.bd (aM ⟨by omega,by omega⟩)<|Yd.bd er<|Yd.bd es<|hk _ ⟨?_,?_⟩
    ·unfold ze;rw[List.length_append,xI];omega
    ·rw[if_neg Z4];have:=Gy 18 (v/1000000000000000000) R (by omega) (by omega) (by simpa using hml);rw[show(10:Nat)^18=1000000000000000000 from rfl] at this;rw[<-this]
     congr 1
     omega
   ·have he:=br he;have hq:q=[]:=pZ (by omega);subst hq;have Z4:v/1000000000000000000=0:=by
     have:(0:Int)=((v/1000000000000000000:Nat):Int):=d2;omega
    refine hk _ ⟨hsl,?_⟩;rw[if_pos Z4,qL]
    congr 1
    omega
  rintro s ⟨s1,s2⟩;have ea:fX 16 l [s]=some (l++[s]):=by
   unfold fX;simp only[List.length_singleton];rw[aW (by omega),aW (by omega)];rfl
  have agu:v/1000000000000000000≠0->Nat.log2 (v/1000000000000000000)+1<=Nat.log2 v:=by
   intro hne;have:=(BK hne).1;have h2:2^(Nat.log2 (v/1000000000000000000)+1)<=v:=by rw[Ai];omega
   exact Rz h2
  refine Yd.bd ea (hn _ ⟨d1,?_,v/1000000000000000000,d2,by omega,?_,?_⟩ ?_)
  ·intro x hx;rcases bN.1 hx with hx|hx
   ·exact h2 x hx
   ·rw[cr] at hx;rw[hx];exact s1
  ·dsimp only;rw[List.length_append,List.length_singleton];split
   ·omega
   ·have:=agu (by assumption);omega
  ·dsimp only;rw[h6,s2,List.reverse_append];simp
  ·dsimp only;rw[d2,h3,if_neg (show¬((v:Nat):Int)=0 by omega),Int.toNat_natCast,Int.toNat_natCast];split
   ·omega
   ·have:=agu (by omega);omega
 ·have hd:=br hd;have hw0:w=[]:=pZ (by omega);subst hw0;have Nu:v=0:=by
   have:(0:Int)=(v:Int):=h3;omega
  subst Nu;rw[if_pos rfl] at h5 h6;rw[qL] at h6;have hfl:=Uz (l:=l.reverse)<|fun x hx=>h2 x<|List.mem_reverse.1 hx
  rw[List.length_reverse] at hfl;have bw:∀a b:ad3,a.length+b.length<=140737488355328->BI a b=some (a++b,(b.length:Int),()):=by
   intro a b Oi;unfold BI;rw[show Nat.ble (a.length+b.length) 140737488355328=true from lz Oi];rfl
  refine Yd.jn (fun s=>s.length<=1/\s++cz z.natAbs=eh z) ?_ ?_
  rotate_left
  ·intro k hk;cases zB:decide (z<0) with
   |true=>
    rw[zB] at p1;subst p1;have et:eh z=45::cz z.natAbs:=by unfold eh;rw[zB];rfl
    refine Yd.cond (fun _=>Yd.bd (bw [] [45] (by simp)) (hk ([]++[45]) ⟨by simp,by rw[et];rfl⟩)) (fun h=>by cases h)
   |false=>
    rw[zB] at p1;subst p1;have et:eh z=cz z.natAbs:=by unfold eh;rw[zB];rfl
    exact Yd.cond (fun h=>by cases h) (fun _=>hk [] ⟨by simp,by rw[et];rfl⟩)
  rintro pre ⟨e1,e2⟩;refine Yd.bd (aM ⟨by omega,by omega⟩) ?_;refine Yd.lp (fun t:ad3×Int=> -1<=t.2/\t.2<l.length/\t.1=pre++(l.drop (t.2+1).toNat).reverse.flatten) (fun t:ad3×Int=>(t.2+1).toNat) ?_ _ _ ⟨by dsimp only;omega,by dsimp only;omega,?_⟩ (by dsimp only;omega)
  rotate_left
  ·dsimp only;rw[show((l.length:Int)-1+1).toNat=l.length from by omega,Au];simp
  rintro xp ⟨b,i⟩ ⟨g1,g2,g3⟩ P2;dsimp only at g1 g2 g3 P2⊢;refine Yd.cond (fun hp=>?_)<|fun hp=>?_
  ·have hp:=aZ hp;obtain⟨n,rfl⟩:=gL hp;have Kf:n<l.length:=by omega
   have ex:bo l (n:Int)=some l[n]:=by
    show l[n]? =_;exact j7 Kf
   have at6:l[n].length<=18:=h2 _<|rY Kf
   have apX:=Uz (l:=(l.drop (((n:Nat):Int)+1).toNat).reverse)<|fun x hx=>h2 x<|yx<|List.mem_reverse.1 hx
   rw[List.length_reverse,lr] at apX;refine Yd.bd ex (Yd.bd ex (Yd.bd (bw b l[n] (by rw[g3,List.length_append];omega)) (Yd.bd (aM ⟨by omega,by omega⟩) (P2 _ ⟨by dsimp only;omega,by dsimp only;omega,?_⟩ (by dsimp only;omega)))));dsimp only;rw[show(((n:Nat):Int)-1+1).toNat=n from by omega,g3,show(((n:Nat):Int)+1).toNat=n+1 from by omega,adv (x:=l[n])<|j7 Kf,nR]
  ·have hp:=br hp;have hi:i= -1:=by omega
   subst hi;have g3:b=pre++l.reverse.flatten:=g3;have eb:b=eh z:=by rw[g3,<-h6,e2]
   have hne:(!b.isEmpty)=true:=by
    rw[eb];have hd:cz z.natAbs≠[]:=fun e=>by
     by_cases h:z.natAbs<10
     ·rw[qR h] at e;cases e
     ·rw[tY h] at e;simp at e
    unfold eh;cases decide (z<0) with
    |true=>rfl
    |false=>
     show(!(cz z.natAbs).isEmpty)=true;cases h:cz z.natAbs with
     |nil=>exact absurd h hd
     |cons _ _=>rfl
   refine Yd.bd (show BJ b=some b by unfold BJ;rw[hne];rfl)<|Yd.mk ?_
   exact eb
def G4(n:Nat)(k:Nat):Prop:=Nat.log2 n<k
def aeX(ha:G4 a j)(hb:G4 b k):G4 (a*b) (j+k+1):=by
 unfold G4 at*;by_cases h0:a=0
 ·subst h0;simp
 by_cases h1:b=0
 ·subst h1;simp
 have h2:=(BK h0).2;have h3:=(BK h1).2;have h4:a*b<2^(Nat.log2 a+1)*2^(Nat.log2 b+1):=Nat.mul_lt_mul'' h2 h3;rw[<-qe] at h4;have:=(yr<|Nat.mul_ne_zero h0 h1).2 h4;omega
def aeY(ha:G4 a k)(hb:G4 b k):G4 (a+b) (k+1):=by
 unfold G4 at*;by_cases h0:a+b=0
 ·rw[h0];simp
 have h2:a<2^k:=by
  by_cases h:a=0
  ·subst h;exact EV _
  ·exact(yr h).1 ha
 have h3:b<2^k:=by
  by_cases h:b=0
  ·subst h;exact EV _
  ·exact(yr h).1 hb
 exact(yr h0).2 (by rw[Ai];omega)
def Mz(h:a<=b)(hb:G4 b k):G4 a k:=Nat.lt_of_le_of_lt (XS h) hb
def JU(h:G4 z.natAbs k)(hk:k<=1099511627776):uC z=true:=by
 unfold uC;exact lz<|df h hk
def xe{q:Rat}(h:Dh q=true):G4 q.num.natAbs 68719476736/\G4 q.den 68719476736:=by
 unfold Dh at h;obtain⟨h1,h2⟩:=eT h;exact⟨gK h1,gK h2⟩
def uB{q:Rat}(h:G4 q.den k):G4 ((q.den:Int)).natAbs k:=by rw[iU];exact h
def B5{a b:Int}(ha:G4 a.natAbs 68719476736)(hb:G4 b.natAbs 68719476736):G4 (a*b).natAbs 137438953473:=by
 rw[rT];exact aeX ha hb
def ail{a b:Int}(ha:G4 a.natAbs 137438953473)(hb:G4 b.natAbs 137438953473):G4 (a+b).natAbs 137438953474:=
 Mz (Int.natAbs_add_le a b) (aeY ha hb)
def YK{x y:Int}(hx:G4 x.natAbs j)(hy:G4 y.natAbs k)(hj:j<=1099511627776)(hk:k<=1099511627776):U6 x y=some (x+y):=by
 unfold U6;rw[JU hx hj,JU hy hk];rfl
def CP{x y:Int}(hx:G4 x.natAbs j)(hy:G4 y.natAbs k)(hj:j<=1099511627776)(hk:k<=1099511627776):De x y=some (x*y):=by
 unfold De;rw[JU hx hj,JU hy hk];rfl
def ag7{x y:Int}(hx:G4 x.natAbs j)(hy:G4 y.natAbs k)(hj:j<=1099511627776)(hk:k<=1099511627776):ad0 x y=some (UN x y):=by
 unfold ad0;rw[JU hx hj,JU hy hk];rfl
def Ob{x y:Int}(hx:G4 x.natAbs j)(hy:G4 y.natAbs k)(hj:j<=1099511627776)(hk:k<=1099511627776)(h0:y≠0):Er x y=some ((x:Rat)/(y:Rat)):=by
 unfold Er;rw[JU hx hj,JU hy hk,bC h0];rfl
def TO(q:Rat):ZP q.num q.den=some q:=by
 obtain⟨d,hd⟩:∃d,q.den=d+1:=⟨q.den-1,by have:=q.den_pos;omega⟩;unfold ZP;have hr:=q.reduced;unfold Nat.Coprime at hr;rw[hd] at hr⊢;show Bl (Nat.beq (Nat.gcd q.num.natAbs<|d+1) 1) (mkRat q.num<|d+1)=_;rw[hr,<-hd,EP];rfl
def K4(x y:Rat):(((x.num*y.den+y.num*x.den:Int)):Rat)/(((x.den:Int)*(y.den:Int):Int):Rat)=x+y:=by
 have h:=Rat.mkRat_add_mkRat x.num y.num x.den_nz y.den_nz;rw[EP,EP,Rat.mkRat_eq_div] at h;rw[h,<-uZ];rfl
def K3(x y:Rat):(((x.num*y.num:Int)):Rat)/(((x.den:Int)*(y.den:Int):Int):Rat)=x*y:=by
 have h:=Rat.mkRat_mul_mkRat x.num y.num x.den y.den;rw[EP,EP,Rat.mkRat_eq_div] at h;rw[h,<-uZ];rfl
def PC(h:x.den=1):x=(x.num:Rat):=by
 have h1:=EP x;rw[h] at h1;rw[<-Rat.mkRat_one,h1]
def xL(x:Rat):(x.den:Int)≠0:=by have:=x.den_pos;omega
def ac6(x:Rat):zo x=some (-x):=by
 unfold zo;show bd (ZP (-x.num) x.den) _=_;have:=TO<| -x
 rw[HM,HL] at this;rw[this];rfl
def Wx(z:Int):D4 z=some (z:Rat):=by
 unfold D4;show bd (ZP z 1) _=_;have:=TO (z:Rat);rw[Ap,EU] at this;rw[show((1:Nat):Int)=1 from rfl] at this;rw[this];rfl
def adb(hx:Dh x=true)(hy:Dh y=true):zw x y=some (x+y):=by
 obtain⟨a1,a2⟩:=xe hx;obtain⟨b1,b2⟩:=xe hy;have Yn:(bd (De x.num (y.den:Int)) fun iI=>
  bd (De y.num (x.den:Int)) fun iY=>
  bd (U6 iI iY) fun jR=>
  bd (De (x.den:Int) (y.den:Int)) fun jG=>
  bd (Er jR jG) fun kZ=>
  some kZ)=some (x+y):=by
  rw[CP a1 (uB b2) (by omega) (by omega)];show bd (De y.num (x.den:Int)) _=_;rw[CP b1 (uB a2) (by omega) (by omega)];show bd (U6 _ _) _=_;rw[YK (B5 a1<|uB b2) (B5 b1<|uB a2) (by omega) (by omega)];show bd (De (x.den:Int) (y.den:Int)) _=_;rw[CP (uB a2) (uB b2) (by omega) (by omega)];show bd (Er _ _) _=_;rw[Ob (ail (B5 a1<|uB b2)<|B5 b1<|uB a2) (B5 (uB a2)<|uB b2) (by omega) (by omega)<|ET (xL x)<|xL y,K4];rfl
 unfold zw;by_cases h1:x.den=1
 ·by_cases h2:y.den=1
  ·have e1:mj x=some true:=by unfold mj;rw[aW h1]
   have e2:mj y=some true:=by unfold mj;rw[aW h2]
   rw[e1,e2];show bd (U6 x.num y.num) _=_;rw[YK a1 b1 (by omega) (by omega)];show some ((x.num+y.num:Int):Rat)=_;rw[Rat.intCast_add,<-PC h1,<-PC h2]
  ·have e1:mj x=some true:=by unfold mj;rw[aW h1]
   have e2:mj y=some false:=by unfold mj;rw[bC h2]
   rw[e1,e2];exact Yn
 ·have e1:mj x=some false:=by unfold mj;rw[bC h1]
  rw[e1];exact Yn
def ac7(hx:Dh x=true)(hy:Dh y=true):zp x y=some (x*y):=by
 obtain⟨a1,a2⟩:=xe hx;obtain⟨b1,b2⟩:=xe hy;unfold zp;rw[CP a1 b1 (by omega) (by omega)];show bd (De (x.den:Int) (y.den:Int)) _=_;rw[CP (uB a2) (uB b2) (by omega) (by omega)];show bd (Er _ _) _=_;rw[Ob (B5 a1 b1) (B5 (uB a2)<|uB b2) (by omega) (by omega)<|ET (xL x)<|xL y,K3];rfl
def aeV(y:Rat):Dh (-y)=Dh y:=by
 unfold Dh;rw[HM,HL,ER]
def ac5(hx:Dh x=true)(hy:Dh y=true):zn x y=some (x-y):=by
 unfold zn;show bd (Gb x<| -y) _=_;unfold Gb;rw[hx,aeV,hy];show some (x+ -y)=_;rw[RA]
def ac8(hx:Dh x=true)(h0:x≠0):zr x=some x⁻¹ :=by
 obtain⟨a1,a2⟩:=xe hx;unfold zr;rw[Ob (uB a2) a1 (by omega) (by omega) (by intro e;exact h0<|tm.1 e),Rat.inv_def,vi];rfl
def aeW(h:Dh y=true)(h0:y≠0):Dh y⁻¹ =true:=by
 obtain⟨a1,a2⟩:=xe h;have hn:y.num≠0:=fun e=>h0<|tm.1 e
 have e:=Rat.inv_def y;have hg:Int.gcd y.num (y.den:Int)=1:=by
  have:=y.reduced;unfold Nat.Coprime at this;unfold Int.gcd;rw[iU];exact this
 have en:(y⁻¹).num.natAbs<=y.den:=by
  rw[e,HU,hg,show((1:Nat):Int)=1 from rfl,Int.ediv_one,rT,iU];have:y.num.sign.natAbs<=1:=by
   rcases rZ y.num 0 with h|h|h
   ·rw[pY h];simp
   ·rw[h];simp
   ·rw[pe h];simp
  calc y.num.sign.natAbs*y.den<=1*y.den:=mF _ this
   _=y.den:=qf _
 have ed:(y⁻¹).den<=y.num.natAbs:=by
  rw[e,HT,if_neg hn,hg];simp
 unfold Dh;rw[show Nat.blt (Nat.log2 (y⁻¹).num.natAbs) 68719476736=true from lz (Mz en a2),show Nat.blt (Nat.log2 (y⁻¹).den) 68719476736=true from lz (Mz ed a1)]
 rfl
def ac9(hx:Dh x=true)(hy:Dh y=true)(h0:y≠0):zt x y=some (x/y):=by
 unfold zt;have e1:abz y=some y⁻¹ :=by unfold abz;rw[hy,bC h0];rfl
 have e2:uh x y⁻¹ =some (x*y⁻¹):=by unfold uh;rw[hx,aeW hy h0];rfl
 rw[e1];show bd (uh x y⁻¹) _=_;rw[e2,Cq];rfl
def ada(hx:Dh x=true)(hy:Dh y=true):zu x y=some (bif decide (x<y) then -1 else bif decide (y<x) then 1 else 0):=by
 obtain⟨a1,a2⟩:=xe hx;obtain⟨b1,b2⟩:=xe hy;unfold zu;rw[CP a1 (uB b2) (by omega) (by omega)];show bd (De y.num (x.den:Int)) _=_;rw[CP b1 (uB a2) (by omega) (by omega)];show bd (ad0 _ _) _=_;rw[ag7 (B5 a1<|uB b2) (B5 b1<|uB a2) (by omega) (by omega)];show some (UN _ _)=_;unfold UN;have e1:decide (x.num*(y.den:Int)<y.num*(x.den:Int))=decide (x<y):=l8.2 (Rat.lt_iff x y).symm;have e2:decide (y.num*(x.den:Int)<x.num*(y.den:Int))=decide (y<x):=l8.2 (Rat.lt_iff y x).symm;rw[e1,e2]
def aan(hx:Dh x=true)(hy:Dh y=true):xH x y=some (decide<|x=y):=by
 unfold xH;have e:MW x y=some (bif decide (x<y) then -1 else bif decide (y<x) then 1 else 0):=by unfold MW;rw[hx,hy];rfl
 rw[e];show some (decide<|(bif decide (x<y) then(-1:Int) else bif decide (y<x) then 1 else 0)=0)=_
 congr 1
 by_cases h1:x<y
 ·rw[aW h1,bC (show¬x=y from fun e=>by subst e;exact absurd h1<|Rat.lt_irrefl)];rfl
 ·by_cases h2:y<x
  ·rw[bC h1,aW h2,bC (show¬x=y from fun e=>by subst e;exact absurd h2<|Rat.lt_irrefl)];rfl
  ·rw[bC h1,bC h2,aW<|show x=y from Rat.le_antisymm (Rat.not_lt.1 h2) (Rat.not_lt.1 h1)];rfl
end
section
open Go.Shelf
variable[D:DR]{P:Program}{ρ:Ren}
def Pb(cs:awa arH)(n:Nat):(Builtin.zeroCells cs n).size=n*cs.size:=by
 simp[Builtin.zeroCells]
def aal(L:Lays8.n4 P ρ){α:Type}{f:α->Ty}{sz:Nat}{i0:TypeInfo}{z:arH}(Wm:P.info? (ρ.t 25)=some i0)(hz0:i0.zero=some z)(hs:i0.size=sz)(Wf:0<sz)(hz:z.cells.size=sz)(hb:i0.bytes<=1000)
  (hc:fR P (ρ.f 4)=true){x r:att α}{n:Int}(hm:V6 x n=some r):fN P (ρ.f 4) [TN f x,TI .i64 n] (.fr (ρ.t 25) sz<|lT f r):=by
 obtain⟨hg,rfl⟩:=jh hm;rw[bY,bY] at hg;obtain⟨⟨h1,h2⟩,h3⟩:=hg;have h2:=aZ h2;have h3:=aZ h3;have hx:=Ar.1 h1;subst hx;refine⟨hc,fun w H vs sub gl ha=>?_⟩;obtain⟨v,u,rfl,hv,hu⟩:=Cd ha;have hv:v= .slice none 0 0:=hv.2 rfl;have hu:u= .int .i64 n:=hu;subst hv hu;obtain⟨m,rfl⟩:∃m:Nat,n=(m:Int):=⟨n.toNat,by omega⟩;show Calls P (ρ.f 4) #[.slice none 0 0,.int .i64 m] w _;rcases r9 m with h0|h0
 ·subst h0;refine(Any8.slices_Grow_room L none 0 0 0 w (bp _) (by omega) (by omega) (by omega)).mono ?_;rintro e w' ⟨rfl,rfl⟩;exact⟨_,rfl,Ex.refl _ _,H,fun _ _=>rfl,sub,[],World.ownsRow_nil w' _ _ _,rfl,fun b h=>by simp[Value.ownBlock] at h⟩
 ·refine(Any8.slices_Grow_grow L i0 z Wm hz0 (by omega) none 0 0 m [] w (bp _) (by omega) (df (pc (show 0+m<=100000000 by omega) hb) (by omega)) (by omega) (by simp) (fun _=>rfl) (fun a h=>by cases h)).mono ?_;rintro e w' ⟨rfl,rfl⟩;have hG:=grownCap_ge w (0+m) 0<|ρ.t 25
  have hM:=grownCap_le_maxLen w (0+m) 0 (ρ.t 25) (by unfold maxLen;omega)
  generalize grownCap w (0+m) 0 (ρ.t 25)=G at*
  generalize ho:Obj.cells (([]:att arH).toArray++Builtin.zeroCells z.cells (0+m-0)++Builtin.zeroCells z.cells (G-(0+m))) (ρ.t 25)=o
  have ahM:∀k,k<w.heap.size->(w.drew.alloc o).heap[k]? =w.heap[k]? :=fun k hk=>Below.heap_alloc w.drew o k hk
  refine⟨_,rfl,⟨⟨rfl,rfl,rfl,(Ex.alloc (w:=w.drew) o).size,ahM⟩,?_⟩,H,fun _ _=>rfl,fun r o hr=>?_,[],⟨by simp,.inr ⟨w.heap.size,G,_,rfl,iR _,(tF w.drew o).trans<|congrArg some ho.symm,iR _,hM,?_,by simp[lT]⟩⟩,rfl,fun b hb=>?_⟩
  ·exact JQ.of<|wR _
  ·have:=sub r o hr;rw[ahM r (by
    rcases kQ r w.heap.size with h|h
    ·exact h
    ·rw[Ii h] at this;cases this)]
   exact this
  ·rw[Array.size_append,Array.size_append,Pb,Pb,hz];simp only[E0,Cu,vd,Nat.sub_zero];rw[<-pb]
   congr 1;omega
  ·have e:b=w.heap.size:=by
    simp[Value.ownBlock] at hb;exact hb.symm
   subst e;refine⟨bp _,?_⟩;cases hH:H w.heap.size with
   |none=>rfl
   |some o=>
    have:=sub _ o hH;rw[Ii<|bp _] at this;cases this
end
end Trn
namespace ad2
section
open Go.Shelf Go.Sort Go.Lib
def Uj(w:World)(T:TypeId)(nd:Nat)(hs:nd<=24):Holds (fun(b:UInt8)=>Value.int .u8 (b.toNat:Int)) (w.alloc<| .cells zeros24 T) w.heap.size 0 (Array.replicate nd (0:UInt8)):=fun j hj=>by
 have hj':j<nd:=by simpa using hj
 refine⟨?_,World.frozen?_alloc_new _ _ _ _⟩;rw[World.cell?_alloc_new,Nat.zero_add,zeros24_at _ (by omega),getElem!_pos _ j hj];simp
def adk(w:World)(o:Obj)(dk:Array UInt8)(k:Nat):∃os,(putRow (fun(b:UInt8)=>Value.int .u8 (b.toNat:Int)) (w.alloc o) w.heap.size 0 dk).drewN k=Go.Sort.grow (w.drewN k) os:=by
 rw[alloc_eq_grow];obtain⟨os',_,e⟩:=putRow_grow_new (fun(b:UInt8)=>Value.int .u8 (b.toNat:Int)) w #[o] w.heap.size 0 dk (Nat.le_refl _);exact⟨os',by rw[e];rfl⟩
set_option maxHeartbeats 6400000 in
set_option maxRecDepth 100000 in
def Wy(u:Nat)(hu64:u<18446744073709551616)(w:World)
  (htab:Lib.TabIs prog w "internal/strconv.uint64pow10" .u64 Lib.pow10Tab):
  Calls prog 286 #[.int .u64 u,.int .i64 10] w fun e w'=>e= .returned (.string ⟨(Lib.decDigits u).toArray⟩)/\∃k os,w'=Go.Sort.grow (w.drewN k) os:=by
 have L:=TX;have mixed:=L.mixed;have t2:prog.underlying 3=some (.int .i64):=L.t3;have t446:prog.underlying 352=some (.array 24 5):=L.t171;have a446:∀w:World,(isAgg 352).run prog w= .ok true w:=L.a171;have z446:∀w:World,(Go.sizeOf 352).run prog w= .ok 24 w:=L.z171;have v446:=L.v171;have v446:∀w:World,(zeroValue 352).run prog w= .ok (.agg #[.int .u8 0,.int .u8 0,.int .u8 0,.int .u8 0,.int .u8 0,.int .u8 0,.int .u8 0,.int .u8 0,.int .u8 0,.int .u8 0,.int .u8 0,.int .u8 0,.int .u8 0,.int .u8 0,.int .u8 0,.int .u8 0,.int .u8 0,.int .u8 0,.int .u8 0,.int .u8 0,.int .u8 0,.int .u8 0,.int .u8 0,.int .u8 0]) w:=v446;have t9:=L.t9;have t154:prog.underlying 299=some (.slice 5):=L.t37;have e283:∀args w,(callFunc 315 args).run prog w= .ok (.enter 315 args) w:=enters_of L.f283 Trn.aH rfl;have e284:∀args w,(callFunc 316 args).run prog w= .ok (.enter 316 args) w:=enters_of L.f284 Trn.aH rfl;have e285:∀args w,(callFunc 317 args).run prog w= .ok (.enter 317 args) w:=enters_of L.f285 Trn.aH rfl;by_cases hs:u<100
 ·go_enter func286,ntmps286
  go_wp2_with (go_at_fn (315);refine(internal_strconv_small u hs _).mono ?_;rintro e w' ⟨rfl,rfl⟩)
  go_ret
  exact⟨rfl,0,#[],by simp[World.drewN_zero]⟩
 ·have hu1:1<=u:=by omega
  have hnd20:Lib.nDigits u<=20:=by have:=Lib.numDigits_eq u hu1 hu64;split at this<;>omega
  have hb3:Lib.nDigits u<=23:=by omega
  have hal:prog.arrayLen 352=24:=by simp[Program.arrayLen,t446]
  have hsl:∀W,(Instr.sliceAt 352 (.pointer<|some ⟨w.heap.size,0,none⟩) none (some<| .int .i64 (Lib.nDigits u:Int)) none).run prog W= .ok (.slice (some ⟨w.heap.size,0,none⟩) (Lib.nDigits u) 24) W:=fun W=>by
   rw[run_sliceAt_array_h W 352 ⟨w.heap.size,0,none⟩ (by simp[Program.arrayLen,Program.elem,t446]) .i64 (Lib.nDigits u:Int) (by omega) (by rw[hal];omega)]
   go_simp
  have hH0:=Uj w 352 (Lib.nDigits u) (by omega);have hfmt:=internal_strconv_formatBase10 w.heap.size 0 24 u (Array.replicate (Lib.nDigits u) 0) (w.alloc<| .cells Lib.zeros24 352) hH0 (by rw[Array.size_replicate];exact Lib.lt_pow_nDigits u) hu64 (by rw[Array.size_replicate];omega);rw[Array.size_replicate] at hfmt;have HH0:=Lib.hid hH0;clear hH0 hal
  go_enter func286,ntmps286
  go_wp2_with (first
   |(go_at_fn (316);refine(Any.internal_strconv_numDigits {L with} u hu1 hu64 _<|Lib.tabIs_alloc htab _).mono ?_;rintro e w' ⟨rfl,rfl⟩))
  go_at_fn (317)
  refine hfmt.mono ?_;rintro e w' ⟨rfl,k,v',dk,rfl,hF⟩;have hcv:(convert 299 9<| .slice (some ⟨w.heap.size,0,none⟩) (Lib.nDigits u) 24).run prog ((putRow (fun(b:UInt8)=>Value.int .u8 (b.toNat:Int)) (w.alloc<| .cells Lib.zeros24 352) w.heap.size 0 dk).drewN k)= .ok (.string ⟨(Lib.decDigits u).toArray⟩) ((putRow (fun(b:UInt8)=>Value.int .u8 (b.toNat:Int)) (w.alloc<| .cells Lib.zeros24 352) w.heap.size 0 dk).drewN k):=by
   have h:=run_convert_bytes_back (P:=prog) ((putRow (fun(b:UInt8)=>Value.int .u8 (b.toNat:Int)) (w.alloc<| .cells Lib.zeros24 352) w.heap.size 0 dk).drewN k) 299 9 5 ⟨w.heap.size,0,none⟩ 24 (Lib.decDigits u) L.t37 L.t5 L.t9 (fun j hj=>by
    rw[Lib.row_is_numeral hF j hj,Lib.add_plain,World.cell?_drewN];exact cell?_putRow (fun(b:UInt8)=>Value.int .u8 (b.toNat:Int)) _ w.heap.size 0 _ dk HH0.out (by rw[hF.size,Array.size_replicate]) j (by rw[hF.size];rw[Lib.decDigits_length] at hj;exact hj))
   rw[Lib.decDigits_length] at h;exact h
  go_wp2
  go_ret
  obtain⟨os,eo⟩:=adk w (.cells Lib.zeros24 352) dk k;exact⟨rfl,k,os,eo⟩
set_option maxHeartbeats 6400000 in
set_option maxRecDepth 100000 in
def RV(u:Nat)(hu64:u<18446744073709551616)(w:World)
  (htab:Lib.TabIs prog w "internal/strconv.uint64pow10" .u64 Lib.pow10Tab):
  Calls prog 241 #[.int .u64 u,.int .i64 10] w fun e w'=>e= .returned (.string ⟨(Lib.decDigits u).toArray⟩)/\∃k os,w'=Go.Sort.grow (w.drewN k) os:=by
 have L:=TX;have mixed:=L.mixed;have e316:∀args w,(callFunc 286 args).run prog w= .ok (.enter 286 args) w:=enters_of func286 Trn.aH rfl;have h:=Wy u hu64 w htab
 go_enter func241,ntmps241
 go_wp2_with (go_at_fn (286);refine h.mono ?_;rintro e w' ⟨rfl,k,os,rfl⟩)
 go_ret
 exact⟨rfl,k,os,rfl⟩
def NO(w:World):∀k,(w.drewN k).os=w.os/\(w.drewN k).tape=w.tape/\(w.drewN k).output=w.output/\(w.drewN k).heap=w.heap
 |0=>⟨rfl,rfl,rfl,rfl⟩
 |k+1=>NO w.drew k
def N6{w:World}{k:Nat}{os:Array Obj}:Below w.heap.size w (Go.Sort.grow (w.drewN k) os):=by
 obtain⟨h1,h2,h3,h4⟩:=NO w k;refine⟨h1,h2,h3,?_,fun i hi=>?_⟩
 ·show w.heap.size<=((w.drewN k).heap++os).size;rw[h4,Array.size_append];omega
 ·show((w.drewN k).heap++os)[i]? =_;rw[h4,Array.getElem?_append_left hi]
end
end ad2
namespace Trn
section
variable{α ρ σ:Type}{r:ρ}
def N7(x:α)(K:α->av8 ρ):bd (some x) K=K x:=rfl
def ana{n:Nat}(h:n<=9223372036854775807):aL (n:Int)=some (n:Int):=by
 unfold aL yA;rw[aW (show(-9223372036854775808:Int)<=(n:Int) by omega),aW (show(n:Int)<=9223372036854775807 by omega)];rfl
def ab7{σ ρ α:Type}(L:att α)(Bd:(σ->av8 ρ)->α->σ->av8 ρ)(K:σ->av8 ρ)(B:((σ×Int)->av8 ρ)->σ×Int->av8 ρ)(o:Nat)
  (X3:∀k u (i:Nat) x,L[i]? =some x->B k (u,((i+o:Nat):Int))=Bd (fun u'=>k (u',((i+1+o:Nat):Int))) x u)
  (hend:∀k u,B k (u,((L.length+o:Nat):Int))=K u):
  ∀(F i:Nat) (u:σ),i<=L.length->L.length-i<F->lp F B (u,((i+o:Nat):Int))=Oh (L.drop i) Bd u K
 |0,i,u,_,h=>by omega
 |F+1,i,u,hi,hF=>by
  show B (lp F B) (u,_)=_;rcases kQ i L.length with h|h
  ·rw[D7 h];show _=Bd (fun s=>Oh (L.drop<|i+1) Bd s K) L[i] u;rw[X3 _ _ i L[i]<|j7 h]
   congr 1
   funext u'
   exact ab7 L Bd K B o X3 hend F (i+1) u' (by omega) (by omega)
  ·have:i=L.length:=by omega
   subst this;rw[hend,Au];rfl
def XQ(L:att α)(Bd:(σ->av8 ρ)->α->σ->av8 ρ)(K:σ->av8 ρ)(o:Nat){B:((σ×Int)->av8 ρ)->σ×Int->av8 ρ}{z:Int}{F:Nat}{u:σ}(hz:z=(o:Int))(hF:L.length<F)(hm:Oh L Bd u K=some r)
 (X3:∀k u (i:Nat) x,L[i]? =some x->B k (u,((i+o:Nat):Int))=Bd (fun u'=>k (u',((i+1+o:Nat):Int))) x u)
 (hend:∀k u,B k (u,((L.length+o:Nat):Int))=K u):lp F B (u,z)=some r:=by
 have h:=ab7 L Bd K B o X3 hend F 0 u (iR _) hF;rw[vd] at h;rw[hz,h];exact hm
def Uu{b:Bool}{x r:α}(h:Bl b x=some r):b=true/\x=r:=by
 unfold Bl at h;cases b
 ·cases h
 ·exact⟨rfl,eQ h⟩
def Io(l:att α)(i:Nat):bo l (i:Int)=l[i]? :=rfl
def MD{c0:att V3}{L:att (V3)}(ho:yG c0=some L)(Bd:(σ->av8 ρ)->V3->σ->av8 ρ)(K:σ->av8 ρ)(u:σ)(hm:Oh L Bd u K=some r):jt c0 Bd K u=some r:=by
 obtain⟨hb,rfl⟩:=Uu ho;have hb:c0.length<4000000000:=gK hb;unfold jt;refine XQ c0 Bd K 0 rfl (by omega) hm ?_ ?_
 ·intro k u i x hx;have hi:i<c0.length:=(kE.1 hx).1;dsimp only;rw[aW (show((i+0:Nat):Int)<(c0.length:Int) by omega)];rw[bD,Io,Al,hx,N7];refine congrArg (fun f=>Bd f x u)<|funext fun u'=>?_
  rw[show(((i:Nat):Int)+1)=((i+1+0:Nat):Int) from by omega,ana (by omega),N7]
 ·intro k u;dsimp only;rw[bC (by omega)];rfl
def Tu{l:att α}{i:Nat}{x:α×α}(h:(z7 l)[i]? =some x):l[i]? =some x.1/\l[(i+1)%l.length]? =some x.2/\i<l.length:=by
 cases l with
 |nil=>simp[z7] at h
 |cons a l=>
  unfold z7 at h;rw[RD] at h;obtain⟨h1,h2⟩:=h;have hi:i<(a::l).length:=(kE.1 h1).1;refine⟨h1,?_,hi⟩;simp only[List.length_cons] at hi⊢;rcases kQ i l.length with h3|h3
  ·rw[Av (by omega),List.getElem?_cons_succ];rw[xK h3] at h2;exact h2
  ·have:i=l.length:=by omega
   subst this;rw[Nat.mod_self];rw[A9<|bp _,Nat.sub_self] at h2;exact h2
def EH(l:att α):(z7 l).length=l.length:=by
 cases l with
 |nil=>rfl
 |cons a l=>simp[z7]
def OK{c0:att V3}{L:att ((V3×V3))}(ho:Bu c0=some L)(Bd:(σ->av8 ρ)->(V3×V3)->σ->av8 ρ)(K:σ->av8 ρ)(u:σ)(hm:Oh L Bd u K=some r):xF c0 Bd K u=some r:=by
 obtain⟨hb,rfl⟩:=Uu ho;have hb:c0.length<1000000000:=gK hb;unfold xF;refine XQ (z7 c0) Bd K 0 rfl (by rw[EH];omega) hm ?_ ?_
 ·intro k u i x hx;obtain⟨h1,h2,hi⟩:=Tu hx;dsimp only;rw[aW (show((i+0:Nat):Int)<(c0.length:Int) by omega)];have ef:aL (((i:Nat):Int)+1)=some ((i+1+0:Nat):Int):=by
   rw[show(((i:Nat):Int)+1)=((i+1+0:Nat):Int) from by omega,ana (by omega)]
  have er:tC ((i+1+0:Nat):Int) (c0.length:Int)=some (((i+1)%c0.length:Nat):Int):=by
   unfold tC;rw[bC (by omega),a8,Int.tmod_eq_emod_of_nonneg (by omega)];rfl
  rw[bD,Io,Al,h1,N7,ef,N7,er,N7,Io,h2,N7];refine congrArg (fun f=>Bd f (x.1,x.2) u)<|funext fun u'=>?_
  rw[N7]
 ·intro k u;dsimp only;rw[bC (by rw[EH];omega)];rfl
end
section
variable{P:Program}
variable{α:Type}{dep:Nat}{T:ato}{n:Nat}{fs:att (ato×Nat)}{IT:α->att Ty}{eb:α->α->Bool}{f:α->Ty}{off:Nat}
structure BU(P:atp)(T:ato){α:Type}[DecidableEq α](f:α->Ty)(n:Nat)(agg:Bool)(dep:Nat):Prop where
 lay:fM P T n agg=true
 sz:∀x,(f x).n=n
 ag:∀x,(f x).agg=agg
 eq:∀(d:Nat) (H:HV) (u v:arH) (x y:α),(f x).ok H u->(f y).ok H v->∀w:arG,(Op.equalIn (d+dep) T u v).run P w= .ok (decide<|x=y) w
 chk:∀(d:Nat) (e:Bool) (H:HV) (u:arH) (x:α),(f x).ok H u->∀w:arG,(Instr.checkKey e (d+dep) T u).run P w= .ok () w
 uniq:∀(H:HV) (u v:arH) (x:α),(f x).ok H u->(f x).ok H v->u=v
 leaf:∀(H:HV) (u:arH) (x:α),(f x).ok H u->∀c∈u.cells.toList,∀m,Instr.sameBits m c c=true
def toList_inj{a b:ad3}:((⟨a.toArray⟩:ByteArray).toList==(⟨b.toArray⟩:ByteArray).toList)=decide (a=b):=by
 rw[ByteArray.toList_eq,ByteArray.toList_eq];show(a.toArray.toList==b.toArray.toList)=_;simp only[List.toList_toArray];by_cases h:a=b
 ·subst h;simp
 ·rw[bC h];simpa using h
def ZU(hl:fM P T 1 false=true)(hu:P.underlying T=some .string):BU P T TS 1 false 1 where
 lay:=hl
 sz _:=rfl
 ag _:=rfl
 eq d H u v x y We Vf w:=by
  have We:u= .string ⟨x.toArray⟩:=We;have Vf:v= .string ⟨y.toArray⟩:=Vf;subst We;subst Vf;rw[run_equalIn_string w d T _ _ hu,toList_inj]
 chk d e H u x We w:=by
  have We:u= .string ⟨x.toArray⟩:=We;subst We;simp[Instr.checkKey,aV hu]
 uniq H u v x h1 h2:=Eq.trans h1<|Eq.symm h2
 leaf H u x h c hc m:=by
  have h:u= .string ⟨x.toArray⟩:=h;subst h;have hc:c= .string ⟨x.toArray⟩:=by simpa[Value.cells] using hc
  subst hc;simp only[Instr.sameBits];rw[beq_toListBytes];simp
def ai0{k:IntKind}(hl:fM P T 1 false=true)(hu:P.underlying T=some (.int k)):BU P T (TI k) 1 false 1 where
 lay:=hl
 sz _:=rfl
 ag _:=rfl
 eq d H u v x y We Vf w:=by
  have We:u= .int k x:=We;have Vf:v= .int k y:=Vf;subst We;subst Vf;rw[run_equalIn_int w d T k k _ _ hu]
  rfl
 chk d e H u x We w:=by
  have We:u= .int k x:=We;subst We;simp[Instr.checkKey,aV hu]
 uniq H u v x h1 h2:=Eq.trans h1<|Eq.symm h2
 leaf H u x h c hc m:=by
  have h:u= .int k x:=h;subst h;have hc:c= .int k x:=by simpa[Value.cells] using hc
  subst hc;simp[Instr.sameBits]
def BU.WK[DecidableEq α]{agg:Bool}{aar:Nat}(h:BU P T f n agg dep)(hd:dep<=aar):BU P T f n agg aar where
 lay:=h.lay
 sz:=h.sz
 ag:=h.ag
 eq d H u v x y h1 h2 w:=by rw[show d+aar=(d+(aar-dep))+dep from by omega];exact h.eq _ H u v x y h1 h2 w
 chk d e H u x h1 w:=by rw[show d+aar=(d+(aar-dep))+dep from by omega];exact h.chk _ e H u x h1 w
 uniq:=h.uniq
 leaf:=h.leaf
inductive Rows(P:atp){α:Type}(dep:Nat):att (ato×Nat)->Nat->(α->att Ty)->(α->α->Bool)->Prop where
 |nil {off:Nat}:Rows P dep [] off (fun _=>[]) (fun _ _=>true)
 |cons {T:ato} {off n:Nat} {agg:Bool} {β:Type} [DecidableEq β] {g:β->Ty} {acc:α->β} {fs:att (ato×Nat)} {IT:α->att Ty} {eb:α->α->Bool}:
   BU P T g n agg dep->Rows P dep fs (off+n) IT eb->Rows P dep ((T,off)::fs) off (fun x=>g (acc x)::IT x) (fun x y=>decide (acc x=acc y)&&eb x y)
def eqL(d:Nat)(xs ys:awa arH):att (ato×Nat)->Sem Bool
 |[]=>pure true
 |(T,o)::fs=>do
  let a<-part T xs o
  let b<-part T ys o
  let r<-Op.equalIn d T a b
  if(!r)=true then pure false else eqL d xs ys fs
def O3(e:Bool)(d:Nat)(xs:awa arH):att (ato×Nat)->Sem Unit
 |[]=>pure ()
 |(T,o)::fs=>do
  let a<-part T xs o
  Instr.checkKey e d T a
  O3 e d xs fs
def Ji{agg:Bool}{τ:Ty}{l:att Ty}{H:HV}{cs:awa arH}(hl:fM P T n agg=true)(hn:τ.n=n)(ha:τ.agg=agg)(h:vH H (τ::l) (cs.toList.drop off))(ho:off<=cs.size):
  ∃v,(∀w,(part T cs off).run P w= .ok v w)/\τ.ok H v/\vH H l (cs.toList.drop<|off+n)/\off+n<=cs.size:=by
 have hlen:=rf h;rw[lr,gF] at hlen;have hc:cc (τ::l)=τ.n+cc l:=rfl;rw[hc,hn] at hlen;have hle:off+n<=cs.size:=by omega
 obtain⟨v,rest,e,hv,hr⟩:=h;have hs:=τ.shape hv;have e1:(cs.toList.drop off).take n=v.cells.toList:=by
  rw[e,<-hn,<-hs.size,<-gF,Ls]
 refine⟨v,fun w=>?_,hv,?_,hle⟩
 ·rw[MP hl hle,e1];have:=hs.eq;rw[ha] at this;rw[Array.toArray_toList];exact congrArg (fun z=>Result.ok z w) this.symm
 ·rw[<-iS,e,<-hn,<-hs.size,<-gF,ES];exact hr
def aff(h:Rows P dep fs off IT eb):∀(d:Nat) (H:HV) (cs ds:awa arH) (x y:α),vH H (IT x) (cs.toList.drop off)->vH H (IT y) (ds.toList.drop off)->off<=cs.size->off<=ds.size->
  ∀w:arG,(eqL (d+dep) cs ds fs).run P w= .ok (eb x y) w:=by
 induction h with
 |nil=>intro d H cs ds x y _ _ _ _ w;rfl
 |cons hk hr ih=>
  intro d H cs ds x y h1 h2 o1 o2 w;obtain⟨u,p1,k1,r1,s1⟩:=Ji hk.lay (hk.sz _) (hk.ag _) h1 o1;obtain⟨v,p2,k2,r2,s2⟩:=Ji hk.lay (hk.sz _) (hk.ag _) h2 o2;unfold eqL;simp only[fE,p1,p2,hk.eq d H u v _ _ k1 k2,eS];split
  ·rename_i hb;rw[jl] at hb;rw[hb];rfl
  ·rename_i hb;rw[jl,Bool.not_eq_false] at hb;rw[hb,rQ];exact ih d H cs ds x y r1 r2 s1 s2 w
def abq(h:Rows P dep fs off IT eb):∀(d:Nat) (e:Bool) (H:HV) (cs:awa arH) (x:α),vH H (IT x) (cs.toList.drop off)->off<=cs.size->
  ∀w:arG,(O3 e (d+dep) cs fs).run P w= .ok () w:=by
 induction h with
 |nil=>intro d e H cs x _ _ w;rfl
 |cons hk hr ih=>
  intro d e H cs x h1 o1 w;obtain⟨u,p1,k1,r1,s1⟩:=Ji hk.lay (hk.sz _) (hk.ag _) h1 o1;unfold O3;simp only[fE,p1,hk.chk d e H u _ k1,eS];exact ih d e H cs x r1 s1 w
def Zr(h:Rows P dep fs off IT eb):∀(H:HV) (cs ds:att arH) (x:α),vH H (IT x) cs->vH H (IT x) ds->cs=ds:=by
 induction h with
 |nil=>intro H cs ds x h1 h2;exact Eq.trans h1<|Eq.symm h2
 |cons hk hr ih=>
  rintro H cs ds x ⟨u,r1,e1,k1,o1⟩ ⟨v,r2,e2,k2,o2⟩;rw[e1,e2,hk.uniq H u v _ k1 k2,ih H r1 r2 x o1 o2]
def Zt(h:Rows P dep fs off IT eb):∀(H:HV) (cs:att arH) (x:α),vH H (IT x) cs->∀c∈cs,∀m,Instr.sameBits m c c=true:=by
 induction h with
 |nil=>intro H cs x h1 c hc;rw[show cs=[] from h1] at hc;cases hc
 |cons hk hr ih=>
  rintro H cs x ⟨u,r1,e1,k1,o1⟩ c hc m;rw[e1] at hc;rcases bN.1 hc with hc|hc
  ·exact hk.leaf H u _ k1 c hc m
  ·exact ih H r1 x o1 c hc m
def PW(d:Nat)(e:ato)(c:Nat)(xs ys:awa arH):∀is:att Nat,Op.eqItems d e c xs ys is=eqL d xs ys (is.map fun i=>(e,i*c))
 |[]=>rfl
 |i::is=>by
  unfold Op.eqItems;rw[qg];unfold eqL;simp only[PW d e c xs ys is]
def Nc(fs:att Field):Bool:=fs.all fun f=>decide<|f.name≠ "_"
def NJ(d:Nat)(xs ys:awa arH):∀fs:att Field,Nc fs=true->Op.eqFields d xs ys fs=eqL d xs ys (fs.map fun f=>(f.type,f.offset))
 |[],_=>rfl
 |f::fs,h=>by
  unfold Nc at h;rw[ti,bY,jc] at h;unfold Op.eqFields;rw[if_pos h.1,qg];unfold eqL;simp only[NJ d xs ys fs h.2]
def WS(e:Bool)(d:Nat)(t:ato)(xs:awa arH){w:arG}(ht:P.underlying t=some (.struct<|P.fieldsOf t))(hn:Nc (P.fieldsOf t).toList=true):
  (Instr.checkKey e (d+1) t<| .agg xs).run P w=(O3 e d xs<|(P.fieldsOf t).toList.map fun f=>(f.type,f.offset)).run P w:=by
 simp only[Instr.checkKey,fE,qK ht,eS];rw[<-Array.forIn_toList]
 generalize (P.fieldsOf t).toList=fs at hn
 clear ht
 induction fs generalizing w with
 |nil=>simp[O3]
 |cons f fs ih=>
  unfold Nc at hn;rw[ti,bY,jc] at hn;simp only[List.forIn_cons,qg,O3,fE,Sem.run_ite,if_pos hn.1]
  generalize (part f.type xs f.offset).run P w=r1
  cases r1 with
  |ok a w1=>
   simp only[eS]
   generalize (Instr.checkKey e d f.type a).run P w1=r2
   cases r2 with
   |ok b w2=>
    simp only[eS,pT];exact ih hn.2
   |halt x w2=>simp[Result.andThen]
  |halt x w1=>simp[Result.andThen]
def aax(em:Bool)(d:Nat){t e:ato}{c:Nat}(xs:awa arH){w:arG}(hu:P.underlying t=some (.array n e))(hi:∀w,(Go.sizeOf e).run P w= .ok c w):
  (Instr.checkKey em (d+1) t<| .agg xs).run P w=(O3 em d xs<|(List.range n).map fun i=>(e,i*c)).run P w:=by
 simp only[Instr.checkKey,fE,qK hu,eS];simp only[Std.Legacy.Range.forIn_eq_forIn_range',Std.Legacy.Range.size,Nat.sub_zero,Nat.add_one_sub_one,Nat.div_one,List.range_eq_range']
 generalize List.range' 0 n=is
 induction is generalizing w with
 |nil=>simp[O3]
 |cons j is ih=>
  simp only[List.forIn_cons,qg,O3,fE,hi,eS]
  generalize (part e xs<|j*c).run P w=r1
  cases r1 with
  |ok a w1=>
   simp only[eS]
   generalize (Instr.checkKey em d e a).run P w1=r2
   cases r2 with
   |ok b w2=>
    simp only[eS,pT];exact ih
   |halt x w2=>simp[Result.andThen]
  |halt x w1=>simp[Result.andThen]
def aci[DecidableEq α](hl:fM P T n true=true)(hf:∀x,f x=ko (IT x))(hn:∀x,cc (IT x)=n)
 (hr:Rows P dep fs 0 IT eb)(he:∀x y,eb x y=decide (x=y))
 (h1:∀(d:Nat) (xs ys:awa arH) (w:arG),(Op.equalIn (d+1) T (.agg xs)<| .agg ys).run P w=(eqL d xs ys fs).run P w)
 (h2:∀(e:Bool) (d:Nat) (xs:awa arH) (w:arG),(Instr.checkKey e (d+1) T<| .agg xs).run P w=(O3 e d xs fs).run P w):BU P T f n true (dep+1) where
 lay:=hl
 sz x:=by rw[hf];exact hn x
 ag x:=by rw[hf];rfl
 eq d H u v x y hu hv w:=by
  rw[hf] at hu hv;obtain⟨cs,rfl,k1⟩:=hu;obtain⟨ds,rfl,k2⟩:=hv;rw[<-rR,h1,aff hr d H cs ds x y k1 k2 (iR _)<|iR _,he]
 chk d e H u x hu w:=by
  rw[hf] at hu;obtain⟨cs,rfl,k1⟩:=hu;rw[<-rR,h2,abq hr d e H cs x k1<|iR _]
 uniq H u v x hu hv:=by
  rw[hf] at hu hv;obtain⟨cs,rfl,k1⟩:=hu;obtain⟨ds,rfl,k2⟩:=hv
  congr 1
  exact Array.ext'<|Zr hr H _ _ x k1 k2
 leaf H u x hu c hc m:=by
  rw[hf] at hu;obtain⟨cs,rfl,k1⟩:=hu;exact Zt hr H _ x k1 c hc m
def Js[DecidableEq α](hl:fM P T n true=true)(hf:∀x,f x=ko (IT x))(hn:∀x,cc (IT x)=n)
 (hr:Rows P dep fs 0 IT eb)(he:∀x y,eb x y=decide (x=y))
 (ht:P.underlying T=some (.struct<|P.fieldsOf T))(hs:P.stoodInHeld T=false)(hnm:Nc (P.fieldsOf T).toList=true)(Sl:(P.fieldsOf T).toList.map (fun f=>(f.type,f.offset))=fs):BU P T f n true (dep+1):=
 aci hl hf hn hr he (fun d xs ys w=>by rw[run_equalIn_struct w d T xs ys ht hs,NJ d xs ys _ hnm,Sl]) (fun e d xs w=>by rw[WS e d T xs ht hnm,Sl])
def Ub{E:ato}{k c:Nat}{i:TypeInfo}[DecidableEq α](hl:fM P T n true=true)(hf:∀x,f x=ko (IT x))(hn:∀x,cc (IT x)=n)
 (hr:Rows P dep fs 0 IT eb)(he:∀x y,eb x y=decide (x=y))
 (ht:P.underlying T=some (.array k E))(hi:P.info? E=some i)(hc:P.cellsOf E=c)(Sl:(List.range k).map (fun i=>(E,i*c))=fs):BU P T f n true (dep+1):=
 aci hl hf hn hr he (fun d xs ys w=>by rw[run_equalIn_array w d xs ys ht hi,PW,hc,Sl]) (fun e d xs w=>by rw[aax e d xs ht (c:=c) (fun w=>by rw[run_sizeOf w hi,<-hc]),Sl])
def BU.key[DecidableEq α](h:BU P T f n true dep)(hd:dep<=10000)(hk:∃ud,P.underlying T=some ud/\∀u v,Instr.sameNow ud u v=none):AL P T f where
 eq H u v x y h1 h2 w:=by
  have:=h.eq (10000-dep) H u v x y h1 h2 w;rw[show 10000-dep+dep=10000 from by omega] at this;exact this
 check H u x h1 e w:=by
  have:=h.chk (10000-dep) e H u x h1 w;rw[show 10000-dep+dep=10000 from by omega] at this;exact this
 kind:=hk
 bits H u v x h1 h2:=by
  have:=h.uniq H u v x h1 h2;subst this;have hs:=(f x).shape h1;have ha:=hs.eq;rw[h.ag] at ha;have hl:=h.leaf H u x h1;rw[ha] at hl⊢;show Instr.sameBits (9999+1) (.agg u.cells) (.agg u.cells)=true;simp only[Instr.sameBits,beq_self_eq_true,rQ];rw[dI];intro p hp;have:p.1=p.2/\p.1∈u.cells.toList:=by
   obtain⟨i,hi⟩:=List.mem_iff_getElem?.1 hp;rw[RD] at hi;obtain⟨h5,h6⟩:=hi;rw[h5] at h6;exact⟨eQ h6,AA h5⟩
  obtain⟨e1,e2⟩:=this;rw[<-e1];exact hl p.1 e2 _
def BU.eqs[DecidableEq α](h:BU P T f n true dep)(hd:dep<=10000)(hg:P.eqGuardType P.depth T=false):GD P T f where
 run H u v x y h1 h2 w:=by
  have:=h.eq (10000-dep) H u v x y h1 h2 w;rw[show 10000-dep+dep=10000 from by omega] at this;exact this
 guard H u v x y h1 h2 o p q w:=by
  have a1:=((f x).shape h1).eq;have a2:=((f y).shape h2).eq;rw[h.ag] at a1 a2;rw[a1,a2];exact run_eqGuard_agg w o T p q _ _ hg
 agg:=h.ag
end
def ach:BU prog 47 TS 1 false 1:=ZU aH aH
def kt3:BU prog 3 (TI .i64) 1 false 1:=ai0 aH aH
def aiY:BU prog 46 qi 3 true 2:=
 Ub (k:=3) (E:=3) (c:=1) (fs:=[(3,0),(3,1),(3,2)]) aH (fun _=>rfl) (fun _=>rfl)
  (Rows.cons (acc:=fun x:Int×Int×Int=>x.1) kt3<|Rows.cons (acc:=fun x:Int×Int×Int=>x.2.1) kt3<|Rows.cons (acc:=fun x:Int×Int×Int=>x.2.2) kt3 Rows.nil)
  (fun x y=>by obtain⟨a,b,c⟩:=x;obtain⟨a',b',c'⟩:=y;simp[Prod.ext_iff,HZ]) aH (i:=(prog.info? 3).get aH) aH aH rfl
def alE:BU prog 125 iH 4 true 3:=
 Js (fs:=[(46,0),(47,3)]) aH (fun _=>rfl) (fun _=>rfl)
  (Rows.cons (acc:=fun x:(Int×Int×Int)×ad3=>x.1) aiY (Rows.cons (acc:=fun x:(Int×Int×Int)×ad3=>x.2) (ach.WK (by omega)) Rows.nil))
  (fun x y=>by obtain⟨a,b⟩:=x;obtain⟨a',b'⟩:=y;simp[Prod.ext_iff,HZ]) aH aH aH aH
def alD:BU prog 49 aq 4 true 3:=
 Js (fs:=[(46,0),(47,3)]) aH (fun _=>rfl) (fun _=>rfl)
  (Rows.cons (acc:=fun x:(Int×Int×Int)×ad3=>x.1) aiY (Rows.cons (acc:=fun x:(Int×Int×Int)×ad3=>x.2) (ach.WK (by omega)) Rows.nil))
  (fun x y=>by obtain⟨a,b⟩:=x;obtain⟨a',b'⟩:=y;simp[Prod.ext_iff,HZ]) aH aH aH aH
def alC:BU prog 58 bb 3 true 2:=
 Ub (k:=3) (E:=47) (c:=1) (fs:=[(47,0),(47,1),(47,2)]) aH (fun _=>rfl) (fun _=>rfl)
  (Rows.cons (acc:=fun x:ad3×ad3×ad3=>x.1) ach<|Rows.cons (acc:=fun x:ad3×ad3×ad3=>x.2.1) ach<|Rows.cons (acc:=fun x:ad3×ad3×ad3=>x.2.2) ach Rows.nil)
  (fun x y=>by obtain⟨a,b,c⟩:=x;obtain⟨a',b',c'⟩:=y;simp[Prod.ext_iff,HZ]) aH (i:=(prog.info? 47).get aH) aH aH rfl
def aoB:BU prog 72 fA 7 true 4:=
 Js (fs:=[(49,0),(58,4)]) aH (fun _=>rfl) (fun _=>rfl)
  (Rows.cons (acc:=fun x:((Int×Int×Int)×ad3)×av5=>x.1) alD (Rows.cons (acc:=fun x:((Int×Int×Int)×ad3)×av5=>x.2) (alC.WK (by omega)) Rows.nil))
  (fun x y=>by obtain⟨a,b⟩:=x;obtain⟨a',b'⟩:=y;simp[Prod.ext_iff,HZ]) aH aH aH aH
def ahz:AL prog 125 iH:=alE.key (by omega) ⟨.struct<|prog.fieldsOf 125,aH,fun _ _=>rfl⟩
def adr:GD prog 46 qi:=aiY.eqs (by omega) aH
def ane:GD prog 49 aq:=alD.eqs (by omega) aH
def Yu:GD prog 58 bb:=alC.eqs (by omega) aH
def anc:GD prog 72 fA:=aoB.eqs (by omega) aH
def Acc{Y:Type}(b:Nat)(B:att Y->av8 (att Y)):Prop:=
 ∀s r,B s=some r->∃ys,r=s++ys/\((s.length*b<=140737488355328->r.length*b<=140737488355328))/\∀s',(s'.length+ys.length)*b<=140737488355328->B s'=some (s'++ys)
section
variable{Y:Type}{b:Nat}
variable{X:Type}{B:X->att Y->av8 (att Y)}
def Acc.some:Acc (Y:=Y) b fun s=>Option.some s:=fun s r h=>by
 cases h;exact⟨[],by simp,id,fun s' _=>by simp⟩
def Acc.none:Acc (Y:=Y) b fun _=>Option.none:=fun s r h=>by cases h
def Acc.bdc{e:av8 X}{K:X->att Y->av8 (att Y)}(h:∀x,Acc b<|K x):Acc b fun s=>bd e fun x=>K x s:=fun s r hr=>by
 obtain⟨x,he,hr⟩:=xN hr;obtain⟨ys,h1,h2,h3⟩:=h x s r hr;exact⟨ys,h1,h2,fun s' hs=>by rw[he];exact h3 s' hs⟩
def Acc.gc{c:Bool}{K:att Y->av8 (att Y)}(h:Acc b K):Acc b fun s=>gC c (K s):=fun s r hr=>by
 cases c with
 |false=>cases hr
 |true=>exact h s r hr
def Acc.cond{c:Bool}{A B:att Y->av8 (att Y)}(h:Acc b A)(k:Acc b B):Acc b fun s=>cond c (A s) (B s):=fun s r hr=>by
 cases c with
 |false=>exact k s r hr
 |true=>exact h s r hr
def Acc.ang{c:att Y->Bool}{A B:att Y->av8 (att Y)}(hc:∀s,c s=c [])(h:Acc b A)(k:Acc b B):Acc b fun s=>_root_.cond (c s) (A s) (B s):=by
 have e:(fun s=>_root_.cond (c s) (A s)<|B s)=fun s=>_root_.cond (c []) (A s) (B s):=by
  funext s;rw[hc s]
 rw[e];exact Acc.cond h k
def Acc.app{e:Y}{K:att Y->av8 (att Y)}(hb:Nat.ble 1 b=true)(h:Acc b K):Acc b fun s=>bd (fX b s [e]) fun x=>K x:=fun s r hr=>by
 have hb:=gK hb;obtain⟨x,hx,hr⟩:=xN hr;have amJ:∀s:att Y,(s.length+1)*b<=140737488355328->fX b s [e]=Option.some (s++[e]):=fun s hs=>by
  unfold fX;have h1:s.length+1<=9223372036854775807:=by
   have:=Nat.le_mul_of_pos_right (s.length+1) (show 0<b by omega);omega
  simp[hs,h1]
 have hxs:x=s++[e]/\(s.length+1)*b<=140737488355328:=by
  by_cases hc:(s.length+1)*b<=140737488355328
  ·rw[amJ s hc] at hx;exact⟨(eQ hx).symm,hc⟩
  ·unfold fX at hx;simp[hc] at hx
 obtain⟨rfl,Ke⟩:=hxs;obtain⟨ys,h1,h2,h3⟩:=h _ r hr;refine⟨e::ys,by rw[h1];simp,fun _=>h2 (by simpa using Ke),fun s' hs=>?_⟩;have ui:(s'.length+1+ys.length)*b<=140737488355328:=by
  have:s'.length+(e::ys).length=s'.length+1+ys.length:=by simp;omega
  rwa [this] at hs
 show bd (fX b s' [e]) (fun x=>K x)=_;rw[amJ s' (df (mF b (by omega)) ui)];show K (s'++[e])=_;rw[h3 (s'++[e]) (by simpa using ui)];simp
def Acc.lp{I:Type}{Body:((att Y×I)->av8 (att Y))->att Y×I->av8 (att Y)}(h:∀k:(att Y×I)->av8 (att Y),(∀i,Acc b fun s=>k (s,i))->∀i,Acc b fun s=>Body k (s,i)):∀n i,Acc b fun s=>lp n Body (s,i)
 |0,i=>Acc.none
 |n+1,i=>h _ (Acc.lp h n) i
def U5{X:Type}{B:X->att Y->av8 (att Y)}(hB:∀x,Acc b<|B x):∀{l:att X} {s r:att Y},FT B l s=Option.some r->s.length*b<=140737488355328->∃Ys:att (att Y),Ys.length=l.length/\r=s++Ys.flatten/\r.length*b<=140737488355328/\
  ∀p∈l.zip Ys,∀s',(s'.length+p.2.length)*b<=140737488355328->B p.1 s'=Option.some (s'++p.2)
 |[],s,r,h,hs=>by cases h;exact⟨[],rfl,by simp,hs,by simp⟩
 |x::l,s,r,h,hs=>by
  obtain⟨s1,hx,h⟩:=xN h;obtain⟨ys,h1,h2,h3⟩:=hB x s s1 hx;obtain⟨Ys,k1,k2,k3,k4⟩:=U5 hB h<|h2 hs
  refine⟨ys::Ys,by simp[k1],by rw[k2,h1];simp,k3,?_⟩;intro p hp;rw[List.zip_cons_cons,aY] at hp;rcases hp with rfl|hp
  ·exact h3
  ·exact k4 p hp
def Ux{X:Type}{B:X->att Y->av8 (att Y)}:∀{q:att (X×att Y)} {s:att Y},(∀p∈q,∀s',(s'.length+p.2.length)*b<=140737488355328->B p.1 s'=Option.some (s'++p.2))->(s++(q.map (·.2)).flatten).length*b<=140737488355328->FT B (q.map (·.1)) s=Option.some (s++(q.map (·.2)).flatten)
 |[],s,_,_=>by simp[FT]
 |p::q,s,h,hl=>by
  have Yf:(s.length+p.2.length+((q.map (·.2)).flatten).length)*b<=140737488355328:=by
   simpa[rR] using hl
  show bd (B p.1 s) _=_;rw[h p (by simp) s (df (mF b (by omega)) Yf)];show FT B (q.map (·.1)) (s++p.2)=_;rw[Ux (fun p' hp'=>h p' (by simp[hp'])) (by simpa[rR] using Yf)];simp
def abC{Z:Type}:∀{l π:att X} {Zs:att Z},π.Perm l->Zs.length=l.length->∃q:att (X×Z),q.Perm (l.zip Zs)/\q.map (·.1)=π:=by
 intro l π Zs hp
 induction hp generalizing Zs with
 |nil=>intro h;exact⟨[],by simp,rfl⟩
 |cons x hp ih=>
  intro h;cases Zs with
  |nil=>simp at h
  |cons z Zs=>
   obtain⟨q,h1,h2⟩:=ih (by simpa using h);exact⟨(x,z)::q,by simpa using h1,by simp[h2]⟩
 |swap x y l=>
  intro h
  match Zs,h with
  |z1::z2::Zs,h=>
   refine⟨(y,z2)::(x,z1)::l.zip Zs,by simpa using List.Perm.swap _ _ _,?_⟩;have:Zs.length=l.length:=by simpa using h
   simp[List.map_fst_zip,this]
 |trans h1 h2 ih1 ih2=>
  intro h;obtain⟨q2,a1,a2⟩:=ih2 h;obtain⟨q1,b1,b2⟩:=ih1 (Zs:=q2.map (·.2)) (by rw[c7,<-a2,c7]);refine⟨q1,b1.trans ?_,b2⟩;have:(List.zip (q2.map (·.1))<|q2.map (·.2))=q2:=by
   rw[List.zip_map'];simp
  rw[<-a2,this];exact a1
def adY(hB:∀x,Acc b<|B x){l π:att X}{r:att Y}(h:FT B l []=Option.some r)(hp:π.Perm l):∃r',FT B π []=Option.some r'/\r'.Perm r:=by
 obtain⟨Ys,h1,h2,h3,h4⟩:=U5 hB h (by simp);obtain⟨q,q1,q2⟩:=abC hp h1;have hq:((q.map (·.2)).flatten).Perm r:=by
  rw[h2,qL];refine List.Perm.flatten ?_;have:=q1.map (·.2);rwa [List.map_snd_zip (by omega)] at this
 refine⟨_,by rw[<-q2];exact Ux (b:=b) (fun p hp s' hs=>h4 p (q1.mem_iff.1 hp) s' hs) (by rw[qL,hq.length_eq];exact h3),?_⟩;simpa using hq
end
section
variable{α:Type}[DecidableEq α]{c:α×α->Option Int}
def Ns{rk:α->Nat}:∀{s:att α} {x:α},(∀y∈s,∃v,c (x,y)=some v/\(v<0↔rk x<rk y))->s.Pairwise (fun a b=>rk b<=rk a)->∃s',KM (fun a b=>c (a,b)) x s=some s'/\s'.Pairwise fun a b=>rk b<=rk a
 |[],x,_,_=>⟨[x],rfl,by simp⟩
 |y::s,x,h,hs=>by
  obtain⟨v,hv,hr⟩:=h y (by simp);obtain⟨hy,ui⟩:=qM.1 hs;cases hd:decide (v<0) with
  |true=>
   obtain⟨s',h1,h2⟩:=Ns (fun z hz=>h z<|cW _ hz) ui;refine⟨y::s',?_,qM.2 ⟨fun z hz=>?_,h2⟩⟩
   ·show bd (c (x,y)) _=_;rw[hv];show cond (decide<|v<0) _ _=_;rw[hd];show bd (KM (fun a b=>c (a,b)) x s) _=_;rw[h1];rfl
   ·rcases aY.1 ((E9 h1).mem_iff.1 hz) with e|hz
    ·subst e;have:=hr.1<|aZ hd
     omega
    ·exact hy z hz
  |false=>
   refine⟨x::y::s,?_,qM.2 ⟨fun z hz=>?_,hs⟩⟩
   ·show bd (c (x,y)) _=_;rw[hv];show cond (decide<|v<0) _ _=_;rw[hd];rfl
   ·have hn: ¬rk x<rk y:=fun h=>by have:=hr.2 h;simp[this] at hd
    rcases aY.1 hz with e|hz
    ·subst e;omega
    ·have:=hy z hz;omega
end
end Trn
