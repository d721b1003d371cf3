/-
  Part of the proof of SolidOperations.
-/
import Derived.Test.YtieipfegkfhllaaGreatDoorLa
set_option maxRecDepth 100000
set_option maxHeartbeats 20000000
set_option linter.all false
open Go Go.RowKit Go.Proofs Go.Proofs.Tryz
namespace Trn
section
variable{n m:Nat}{q:Rat}{c d:Nat}{z:Int}{x:Rat}{k:Nat}{p:Bool×A3 Int}{l u:AD}{y:Rat}{neg:Bool}{core:AD}{a:Q3}{s:AD}{b:Q3}
theorem akH{ρ:Type}{R:ρ->Prop}{u v:A3 Int}{j:Nat}{K:A3 Int×Int->AA ρ}(hu:Cc u)(hv:Cc v)(Lc:v.length=k+2)(hj:j+(k+3)<=u.length)(hlen:u.length<439804651)(XC:BT<=2*v.getD (k+1) 0)(hlt:AL (u.drop<|j+1)<AL v)
 (h:∀l t,Cc l->l.length=u.length->l.take j=u.take j->0<=t->t<BT->AL (l.drop j)=AL (u.drop j)-t*AL v->AL (l.drop j)<AL v->Yd R (K (l,t))):Yd R (bd (Y2 u v (j:Int)) λHg=>lp 18446744073709551616 (λ(k46:(A3 Int×Int×Int)->AA ρ) (DD:A3 Int×Int×Int)=>cond (decide<|DD.2.2<(v.length:Int)) (bd (AB v DD.2.2) λIz=>bd (AH<|Hg*Iz) λHx=>bd (AH<|Hx+DD.2.1) λGd=>bd (AH<|DD.2.2+(j:Int)) λHy=>bd (AB DD.1 Hy) λJw=>bd (AB DD.1 Hy) λJW=>bd (Fu Gd (1000000000:Int)) λKs=>bd (AH<|JW-Ks) λIQ=>bd (Gl Gd (1000000000:Int)) λMi=>jn (λ(s66:Int×Int)=>bd (AH<|DD.2.2+(j:Int)) λJv=>bd (AB DD.1 Jv) λx75=>bd (AB DD.1 Jv) λO9=>bd (AH<|DD.2.2+(1:Int)) λx79=>k46 ((DD.1.set (Jv).toNat s66.2),s66.1,x79)) λk67=>cond (decide<|IQ<(0:Int)) (bd (AH<|IQ+(1000000000:Int)) λx69=>bd (AH<|Mi+(1:Int)) λx71=>k67 (x71,x69)) (k67 (Mi,IQ))) (bd (AH<|(j:Int)+(v.length:Int)) λKr=>bd (AH<|(j:Int)+(v.length:Int)) λx83=>bd (AB DD.1 x83) λx85=>bd (AB DD.1 x83) λx87=>bd (AH<|x87-DD.2.1) λKM=>bd (AB DD.1 Kr) λx91=>bd (AB DD.1 Kr) λx93=>bd (AH<|(j:Int)+(v.length:Int)) λx95=>bd (AB (DD.1.set (Kr).toNat KM) x95) λx97=>bd (AB (DD.1.set (Kr).toNat KM) x95) λx99=>jn (λ(St:A3 Int×Int)=>K St) λX4=>cond (decide<|x99<(0:Int)) (bd (AH<|Hg-(1:Int)) λjt=>lp 18446744073709551616 (λ(b9:(A3 Int×Int×Int)->AA ρ) (DV:A3 Int×Int×Int)=>cond (decide<|DV.2.2<(v.length:Int)) (bd (AH<|DV.2.2+(j:Int)) λIJ=>bd (AB DV.1 IJ) λLU=>bd (AB DV.1 IJ) λKi=>bd (AB v DV.2.2) λNA=>bd (AH<|Ki+NA) λNx=>bd (AH<|Nx+DV.2.1) λNC=>bd (AH<|DV.2.2+(j:Int)) λM3=>bd (Fu NC (1000000000:Int)) λR6=>bd (AB DV.1 M3) λX9=>bd (AB DV.1 M3) λX8=>bd (Gl NC (1000000000:Int)) λX7=>bd (AH<|DV.2.2+(1:Int)) λX6=>b9 ((DV.1.set (M3).toNat R6),X7,X6)) (bd (AH<|(j:Int)+(v.length:Int)) λSm=>bd (AH<|(j:Int)+(v.length:Int)) λX5=>bd (AB DV.1 X5) λacL=>bd (AB DV.1 X5) λjs=>bd (AH<|js+DV.2.1) λjr=>bd (AB DV.1 Sm) λacK=>bd (AB DV.1 Sm) λacJ=>X4 ((DV.1.set (Sm).toNat jr),jt))) ((DD.1.set (Kr).toNat KM),(0:Int),(0:Int))) (X4 ((DD.1.set (Kr).toNat KM),Hg)))) (u,(0:Int),(0:Int))):=by
 have hVb:=F1 hv;rw[Lc] at hVb;have hP:=Na<|k+2
 have eW:AL (u.drop j)=u.getD j 0+BT*AL (u.drop<|j+1):=by rw[OK A4,Mp]
 have hj0:=HX hu j;have hW0:0<=AL (u.drop j):=(F1<|To hu j).1;have au6:AL (u.drop j)<BT*AL v:=AK;have hzero:AL ((u.drop j).drop<|k+3)=0:=wx (To hu j) (by rw[Ii];omega) (by
  rw[K7];have:BT*AL v<BT*BL (k+2):=by unfold BT;omega
  omega)
 have eWw:AL (u.drop j)=AL ((u.drop j).take<|k+3):=by have:=Rj (u.drop j) (k+3) (by rw[Ii];omega);rw[hzero] at this;omega
 have hz:∀m,j+(k+3)<=m->u.getD m 0=0:=λm hm=>by have:=aei (l:=u.drop j) hzero (To hu j) (m:=m-j) A4;rwa [Wx,show j+(m-j)=m by omega] at this
 have avp:AL ((u.drop j).take<|k+3)=AL ((u.drop j).take<|k+2)+BL (k+2)*u.getD (j+(k+2)) 0:=by rw[IZ,Wx]
 refine Aq (aih (k:=k) (j:=j) hu hv Lc hj A4 XC rfl (by rw[<-eWw];exact au6)) ?_;rintro t ⟨⟨ht0,ht1⟩,Fl,hup⟩;rw[<-eWw] at Fl hup;refine ahE (j:=j) (n:=k+2) hu hv Lc A4 A4 ⟨ht0,ht1⟩ ?_;intro u2 b g1 g2 g3 g4 g5 g6;dsimp;have en:((j:Int)+(v.length:Int))=((j+(k+2):Nat):Int):=A4;rw[en];have gt:u2.getD (j+(k+2)) 0=u.getD (j+(k+2)) 0:=g4 _<|BM _
 have hb2:=HX hu<|j+(k+2)
 have i2:AB u2 ((j+(k+2):Nat):Int)=some (u.getD (j+(k+2)) 0):=by rw[<-gt];exact Bf A4
 have hS:=F1<|MJ (To g1 j)<|k+2
 rw[E1,Ii,EV A4] at hS;refine A6 BC (A6 BC (A6 i2 (A6 i2 (A6 (EO ⟨by unfold BT at*;omega,by unfold BT at*;omega⟩)<|A6 i2<|A6 i2<|A6 BC ?_))));rw[Ce];have i3:AB (u2.set (j+(k+2))<|u.getD (j+(k+2)) 0-b) ((j+(k+2):Nat):Int)=some (u.getD (j+(k+2)) 0-b):=by rw[Bf (by rw[LJ];omega),JE A4]
 refine A6 i3<|A6 i3 ?_
 have eD:AL (u.drop j)-t*AL v=AL ((u2.drop j).take<|k+2)+BL (k+2)*(u.getD (j+(k+2)) 0-b):=AK;rw[ZH,JI] at Fl;rw[ID,JI] at hup
 generalize u.getD (j+(k+2)) 0-b=y at*
 have hy1: -1<=y:=by
  rcases(show -1<=y\/y<= -2 by omega) with h|h
  ·exact h
  ·have:=Ew h (EU hP);omega
 have hy2:y<=0:=by
  rcases(show y<=0\/1<=y by omega) with h|h
  ·exact h
  ·have:=Ew h (EU hP);omega
 have fin:∀(l:A3 Int) (t':Int),l.length=u.length->l.take j=u.take j->(∀m,j+(k+2)<m->l.getD m 0=u.getD m 0)->(∀m,m≠j+(k+2)->0<=l.getD m 0/\l.getD m 0<BT)->0<=t'->t'<BT->AL ((l.drop j).take<|k+2)=AL (u.drop j)-t'*AL v->AL ((l.drop j).take<|k+2)<AL v->∀l2,l2=l.set (j+(k+2)) 0->Yd R (K (l2,t')):=by
  intro l t' q1 q2 q3 q4 q5 q6 q7 q8 l2 hl2;have ok2:Cc l2:=ab9 λm=>by
   by_cases e:m=j+(k+2)
   ·grind
   ·rw[hl2,getD_set_ne e];exact q4 m e
  have ev:AL (l2.drop j)=AL ((l.drop j).take<|k+2):=by
   have e1:=Rj (l2.drop j) (k+2) (by rw[Ii,hl2,LJ];omega);have e2:(l2.drop j).take (k+2)=(l.drop j).take (k+2):=by rw[hl2,kO,HI<|BM _]
   have e3:AL ((l2.drop j).drop<|k+2)=0:=wE λm=>by
    rw[Wx,Wx,hl2];by_cases e:m=0
    ·grind
    ·rw[<-LG,getD_set_ne A4,q3 _ A4];exact hz _ A4
   rw[e1,e2,e3];omega
  exact h l2 t' ok2 (by rw[hl2,LJ];exact q1) (by rw[hl2,HI A4];exact q2) q5 q6 (by rw[ev];exact q7) (by rw[ev];exact q8)
 refine DJ (λs:A3 Int×Int=>∃l:A3 Int,(l.length=u.length/\l.take j=u.take j/\(∀m,j+(k+2)<m->l.getD m 0=u.getD m 0)/\(∀m,m≠j+(k+2)->0<=l.getD m 0/\l.getD m 0<BT))/\(0<=s.2/\s.2<BT)/\AL ((l.drop j).take<|k+2)=AL (u.drop j)-s.2*AL v/\AL ((l.drop j).take<|k+2)<AL v/\s.1=l.set (j+(k+2)) 0) ?_ ?_
 ·grind
 intro X4 hk;refine Ad (λhc=>?_)<|λhc=>?_
 ·have hc:=As hc;have hy:y= -1:=A4;subst hy;have ht2:1<=t:=AK;refine A6 (EO ⟨A4,by unfold BT at*;omega⟩) ?_;refine agQ (j:=j) (n:=k+2) ?_ hv Lc (by rw[LJ];omega) (by rw[LJ];omega) ?_
  ·intro m hm;rw[getD_set_ne hm];exact HX g1 m
  intro u4 c r1 r2 r3 r4 r5 r6;dsimp only;rw[LJ] at r1;rw[HI A4] at r2;have e6:((u2.set (j+(k+2))<| -1).drop j).take (k+2)=(u2.drop j).take (k+2):=by rw[kO,HI<|BM _]
  rw[e6] at r6;have r4':u4.getD (j+(k+2)) 0= -1:=AK;have i4:AB u4 ((j+(k+2):Nat):Int)=some (-1):=by rw[<-r4'];exact Bf A4
  have I4:0<=AL ((u4.drop j).take<|k+2)/\AL ((u4.drop j).take<|k+2)<BL (k+2):=by
   have ok:Cc ((u4.drop j).take<|k+2):=ab9 λm=>by
    by_cases e:m<k+2
    ·rw[ajW e];exact r4 _ A4
    ·grind
   have:=F1 ok;rwa [E1,Ii,EV A4] at this
  have hc1:c=1:=AK;subst hc1;refine A6 BC (A6 BC (A6 i4 (A6 i4 (A6 BC (A6 i4 (A6 i4 (hk _ ⟨u4,⟨A4,by rw[r2,g3],?_,r4⟩,⟨by dsimp;omega,by dsimp;omega⟩,?_,?_,?_⟩)))))))
  ·grind
  ·grind
  ·omega
  ·grind
 ·have hc:=Bg hc;have hy:y=0:=A4;subst hy;refine hk _ ⟨u2,⟨g2,g3,λm hm=>g4 m A4,λm _=>HX g1 m⟩,⟨ht0,ht1⟩,?_,?_,rfl⟩
  ·dsimp;omega
  ·omega
theorem aam{l:A3 Int}(h:l.length<1099511627776):BG 8 ([]:A3 Int) l=some l:=by grind [BG]
theorem mD{a b:A3 Int}(ha:Fx a)(hb:Fx b)(h0:b≠[])(hla:a.length<43980465)(hlb:b.length<43980465):Yd (λp=>(Fx p.1/\Fx p.2)/\AL p.1=AL a/AL b/\AL p.2=AL a%AL b) (Uy a b):=by
 unfold Uy;have hbp:=hb.pos h0;have ha0:=(F1 ha.1).1;refine Aq (tX ha hb A4 A4) λc hcmp=>Ad (λhc=>?_)<|λhc=>Ad (λh1=>?_)<|λh1=>?_
 ·have hc:=As hc;have hlt:AL a<AL b:=AK;exact AU ⟨⟨Fx.nil,ha⟩,by rw[Int.ediv_eq_zero_of_lt ha0 hlt];rfl,(UC ha0 hlt).symm⟩
 ·have h1:=As h1;obtain⟨d,rfl⟩:∃d,b=[d]:=iZ.1 A4;have hd:AL [d]=d:=by simp[AL]
  rw[hd] at hbp⊢;have hd2:=hb.1 d AV;refine A6 (x:=d) rfl (Aq (vN ha.1 ⟨hbp,by unfold BT at hd2;omega⟩ A4) ?_);rintro⟨w,r⟩ ⟨g1,g2,g3,g4⟩;dsimp only at g1 g2 g3⊢;have Kv:=Lw (AL a) (show d≠0 by omega);have hr1:=LK (AL a) hbp;have okr:Cc [r]:=λx hx=>by rw[Cl] at hx;subst hx;omega
  refine Aq (Tm okr AV) λz ⟨q1,q2,_⟩=>AU ⟨⟨g1,q1⟩,g2,?_⟩
  rw[q2,<-g3];simp[AL]
 ·have h1:=Bg h1;have hc:=Bg hc;have Ld:AL b<=AL a:=AK;have avn:0<b.length:=WN.2 h0;obtain⟨k,hk⟩:∃k,b.length=k+2:=⟨b.length-2,A4⟩;have hal:k+2<=a.length:=by
   rcases Hk a.length (k+2) with h|h
   ·have:=ek ha.1 hb A4;omega
   ·exact h
  have e1:((b.length:Int)-1)=((k+1:Nat):Int):=A4;rw[e1];have hbt:=HX hb.1<|k+1
  generalize hf:1000000000/(b.getD (k+1) 0+1)=f
  have hdv:Gl 1000000000 (b.getD (k+1) 0+1)=some f:=by rw[<-hf];exact div_pos A4 A4 A4
  have hf0:0<=f/\f<=1000000000:=by rw[<-hf];exact⟨LI A4 A4,SF _ A4⟩
  refine A6 BC (A6 (Bf A4) (A6 (EO ⟨A4,by unfold BT at*;omega⟩)<|A6 hdv ?_));have hf1:1<=f/\f<=500000000:=by
   have hb1:b.getD (k+1) 0≠0:=λe=>by have l1:=Te hb.1 h0 hb.2;have l2:=V9 (l:=b) (n:=k+1) A4;rw[Cz A4,e] at l2;have l3:=(F1<|MJ hb.1<|k+1).2;rw[E1,EV A4] at l3;rw[hk,show k+2-1=k+1 by omega] at l1;omega
   have:=zh (t:=b.getD (k+1) 0) A4 (by unfold BT at hbt;omega) hf.symm;exact⟨this.1,this.2.1⟩
  have okf:Cc [f]:=λx hx=>by rw[Cl] at hx;subst hx;unfold BT;omega
  have vf:AL [f]=f:=by simp[AL]
  refine Aq (mC hb.1 okf A4 AV) λv ⟨v1,v2,v3⟩=>?_
  rw[vf] at v2;let⟨n1,n2,n3,_,_⟩:=aoc hb hk hf.symm v1 v2;refine Aq (mC ha.1 okf A4 AV) λu0 ⟨w1,w2,w3⟩=>?_
  rw[vf] at w2;rw[IE] at w3;refine A6 (aam A4)<|am9 w1.1 w3 A4 ?_
  intro u hu hul huv;rw[w2] at huv;obtain⟨m,hm⟩:∃m,m+1+(k+2)=a.length+1:=⟨a.length-(k+2),A4⟩;have em:((u.length:Int)-(v.length:Int))=((m+1:Nat):Int):=A4;rw[em];refine A6 BC<|A6 (Px A4 A4 A4)<|A6 BC<|A6 BC ?_
  rw[Ce];have hAp:AL a<BL a.length:=(F1 ha.1).2;have KS:=top_lt hu hul hm huv hAp hf1.1 n3;refine EP (λs:A3 Int×A3 Int×Int=>Cc s.1/\s.1.length=u.length/\Cc s.2.1/\s.2.1.length=m+1/\ -1<=s.2.2/\s.2.2<(m+1:Nat)/\AL (s.1.drop (s.2.2+1).toNat)<AL v/\
    AL u=AL s.1+AL v*(BL (s.2.2+1).toNat*AL (s.2.1.drop (s.2.2+1).toNat))) (λs=>(s.2.2+1).toNat) ?_ _ _
   ⟨hu,rfl,mF _,AV,BZ,BZ,?_,?_⟩ BZ
  rotate_left
  ·grind
  ·dsimp only;have e:(((m+1:Nat):Int)-1+1).toNat=m+1:=A4;rw[e,N2 AV];simp[AL]
  rintro next ⟨u',q,z⟩ ⟨s1,s2,s3,s4,s5,s6,s7,s8⟩ hn
  dsimp only at s1 s2 s3 s4 s5 s6 s7 s8 hn⊢;refine Ad (λhz=>?_)<|λhz=>?_
  ·have hz:=As hz;obtain⟨j,rfl⟩:=F2 hz;have ej:(((j:Nat):Int)+1).toNat=j+1:=A4;rw[ej] at s7 s8;refine akH (k:=k) (j:=j) s1 v1.1 n1 A4 A4 n2 s7 ?_;intro l t r1 r2 r3 r4 r5 r6 r7;refine A6 (Bf A4) (A6 (Bf A4) (A6 BC (hn _ ⟨r1,BZ,ZD s3 _ ⟨r4,r5⟩,by simpa using s4,BZ,BZ,?_,?_⟩ ?_)))
   ·grind
   ·dsimp only;have e:(((j:Nat):Int)-1+1).toNat=j:=A4;rw[e,Ce,dx A4,Mp,s8,Rj u' j A4,Rj l j A4,r3,r6,K7];have x1:BL j*(AL (u'.drop j)-t*AL v)=BL j*AL (u'.drop j)-AL v*(BL j*t):=AK;have x2:AL v*(BL j*(t+BT*AL (q.drop<|j+1)))=AL v*(BL j*t)+AL v*(BT*BL j*AL (q.drop<|j+1)):=AK;rw[x1,x2];omega
   ·dsimp only;omega
  ·have hz:=Bg hz;have:z= -1:=A4;subst this;have s7:AL u'<AL v:=s7;have s8:AL u=AL u'+AL v*(BL 0*AL q):=s8;rw[Tn,JI] at s8;have u'0:=(F1 s1).1;have hVb:=(F1 v1.1).2;have htk:AL (u'.take v.length)=AL u':=by have:=Rj u' v.length A4;rw[wx s1 A4 A4] at this;omega
   refine A6 (E6 A4 A4 A4) ?_;have et:((u'.take ((v.length:Nat):Int).toNat).drop (0:Int).toNat)=u'.take v.length:=AV;rw[et];refine Aq (Tm (MJ s1 _) (by rw[E1];omega)) λy ⟨y1,y2,y3⟩=>A6 (x:=f) rfl ?_
   rw[E1] at y3;refine Aq (vN y1.1 ⟨A4,A4⟩ A4) ?_;rintro⟨w,r⟩ ⟨g1,g2,g3,g4⟩;dsimp only at g1 g2 g3⊢;refine Aq (Tm s3 A4) λx ⟨x1,x2,_⟩=>AU ⟨⟨x1,g1⟩,?_⟩
   dsimp only;rw[x2,g2,y2,htk];have hR:AL u'=f*(AL a-AL b*AL q):=AK;have hRd:AL u'/f=AL a-AL b*AL q:=by rw[hR,Int.mul_ediv_cancel_left _ A4]
   rw[hRd];have hR0:0<=AL a-AL b*AL q:=by rw[<-hRd];exact LI u'0 A4
   have hR1:AL a-AL b*AL q<AL b:=by refine ij (a:=f) ?_ A4;rw[<-hR,FD f];omega
   have:=YR (A:=AL a) (B:=AL b) (q:=AL q) (r:=AL a-AL b*AL q) (by rw[FD<|AL q];omega) hR0 hR1;exact this
def Z7:∀n:Nat,BL n=((10^(9*n):Nat):Int)
 |0=>rfl
 |n+1=>by rw[K7,Z7 n,show 9*(n+1)=9*n+9 by omega,Mu,SE];unfold BT;omega
def abp{a:A3 Int}(ha:Cc a)(hl:a.length<=100000):Nat.log2 (AL a).toNat<1099511627776:=by
 have h:=F1 ha;rw[Z7] at h;have h1:=KD (show 0<10 by omega) (show 9*a.length<=900000 by omega);have:DB ((AL a).toNat:Int)=true:=PX (n:=900000) (by
  rw[GB]
  generalize 10^(9*a.length)=P at*
  generalize 10^900000=Q at*
  omega) A4
 have:=Fa this;rw[GB] at this;omega
def zD{x y:Int}(hx:0<=x)(hy:0<y):Int.gcd y (x%y)=Int.gcd x y:=by
 obtain⟨m,rfl⟩:=F2 hx;obtain⟨n,rfl⟩:=F2<|EU hy
 show Nat.gcd n (((m%n:Nat):Int)).natAbs=Nat.gcd m n;rw[GB,SB n,<-Nat.gcd_rec,SB]
theorem wP{a b:A3 Int}(ha:Fx a)(hb:Fx b)(hla:a.length<=100000)(hlb:b.length<=100000):Yd (λw=>Fx w/\AL w=(Int.gcd (AL a) (AL b):Int)/\w.length<=100000) (Xq a b):=by
 unfold Xq;refine EP (λs:A3 Int×A3 Int=>Fx s.1/\Fx s.2/\s.1.length<=100000/\s.2.length<=100000/\Int.gcd (AL s.1) (AL s.2)=Int.gcd (AL a) (AL b)) (λs=>muG (AL s.1).toNat (AL s.2).toNat) ?_ _ _ ⟨ha,hb,hla,hlb,rfl⟩<|qt (abp ha.1 hla)<|abp hb.1 hlb
 rintro next ⟨x,y⟩ ⟨h1,h2,h3,h4,h5⟩ hn
 dsimp only at h1 h2 h3 h4 h5 hn⊢;refine Ad (λhc=>?_)<|λhc=>?_
 ·have hc:=As hc;have hy0:y≠[]:=AK;have hyp:=h2.pos hy0;have hx0:=(F1 h1.1).1;refine Aq (mD h1 h2 hy0 A4 A4) ?_;rintro⟨q,r⟩ ⟨⟨g1,g2⟩,g3,g4⟩;dsimp only at g1 g2 g3 g4⊢;have hr:=LK (AL x) hyp;have hrl:r.length<=y.length:=g2.len (by rw[g4];have:=(F1 h2.1).2;omega);refine hn _ ⟨h2,g2,h4,BZ,?_⟩ ?_
  ·dsimp only;rw[g4,<-h5,zD hx0 hyp]
  ·dsimp only;rw[g4];have e:(AL x%AL y).toNat=(AL x).toNat%(AL y).toNat:=AK;rw[e];exact ot A4
 ·have hc:=Bg hc;have hy0:y=[]:=LP A4;subst hy0;refine AU ⟨h1,?_,h3⟩;have hx0:=(F1 h1.1).1;rw[<-h5];show AL x=((Int.gcd (AL x) 0:Nat):Int);rw[Int.gcd_zero_right];omega
def amA{a b:Int}(ha:0<=a/\a<=4000000000000000000)(hb:0<=b/\b<=4000000000000000000):YN a b=some (Int.gcd a b:Int):=by
 refine GJ ?_;unfold YN;have XE:∀x:Int,0<=x/\x<=4000000000000000000->Nat.log2 x.toNat<1099511627776:=λx hx=>by have:=PX (z:=x) (n:=19) DC A4;have:=Fa this;rw[show x.natAbs=x.toNat by omega] at this;omega
 refine EP (λs:Int×Int=>(0<=s.1/\s.1<=4000000000000000000)/\(0<=s.2/\s.2<=4000000000000000000)/\Int.gcd s.1 s.2=Int.gcd a b) (λs=>muG s.1.toNat s.2.toNat) ?_ _ _ ⟨ha,hb,rfl⟩<|qt (XE a ha)<|XE b hb
 rintro next ⟨x,y⟩ ⟨h1,h2,h5⟩ hn
 dsimp only at h1 h2 h5 hn⊢;refine Ad (λhc=>?_)<|λhc=>?_
 ·have hc:=As hc;have hr:=LK x hc;have Kv:=Lw x (show y≠0 by omega);refine A6 (QW h1.1 hc)<|hn _ ⟨h2,⟨Kv,BZ⟩,?_⟩ ?_
  ·dsimp only;rw[<-h5,zD h1.1 hc]
  ·dsimp only;rw[Int.toNat_emod h1.1<|EU hc];exact ot A4
 ·have hc:=Bg hc;have:y=0:=A4;subst this;refine AU ?_;rw[<-h5,Int.gcd_zero_right];omega
def Yx(n:Nat):0<(B2 n).length:=by
 by_cases h:n<10
 ·rw[OP h];simp
 ·rw[Rp h];simp
theorem pn{r:Nat}(h:k<=(B2 r).length):IL k r=B2 r:=by simp_all [B2,IL]
def aio(h:0<m/10\/1<k):IL k m=IL (k-1) (m/10)++[UInt8.ofNat<|48+m%10]:=by
 by_cases hm:m<10
 ·have hk:1<k:=A4;obtain⟨j,rfl⟩:∃j,k=j+2:=⟨k-2,A4⟩;unfold IL;rw[show m/10=0 by omega,OP hm,OP (show 0<10 by omega),show m%10=m by omega];simp only[IE];rw[show j+2-1=j+1 by omega,show j+1-1=j by omega,List.replicate_succ'];rfl
 ·unfold IL;rw[Rp hm,Dg,IE,show k-((B2<|m/10).length+1)=k-1-(B2<|m/10).length by omega,Hm]
def akQ(h1:m/10=0)(h2:k<=1):IL k m=[UInt8.ofNat<|48+m%10]:=by rw[pn (by have:=Yx m;omega),OP A4,show m%10=m by omega]
def apb(h:d<10):(([48,49,50,51,52,53,54,55,56,57]:AD).take<|d+1).drop d=[UInt8.ofNat<|48+d]:=by
 match d,h with
 |0,_=>rfl
 |1,_=>rfl
 |2,_=>rfl
 |3,_=>rfl
 |4,_=>rfl
 |5,_=>rfl
 |6,_=>rfl
 |7,_=>rfl
 |8,_=>rfl
 |9,_=>rfl
theorem OQ{m:AD}(h:l.length+m.length<=9223372036854775807):IK l m=some (l++m):=by grind [IK]
theorem mV(hn:n<=9000000000000000000)(hk:1<=k/\k<=20):NL (n:Int) (k:Int)=some (IL k n):=by
 refine GJ ?_;unfold NL;refine EP (λs:Int×AD=>∃m:Nat,s.1=m/\m<=n/\m+s.2.length<=n+20/\IL k n=(if 0<m\/s.2.length<k then IL (k-s.2.length) m++s.2 else s.2)) (λs=>s.1.toNat+(k-s.2.length)) ?_ _ _ ⟨n,rfl,BM _,AV,?_⟩ BZ
 ·rintro next ⟨z,s⟩ ⟨m,rfl,h0,h1,h2⟩ HT
  dsimp only at h1 h2 HT⊢;refine Ad (λhc=>?_)<|λhc=>?_
  ·have hg:0<m\/s.length<k:=by rw[Qh,Hn,Hn] at hc;omega
   rw[if_pos hg] at h2;have hr:((m:Int)%10)=((m%10:Nat):Int):=A4;have hq:((m:Int)/10)=((m/10:Nat):Int):=A4;have hd:m%10<10:=OS _ A4;have acY:Fu (m:Int) 10=some ((m%10:Nat):Int):=by rw[QW A4 A4,hr]
   have hdiv:Gl (m:Int) 10=some ((m/10:Nat):Int):=by rw[div_pos A4 A4 A4,hq]
   have BE:C7 ([48,49,50,51,52,53,54,55,56,57]:AD) ((m%10:Nat):Int) (((m%10:Nat):Int)+1)=some [UInt8.ofNat<|48+m%10]:=by rw[E6 A4 A4 DC,Ce,show(((m%10:Nat):Int)+1).toNat=m%10+1 by omega,apb hd]
   refine A6 acY<|A6 acY<|A6 BC<|A6 BE<|A6 (OQ DC)<|A6 hdiv<|HT _ ⟨m/10,rfl,A4,?_,?_⟩ ?_
   ·grind
   ·dsimp only;simp only[List.singleton_append,E7];rw[h2];by_cases hg2:0<m/10\/s.length+1<k
    ·rw[if_pos hg2,aio A4,Hm,show k-s.length-1=k-(s.length+1) by omega];rfl
    ·rw[if_neg hg2,akQ A4 A4];rfl
   ·grind
  ·have hg: ¬(0<m\/s.length<k):=by rw[MW,Il,Il] at hc;omega
   rw[if_neg hg] at h2;exact AU h2.symm
 ·grind
def akP{r:Nat}(hk:0<k)(h:r<10^k):(IL k r).length=k:=by have:=MK k r hk h;unfold IL;rw[Dg,Nl];omega
theorem oj(h:F6 p z)(hl:p.2.length<=100000):TW p=some (Cd z):=by
 refine GJ ?_;let⟨h1,h2,h3⟩:=h;let⟨neg,w⟩:=p;dsimp only at h1 h2 h3 hl;unfold TW;dsimp;refine Ad (λhc=>?_)<|λhc=>?_
 ·have hc:=As hc;have hw:w=[]:=LP A4;subst hw;have hz:z=0:=by have:(0:Int)=(z.natAbs:Int):=h2;omega
  subst hz;exact AU rfl
 ·have hc:=Bg hc;obtain⟨n,hn⟩:∃n,w.length=n+1:=⟨w.length-1,A4⟩;have hw0:w≠[]:=AK;have e1:((w.length:Int)-1)=(n:Int):=A4;rw[e1];have ht:=HX h1.1 n;have XC:0<w.getD n 0:=by
   have l1:=Te h1.1 hw0 h1.2;have l2:=V9 (l:=w) (n:=n) A4;rw[Cz A4] at l2;have l3:=(F1<|MJ h1.1 n).2;rw[E1,EV A4] at l3;rw[hn,Nat.add_sub_cancel] at l1;rcases(show 0<w.getD n 0\/w.getD n 0=0 by omega) with h|h
   ·exact h
   ·grind
  let⟨t,htt⟩:=F2 ht.1;have hdt:NL (w.getD n 0) 1=some (IL 1 t):=by rw[htt];exact mV (k:=1) (by unfold BT at*;omega) A4
  refine A6 BC<|A6 (Bf A4)<|A6 hdt<|A6 BC ?_
  rw[pn<|Yx t];have KS:(B2 t).length<=9:=MK 9 t A4 (by unfold BT at*;omega);refine EP (λs:AD×Int=> -1<=s.2/\s.2<n/\s.1=B2 (AL<|w.drop (s.2+1).toNat).toNat/\0<AL (w.drop (s.2+1).toNat)/\s.1.length+9*(s.2+1).toNat<=1000000) (λs=>(s.2+1).toNat) ?_ _ _ ⟨by dsimp;omega,by dsimp;omega,?_,?_,?_⟩ (by dsimp;omega)
  ·rintro next ⟨s,i⟩ ⟨g1,g2,g3,g4,g5⟩ hnx
   dsimp only at g1 g2 g3 g4 g5 hnx⊢;refine Ad (λhd=>?_)<|λhd=>?_
   ·have hd:=As hd;obtain⟨j,rfl⟩:=F2 hd;have ej:(((j:Nat):Int)+1).toNat=j+1:=A4;have ej':(((j:Nat):Int)-1+1).toNat=j:=A4;rw[ej] at g3 g4 g5;have hx:=HX h1.1 j;let⟨r,hr⟩:=F2 hx.1;have hr9:r<1000000000:=AK;have hdr:NL (w.getD j 0) 9=some (IL 9 r):=by rw[hr];exact mV (k:=9) A4 A4
    have KU:(IL 9 r).length=9:=akP A4 A4;have Km:AL (w.drop j)=r+BT*AL (w.drop<|j+1):=by rw[OK A4,Mp,hr]
    refine A6 (Bf A4) (A6 hdr (A6 (OQ A4) (A6 BC (hnx _ ⟨by dsimp;omega,by dsimp;omega,?_,?_,?_⟩ (by dsimp;omega)))))
    ·dsimp;rw[ej',g3,Km];have e:(((r:Nat):Int)+BT*AL (w.drop<|j+1)).toNat=(AL<|w.drop<|j+1).toNat*10^9+r:=by unfold BT;omega
     rw[e,na 9 _ r A4 A4 A4]
    ·grind
    ·grind
   ·have hd:=Bg hd;have:i= -1:=A4;subst this;have g3:s=B2 (AL w).toNat:=g3;have e2:(AL w).toNat=z.natAbs:=by rw[h2];omega
    rw[e2] at g3;have g5:s.length+0<=1000000:=g5;refine Ad (λIt=>?_)<|λIt=>?_
    ·refine A6 (OQ (by simp[IE];omega)) (AU ?_);rw[It] at h3;unfold Cd;rw[<-h3,g3];rfl
    ·rw[It] at h3;refine AU ?_;unfold Cd;rw[<-h3,g3];rfl
  ·dsimp;have e:(((w.length:Int)-2)+1).toNat=n:=A4;rw[e,OK A4,N2 A4];simp only[AL,htt];simp
  ·dsimp;have e:(((w.length:Int)-2)+1).toNat=n:=A4;rw[e,OK A4,N2 A4];simp only[AL];omega
  ·dsimp;omega
def acX{b:UInt8}(h:l[n]? =some b):AB l (n:Int)=some b:=h
theorem fR{b:UInt8}(h:Du b=true):48<=b.toNat/\b.toNat<=57:=by simp_all [Du]
def fJ(hd:s.all Du=true)(hl:s.length<=18):OE s=some (BS s:Int):=by
 refine GJ ?_;unfold OE;refine EP (λt:Int×Int=>0<=t.2/\t.2<=s.length/\t.1=(BS (s.take t.2.toNat):Int)) (λt=>s.length-t.2.toNat) ?_ _ _ ⟨by dsimp;omega,by dsimp;omega,by simp[BS]⟩ (by dsimp;omega);rintro next ⟨v,i⟩ ⟨h1,h2,h3⟩ hn
 dsimp only at h1 h2 h3 hn⊢;obtain⟨n,rfl⟩:=F2 h1;rw[Ce] at h3;refine Ad (λhc=>?_)<|λhc=>?_
 ·have hc:=As hc;have hlt:n<s.length:=A4;have hdt:(s.take n).all Du=true:=Dk.2 λx hx=>Dk.1 hd x<|Qk hx
  have hv:=QV _ hdt;rw[E1,EV A4] at hv;have hp:(10:Nat)^n<=10^17:=KD A4 A4;have hb:=fR<|Dk.1 hd _<|Ly hlt
  have hw:wr .i64 ((s[n].toNat:Nat):Int)=(s[n].toNat:Int):=by show IntKind.wrap .i64 _=_;rw[IntKind.wrap_i64];omega
  refine A6 BC (A6 (acX<|Gj hlt) (A6 (EO ⟨by rw[hw];omega,by rw[hw];omega⟩) (A6 (EO ⟨by rw[hw];omega,by rw[hw];omega⟩) (A6 BC (hn _ ⟨by dsimp;omega,by dsimp;omega,?_⟩ (by dsimp;omega))))));rw[hw,show(((n:Nat):Int)+1).toNat=n+1 by omega,List.take_succ,Gj hlt,YI,h3];have e:BS [s[n]]=s[n].toNat-48:=by simp[BS]
  simp[Option.toList_some,IE,e];omega
 ·have hc:=Bg hc;have:n=s.length:=A4;subst this;refine AU ?_;rw[h3,Cz<|BM _]
theorem o4{ds:AD}(neg:Bool)(hd:ds.all Du=true)(h0:ds≠[])(hl:ds.length<=800000):Yd (λp=>F6 p (bif neg then -(BS ds:Int) else(BS ds:Int))/\p.2.length<=ds.length) (RZ (bif neg then 45::ds else ds)):=by
 unfold RZ;have core:Yd (λp=>F6 p (bif neg then -(BS ds:Int) else(BS ds:Int))/\p.2.length<=ds.length)
  (lp 18446744073709551616 (λ(k9:(AD×A3 Int)->AA _) (s8:AD×A3 Int)=>cond (decide<|(9:Int)<(s8.1.length:Int)) (bd (AH<|(s8.1.length:Int)-(9:Int)) λB4=>bd (C7 s8.1 B4 (s8.1.length:Int)) λBo=>bd (OE Bo) λBb=>bd (BG 8 s8.2 ([Bb]:A3 Int)) λBi=>bd (AH<|(s8.1.length:Int)-(9:Int)) λBr=>bd (C7 s8.1 0 Br) λC8=>k9 (C8,Bi)) (bd (OE s8.1) λCF=>bd (BG 8 s8.2 ([CF]:A3 Int)) λCo=>bd (L4 neg Co) λD7=>some D7)) (ds,[])):=by
  refine EP (λt:AD×A3 Int=>t.1.all Du=true/\t.1≠[]/\t.1.length<=800000/\Cc t.2/\t.1.length+t.2.length<=ds.length/\(BS ds:Int)=BS t.1*BL t.2.length+AL t.2) (λt=>t.1.length) ?_ _ _ ⟨hd,h0,hl,gn,AV,by simp[Tn,AL]⟩ (by dsimp;omega);rintro next ⟨s,w⟩ ⟨g1,g2,g3,g4,g5,g6⟩ hn
  dsimp only at g1 g2 g3 g4 g5 g6 hn⊢;have okv:∀x:AD,x.all Du=true->x.length<=9->0<=(BS x:Int)/\(BS x:Int)<BT:=λx hx GS=>by have h1:=QV x hx;have h2:(10:Nat)^x.length<=10^9:=KD A4 GS;unfold BT;omega
  have ext:∀v:Int,0<=v/\v<BT->Cc (w++[v]):=λv hv=>by rw[fB];exact⟨g4,λy hy=>by rw[Cl] at hy;subst hy;exact hv⟩
  refine Ad (λhc=>?_)<|λhc=>?_
  ·have hc:=As hc;obtain⟨n,HT⟩:∃n,s.length=n+9:=⟨s.length-9,A4⟩;have e1:((s.length:Int)-9)=(n:Int):=A4;rw[e1];have hda:(s.take n).all Du=true:=Dk.2 λx hx=>Dk.1 g1 x<|Qk hx
   have hdb:(s.drop n).all Du=true:=Dk.2 λx hx=>Dk.1 g1 x<|UF hx
   have hlb:(s.drop n).length=9:=AK;have es:C7 s (n:Int) (s.length:Int)=some (s.drop n):=by rw[E6 A4 A4 A4];simp
   have et:C7 s 0 (n:Int)=some (s.take n):=by rw[E6 A4 A4 A4];simp
   have hv:=okv _ hdb A4;refine A6 BC<|A6 es<|A6 (fJ hdb A4)<|A6 (bO A4)<|A6 BC<|A6 et<|hn _ ⟨hda,?_,?_,ext _ hv,?_,?_⟩ ?_
   ·grind
   ·grind
   ·grind
   ·dsimp;have hs:BS s=BS (s.take n)*10^9+BS (s.drop n):=by
     conv=>lhs;rw[<-Oj n s]
     rw[YI,hlb]
    rw[g6,hs,Dg,IE,K7,Re];have e:AL [(BS (s.drop n):Int)]=BS (s.drop n):=by simp[AL]
    rw[e,Int.natCast_add,SE,ID,FO];have:((10^9:Nat):Int)=BT:=rfl;rw[this,FD (BS (s.drop n):Int)];omega
   ·grind
  ·have hc:=Bg hc;have hv:=okv s g1 A4;have hs0:0<s.length:=WN.2 g2;refine A6 (fJ g1 A4) (A6 (bO A4) (Aq (wN (ext _ hv) (by rw[Dg,IE];omega)) λp ⟨p1,p2⟩=>AU ?_));have e:AL (w++[(BS s:Int)])=(BS ds:Int):=by
    rw[Re,g6];have e:AL [(BS s:Int)]=BS s:=by simp[AL]
    rw[e,FD];omega
   rw[e] at p1;rw[Dg,IE] at p2;exact⟨p1,A4⟩
 cases neg with
 |true=>
  simp only[BH] at core⊢;refine GO (λ_=>⟨45,rfl,?_⟩) (λh=>by simp[gd] at h);have hb:((decide<|(0:Int)<((45::ds).length:Int))&&(decide<|((45:UInt8).toNat:Int)=(45:Int)))=true:=AK;rw[hb];have es:C7 (45::ds) (1:Int) ((45::ds).length:Int)=some ds:=by rw[E6 A4 (by simp[E7];omega) A4,Ce,Cz<|BM _];rfl
  exact DJ (λs=>s=ds) (λs hs=>by subst hs;exact core) λk hk=>Ad (λ_=>A6 es<|hk _ rfl) (λh=>by cases h)
 |false=>
  obtain⟨d,r,rfl⟩:∃d r,ds=d::r:=by
   cases ds with
   |nil=>exact absurd rfl h0
   |cons d r=>exact⟨d,r,rfl⟩
  have hdd:=fR<|Dk.1 hd d AV
  simp only[Ar] at core⊢;refine GO (λ_=>⟨d,rfl,?_⟩) (λh=>by simp[gd] at h);have hb:((decide<|(0:Int)<((d::r).length:Int))&&(decide<|(d.toNat:Int)=(45:Int)))=false:=AK;rw[hb];exact DJ (λs=>s=d::r) (λs hs=>by subst hs;exact core) λk hk=>Ad (λh=>by cases h)<|λ_=>hk _ rfl
theorem xZ(hk:k<=s.length)(h1:∀i,i<k->s[i]? ≠some 47)(h2:k<s.length->s[k]? =some 47)(hl:s.length<1099511627776):L5 s=some (k:Int):=by
 refine GJ ?_;unfold L5;refine EP (λi:Int=>0<=i/\i<=k) (λi=>s.length-i.toNat) ?_ _ _ ⟨A4,A4⟩ A4;rintro next i ⟨g1,g2⟩ hn
 obtain⟨n,rfl⟩:=F2 g1;refine Ad (λhc=>?_)<|λhc=>?_
 ·have hc:=As hc;have hlt:n<s.length:=A4;have hg:=Gj hlt;refine A6 (acX hg)<|Ad (λhd=>?_)<|λhd=>?_
  ·have hd:=As hd;refine AU ?_;have hb:s[n]=47:=iI.1 (by show _=47;omega);rcases Hk n k with h|h
   ·grind
   ·omega
  ·have hd:=Bg hd;rcases Hk n k with h|h
   ·exact A6 BC<|hn _ ⟨A4,A4⟩ A4
   ·have e:n=k:=A4;subst e;have:=h2 hlt;rw[hg] at this;have:=E9 this;rw[this] at hd;exact absurd rfl hd
 ·have hc:=Bg hc;exact AU A4
def BW(q:Rat):AD:=Cd q.num++(bif decide (q.den=1) then [] else 47::B2 q.den)
def Lk(n:Nat):(B2 n).all Du=true/\BS (B2 n)=n:=by
 induction n using Nat.strongRecOn with
 |ind n ih=>
  have one:∀d,d<10->Du (UInt8.ofNat<|48+d)=true/\BS [UInt8.ofNat<|48+d]=d:=by
   intro d hd
   match d,hd with
   |0,_=>decide
   |1,_=>decide
   |2,_=>decide
   |3,_=>decide
   |4,_=>decide
   |5,_=>decide
   |6,_=>decide
   |7,_=>decide
   |8,_=>decide
   |9,_=>decide
  by_cases h:n<10
  ·rw[OP h];have:=one n h;exact⟨by rw[OT,this.1];rfl,this.2⟩
  ·rw[Rp h];let⟨i1,i2⟩:=ih (n/10) A4;have:=one (n%10) A4;refine⟨by rw[iJ,i1,OT,this.1];rfl,?_⟩;rw[YI,i2,this.2,IE];omega
def aae(n:Nat):B2 n≠[]:=λe=>by have:=Yx n;rw[e] at this;simp at this
def aaf(h:(B2 n).length<=k):n<10^k:=by have:=QV _ (Lk n).1;rw[(Lk n).2] at this;have h2:(10:Nat)^(B2 n).length<=10^k:=KD A4 h;omega
def ajc(z:Int):Cd z=bif decide (z<0) then 45::B2 z.natAbs else B2 z.natAbs:=rfl
def nG(z:Int):∀x∈Cd z,x≠47:=by
 intro x hx e;subst e;have hd:(47:UInt8)∉B2 z.natAbs:=λh=>by have:=Dk.1 (Lk z.natAbs).1 _ h;simp[Du] at this
 unfold Cd at hx;cases hc:decide (z<0) with
 |true=>
  rw[hc] at hx;have hx:(47:UInt8)∈45::B2 z.natAbs:=hx;rcases Ao.1 hx with h|h
  ·cases h
  ·exact hd h
 |false=>rw[hc] at hx;exact hd hx
def fW{t:AD}(hu:∀x∈u,x≠47)(hl:(u++47::t).length<1099511627776):L5 (u++47::t)=some (u.length:Int):=by refine xZ AV (λi hi=>?_) (λ_=>by simp) hl;rw[MX hi,Gj hi];intro e;exact hu _ (Ly hi)<|E9 e
def oZ(hu:∀x∈u,x≠47)(hl:u.length<1099511627776):L5 u=some (u.length:Int):=by refine xZ (BM _) (λi hi=>?_) (λh=>absurd h<|Nat.lt_irrefl _) hl;rw[Gj hi];intro e;exact hu _ (Ly hi)<|E9 e
theorem Vg(z:Int):(Cd z).length<=(B2 z.natAbs).length+1:=by grind [Cd,B2]
theorem oB(hl:(B2 z.natAbs).length<=800000):Yd (λp=>F6 p z/\p.2.length<=800000) (RZ<|Cd z):=by
 have h:=o4 (decide<|z<0) (Lk z.natAbs).1 (aae _) hl;rw[(Lk _).2] at h;rw[<-ajc] at h;refine h.imp λp hp=>⟨?_,A4⟩
 have e:(bif decide (z<0) then -(z.natAbs:Int) else(z.natAbs:Int))=z:=AK;rw[e] at hp;exact hp.1
def aim(hl:(B2 n).length<=800000):Yd (λp=>F6 p (n:Int)/\p.2.length<=800000) (RZ<|B2 n):=by
 have h:=oB (z:=(n:Int)) (by simpa using hl);have e:Cd (n:Int)=B2 n:=by unfold Cd;rw[Bu A4];simp
 rwa [e] at h
def ai1:RX 1=some (false,[1]):=A7
def aif(h1:(B2 q.num.natAbs).length<=800000)(h2:(B2 q.den).length<=800000):Yd (λp=>(F6 p.1 q.num/\F6 p.2 (q.den:Int))/\p.1.2.length<=800000/\p.2.2.length<=800000) (NO<|BW q):=by
 have hlen:=Vg q.num;unfold NO BW;cases hd:decide (q.den=1) with
 |true=>
  have hd:=As hd;simp[BH,Ih];refine A6 (oZ (nG _) A4)<|Ad (λ_=>?_)<|λh=>absurd rfl<|Bg h
  refine Aq (oB h1) λp hp=>A6 ai1<|AU ⟨⟨hp.1,?_⟩,hp.2,AV⟩
  rw[hd];refine⟨⟨λx hx=>?_,AV⟩,rfl,rfl⟩;rw[Cl] at hx;subst hx;unfold BT;omega
 |false=>
  have hd:=Bg hd;simp only[Ar];have hlt:(Cd q.num++47::B2 q.den).length=(Cd q.num).length+1+(B2 q.den).length:=by simp;omega
  refine A6 (fW (nG _) A4) (Ad (λh=>by have:=As h;omega)<|λ_=>?_);have es:C7 (Cd q.num++47::B2 q.den) 0 ((Cd q.num).length:Int)=some (Cd q.num):=by rw[E6 A4 A4 A4];simp
  have et:C7 (Cd q.num++47::B2 q.den) (((Cd q.num).length:Int)+1) ((Cd q.num++47::B2 q.den).length:Int)=some (B2 q.den):=by rw[E6 A4 A4 A4,Ce,Cz<|BM _,show(((Cd q.num).length:Int)+1).toNat=(Cd q.num).length+1 by omega,<-FZ];simp
  refine A6 es<|Aq (oB h1) λp hp=>A6 BC<|A6 et<|Aq (aim h2) λr hr=>AU ⟨⟨hp.1,hr.1⟩,hp.2,hr.2⟩
def F6.len{p:Bool×A3 Int}{z:Int}(h:F6 p z){n:Nat}(hz:(z.natAbs:Int)<BL n):p.2.length<=n:=h.1.len (by rw[h.2.1];exact hz)
def F6.lt(h:F6 p z):(z.natAbs:Int)<BL p.2.length:=by rw[<-h.2.1];exact(F1 h.1.1).2
def QJ{b:Bool}{w:A3 Int}(hw:Cc w)(hl:w.length<=4000000)(hz:(bif b then -AL w else AL w)=z):Yd (λp=>F6 p z/\p.2.length<=w.length) (L4 b w):=by rw[<-hz];exact wN hw A4
theorem Z5(h:F6 p z):(bif p.1 then -AL p.2 else AL p.2)=z:=by grind [F6,AL]
theorem xc(h:F6 p z)(hl:p.2.length<=4000000):Yd (λq=>F6 q (-z)/\q.2.length<=p.2.length) (Y1 p):=by
 unfold Y1;refine Aq (QJ (z:= -z) h.1.1 hl ?_) λq hq=>AU hq
 have:=Z5 h;cases hp:p.1
 ·grind
 ·grind
def Yb{q:Bool×A3 Int}{x y:Int}(hp:F6 p x)(hq:F6 q y)(hl:p.2.length<=1000000)(hm:q.2.length<=1000000):Yd (λr=>F6 r (x*y)/\r.2.length<=p.2.length+q.2.length) (RY p q):=by
 unfold RY;refine Aq (mC hp.1.1 hq.1.1 A4 A4) λw ⟨w1,w2,w3⟩=>Aq (QJ (z:=x*y) w1.1 A4 ?_) λr hr=>AU ⟨hr.1,A4⟩
 rw[w2,<-Z5 hp,<-Z5 hq]
 generalize AL p.2=a
 generalize AL q.2=b
 cases p.1<;>cases q.1<;>simp[Int.neg_mul,Int.mul_neg]
theorem akI{q:Bool×A3 Int}{x y:Int}(hp:F6 p x)(hq:F6 q y)(hl:p.2.length<=1000000)(hm:q.2.length<=1000000):Yd (λr=>F6 r (x+y)/\r.2.length<=p.2.length+q.2.length+1) (eG p q):=by
 unfold eG;have sp:=Z5 hp;have sq:=Z5 hq;have a0:=(F1 hp.1.1).1;have b0:=(F1 hq.1.1).1;have abq:∀{a b:A3 Int},Fx a->Fx b->AL a<=AL b->a.length<=b.length:=λha hb h=>by
  rcases Hk (List.length _) (List.length _) with h'|h'
  ·have:=ek hb.1 ha h';omega
  ·exact h'
 refine Ad (λhc=>?_)<|λhc=>?_
 ·have hc:p.1=q.1:=by simpa using hc
  refine Aq (af8 hp.1.1 hq.1.1 A4 A4) λw ⟨w1,w2,w3⟩=>Aq (QJ (z:=x+y) w1 A4 ?_) λr hr=>AU ⟨hr.1,A4⟩
  rw[w2,<-sp,<-sq,<-hc];cases p.1
  ·rfl
  ·grind
 ·have hc:p.1= !q.1:=by cases h1:p.1<;>cases h2:q.1<;>rw[h1,h2] at hc<;>first|rfl|cases hc
  refine Aq (tX hp.1 hq.1 A4 A4) λc hcmp=>Ad (λhd=>?_)<|λhd=>?_
  ·have hd:=As hd;have Ld:AL q.2<=AL p.2:=AK;refine Aq (uy hp.1.1 hq.1.1 (abq hq.1 hp.1 Ld) A4 Ld) λw ⟨w1,w2,w3⟩=>Aq (QJ (z:=x+y) w1.1 A4 ?_) λr hr=>AU ⟨hr.1,A4⟩
   rw[w2,<-sp,<-sq,hc];cases q.1
   ·grind
   ·grind
  ·have hd:=Bg hd;have Ld:AL p.2<=AL q.2:=AK;refine Aq (uy hq.1.1 hp.1.1 (abq hp.1 hq.1 Ld) A4 Ld) λw ⟨w1,w2,w3⟩=>Aq (QJ (z:=x+y) w1.1 A4 ?_) λr hr=>AU ⟨hr.1,A4⟩
   rw[w2,<-sp,<-sq,hc];cases q.1
   ·grind
   ·grind
def yu{w:A3 Int}(h:Fx w):(decide ((w.length:Int)=1)=true/\w.getD 0 0=1)↔AL w=1:=by
 constructor
 ·rintro⟨h1,h2⟩;have h1:=As h1;obtain⟨d,rfl⟩:∃d,w=[d]:=iZ.1 A4;have h2:d=1:=by simpa using h2
  subst h2;simp[AL]
 ·intro hv;have hl:w.length<=1:=h.len (by rw[hv,K7,Tn];unfold BT;omega);have hl0:w≠[]:=by intro e;subst e;simp[AL] at hv
  have:0<w.length:=WN.2 hl0;obtain⟨d,rfl⟩:∃d,w=[d]:=iZ.1 A4;have:d=1:=by simpa[AL] using hv
  subst this;exact⟨rfl,rfl⟩
def alD{x g:Int}(hg:0<g)(hd:g∣x):(bif decide (x<0) then -((x.natAbs:Int)/g) else(x.natAbs:Int)/g)=x/g:=by
 cases hc:decide (x<0) with
 |true=>have:=As hc;have e:(x.natAbs:Int)= -x:=A4;rw[e,Int.neg_ediv_of_dvd hd];simp
 |false=>have:=Bg hc;have e:(x.natAbs:Int)=x:=A4;rw[e];rfl
theorem eC{q:Bool×A3 Int}{x y:Int}(hp:F6 p x)(hq:F6 q y)(h0:y≠0)(hl:p.2.length<=80000)(hm:q.2.length<=80000):RM p q=some (BW<|(x:Rat)/(y:Rat)):=by
 refine GJ ?_;unfold RM;have en:((x:Rat)/(y:Rat)).num=(y.sign*x)/(Int.gcd y x:Int):=by rw[<-OW,iE]
 have ed:(((x:Rat)/(y:Rat)).den:Int)=(y.natAbs:Int)/(Int.gcd y x:Int):=by rw[<-OW,iD,if_neg h0];rfl
 have hg0:0<Int.gcd y x:=iq _ h0;refine DJ (λt:(Bool×A3 Int)×(Bool×A3 Int)=>F6 t.1 (y.sign*x)/\F6 t.2 (y.natAbs:Int)/\t.1.2.length<=80000/\t.2.2.length<=80000) ?_<|λk hk=>Ad (λhd=>?_)<|λhd=>?_
 ·rintro⟨a,b⟩ ⟨ha,hb,la,lb⟩;dsimp only at ha hb la lb⊢;have hX:(y.sign*x).natAbs=x.natAbs:=AK;have hg:Int.gcd (y.sign*x) (y.natAbs:Int)=Int.gcd y x:=by rw[Int.gcd_comm];unfold Int.gcd;rw[hX,GB]
  refine Aq (wP ha.1 hb.1 A4 A4) λg ⟨g1,g2,g3⟩=>?_
  have hgv:AL g=(Int.gcd y x:Int):=by rw[g2,ha.2.1,hb.2.1,<-hg];unfold Int.gcd;simp
  have gne:g≠[]:=by intro e;subst e;have:(0:Int)=(Int.gcd y x:Int):=hgv;omega
  refine Aq (mD ha.1 g1 gne A4 A4) ?_;rintro⟨q1,r1⟩ ⟨⟨a1,_⟩,a2,_⟩;refine Aq (mD hb.1 g1 gne A4 A4) ?_;rintro⟨q2,r2⟩ ⟨⟨b1,_⟩,b2,_⟩;dsimp only at a1 a2 b1 b2⊢;rw[hgv,ha.2.1] at a2;rw[hgv,hb.2.1,GB] at b2;have auz:(0:Int)<(Int.gcd y x:Int):=A4;have dvX:(Int.gcd y x:Int)∣y.sign*x:=Int.dvd_trans (Int.gcd_dvd_right _ _)<|Int.dvd_mul_left _ _
  have ava:q1.length<=80000:=Cu (a1.len (n:=a.2.length) (by rw[a2];have:=SF (b:=(Int.gcd y x:Int)) (a:=((y.sign*x).natAbs:Int)) A4;have:=ha.lt;omega)) la
  have avY:q2.length<=80000:=Cu (b1.len (n:=b.2.length) (by rw[b2];have:=SF (b:=(Int.gcd y x:Int)) (a:=(y.natAbs:Int)) A4;have:=hb.lt;rw[GB] at this;omega)) lb
  have v1:(bif a.1 then -AL q1 else AL q1)=((x:Rat)/(y:Rat)).num:=by rw[en,a2,ha.2.2];exact alD auz dvX
  refine Aq (QJ a1.1 A4 v1) λs ⟨s1,s2⟩=>A6 (oj s1 A4) ?_
  have v2:AL q2=(((x:Rat)/(y:Rat)).den:Int):=by rw[ed,b2]
  have bI:=yu b1;have hnl:(Cd ((x:Rat)/(y:Rat)).num).length<=800000:=by
   have h1:=Vg ((x:Rat)/(y:Rat)).num;have h2:=s1.lt;rw[Z7] at h2;by_cases hs0:s.2.length=0
   ·rw[hs0] at h2;have:((x:Rat)/(y:Rat)).num.natAbs<10:=AK;have:=MK 1 _ A4 (show _<10^1 by omega);omega
   ·have:=MK (9*s.2.length) ((x:Rat)/(y:Rat)).num.natAbs A4 A4;omega
  have hdl:(B2 ((x:Rat)/(y:Rat)).den).length<=800000:=by
   have h2:=(F1 b1.1).2;rw[v2,Z7] at h2;by_cases hs0:q2.length=0
   ·rw[hs0] at h2;have hp:=((x:Rat)/(y:Rat)).den_pos;have:(10:Nat)^(9*0)=1:=rfl;omega
   ·have:=MK (9*q2.length) ((x:Rat)/(y:Rat)).den A4 A4;omega
  have avA:((x:Rat)/(y:Rat)).den=1->Cd ((x:Rat)/(y:Rat)).num=BW ((x:Rat)/(y:Rat)):=λh=>by unfold BW;rw[B5 h];simp
  have two:((x:Rat)/(y:Rat)).den≠1->Yd (λr=>r=BW ((x:Rat)/(y:Rat))) (bd (IK (Cd ((x:Rat)/(y:Rat)).num) ([47]:AD)) λC8=>bd (L4 false q2) λCF=>bd (TW CF) λCo=>bd (IK C8 Co) λD7=>some D7):=λh=>by
   refine A6 (OQ DC)<|Aq (QJ (b:=false) b1.1 A4 v2) λt ⟨t1,t2⟩=>A6 (oj t1 A4) ?_
   have e:Cd (((x:Rat)/(y:Rat)).den:Int)=B2 ((x:Rat)/(y:Rat)).den:=by unfold Cd;rw[Bu A4];simp
   rw[e];refine A6 (OQ DC)<|AU ?_
   unfold BW;rw[Bu h];simp
  by_cases hlen:(q2.length:Int)=1
  ·have hd:=B5 hlen;have g1':gd (decide<|(q2.length:Int)=1) true=true:=by rw[hd];rfl
   rw[Ck g1'];refine A6 (Bf (n:=0) A4)<|Ad (λhc=>?_)<|λhc=>?_
   ·rw[C6] at hc;have h1:=bI.1 ⟨hc.1,As hc.2⟩;exact AU<|avA A4
   ·grind
  ·have hd:=Bu hlen;have g1':gd (decide<|(q2.length:Int)=1) true=false:=by rw[hd];rfl
   rw[Ex g1'];refine Ad (λhc=>by rw[hd,Qe] at hc;cases hc)<|λhc=>two λe=>?_
   have h1:=bI.2 (by rw[v2,e];rfl);exact hlen<|As h1.1
 ·have hn:y<0:=by rw[hq.2.2] at hd;exact As hd
  refine Aq (xc hp A4) λa ⟨ha,la⟩=>Aq (xc hq A4) λb ⟨hb,lb⟩=>hk _ ⟨?_,?_,by dsimp;omega,by dsimp;omega⟩
  ·grind
  ·grind
 ·have hn: ¬y<0:=by rw[hq.2.2] at hd;exact Bg hd
  refine hk _ ⟨?_,?_,hl,hm⟩
  ·grind
  ·grind
def bq(q:Rat)(n:Nat):Prop:=q.num.natAbs<10^n/\q.den<10^n
theorem jF{x y:Int}(h0:y≠0):((x:Rat)/(y:Rat)).num.natAbs<=x.natAbs/\((x:Rat)/(y:Rat)).den<=y.natAbs:=by
 have en:((x:Rat)/(y:Rat)).num=(y.sign*x)/(Int.gcd y x:Int):=by rw[<-OW,iE]
 have ed:((x:Rat)/(y:Rat)).den=y.natAbs/(Int.gcd y x):=by rw[<-OW,iD,if_neg h0]
 have hg0:0<Int.gcd y x:=iq _ h0;refine⟨?_,by rw[ed];exact Nat.div_le_self _ _⟩;rw[en];have hX:(y.sign*x).natAbs=x.natAbs:=AK;have dvX:(Int.gcd y x:Int)∣y.sign*x:=Int.dvd_trans (Int.gcd_dvd_right _ _)<|Int.dvd_mul_left _ _
 rw[Int.natAbs_ediv_of_dvd dvX,hX,GB];exact Nat.div_le_self _ _
theorem rC(h:bq x n):bq (-x) n:=by simp_all [bq]
def jO(h:bq q n)(hn:0<n):(B2 q.num.natAbs).length<=n/\(B2 q.den).length<=n:=⟨MK n _ hn h.1,MK n _ hn h.2⟩
def F6.bl(h:F6 p z)(hz:z.natAbs<10^n):p.2.length<=n:=by refine h.len ?_;rw[Z7];have:=KD (show 0<10 by omega) (show n<=9*n by omega);omega
def Ru(h:bq q n)(hn:0<n)(hm:n<=19000):Yd (λp=>(F6 p.1 q.num/\F6 p.2 (q.den:Int))/\p.1.2.length<=n/\p.2.2.length<=n) (NO<|BW q):=by have hl:=jO h hn;refine(aif A4 A4).imp λp ⟨⟨p1,p2⟩,_,_⟩=>⟨⟨p1,p2⟩,p1.bl h.1,p2.bl (by rw[GB];exact h.2)⟩
def wG(z:Int)(t:AD):∃c r,Cd z++t=c::r/\((c.toNat:Int)=45↔z<0)/\(c=45->r=B2 z.natAbs++t)/\(z<0->r=B2 z.natAbs++t):=by
 unfold Cd;cases hc:decide (z<0) with
 |true=>have:=As hc;exact⟨45,B2 z.natAbs++t,rfl,⟨λ_=>this,λ_=>rfl⟩,λ_=>rfl,λ_=>rfl⟩
 |false=>
  have hz:=Bg hc;have hd:=(Lk z.natAbs).1;obtain⟨d,l,e⟩:∃d l,B2 z.natAbs=d::l:=by
   cases h:B2 z.natAbs with
   |nil=>exact absurd h<|aae _
   |cons d l=>exact⟨d,l,rfl⟩
  have hb:=fR (Dk.1 hd d (by rw[e];simp));refine⟨d,l++t,by show B2 z.natAbs++t=_;rw[e];rfl,⟨λh=>by omega,λh=>absurd h hz⟩,λh=>?_,λh=>absurd h hz⟩;subst h;exact absurd hb.1 Lg
def oK(n:Nat):∀x∈B2 n,x≠47:=λx hx e=>by subst e;have:=Dk.1 (Lk n).1 _ hx;simp[Du] at this
def F3(q:Rat):AD:=bif decide (q.den=1) then [] else 47::B2 q.den
theorem fL(h:bq q n)(hn:0<n)(hm:n<=19000):Yd (λr=>r.2.2=false\/(r=(q.num,(q.den:Int),true)/\q.num.natAbs<1000000000/\q.den<1000000000)) (TQ<|BW q):=by
 have hl:=jO h hn;let⟨c,r,e,JA,hr,Kw⟩:=wG q.num<|F3 q
 have et:BW q=c::r:=e;have hlr:r.length<=38002:=by
  have h1:=congrArg List.length e;have h2:=Vg q.num;have h3:(F3 q).length<=n+1:=by
   unfold F3;cases decide (q.den=1)
   ·simp;omega
   ·simp
  simp[Dg,E7] at h1;omega
 unfold TQ;rw[et];refine Ad (λ_=>AU<| .inl rfl)<|λ_=>?_
 have g1:gd (decide<|(0:Int)<((c::r).length:Int)) true=true:=by rw[B5 (by simp only[E7];omega)];rfl
 rw[Ck g1];refine A6 (x:=c) rfl ?_;have hb:((decide<|(0:Int)<((c::r).length:Int))&&(decide<|(c.toNat:Int)=(45:Int)))=decide (q.num<0):=AK;rw[hb];refine DJ (λs=>s=B2 q.num.natAbs++F3 q) ?_<|λk hk=>Ad (λhc=>?_)<|λhc=>?_
 ·rintro s rfl;have hsl:L5 (B2 q.num.natAbs++F3 q)=some ((B2 q.num.natAbs).length:Int):=by
   unfold F3;cases hd:decide (q.den=1)
   ·exact fW (oK _) DC
   ·rw[BH,Ih];exact oZ (oK _) A4
  have hlen:(B2 q.num.natAbs++F3 q).length=(B2 q.num.natAbs).length+(F3 q).length:=AV;have KS:(F3 q).length<=n+1:=by
   unfold F3;cases decide (q.den=1)
   ·simp;omega
   ·simp
  refine A6 hsl ?_;have rest:(B2 q.num.natAbs).length<=9->(F3 q).length<=10->Yd (λr=>r.2.2=false\/(r=(q.num,(q.den:Int),true)/\q.num.natAbs<1000000000/\q.den<1000000000))
   (bd (C7 (B2 q.num.natAbs++F3 q) 0 ((B2 q.num.natAbs).length:Int)) λBh=>bd (OE Bh) λBV=>jn (λ(DO:Int)=>jn (λ(Dh:Int)=>some (Dh,DO,true)) λKq=>cond (decide<|q.num<0) (bd (AH<|(0:Int)-BV) λEK=>Kq EK) (Kq BV)) λMh=>cond (decide<|((B2 q.num.natAbs).length:Int)<((B2 q.num.natAbs++F3 q).length:Int)) (bd (AH<|((B2 q.num.natAbs).length:Int)+(1:Int)) λC8=>bd (C7 (B2 q.num.natAbs++F3 q) C8 ((B2 q.num.natAbs++F3 q).length:Int)) λCF=>bd (OE CF) λCo=>Mh Co) (Mh (1:Int))):=by
   intro h9 BK;have hN:q.num.natAbs<1000000000:=aaf h9;have es:C7 (B2 q.num.natAbs++F3 q) 0 ((B2 q.num.natAbs).length:Int)=some (B2 q.num.natAbs):=by rw[E6 A4 A4 A4];simp
   have hv:=fJ (Lk q.num.natAbs).1 A4;rw[(Lk _).2] at hv;refine A6 es<|A6 hv ?_
   refine DJ (λd=>d=(q.den:Int)/\q.den<1000000000) ?_<|λk hk=>Ad (λhc=>?_)<|λhc=>?_
   ·rintro d ⟨rfl,hD⟩;refine DJ (λz=>z=q.num) (λz hz=>by subst hz;exact AU<| .inr ⟨rfl,hN,hD⟩)<|λk hk=>Ad (λhc=>?_)<|λhc=>?_
    ·have hc:=As hc;exact A6 BC<|hk _ A4
    ·grind
   ·have hc:=As hc;have hd:decide (q.den=1)=false:=by
     cases hd:decide (q.den=1) with
     |false=>rfl
     |true=>unfold F3 at hlen hc;rw[hd] at hlen hc;simp at hc
    have etl:F3 q=47::B2 q.den:=by unfold F3;rw[hd];rfl
    rw[etl,E7] at BK;have eu:C7 (B2 q.num.natAbs++F3 q) (((B2 q.num.natAbs).length:Int)+1) ((B2 q.num.natAbs++F3 q).length:Int)=some (B2 q.den):=by rw[E6 A4 A4 A4,Ce,Cz<|BM _,show(((B2 q.num.natAbs).length:Int)+1).toNat=(B2 q.num.natAbs).length+1 by omega,<-FZ,etl];simp
    have hw:=fJ (Lk q.den).1 A4;rw[(Lk _).2] at hw;exact A6 BC<|A6 eu<|A6 hw<|hk _ ⟨rfl,aaf (k:=9) A4⟩
   ·have hc:=Bg hc;have hd:q.den=1:=by
     cases hd:decide (q.den=1) with
     |true=>exact As hd
     |false=>unfold F3 at hlen hc;rw[hd] at hlen hc;simp at hc;omega
    exact hk _ ⟨by rw[hd];rfl,A4⟩
  by_cases hx:(9:Int)<((B2 q.num.natAbs).length:Int)
  ·have hd:=B5 hx;have g2:gd (decide<|(9:Int)<((B2 q.num.natAbs).length:Int)) false=false:=by rw[hd];rfl
   rw[Ex g2];exact Ad (λ_=>AU<| .inl rfl) (λh=>by rw[hd,ZK] at h;cases h)
  ·have hd:=Bu hx;have g2:gd (decide<|(9:Int)<((B2 q.num.natAbs).length:Int)) false=true:=by rw[hd];rfl
   rw[Ck g2];refine A6 BC<|Ad (λ_=>AU<| .inl rfl)<|λh=>?_
   rw[hd,W8] at h;have h:=Bg h;exact rest A4 A4
 ·have hc:=As hc;have es:C7 (c::r) (1:Int) ((c::r).length:Int)=some r:=by rw[E6 A4 (by simp[E7];omega) A4,Ce,Cz<|BM _];rfl
  exact A6 es<|hk _<|Kw hc
 ·have hc:=Bg hc;refine hk _ ?_;rw[<-e];unfold Cd;rw[Bu hc];rfl
theorem qp(z:Int):mx_ z (0-z)=(z.natAbs:Int):=by grind [mx_]
def aac{x g:Int}(hg:0<g)(hd:g∣x)(hx: -9000000000000000000<=x/\x<=9000000000000000000):Gl x g=some (x/g):=by
 unfold Gl;rw[Bu A4,Int.tdiv_eq_ediv_of_dvd hd];obtain⟨k,rfl⟩:=hd;rw[Int.mul_ediv_cancel_left _ A4];refine EO ⟨?_,?_⟩
 ·rcases(show 0<=k\/k<0 by omega) with h|h
  ·omega
  ·have:g*k<=1*k:=Int.mul_le_mul_of_nonpos_right A4 A4;omega
 ·rcases(show 0<=k\/k<0 by omega) with h|h
  ·have:1*k<=g*k:=N5 A4 h;omega
  ·omega
def acr(h:n<=9000000000000000000):NL (n:Int) 1=some (B2 n):=by have:=mV (k:=1) h A4;rw[pn<|Yx _] at this;exact this
theorem ab2{a b:Int}(ha: -4000000000000000000<=a/\a<=4000000000000000000)(hb:0<b/\b<=4000000000000000000):YW a b=some (BW<|(a:Rat)/(b:Rat)):=by
 refine GJ ?_;unfold YW;have h0:b≠0:=A4;have en:((a:Rat)/(b:Rat)).num=a/(Int.gcd b a:Int):=by rw[<-OW,iE,WO hb.1,JI]
 have ed:(((a:Rat)/(b:Rat)).den:Int)=b/(Int.gcd b a:Int):=by
  rw[<-OW,iD,if_neg h0];have:(b.natAbs:Int)=b:=A4
  conv=>rhs;rw[<-this]
  rfl
 have hg0:0<Int.gcd b a:=iq _ h0;refine Ad (λhc=>?_)<|λ_=>?_
 ·grind
 refine DJ (λs:Int×Int=>s=(a,b)) ?_ (λk hk=>Ad (λhc=>by have:=As hc;omega)<|λ_=>hk _ rfl);rintro s rfl;have atI:YN (mx_ a<|0-a) b=some (Int.gcd b a:Int):=by
  rw[qp,amA ⟨A4,A4⟩ ⟨A4,hb.2⟩]
  congr 2
  unfold Int.gcd;rw[GB,SB]
 have d1:(Int.gcd b a:Int)∣a:=Int.gcd_dvd_right _ _;have d2:(Int.gcd b a:Int)∣b:=Int.gcd_dvd_left _ _;refine A6 BC<|A6 atI<|A6 (aac A4 d1 A4)<|A6 (aac A4 d2 A4) ?_
 rw[<-en,<-ed];have hle:=jF (x:=a) (y:=b) h0
 generalize hz:((a:Rat)/(b:Rat))=q at*
 have hN:q.num.natAbs<=4000000000000000000:=A4;have hD:q.den<=4000000000000000000:=A4;have hD0:=q.den_pos;have ack:NL (mx_ q.num<|0-q.num) 1=some (B2 q.num.natAbs):=by rw[qp,acr A4]
 have ar1:NL (q.den:Int) 1=some (B2 q.den):=by exact acr A4
 have hl1:=MK 19 q.num.natAbs A4 A4;have hl2:=MK 19 q.den A4 A4;refine DJ (λs:AD=>s=bif decide (q.num<0) then [45] else []) ?_ (λk hk=>Ad (λhc=>hk _ (by rw[hc];rfl)) (λhc=>hk _ (by rw[hc];rfl)));intro s hs;have hsl:s.length<=1:=AK;have est:s++B2 q.num.natAbs=Cd q.num:=by rw[hs];unfold Cd;cases decide (q.num<0)<;>rfl
 refine A6 BC<|A6 ack<|A6 (OQ A4) ?_
 rw[est];have KS:=Vg q.num;refine DJ (λs=>s=BW q) (λs hs=>by subst hs;exact AU rfl)<|λk hk=>Ad (λhc=>?_)<|λhc=>?_
 ·have hc:=As hc;refine A6 (OQ DC)<|A6 ar1<|A6 (OQ DC)<|hk _ ?_
  unfold BW;rw[Bu (show¬q.den=1 by omega)];simp
 ·have hc:=Bg hc;refine hk _ ?_;unfold BW;rw[B5 (show q.den=1 by omega)];simp
theorem zw(hx:bq x m)(hy:bq y n)(hm:0<m/\m<=19000)(hn:0<n/\n<=19000):JD (BW x) (BW y)=some (BW<|x*y):=by
 refine GJ ?_;unfold JD;refine Aq (fL hx hm.1 hm.2) λr hr=>Aq (fL hy hn.1 hn.2) λs hs=>Ad (λhc=>?_)<|λ_=>?_
 ·let⟨c1,c2⟩:=EB hc;obtain⟨rfl,a1,a2⟩:r=(x.num,(x.den:Int),true)/\_/\_:=by rcases hr with h|h;rw[h] at c1;cases c1;exact h
  obtain⟨rfl,b1,b2⟩:s=(y.num,(y.den:Int),true)/\_/\_:=by rcases hs with h|h;rw[h] at c2;cases c2;exact h
  dsimp;have p1:(x.num*y.num).natAbs<=999999999*999999999:=by rw[Mw];exact HK A4 A4
  have p2:x.den*y.den<=999999999*999999999:=HK A4 A4;have p3:0<x.den*y.den:=Nat.mul_pos x.den_pos y.den_pos;have e:((x.den:Int)*(y.den:Int))=((x.den*y.den:Nat):Int):=AK;have hOf:=ab2 (a:=x.num*y.num) (b:=(x.den:Int)*(y.den:Int)) A4 (by rw[e];omega);rw[gR] at hOf;exact A6 BC (A6 (EO ⟨by rw[e];omega,by rw[e];omega⟩)<|A6 hOf<|AU rfl)
 ·refine Aq (Ru hx hm.1 hm.2) ?_;rintro⟨p1,p2⟩ ⟨⟨a1,a2⟩,a3,a4⟩;refine Aq (Ru hy hn.1 hn.2) ?_;rintro⟨q1,q2⟩ ⟨⟨b1,b2⟩,b3,b4⟩;dsimp only at*;refine Aq (Yb a1 b1 A4 A4) λu ⟨u1,u2⟩=>Aq (Yb a2 b2 A4 A4) λv ⟨v1,v2⟩=>?_
  have hf:=eC u1 v1 (WB (Nn x)<|Nn y) A4 A4;rw[gR] at hf;exact A6 hf<|AU rfl
theorem zx(hx:bq x m)(hy:bq y n)(hm:0<m/\m<=19000)(hn:0<n/\n<=19000):OH (BW x) (BW y)=some (BW<|x+y):=by
 refine GJ ?_;unfold OH;refine Aq (fL hx hm.1 hm.2) λr hr=>Aq (fL hy hn.1 hn.2) λs hs=>Ad (λhc=>?_)<|λ_=>?_
 ·let⟨c1,c2⟩:=EB hc;obtain⟨rfl,a1,a2⟩:r=(x.num,(x.den:Int),true)/\_/\_:=by rcases hr with h|h;rw[h] at c1;cases c1;exact h
  obtain⟨rfl,b1,b2⟩:s=(y.num,(y.den:Int),true)/\_/\_:=by rcases hs with h|h;rw[h] at c2;cases c2;exact h
  dsimp;have p1:(x.num*y.den).natAbs<=999999999*999999999:=by rw[Mw,GB];exact HK A4 A4
  have p1':(y.num*x.den).natAbs<=999999999*999999999:=by rw[Mw,GB];exact HK A4 A4
  have p2:x.den*y.den<=999999999*999999999:=HK A4 A4;have p3:0<x.den*y.den:=Nat.mul_pos x.den_pos y.den_pos;have e:((x.den:Int)*(y.den:Int))=((x.den*y.den:Nat):Int):=AK;have hOf:=ab2 (a:=x.num*y.den+y.num*x.den) (b:=(x.den:Int)*(y.den:Int)) A4 (by rw[e];omega);rw[gS] at hOf;exact A6 BC (A6 BC (A6 BC (A6 (EO ⟨by rw[e];omega,by rw[e];omega⟩)<|A6 hOf<|AU rfl)))
 ·refine Aq (Ru hx hm.1 hm.2) ?_;rintro⟨p1,p2⟩ ⟨⟨a1,a2⟩,a3,a4⟩;refine Aq (Ru hy hn.1 hn.2) ?_;rintro⟨q1,q2⟩ ⟨⟨b1,b2⟩,b3,b4⟩;dsimp only at*;refine Aq (Yb a1 b2 A4 A4) λu ⟨u1,u2⟩=>Aq (Yb b1 a2 A4 A4) λv ⟨v1,v2⟩=>Aq (akI u1 v1 A4 A4) λw ⟨w1,w2⟩=>Aq (Yb a2 b2 A4 A4) λt ⟨t1,t2⟩=>?_
  have hf:=eC w1 t1 (WB (Nn x)<|Nn y) A4 A4;rw[gS] at hf;exact A6 hf<|AU rfl
def ah0:BW 0=[48]:=A7
def YZ(q:Rat)(hl:(BW q).length<1000000):(BW q==([48]:AD))=decide (q=0):=by
 by_cases h:q=0
 ·subst h;rw[ah0];rfl
 ·rw[Bu h];rw[Zd];intro e;apply h;have hn:=nG q.num;unfold BW at e;cases hd:decide (q.den=1) with
  |true=>
   rw[hd] at e;have e:Cd q.num=[48]:=by simpa using e
   unfold Cd at e;cases hc:decide (q.num<0) with
   |true=>rw[hc] at e;have e:45::B2 q.num.natAbs=[48]:=e;cases e
   |false=>
    rw[hc] at e;have e:B2 q.num.natAbs=[48]:=e;have hv:=(Lk q.num.natAbs).2;rw[e] at hv;have:q.num=0:=by have:BS [48]=0:=rfl;omega
    exact Nd.1 this
  |false=>rw[hd] at e;have e:Cd q.num++47::B2 q.den=[48]:=e;have:=congrArg List.length e;simp at this;have h2:=Yx q.den;omega
theorem yW(hl:(BW q).length<1000000):Ji (BW q)=some (bif decide (q=0) then 0 else bif decide (q.num<0) then -1 else 1):=by
 let⟨c,r,e,JA,_,_⟩:=wG q.num<|F3 q
 have et:BW q=c::r:=e;unfold Ji;rw[YZ q hl];cases hz:decide (q=0) with
 |true=>rfl
 |false=>
  show Au _ _ _ _=_;rw[et];have g1:gd (decide<|(0:Int)<((c::r).length:Int)) true=true:=by rw[B5 (by simp only[E7];omega)];rfl
  rw[Ck g1];show cond ((decide<|(0:Int)<((c::r).length:Int))&&(decide<|(c.toNat:Int)=(45:Int))) _ _=_;have hb:((decide<|(0:Int)<((c::r).length:Int))&&(decide<|(c.toNat:Int)=(45:Int)))=decide (q.num<0):=AK;rw[hb];cases decide (q.num<0)<;>rfl
def nm(h:bq q n)(hn:0<n):(BW q).length<=2*n+2:=by
 have hl:=jO h hn;have h2:=Vg q.num;unfold BW;cases decide (q.den=1)
 ·simp;omega
 ·simp;omega
def zu(h:bq q n)(hn:0<n/\n<=19000):Rf (BW q)=some (BW<| -q):=by
 have hlen:=nm h hn.1;have hs:=yW (q:=q) A4;unfold Rf;rw[hs];have ed:(-q).den=q.den:=Rat.neg_den q;have en:(-q).num= -q.num:=Rat.neg_num q;cases hz:decide (q=0) with
 |true=>
  have hz:=As hz;subst hz
  rfl
 |false=>
  have hz:=Bg hz;have hnz:q.num≠0:=λe=>hz<|Nd.1 e
  cases hc:decide (q.num<0) with
  |true=>
   have FI:=As hc;have et:BW q=45::(B2 q.num.natAbs++F3 q):=by show Cd q.num++F3 q=_;unfold Cd;rw[hc];rfl
   have e2:BW (-q)=B2 q.num.natAbs++F3 q:=by show Cd (-q).num++(bif decide ((-q).den=1) then [] else 47::B2 (-q).den)=_;rw[en,ed];unfold Cd;rw[Bu A4,W9];rfl
   show bd (C7 (BW q) 1 ((BW q).length:Int)) (λx4=>some x4)=_;rw[e2,et,E6 A4 (by simp[E7];omega) A4,Ce,Cz<|BM _];rfl
  |false=>
   have FI:=Bg hc;have et:BW q=B2 q.num.natAbs++F3 q:=by show Cd q.num++F3 q=_;unfold Cd;rw[hc];rfl
   have e2:BW (-q)=45::(B2 q.num.natAbs++F3 q):=by show Cd (-q).num++(bif decide ((-q).den=1) then [] else 47::B2 (-q).den)=_;rw[en,ed];unfold Cd;rw[B5 (show -q.num<0 by omega),W9];rfl
   show bd (IK ([45]:AD)<|BW q) (λx9=>some x9)=_;rw[OQ DC,e2,et];rfl
def amD(hx:bq x m)(hy:bq y n)(hm:0<m/\m<=19000)(hn:0<n/\n<=19000):MF (BW x) (BW y)=some (BW<|x-y):=by unfold MF;rw[zu hy hn];show bd (OH (BW x)<|BW<| -y) (λx3=>some x3)=_;rw[zx hx (rC hy) hm hn,qM];rfl
def pf(x:Rat):((x.den:Int):Rat)/(x.num:Rat)=x⁻¹ :=by rw[Rat.inv_def,OW]
theorem apu(h:bq x n)(h0:x≠0):bq x⁻¹ n:=by(simp_all [bq]<;>grind)
theorem zL{e:Bool}(hl:l.length<1099511627776):lp 18446744073709551616 (λ(k2:Int->AA Bool) (s1:Int)=>cond (decide<|s1<(l.length:Int)) (bd (AB l s1) λx4=>Au (gd (decide<|(x4.toNat:Int)<(48:Int)) false) (0) (AB l s1) λx6=>cond (((decide<|(x4.toNat:Int)<(48:Int))||(decide<|(57:Int)<(x6.toNat:Int)))) (some false) (bd (AH<|s1+(1:Int)) λx9=>k2 x9)) (some e)) (0:Int)=some (l.all Du&&e):=by
 have key:Yd (λr=>r=(l.all Du&&e)) (lp 18446744073709551616 (λ(k2:Int->AA Bool) (s1:Int)=>cond (decide<|s1<(l.length:Int)) (bd (AB l s1) λx4=>Au (gd (decide<|(x4.toNat:Int)<(48:Int)) false) (0) (AB l s1) λx6=>cond (((decide<|(x4.toNat:Int)<(48:Int))||(decide<|(57:Int)<(x6.toNat:Int)))) (some false) (bd (AH<|s1+(1:Int)) λx9=>k2 x9)) (some e)) (0:Int)):=by
  refine EP (λi:Int=>0<=i/\i<=l.length/\(l.take i.toNat).all Du=true) (λi=>l.length-i.toNat) ?_ _ _ ⟨A4,A4,AV⟩ A4;rintro next i ⟨g1,g2,g3⟩ hn
  obtain⟨n,rfl⟩:=F2 g1;rw[Ce] at g3;refine Ad (λhc=>?_)<|λhc=>?_
  ·have hc:=As hc;have hlt:n<l.length:=A4;have hg:AB l (n:Int)=some l[n]:=Gj hlt;refine A6 hg ?_;have bad:Du l[n]=false->(l.all Du&&e)=false:=λh=>by have:l.all Du=false:=AK;rw[this];rfl
   by_cases Le:(l[n].toNat:Int)<48
   ·have hd:=B5 Le;have g:gd (decide<|(l[n].toNat:Int)<48) false=false:=by rw[hd];rfl
    rw[Ex g];refine Ad (λ_=>AU ?_) (λh=>by rw[hd,ZK] at h;cases h);rw[bad];unfold Du;rw[show Nat.ble 48 l[n].toNat=false from by
     cases hb:Nat.ble 48 l[n].toNat with
     |false=>rfl
     |true=>have:=Fa hb;omega];rfl
   ·have hd:=Bu Le;have g:gd (decide<|(l[n].toNat:Int)<48) false=true:=by rw[hd];rfl
    rw[Ck g];refine A6 hg<|Ad (λh=>?_)<|λh=>?_
    ·rw[hd,W8] at h;have h:=As h;refine AU ?_;rw[bad];unfold Du;rw[show Nat.ble l[n].toNat 57=false from by
      cases hb:Nat.ble l[n].toNat 57 with
      |false=>rfl
      |true=>have:=Fa hb;omega,iF]
    ·rw[hd,W8] at h;have h:=Bg h;refine A6 BC<|hn _ ⟨A4,A4,?_⟩ A4
     rw[show(((n:Nat):Int)+1).toNat=n+1 by omega,List.take_succ,Gj hlt,iJ,g3];simp only[Option.toList_some,OT,List.all_nil,iC,Lt];unfold Du;rw[Ik A4,Ik A4];rfl
  ·have hc:=Bg hc;have:n=l.length:=A4;subst this;rw[Cz<|BM _] at g3;refine AU ?_;rw[g3];rfl
 obtain⟨r,e,rfl⟩:=key;exact e
def Gk(l:AD):Bool:=l.all Du&&(!(l==[])&&(l==[48]|| !(l.head?==some 48)))
theorem uF(hl:l.length<1099511627776):XT l=some (Gk l):=by
 have hd:dJ l=some (l.all Du):=by unfold dJ;rw[zL hl,iC]
 unfold XT;rw[hd]
 match l,hl with
 |[],_=>rfl
 |[x],_=>
  show some ([x].all Du)=_;unfold Gk;by_cases h:x=48
  ·subst h;rfl
  ·have e1:([x]==([]:AD))=false:=rfl;have e2:([x].head?==some (48:UInt8))=false:=by simpa using h
   rw[e1,e2];simp
 |x::y::r,hl=>
  have g:(gd (decide<|((x::y::r).length:Int)=(0:Int)) false&&gd (decide<|(1:Int)<((x::y::r).length:Int)) true)=true:=by rw[Bu (by simp only[E7];omega),B5 (by simp only[E7];omega)];rfl
  rw[Ck g];show cond ((decide<|((x::y::r).length:Int)=(0:Int))||((decide<|(1:Int)<((x::y::r).length:Int))&&(decide<|(x.toNat:Int)=(48:Int)))) _ _=_;rw[Bu (show¬((x::y::r).length:Int)=0 by simp only[E7];omega),B5 (show(1:Int)<((x::y::r).length:Int) by simp only[E7];omega),W8,Lt];unfold Gk;have e1:((x::y::r)==([]:AD))=false:=rfl;have e3:((x::y::r)==([48]:AD))=false:=AK;have e2:((x::y::r).head?==some (48:UInt8))=decide ((x.toNat:Int)=48):=by
   show(some x==some (48:UInt8))=_;by_cases h:x=48
   ·subst h;rfl
   ·rw[Bu (λh'=>h (iI.1 (by show _=48;omega)))];rw[Zd];intro e;exact h<|E9 e
  rw[e1,e2,e3];cases decide ((x.toNat:Int)=48)
  ·show some _=some _;simp
  ·grind
def vi(hl:l.length<1099511627776):TM l=some (Gk l):=by
 have hd:dH l=some (l.all Du&& !(l==[])):=by unfold dH;rw[zL hl]
 unfold TM;rw[hd];show Au _ _ _ _=_;unfold Gk
 match l with
 |[]=>rfl
 |x::r=>
  have e1:((x::r)==([]:AD))=false:=rfl;have e2:((x::r).head?==some (48:UInt8))=decide ((x.toNat:Int)=48):=by
   show(some x==some (48:UInt8))=_;by_cases h:x=48
   ·subst h;rfl
   ·rw[Bu (λh'=>h (iI.1 (by show _=48;omega)))];rw[Zd];intro e;exact h<|E9 e
  rw[e1,e2];have i0:AB (x::r) (0:Int)=some x:=rfl;rw[i0];cases(x::r).all Du
  ·rfl
  ·cases((x::r)==([48]:AD))<;>rfl
theorem pB:∀(n:Nat) (l:AD),l.length=n->Gk l=true->l=B2 (BS l)
 |0,l,hl,h=>by have:l=[]:=LP hl;subst this;cases h
 |n+1,l,hl,h=>by
  have hne:l≠[]:=AK;let⟨h1,h2⟩:=EB h;let⟨h3,h4⟩:=EB h2;have hx:=List.dropLast_concat_getLast hne
  generalize hi:l.dropLast=i at hx
  generalize l.getLast hne=d at hx
  subst hx;rw[iJ] at h1;let⟨hi1,hd1⟩:=EB h1;have hd:Du d=true:=by simpa using hd1
  have hdr:=fR hd;have ed:UInt8.ofNat (48+(d.toNat-48))=d:=by rw[show 48+(d.toNat-48)=d.toNat by omega];simp
  have ev:BS [d]=d.toNat-48:=by simp[BS]
  rw[YI,ev,IE,Nat.pow_one];by_cases h0:i=[]
  ·subst h0;rw[show BS ([]:AD)=0 from rfl,iA,Pc,OP A4,ed];rfl
  ·have aca: ¬(i.head?=some 48):=λe=>by have e2:(i++[d]).head?=some 48:=AK;rw[e2] at h4;have e3:((i++[d])==[48])=false:=AK;rw[e3] at h4;cases h4
   have hid:Gk i=true:=by unfold Gk;rw[hi1];have e1:(i==([]:AD))=false:=AK;have e2:(i.head?==some (48:UInt8))=false:=AK;rw[e1,e2];simp
   have hln:i.length=n:=by simpa using hl
   have ih:=pB n i hln hid;have hpos:0<BS i:=by
    rcases LL (BS i) with e|e
    ·rw[e] at ih;rw[ih] at aca;exact absurd rfl aca
    ·exact e
   rw[Rp A4,show(BS i*10+(d.toNat-48))/10=BS i by omega,show(BS i*10+(d.toNat-48))%10=d.toNat-48 by omega,<-ih,ed]
def sp:AD->AD×AD×Bool
 |[]=>([],[],false)
 |b::l=>bif b==47 then([],l,true) else(b::(sp l).1,(sp l).2.1,(sp l).2.2)
def pD:∀(s pre:AD),cutAt 47 pre s=(pre.reverse++(sp s).1,(sp s).2.1,(sp s).2.2)
 |[],pre=>by simp[cutAt,sp]
 |b::l,pre=>by
  unfold cutAt sp;cases h:b==47
  ·rw[Ar,Ar,pD l];simp
  ·simp
theorem jT:∀(s:AD),s=(sp s).1++(bif (sp s).2.2 then 47::(sp s).2.1 else [])/\(∀x∈(sp s).1,x≠47)/\((sp s).2.2=false->(sp s).2.1=[])
 |[]=>⟨rfl,by simp[sp],λ_=>rfl⟩
 |b::l=>by
  let⟨h1,h2,h3⟩:=jT l;unfold sp;cases h:b==47
  ·grind
  ·grind
def Hs(neg:Bool)(u t:AD)(fd:Bool):Int:=
 bif ((!Gk u)||(neg&&(u==([48]:AD))))||(fd&&(((!Gk t)||(t==([48]:AD)))||(t==([49]:AD)))) then 1
 else bif fd&& !decide (Nat.gcd (BS u) (BS t)=1) then 1 else 0
theorem Vk(h:Gk l=true):l.all Du=true/\l≠[]:=by grind [Gk,Du]
def Vm(h:l.all Du=true)(hl:l.length<1000000):Ht l=some (BS l:Int):=by
 unfold Ht;split
 ·rename_i ds;have:=Dk.1 h 45 AV;cases this
 ·rw[h,show Nat.blt l.length 1000000=true from Ik hl];rfl
def yC(h:l.all Du=true)(hl:l.length<1000000):Ht (45::l)=some (-(BS l:Int)):=by show EN (l.all Du&&Nat.blt l.length 1000000) (-(BS l:Int))=_;rw[h,show Nat.blt l.length 1000000=true from Ik hl];rfl
def xP(h:z.natAbs<10^14):DB z=true:=PX h A4
def pC(hl:core.length<=1000):jV (bif neg then 45::core else core) [47]=some ((bif neg then 45::(sp core).1 else(sp core).1),(sp core).2.1,(sp core).2.2):=by
 cases neg
 ·show EN (Nat.blt core.length 4294967281) (cutAt 47 [] core)=_;rw[show Nat.blt core.length 4294967281=true from Ik A4,pD];rfl
 ·show EN (Nat.blt (45::core).length 4294967281) (cutAt 47 [] (45::core))=_;rw[show Nat.blt (45::core).length 4294967281=true from Ik (by simp[E7];omega),pD];rfl
def vr:OB (45::u) [45]=some true:=by
 have e:C7 (45::u) 0 (([45]:AD).length:Int)=some [45]:=by rw[E6 A4 AV DC];rfl
 have hd:decide ((([45]:AD).length:Int)<=((45::u).length:Int))=true:=B5 DC;have g:gd (decide<|(([45]:AD).length:Int)<=((45::u).length:Int)) true=true:=by rw[hd];rfl
 unfold OB;rw[Ck g,e];show some (_&&_)=_;rw[hd];rfl
def ahH:RI (45::u) [45]=some (u,true):=by
 have e2:C7 (45::u) (([45]:AD).length:Int) ((45::u).length:Int)=some u:=by rw[E6 AV DC A4];simp
 unfold RI bb;rw[vr];show bd (bd (C7 (45::u) (([45]:AD).length:Int) ((45::u).length:Int)) _) _=_;rw[e2];rfl
theorem wR(h:u.head?≠some 45):OB u [45]=some false:=by
 unfold OB
 match u,h with
 |[],_=>rfl
 |x::r,h=>
  have e:C7 (x::r) 0 (([45]:AD).length:Int)=some [x]:=by rw[E6 A4 AV DC];rfl
  have hd:decide ((([45]:AD).length:Int)<=((x::r).length:Int))=true:=B5 DC;have g:gd (decide<|(([45]:AD).length:Int)<=((x::r).length:Int)) true=true:=by rw[hd];rfl
  rw[Ck g,e];show some (_&&_)=_;have:([x]==([45]:AD))=false:=AK;rw[this,iF]
def ahG(h:u.head?≠some 45):RI u [45]=some (u,false):=by unfold RI bb;rw[wR h];rfl
def Cm{α ρ:Type}(x:α)(K:α->AA ρ):bd (some x) K=K x:=rfl
theorem agI(hl:core.length<=14)(JA:neg=false->core.head?≠some 45):TO (bif neg then 45::core else core)=some (Hs neg (sp core).1 (sp core).2.1 (sp core).2.2):=by
 let⟨q1,q2,q3⟩:=jT core;have hlen:=congrArg List.length q1;rw[Dg] at hlen;unfold TO;rw[pC A4]
 generalize hu:(sp core).1=u at*
 generalize ht:(sp core).2.1=t at*
 generalize hf:(sp core).2.2=fd at*
 have hul:u.length<=14:=A4;have KS:t.length<=14:=AK;have hp:RI (bif neg then 45::u else u) [45]=some (u,neg):=by
  cases neg
  ·refine ahG ?_;have JA:=JA rfl;intro e;have e:u.head?=some 45:=e;apply JA;rw[q1,List.head?_append,e];rfl
  ·exact ahH
 show bd (RI (bif neg then 45::u else u) [45]) _=_;rw[hp];show bd (TM u) _=_;rw[vi (l:=u) A4];show Au _ _ (TM t) _=_;rw[vi (l:=t) A4];have tail:∀tD:Bool,tD=(fd&&(((!Gk t)||(t==([48]:AD)))||(t==([49]:AD))))->((!Gk u)||(neg&&(u==([48]:AD))))=false->tD=false->(cond (((decide<|(600:Int)<(u.length:Int))||(decide<|(600:Int)<(t.length:Int)))) (some (4:Int)) (jn (λ(Hz:Unit)=>some (0:Int)) λJV=>cond (fd) (bd (Ht u) λBh=>bd (Ht t) λBV=>bd (P2 Bh BV) λBl=>bd (Pr Bl) λBw=>cond (((!Bw.2)||(!decide (Bw.1=(1:Int))))) (some (1:Int)) (JV ())) (JV ())))=some (Hs neg u t fd):=by
  intro tD e1 e2 e3;rw[Bu A4,Bu A4];unfold Hs;rw[e2,<-e1,e3];cases fd
  ·rfl
  ·have du:Gk u=true:=by
    cases h:Gk u with
    |true=>rfl
    |false=>rw[h] at e2;cases e2
   have dt:Gk t=true:=AK;have au:=Vk du;have at':=Vk dt;have lu:=QV u au.1;have lt:=QV t at'.1;have p1:=KD (show 0<10 by omega) hul;have p2:=KD (show 0<10 by omega) KS;have hg:P2 (BS u:Int) (BS t:Int)=some (Nat.gcd (BS u) (BS t):Int):=by unfold P2;rw[xP DC,xP DC];rfl
   have avj:Nat.gcd (BS u) (BS t)<10^14:=by
    rcases LL (BS u) with e|e
    ·grind
    ·have:=Nat.le_of_dvd e (Nat.gcd_dvd_left (BS u)<|BS t);omega
   have hs:Pr (Nat.gcd (BS u) (BS t):Int)=some ((Nat.gcd (BS u) (BS t):Int),true):=by unfold Pr He;rw[Bu A4,B5 A4,B5 A4];rfl
   show bd (Ht u) _=_;rw[Vm au.1 A4];show bd (Ht t) _=_;rw[Vm at'.1 A4];show bd (P2 _ _) _=_;rw[hg];rw[Cm];rw[hs];show cond (false|| !decide (((Nat.gcd (BS u) (BS t):Nat):Int)=1)) (some 1) (some 0)=some (bif false then 1 else bif true&& !decide (Nat.gcd (BS u) (BS t)=1) then 1 else 0);have e:decide (((Nat.gcd (BS u) (BS t):Nat):Int)=1)=decide (Nat.gcd (BS u) (BS t)=1):=Ha.2 A4;rw[e];cases decide (Nat.gcd (BS u) (BS t)=1)<;>rfl
 cases hb1:((!Gk u)||(neg&&(u==([48]:AD)))) with
 |true=>show Au (gd true false&&gd fd true) false _ _=_;rw[Ex FU];show cond (true||_) _ _=_;rw[ZK,BH];unfold Hs;rw[hb1];rfl
 |false=>
  cases fd with
  |false=>show Au (gd false false&&gd false true) false _ _=_;rw[Ex FU];exact tail false rfl hb1 rfl
  |true=>
   show Au (gd false false&&gd true true) false _ _=_;rw[Ck FU];show cond (false||(true&&_)) _ _=_;cases hb2:(((!Gk t)||(t==([48]:AD)))||(t==([49]:AD))) with
   |true=>show some 1=_;unfold Hs;rw[hb1,hb2];rfl
   |false=>exact tail false (by rw[hb2];rfl) hb1 rfl
def agT{t:AD}(hu:Gk u=true)(ht:Gk t=true)(J9:∀x∈u,x≠47)(lu:u.length<=1000)(lt:t.length<=1000):Yd (λp=>F6 p.1 (BS u:Int)/\F6 p.2 (BS t:Int)/\p.1.2.length<=u.length/\p.2.2.length<=t.length) (NO (u++47::t)):=by
 have au:=Vk hu;have at':=Vk ht;have hlt:(u++47::t).length=u.length+1+t.length:=by simp;omega
 unfold NO;refine A6 (fW J9 A4) (Ad (λh=>by have:=As h;omega)<|λ_=>?_);have es:C7 (u++47::t) 0 (u.length:Int)=some u:=by rw[E6 A4 A4 A4];simp
 have et:C7 (u++47::t) ((u.length:Int)+1) ((u++47::t).length:Int)=some t:=by rw[E6 A4 A4 A4,Ce,Cz<|BM _,show((u.length:Int)+1).toNat=u.length+1 by omega,<-FZ];simp
 refine A6 es<|Aq (o4 false au.1 au.2 A4) λp hp=>A6 BC<|A6 et<|Aq (o4 false at'.1 at'.2 A4) λr hr=>AU ⟨hp.1,hr.1,hp.2,hr.2⟩
theorem aii(hl:core.length<=14)(JA:neg=false->core.head?≠some 45):Ra (bif neg then 45::core else core)=some (Hs neg (sp core).1 (sp core).2.1 (sp core).2.2):=by
 have key:Yd (λr=>r=Hs neg (sp core).1 (sp core).2.1 (sp core).2.2) (Ra (bif neg then 45::core else core)):=by
  let⟨q1,q2,q3⟩:=jT core;have hlen:=congrArg List.length q1;rw[Dg] at hlen;by_cases hF0:(bif neg then 45::core else core)=[]
  ·have hn:neg=false:=by cases neg;rfl;cases hF0
   subst hn;have hc:core=[]:=hF0;subst hc;exact AU rfl
  obtain⟨c,r,e⟩:∃c r,(bif neg then 45::core else core)=c::r:=by
   cases h:(bif neg then 45::core else core) with
   |nil=>exact absurd h hF0
   |cons c r=>exact⟨c,r,rfl⟩
  have hc:decide ((c.toNat:Int)=45)=neg:=by
   cases neg with
   |true=>
    have:c=45:=by cases e;rfl
    subst this;rfl
   |false=>
    have e:core=c::r:=e;refine Bu λh=>JA rfl ?_
    have:c=45:=iI.1 (by show _=45;omega);rw[e,this];rfl
  have hs1:neg=true->r=core:=AK;have hs0:neg=false->c::r=core:=AK
  generalize hu:(sp core).1=u at*
  generalize ht:(sp core).2.1=t at*
  generalize hf:(sp core).2.2=fd at*
  have hul:u.length<=14:=A4;have KS:t.length<=14:=AK;unfold Ra;rw[e];have g1:gd (decide<|(0:Int)<((c::r).length:Int)) true=true:=by rw[B5 (by simp only[E7];omega)];rfl
  rw[Ck g1];refine A6 (x:=c) rfl ?_;have hb:((decide<|(0:Int)<((c::r).length:Int))&&(decide<|(c.toNat:Int)=(45:Int)))=neg:=AK;rw[hb];refine DJ (λs=>s=core) ?_<|λk hk=>Ad (λhn=>?_)<|λhn=>?_
  rotate_left
  ·have es:C7 (c::r) (1:Int) ((c::r).length:Int)=some core:=by rw[E6 A4 (by simp[E7];omega) A4,<-hs1 hn];simp
   exact A6 es<|hk _ rfl
  ·grind
  ·intro s hs;rw[hs];clear hs s;have hsl:L5 core=some (u.length:Int):=by
    rw[q1];cases fd
    ·rw[Ar,Ih];exact oZ q2 A4
    ·rw[BH];exact fW q2 DC
   have hsu:C7 core 0 (u.length:Int)=some u:=by rw[E6 A4 A4 A4,q1];simp
   have hlt:decide ((u.length:Int)<(core.length:Int))=fd:=AK;refine A6 hsl<|A6 hsu<|A6 (uF (l:=u) A4) ?_
   rw[hlt];cases hdu:Gk u with
   |false=>rw[Ex FU,Ex FU];refine AU ?_;unfold Hs;rw[hdu];rfl
   |true=>
    rw[Ck FU];refine A6 (x:=c) rfl ?_;rw[hc];have asw:∀K:AD->AA Int,((neg&&(u==([48]:AD)))=true->Yd (λr=>r=Hs neg u t fd) (K u))->((neg&&(u==([48]:AD)))=false->∀w,(neg&&(w==([48]:AD)))=false->Yd (λr=>r=Hs neg u t fd) (K w))->Yd (λr=>r=Hs neg u t fd) (Au (gd (!true) false&&gd neg true) ([]) (C7 core 0 (u.length:Int)) K):=by
     intro K h1 h2;cases neg with
     |false=>rw[Ex FU];exact h2 rfl _ rfl
     |true=>
      rw[Ck FU];refine A6 hsu ?_;cases hb:(true&&(u==([48]:AD))) with
      |true=>exact h1 hb
      |false=>exact h2 hb _ hb
    refine asw _ (λhb1=>?_)<|λhb1 w hw=>?_
    ·rw[hb1];refine AU ?_;unfold Hs;rw[hb1,hdu];rfl
    ·rw[hw];refine Ad (λh=>by cases h)<|λ_=>?_
     have small:∀K:Int->Int->AA Int,Yd (λr=>r=Hs neg u t fd) (K ((core.length:Int)-(u.length:Int))<|(core.length:Int)-(u.length:Int)-1)->Yd (λr=>r=Hs neg u t fd) (Au (gd (decide<|(600:Int)<(u.length:Int)) false) (0) (AH<|(core.length:Int)-(u.length:Int)) λGc=>Au (gd (decide<|(600:Int)<(u.length:Int)) false) (0) (AH<|Gc-(1:Int)) λEi=>K Gc Ei):=by intro K h;rw[Bu (show¬(600:Int)<(u.length:Int) by omega),Ck FU];refine A6 BC ?_;rw[Ck FU];exact A6 BC h
     cases fd with
     |false=>
      rw[Ex FU,Ex FU,Ex FU,Ex FU,Ex FU,Ex FU,Ex FU];refine Ad (λh=>by cases h)<|λ_=>?_
      refine small (λGc Ei=>_) ?_;rw[Bu (show¬(600:Int)<(u.length:Int) by omega),Bu (show¬(600:Int)<((core.length:Int)-(u.length:Int)-1) by omega)];refine AU ?_;unfold Hs;rw[hdu,hb1];rfl
     |true=>
      rw[BH] at q1 hlen;rw[E7] at hlen;have f1:AH ((u.length:Int)+1)=some ((u.length:Int)+1):=EO ⟨A4,A4⟩;have et:C7 core ((u.length:Int)+1) (core.length:Int)=some t:=by rw[E6 A4 A4 A4,Ce,Cz<|BM _,show((u.length:Int)+1).toNat=u.length+1 by omega,q1,<-FZ];simp
      rw[Ck FU];refine A6 f1 ?_;rw[Ck FU];refine A6 et ?_;rw[Ck FU];refine A6 (uF (l:=t) A4) ?_;cases hdt:Gk t with
      |false=>rw[Ex FU,Ex FU,Ex FU,Ex FU];refine AU ?_;unfold Hs;rw[hdu,hb1,hdt];rfl
      |true=>
       rw[Ck FU];refine A6 f1 ?_;rw[Ck FU];refine A6 et ?_;cases h0:(t==([48]:AD)) with
       |true=>rw[Ex FU,Ex FU];refine AU ?_;unfold Hs;rw[hdu,hb1,hdt,h0];rfl
       |false=>
        rw[Ck FU];refine A6 f1 ?_;rw[Ck FU];refine A6 et ?_;cases h1:(t==([49]:AD)) with
        |true=>refine AU ?_;unfold Hs;rw[hdu,hb1,hdt,h0,h1];rfl
        |false=>
         refine Ad (λh=>by cases h)<|λ_=>?_
         refine small (λGc Ei=>_) ?_;rw[Bu (show¬(600:Int)<(u.length:Int) by omega),Bu (show¬(600:Int)<((core.length:Int)-(u.length:Int)-1) by omega)];refine Ad (λh=>by cases h)<|λ_=>?_
         refine DJ (λ_=>Nat.gcd (BS u) (BS t)=1) (λ_ h=>AU ?_) (λk hk=>Ad (λ_=>?_) (λh=>by cases h))
         ·unfold Hs;rw[hdu,hb1,hdt,h0,h1,B5 h];rfl
         ·have pp:=agT hdu hdt q2 A4 A4;rw[<-q1] at pp;refine Aq pp λp ⟨p1,p2,p3,p4⟩=>Aq (wP p1.1 p2.1 A4 A4) λw ⟨w1,w2,w3⟩=>?_
          have hv:AL w=(Nat.gcd (BS u) (BS t):Int):=by rw[w2,p1.2.1,p2.2.1];simp[Int.gcd]
          have bI:=yu w1;rw[hv] at bI;have bad:Nat.gcd (BS u) (BS t)≠1->Yd (λr=>r=Hs neg u t true) (some (1:Int)):=λh=>AU (by unfold Hs;rw[hdu,hb1,hdt,h0,h1,Bu h];rfl)
          refine GO (λhg=>?_)<|λhg=>?_
          ·have hlw:decide ((w.length:Int)=1)=true:=by
            cases h:decide ((w.length:Int)=1) with
            |true=>rfl
            |false=>rw[h] at hg;cases hg
           obtain⟨d,rfl⟩:∃d,w=[d]:=iZ.1 (by have:=As hlw;omega);refine⟨d,rfl,?_⟩;refine Ad (λh=>?_)<|λh=>?_
           ·grind
           ·grind
          ·have hlw:decide ((w.length:Int)=1)=false:=by
            cases h:decide ((w.length:Int)=1) with
            |false=>rfl
            |true=>rw[h] at hg;cases hg
           rw[hlw];refine bad λh'=>?_
           have:=(bI.2 A4).1;rw[hlw] at this;cases this
 let⟨r,h1,h2⟩:=key;rw[h1,h2]
def isNum(s:AD)(q:Rat):Prop:=s=BW q/\bq q 14/\MH s=some q
def abU:B2 0=[48]:=A7
def apc:B2 1=[49]:=A7
def abA{a:Int}(h0:d≠0)(hg:Nat.gcd a.natAbs d=1):∃q,mkq a (d:Int)=some q/\q.num=a/\q.den=d:=by
 obtain⟨k,rfl⟩:=Nat.exists_eq_succ_of_ne_zero h0;have h:mkq a ((k+1:Nat):Int)=some (mkRat a<|k+1):=by show EN (Nat.beq (Nat.gcd a.natAbs<|k+1) 1) (mkRat a<|k+1)=_;rw[show Nat.beq (Nat.gcd a.natAbs<|k+1) 1=true from by rw[hg];rfl];rfl
 let⟨h1,h2⟩:=yq h;exact⟨_,h,h1,A4⟩
def alM(hl:(bif neg then 45::core else core).length<=14)(hc:Hs neg (sp core).1 (sp core).2.1 (sp core).2.2=0):∃q,isNum (bif neg then 45::core else core) q:=by
 have hl:core.length<=14:=by cases neg<;>simp at hl<;>omega
 let⟨q1,q2,q3⟩:=jT core;have hlen:=congrArg List.length q1;rw[Dg] at hlen;unfold isNum MH;rw[pC A4]
 generalize hu:(sp core).1=u at*
 generalize ht:(sp core).2.1=t at*
 generalize hf:(sp core).2.2=fd at*
 have hul:u.length<=14:=A4;unfold Hs at hc;cases se:((!Gk u)||(neg&&(u==([48]:AD))))||(fd&&(((!Gk t)||(t==([48]:AD)))||(t==([49]:AD)))) with
 |true=>rw[se] at hc;cases hc
 |false=>
 rw[se,Ar] at hc;let⟨b1,b2⟩:=MW.1 se;let⟨b3,b4⟩:=MW.1 b1;have du:Gk u=true:=by simpa using b3
 have au:=Vk du;have lu:=QV u au.1;have p1:=KD (show 0<10 by omega) hul;have eu:=pB _ u rfl du;obtain⟨z,hz,hzn,hzr⟩:∃z:Int,(bif neg then 45::u else u)=Cd z/\z.natAbs=BS u/\Ht (bif neg then 45::u else u)=some z:=by
  cases neg with
  |false=>refine⟨(BS u:Int),?_,AV,Vm (l:=u) au.1 A4⟩;unfold Cd;rw[Bu A4];simp[<-eu]
  |true=>
   have h0:BS u≠0:=λh=>by rw[h,abU] at eu;rw[eu] at b4;cases b4
   refine⟨-(BS u:Int),?_,AV,yC (l:=u) au.1 A4⟩;unfold Cd;rw[B5 A4];simp[<-eu]
 cases fd with
 |false=>
  rw[Ar,Ih] at q1;refine⟨(z:Rat),?_,⟨by rw[SD];omega,by rw[U9];omega⟩,?_⟩
  ·rw[q1,hz];unfold BW;rw[SD,U9];simp
  ·show bd (Ht (bif neg then 45::u else u)) _=_;rw[hzr];rfl
 |true=>
  rw[BH] at q1 hlen;rw[E7] at hlen;rw[Lt] at b2 hc;let⟨c1,c2⟩:=MW.1 b2;let⟨c3,c4⟩:=MW.1 c1;have dt:Gk t=true:=by simpa using c3
  have at':=Vk dt;have lt:=QV t at'.1;have p2:=KD (show 0<10 by omega) (show t.length<=14 by omega);have et:=pB _ t rfl dt;have h0:BS t≠0:=λh=>by rw[h,abU] at et;rw[et] at c4;cases c4
  have h1:BS t≠1:=λh=>by rw[h,apc] at et;rw[et] at c2;cases c2
  have hg:Nat.gcd (BS u) (BS t)=1:=by
   cases h:decide (Nat.gcd (BS u) (BS t)=1) with
   |true=>exact As h
   |false=>rw[h] at hc;cases hc
  let⟨q,m1,m2,m3⟩:=abA (a:=z) h0 (by rw[hzn];exact hg);refine⟨q,?_,⟨A4,A4⟩,?_⟩
  ·unfold BW;rw[m2,m3,Bu h1,Ar,<-hz,<-et,q1];cases neg<;>rfl
  ·show bd (Ht (bif neg then 45::u else u)) _=_;rw[hzr];show bd (Ht t) _=_;rw[Vm at'.1 A4];show bd (mkq z (BS t:Int)) _=_;rw[m1];rfl
def xG(hl:s.length<=14):∃c,TO s=some c/\Ra s=some c/\(c=0->∃q,isNum s q):=by
 obtain⟨neg,core,rfl,JA⟩:∃(neg:Bool) (core:AD),s=(bif neg then 45::core else core)/\(neg=false->core.head?≠some 45):=by
  match s with
  |[]=>exact⟨false,[],rfl,λ_ h=>by cases h⟩
  |x::r=>
   by_cases hx:x=45
   ·exact⟨true,r,by rw[hx];rfl,λh=>by cases h⟩
   ·exact⟨false,x::r,rfl,λ_ h=>hx<|E9 h⟩
 have hlc:core.length<=14:=by cases neg<;>simp at hl<;>omega
 exact⟨_,agI hlc JA,aii hlc JA,alM hl⟩
def short(v:AD×AD×AD):Prop:=v.1.length<=14/\v.2.1.length<=14/\v.2.2.length<=14
def f3(a b c:Int):Int:=bif !decide (a=0) then a else bif !decide (b=0) then b else c
def bc(q:Rat)(c n:Nat):Prop:=q.num.natAbs<=c*10^n/\q.den<=10^n
def arT(h:bq q n):bc q 1 n:=⟨by rw[Mv];exact W7 h.1,W7 h.2⟩
theorem qq(c d m n:Nat):(c*10^m)*(d*10^n)=(c*d)*10^(m+n):=by rw[Mu];grind
def Ma(hx:bc x c m)(hy:bc y d n):bc (x*y) (c*d) (m+n):=by
 have h:=jF (x:=x.num*y.num) (y:=(x.den:Int)*(y.den:Int))<|WB (Nn x)<|Nn y
 rw[gR] at h;rw[Mw,Mw,GB,GB] at h;refine⟨Cu h.1 ?_,Cu h.2 ?_⟩
 ·rw[<-qq];exact HK hx.1 hy.1
 ·rw[Mu];exact HK hx.2 hy.2
theorem SY(hx:bc x c m)(hy:bc y d n):bc (x+y) (c+d) (m+n):=by
 have h:=jF (x:=x.num*y.den+y.num*x.den) (y:=(x.den:Int)*(y.den:Int))<|WB (Nn x)<|Nn y
 rw[gS] at h;rw[Mw,GB,GB] at h;have a1:=HK hx.1 hy.2;have a2:=HK hy.1 hx.2;have t:=Int.natAbs_add_le (x.num*y.den)<|y.num*x.den
 rw[Mw,Mw,GB,GB] at t;have e1:=qq c 1 m n;have e2:=qq d 1 n m;rw[Mv,Nat.mul_one] at e1 e2;rw[Pb n m] at e2;refine⟨?_,Cu h.2 ?_⟩
 ·grind
 ·rw[Mu];exact HK hx.2 hy.2
def abb(h:bc x c n):bc (-x) c n:=by
 refine⟨?_,?_⟩
 ·rw[Rat.neg_num,W9];exact h.1
 ·rw[Rat.neg_den];exact h.2
def rD(hx:bc x c m)(hy:bc y d n):bc (x-y) (c+d) (m+n):=by rw[qM];exact SY hx<|abb hy
abbrev T3:=AD×AD×AD
def vc(v:Q3)(c n:Nat):Prop:=bc v.1 c n/\bc v.2.1 c n/\bc v.2.2 c n
def C1(v:Q3):T3:=(BW v.1,BW v.2.1,BW v.2.2)
def aa9(h:z.natAbs<10^600):Vd z=some false:=by
 have key:Yd (λb=>b=false) (Vd z):=by
  have hs:=PX h A4;have hd:=MK 600 _ A4 h;unfold Vd rj;rw[hs];refine A6 (x:=(bif decide (z=0) then 0 else(Nat.log2 z.natAbs:Int)+1)) rfl ?_
  generalize (bif decide (z=0) then 0 else(Nat.log2 z.natAbs:Int)+1)=n
  cases decide ((1800:Int)<n)
  ·exact AU rfl
  ·rw[Ck FU];refine A6 (x:=Cd z) (by unfold Pk;rw[hs];rfl) ?_;rw[Ck FU];have au0:T7 (Cd z) [45]=some (B2 z.natAbs):=by
    unfold Cd;cases hc:decide (z<0)
    ·rw[Ar];have hh:(B2 z.natAbs).head?≠some 45:=λe=>by
      have:=Dk.1 (Lk z.natAbs).1 45<|List.mem_of_mem_head? e
      cases this
     unfold T7 XM;rw[wR hh];rfl
    ·rw[BH];unfold T7 XM;rw[vr];show bd (bd (C7 (45::B2 z.natAbs) (([45]:AD).length:Int) ((45::B2 z.natAbs).length:Int)) _) _=_;rw[E6 AV DC A4];simp;rfl
   refine A6 au0<|AU ?_
   rw[Bu A4];rfl
 obtain⟨r,e,rfl⟩:=key;exact e
def akk(h1:q.num.natAbs<10^600)(h2:q.den<10^600):RN q=some false:=by unfold RN;rw[aa9 h1,Cm,Ck FU,aa9 (z:=(q.den:Int)) (by rw[GB];exact h2)];rfl
def ajF(h1:q.num.natAbs<10^600)(h2:q.den<10^600):RP q=some (BW q):=by
 have s1:Pk q.num=some (Cd q.num):=by unfold Pk;rw[PX h1 A4];rfl
 have s2:Pk (q.den:Int)=some (B2 q.den):=by unfold Pk;rw[PX (z:=(q.den:Int)) (by rw[GB];exact h2) A4];show some (Cd (q.den:Int))=_;unfold Cd;rw[Bu A4];simp
 have l1:=Vg q.num;have l2:=MK 600 _ A4 h1;have l3:=MK 600 _ A4 h2;unfold RP Ll BW;rw[Cm,s1,s2];cases decide (q.den=1)
 ·rw[Ar,Cm,OQ DC,Cm,Cm,OQ DC];simp[Trn.bd]
 ·rw[BH,BH,Cm,Ih]
def kK(v:Q3):Bool:=decide (v.1=0)&&(decide (v.2.1=0)&&decide (v.2.2=0))
def sign_zero(x:Rat):decide (x.num.sign=0)=decide (x=0):=by refine Ha.2 ⟨λh=>Nd.1<|Int.sign_eq_zero_iff_zero.1 h,λh=>by subst h;rfl⟩
def Zp(h:bc q c m)(hc:c<=d)(hm:m<=n):bc q d n:=by have hp:=KD (show 0<10 by omega) hm;exact⟨Cu h.1<|HK hc hp,Cu h.2 hp⟩
def rE{e:Nat}(hx:bc x c n)(h0:x≠0)(he:c<=10^e):bc x⁻¹ 1 (n+e):=by
 have hn:x.num≠0:=λe=>h0<|Nd.1 e
 have e1:=(pf x).symm;have h:=jF (x:=(x.den:Int)) (y:=x.num) hn;rw[<-e1] at h;rw[GB] at h;refine⟨?_,?_⟩
 ·rw[Mv,Mu];exact Cu h.1<|Cu hx.2<|Nat.le_mul_of_pos_right _<|Nat.pow_pos A4
 ·rw[Mu,MN];exact Cu h.2<|Cu hx.1<|LN _ he
def bc3(p:Q3)(c n:Nat):Prop:=bc p.1 c n/\bc p.2.1 c n/\bc p.2.2 c n
def fS(ha:bc3 a c m)(hb:bc3 b d n):bc3 (Ag a b) (2*(c*d)) (2*(m+n)):=by
 let⟨a1,a2,a3⟩:=ha;let⟨b1,b2,b3⟩:=hb
 have k:∀{w x y z:Rat},bc w c m->bc x d n->bc y c m->bc z d n->bc (w*x-y*z) (2*(c*d)) (2*(m+n)):=λh1 h2 h3 h4=>by
  have:=rD (Ma h1 h2)<|Ma h3 h4
  rwa [<-Nat.two_mul,<-Nat.two_mul] at this
 exact⟨k a2 b3 a3 b2,k a3 b1 a1 b3,k a1 b2 a2 b1⟩
def apv(ha:bc3 a c m)(hb:bc3 b d n):bc (AM a b) (3*(c*d)) (3*(m+n)):=by
 let⟨a1,a2,a3⟩:=ha;let⟨b1,b2,b3⟩:=hb
 have:=SY (SY (Ma a1 b1)<|Ma a2 b2)<|Ma a3 b3
 exact Zp this A4 A4
def aak(ha:bc3 a c m)(hb:bc3 b d n):bc3 (Db a b) (c+d) (m+n):=⟨SY ha.1 hb.1,SY ha.2.1 hb.2.1,SY ha.2.2 hb.2.2⟩
def jP{t:Rat}(ha:bc3 a c m)(ht:bc t d n):bc3 (BX a t) (c*d) (m+n):=⟨Ma ha.1 ht,Ma ha.2.1 ht,Ma ha.2.2 ht⟩
def anq{M:A3 H3}{p:Q3}(hM:∀h∈M,bc3 h.1 1 k/\bc h.2 1 k)(hv:Bt M p):bc3 p 6 (35*k+1):=by
 obtain⟨_,a,ma,b,mb,c,mc,hd,rfl⟩:=Yk.1 hv;let⟨a1,a2⟩:=hM a ma;let⟨b1,b2⟩:=hM b mb;let⟨c1,c2⟩:=hM c mc
 have d:=rE (e:=1) (apv (fS a1 b1) c1) hd A4;have s:=aak (aak (jP (fS b1 c1) a2)<|jP (fS c1 a1) b2)<|jP (fS a1 b1) c2
 have r:=jP s d;exact⟨Zp r.1 A4 A4,Zp r.2.1 A4 A4,Zp r.2.2 A4 A4⟩
def lv(n:Nat)(q:Rat):Prop:=bc q 1 n
def D6(n:Nat)(p:Q3):Prop:=lv n p.1/\lv n p.2.1/\lv n p.2.2
def Fs(h:lv m q)(hm:m<=n):lv n q:=Zp h A4 hm
def Sf(h:bc q c m)(hc:c<=10)(hm:m+1<=n):lv n q:=by
 refine⟨?_,Cu h.2<|KD A4 A4⟩;rw[Mv];refine Cu h.1<|Cu (LN _ hc) ?_
 rw[MN,<-Qc];exact KD A4 hm
def MS(h:lv n q)(hn:n<=10000000000):F8 q=true:=by
 have one:∀k:Nat,k<=10^n->Nat.blt (Nat.log2 k) 68719476736=true:=by
  intro k hk;refine Ik ?_;rcases LL k with h0|h0
  ·rw[h0];exact Fa rfl
  ·have h1:(10:Nat)^n<=(2^4)^n:=Nat.pow_le_pow_left A4 n;rw[<-Nat.pow_mul] at h1;have h2:(2:Nat)^(4*n)<2^(4*n+1):=Nat.pow_lt_pow_right A4 A4;have:Nat.log2 k<4*n+1:=(Qa A4).2 A4;omega
 unfold F8;have h1:=h.1;rw[Mv] at h1;rw[one _ h1,one _ h.2];rfl
end
section
variable{x y:Rat}{n:Nat}(hx:lv n x)(hy:lv n y)(h1:1<=n)(hn:n<=10000000000)
include hx hy h1 hn
theorem Ig:GH x y=some (x*y)/\lv (4*n) (x*y):=⟨by unfold GH;rw[MS hx hn,MS hy hn];rfl,Sf (Ma hx hy) A4 A4⟩
theorem aQ:M4 x y=some (x+y)/\lv (4*n) (x+y):=⟨by unfold M4;rw[MS hx hn,MS hy hn];rfl,Sf (SY hx hy) A4 A4⟩
theorem SS:O1 x y=some (x-y)/\lv (4*n) (x-y):=⟨by unfold O1;rw[MS hx hn,MS hy hn];rfl,Sf (rD hx hy) A4 A4⟩
theorem abD(h0:y≠0):Sv x y=some (x/y)/\lv (4*n) (x/y):=
 ⟨by unfold Sv;rw[MS hx hn,MS hy hn,Bu h0];rfl,by rw[Pa];exact Sf (Ma hx<|rE (e:=0) hy h0 A4) A4 A4⟩
end
section
variable{a b:Q3}{n:Nat}(ha:D6 n a)(hb:D6 n b)(h1:1<=n)(hn:n<=10000000000)
include ha hb h1 hn
theorem pN:Ml a b=some (BD a b)/\D6 (4*n) (BD a b):=by let⟨e1,k1⟩:=SS ha.1 hb.1 h1 hn;let⟨e2,k2⟩:=SS ha.2.1 hb.2.1 h1 hn;let⟨e3,k3⟩:=SS ha.2.2 hb.2.2 h1 hn;exact⟨by unfold Ml;rw[e1,e2,e3];rfl,k1,k2,k3⟩
theorem alW:MD a b=some (Db a b)/\D6 (4*n) (Db a b):=by let⟨e1,k1⟩:=aQ ha.1 hb.1 h1 hn;let⟨e2,k2⟩:=aQ ha.2.1 hb.2.1 h1 hn;let⟨e3,k3⟩:=aQ ha.2.2 hb.2.2 h1 hn;exact⟨by unfold MD;rw[e1,e2,e3];rfl,k1,k2,k3⟩
end
section
variable{n:Nat}{α:Type}{a:Q3}{ρ:Type}
def xO{t:Rat}(ha:D6 n a)(ht:lv n t)(h1:1<=n)(hn:n<=10000000000):P8 a t=some (BX a t)/\D6 (4*n) (BX a t):=by let⟨e1,k1⟩:=Ig ha.1 ht h1 hn;let⟨e2,k2⟩:=Ig ha.2.1 ht h1 hn;let⟨e3,k3⟩:=Ig ha.2.2 ht h1 hn;exact⟨by unfold P8;rw[e1,e2,e3];rfl,k1,k2,k3⟩
def zd{b:Q3}(ha:D6 n a)(hb:D6 n b)(h1:1<=n)(hn:n<=100000000):TK a b=some (AM a b)/\lv (64*n) (AM a b):=by let⟨e1,k1⟩:=Ig ha.1 hb.1 h1 A4;let⟨e2,k2⟩:=Ig ha.2.1 hb.2.1 h1 A4;let⟨e3,k3⟩:=Ig ha.2.2 hb.2.2 h1 A4;let⟨e4,k4⟩:=aQ k1 k2 A4 A4;let⟨e5,k5⟩:=aQ k4 (Fs k3 (show 4*n<=4*(4*n) by omega)) A4 A4;refine⟨?_,Fs k5 A4⟩;unfold TK;rw[e1,e2];simp only[bd];rw[e4];simp only[bd];rw[e3];simp only[bd];rw[e5];rfl
def ai5{b:Q3}(ha:D6 n a)(hb:D6 n b)(h1:1<=n)(hn:n<=100000000):TD a b=some (Ag a b)/\D6 (16*n) (Ag a b):=by let⟨e1,k1⟩:=Ig ha.2.1 hb.2.2 h1 A4;let⟨e2,k2⟩:=Ig ha.2.2 hb.2.1 h1 A4;let⟨e3,k3⟩:=SS k1 k2 A4 A4;let⟨e4,k4⟩:=Ig ha.2.2 hb.1 h1 A4;let⟨e5,k5⟩:=Ig ha.1 hb.2.2 h1 A4;let⟨e6,k6⟩:=SS k4 k5 A4 A4;let⟨e7,k7⟩:=Ig ha.1 hb.2.1 h1 A4;let⟨e8,k8⟩:=Ig ha.2.1 hb.1 h1 A4;let⟨e9,k9⟩:=SS k7 k8 A4 A4;refine⟨?_,Fs k3 A4,Fs k6 A4,Fs k9 A4⟩;unfold TD;rw[e1,e2];simp only[bd];rw[e3];simp only[bd];rw[e4,e5];simp only[bd];rw[e6];simp only[bd];rw[e7,e8];simp only[bd];rw[e9];rfl
def fF{h:H3}{p:Q3}(hh:D6 n h.1/\lv n h.2)(hp:D6 n p)(h1:1<=n)(hn:n<=100000000):Q7 h p=some (val h p)/\lv (256*n) (val h p):=by let⟨e1,k1⟩:=zd hh.1 hp h1 hn;let⟨e2,k2⟩:=SS k1 (Fs hh.2 (show n<=64*n by omega)) A4 A4;refine⟨?_,Fs k2 A4⟩;unfold Q7;rw[e1];simp only[bd];rw[e2];rfl
def eL:∀l:A3 Q3,S3 l=JO l
 |[]=>rfl
 |a::l=>by
  have go:∀(f a:Q3) (l:A3 Q3),(a::l).zip (l++[f])=JF f (a::l):=by
   intro f a l
   induction l generalizing a with
   |nil=>rfl
   |cons b l ih=>simp[SI,List.zip_cons_cons,JF];rw[ih]
  exact go a a l
def p6{α β ρ:Type}{K:A3 β->AA ρ}{B:(A3 β->AA ρ)->α->A3 β->AA ρ}(f:α->A3 β)(w:Nat):∀(L:A3 α) (s:A3 β),(∀x∈L,(f x).length<=w/\∀(s:A3 β) (next:A3 β->AA ρ),s.length<=100000000->B next x s=next (s++f x))->s.length+w*L.length<=100000000->Jc L B s K=K (s++L.flatMap f)
 |[],s,_,_=>by simp[Jc]
 |x::L,s,h,hl=>by let⟨h1,h2⟩:=h x DT;rw[E7,Nat.mul_add] at hl;unfold Jc;rw[h2 s _ A4,p6 f w L _ (λy hy=>h y<|C2 _ hy) (by rw[Dg];omega),Pg,Hm]
def abd{b:Nat}{s:A3 α}{x:α}(hb:b<=1000)(hs:s.length<=1000000001):BG b s [x]=some (s++[x]):=by unfold BG;have h1:(s.length+[x].length)*b<=140737488355328:=Cu (HK (show s.length+[x].length<=1000000002 by simp;omega) hb) A4;rw[B5 h1,B5 (show s.length+[x].length<=9223372036854775807 by simp;omega)];rfl
def app_1{b:Nat}{s:A3 α}{x:α}(hb:b<=1000)(hs:s.length<=1000000000):BG b s [x]=some (s++[x]):=abd hb A4
def gG{x:Rat}:x.num<0↔x<0:=by rw[<-Int.not_le,Rat.num_nonneg,Rat.not_le]
theorem Yr{x:Rat}:0<x.num↔0<x:=by
 constructor
 ·intro h;have h1:0<=x:=Rat.num_nonneg.1 A4;have h2:x≠0:=λe=>by rw[Nd.2 e] at h;omega
  grind
 ·intro h;have h1:0<=x.num:=Rat.num_nonneg.2 AK;have h2:x.num≠0:=λe=>by rw[Nd.1 e] at h;grind
  omega
def zr(x:Rat):decide (x.num.sign<=0)=decide (x<=0):=by rw[Ha,<-Int.not_lt,<-Rat.not_lt,Int.sign_pos_iff,Yr]
theorem ak5(x y:Rat):decide (x.num.sign*y.num.sign<0)=GK x y:=by
 rw[ZQ,Ka,Hn];have hx:x.num.sign=1/\0<x\/x.num.sign=0/\x=0\/x.num.sign= -1/\x<0:=by
  rcases WH x.num 0 with h|h|h
  ·exact .inr<| .inr ⟨il h,gG.1 h⟩
  ·exact .inr (.inl ⟨by rw[h];rfl,Nd.1 h⟩)
  ·exact .inl ⟨WO h,Yr.1 h⟩
 have hy:y.num.sign=1/\0<y\/y.num.sign=0/\y=0\/y.num.sign= -1/\y<0:=by
  rcases WH y.num 0 with h|h|h
  ·exact .inr<| .inr ⟨il h,gG.1 h⟩
  ·exact .inr (.inl ⟨by rw[h];rfl,Nd.1 h⟩)
  ·exact .inl ⟨WO h,Yr.1 h⟩
 rcases hx with⟨e,h⟩|⟨e,h⟩|⟨e,h⟩<;>rcases hy with⟨e',h'⟩|⟨e',h'⟩|⟨e',h'⟩<;>rw[e,e']<;>constructor<;>intro k<;>first|(exfalso;revert k;decide)|grind
def al8(x y:Rat):AH (x.num.sign*y.num.sign)=some (x.num.sign*y.num.sign):=by
 have h:∀z:Int,z.sign=1\/z.sign=0\/z.sign= -1:=λz=>by
  rcases WH z 0 with h|h|h
  ·exact .inr<| .inr<|il h
  ·exact .inr (.inl (by rw[h];rfl))
  ·exact .inl<|WO h
 rcases h x.num with e|e|e<;>rcases h y.num with e'|e'|e'<;>rw[e,e']<;>rfl
theorem ajO{l:A3 Q3}{h:H3}(hl:l.length<=1000000)(hh:D6 n h.1/\lv n h.2)(hp:∀p∈l,D6 n p)(h1:1<=n)(hn:n<=10000):XR l h=some (Fc h l):=by
 unfold XR Xy;have e:Vn l=some (JO l):=by unfold Vn;rw[Ik (show l.length+1<=1000000000 by omega)|>(λh=>(h:Nat.blt l.length 1000000000=true)),eL];rfl
 rw[e];simp[bd];have hs:(JO l).length=l.length:=by rw[<-eL,fM]
 have hm:∀x∈JO l,x.1∈l/\x.2∈l:=λx hx=>by rw[<-eL] at hx;let⟨i,hi⟩:=Zf.1 hx;let⟨a,b,_⟩:=yc hi;exact⟨LO a,LO b⟩
 refine p6 (M0 h) 2 (JO l) [] (λx hx=>⟨?_,λs next hs=>?_⟩) (by simp[hs];omega)
 ·unfold M0;cases decide (val h x.1<=0)<;>cases GK (val h x.1) (val h x.2)<;>simp
 ·let⟨m1,m2⟩:=hm x hx;let⟨v1,w1⟩:=fF hh (hp _ m1) h1 A4;let⟨v2,w2⟩:=fF hh (hp _ m2) h1 A4;have tail:∀s:A3 Q3,s.length<=100000001->(bd (JP<|val h x.1) λBw=>bd (JP<|val h x.2) λDW=>bd (AH<|Bw*DW) λDs=>cond (decide<|Ds<0) (bd (O1 (val h x.1)<|val h x.2) λD7=>bd (Sv (val h x.1) D7) λFG=>bd (Ml x.2 x.1) λDy=>bd (P8 Dy FG) λFH=>bd (MD x.1 FH) λEL=>bd (BG 192 s ([EL]:A3 V3)) λEs=>next Es)<|next s)=next (s++(bif GK (val h x.1) (val h x.2) then [Fj h x.1 x.2] else [])):=by
   intro s hs;unfold JP;simp[bd];rw[al8];simp[bd];rw[ak5];cases ho:GK (val h x.1) (val h x.2)
   ·simp
   ·have h0:val h x.1-val h x.2≠0:=by have:=Ka.1 ho;grind
    let⟨a1,b1⟩:=SS w1 w2 A4 A4;let⟨a2,b2⟩:=abD (Fs w1 (show 256*n<=4*(256*n) by omega)) b1 A4 A4 h0;let⟨a3,b3⟩:=pN (hp _ m2) (hp _ m1) h1 A4;let⟨a4,b4⟩:=xO (n:=4096*n) ⟨Fs b3.1 A4,Fs b3.2.1 A4,Fs b3.2.2 A4⟩ (Fs b2 A4) A4 A4;let⟨a5,b5⟩:=alW (n:=4*(4096*n)) ⟨Fs (hp _ m1).1 A4,Fs (hp _ m1).2.1 A4,Fs (hp _ m1).2.2 A4⟩ b4 A4 A4;simp[BH];rw[a1];simp[bd];rw[a2];simp[bd];rw[a3];simp[bd];rw[a4];simp[bd];rw[a5];simp[bd];have:BG 192 s [Db x.1<|BX (BD x.2 x.1)<|val h x.1/(val h x.1-val h x.2)]=some (s++[Db x.1<|BX (BD x.2 x.1)<|val h x.1/(val h x.1-val h x.2)]):=abd A4 A4;rw[this];rfl
  show bd (Q7 h x.1) _=_;rw[v1];simp[bd];rw[v2];simp[bd];unfold jn;unfold M0;cases hc:decide (val h x.1<=0)
  ·have hd:decide ((val h x.1).num.sign<=0)=false:=by rw[zr];exact hc
   simp only[JP,hd,Ar,KC];exact tail s A4
  ·have hd:decide ((val h x.1).num.sign<=0)=true:=by rw[zr];exact hc
   simp only[JP,hd,BH];rw[app_1 A4 A4];rw[<-Hm];exact tail (s++[x.1]) DC
def jA{σ S:Type}{R:ρ->Prop}(L:A3 α)(e:σ->Int->S)(P:A3 α->σ->Prop){B:(S->AA ρ)->S->AA ρ}{N:Nat}
 (hs:∀(A:A3 α) (x:α) (C:A3 α) (s:σ) (k:S->AA ρ),L=A++x::C->P A s->(∀s',P (A++[x]) s'->Yd R (k<|e s' ((A.length+1:Nat):Int)))->Yd R (B k<|e s (A.length:Int)))
 (he:∀(s:σ) (k:S->AA ρ),P L s->Yd R (B k<|e s (L.length:Int)))(A0 C0:A3 α){s0:σ}(hA:L=A0++C0)(h0:P A0 s0)(hl:L.length<N):Yd R (Trn.lp N B<|e s0 (A0.length:Int)):=by
 have main:∀(C A:A3 α) (F:Nat) (s:σ),L=A++C->P A s->C.length<F->Yd R (Trn.lp F B<|e s (A.length:Int)):=by
  intro C
  induction C with
  |nil=>intro A F s hL hp hF;obtain⟨F,rfl⟩:∃G,F=G+1:=⟨F-1,A4⟩;rw[Ih] at hL;subst hL;exact he s _ hp
  |cons x C ih=>
   intro A F s hL hp hF;obtain⟨F,rfl⟩:∃G,F=G+1:=⟨F-1,A4⟩;rw[E7] at hF;refine hs A x C s _ hL hp λs' hp'=>?_
   have:=ih (A++[x]) F s' (by rw[hL,Hm];rfl) hp' A4;rwa [Dg] at this
 exact main C0 A0 N s0 hA h0 (by rw[hA] at hl;simp at hl;omega)
def C9{σ S:Type}{R:ρ->Prop}(L:A3 α)(e:σ->Int->S)(P:A3 α->σ->Prop){B:(S->AA ρ)->S->AA ρ}{N:Nat}
 (hs:∀(A:A3 α) (x:α) (C:A3 α) (s:σ) (k:S->AA ρ),L=A++x::C->P A s->(∀s',P (A++[x]) s'->Yd R (k<|e s' ((A.length+1:Nat):Int)))->Yd R (B k<|e s (A.length:Int)))
 (he:∀(s:σ) (k:S->AA ρ),P L s->Yd R (B k<|e s (L.length:Int))){s0:σ}(h0:P [] s0)(hl:L.length<N):Yd R (Trn.lp N B<|e s0 0):=jA L e P hs he [] L rfl h0 hl
end
section
variable{α:Type}{L A C:List α}{x:α}(h:L=A++x::C)
include h
theorem CD:decide ((A.length:Int)<(L.length:Int))=true:=by rw[h];simp<;>omega
theorem Bk:AB L (A.length:Int)=some x:=by rw[JT,h];simp
theorem at_mem:x∈L:=by rw[h];simp
theorem Cn:A.length+1<=L.length:=by rw[h];simp<;>omega
theorem C4(hl:L.length<=1000000000):AH ((A.length:Int)+1)=some ((A.length+1:Nat):Int):=by have:=Cn h;rw[EO ⟨A4,A4⟩];rfl
end
section
variable{n:Nat}{x:Rat}{k:Nat}{L:A3 H3}{y:Rat}{l:A3 Q3}{m:Nat}{a:Rat}{M:A3 H3}{f:H3}{S:A3 CC}
def CG{α:Type}(L:A3 α):decide ((L.length:Int)<(L.length:Int))=false:=Bu A4
def jU(hx:lv n x)(hy:lv n y)(hn:n<=10000000000):Oy x y=some (bif decide (x<y) then -1 else bif decide (y<x) then 1 else 0):=by unfold Oy;rw[MS hx hn,MS hy hn];rfl
def or3(a b c:Int):VT [a,b,c]=some (bif !decide (a=0) then a else bif !decide (b=0) then b else c):=by
 obtain⟨F,hF⟩:∃F,18446744073709551616=F+4:=⟨18446744073709551612,rfl⟩;unfold VT;rw[hF];show cond (!decide (a=0)) (some a) (cond (!decide (b=0)) (some b)<|cond (!decide (c=0)) (some c)<|some 0)=_;cases ha:decide (a=0)
 ·rfl
 ·cases hb:decide (b=0)
  ·rfl
  ·cases hc:decide (c=0)
   ·rfl
   ·rw[As hc];rfl
theorem pO{a b:Q3}(ha:D6 n a)(hb:D6 n b)(hn:n<=10000000000):∃v,TA a b=some v/\(v<0↔HF a b)/\(v=0↔a=b):=by
 unfold TA;rw[jU ha.1 hb.1 hn,jU ha.2.1 hb.2.1 hn,jU ha.2.2 hb.2.2 hn];simp[bd];rw[or3];refine⟨_,rfl,?_⟩;let⟨a1,a2,a3⟩:=a;let⟨b1,b2,b3⟩:=b;have MB:∀x y:Rat,(x<y/\ ¬y<x/\x≠y)\/(¬x<y/\ ¬y<x/\x=y)\/(¬x<y/\y<x/\x≠y):=λx y=>by grind
 unfold HF;simp[Ls];rcases MB a1 b1 with⟨h1,h2,h3⟩|⟨h1,h2,h3⟩|⟨h1,h2,h3⟩<;>rcases MB a2 b2 with⟨g1,g2,g3⟩|⟨g1,g2,g3⟩|⟨g1,g2,g3⟩<;>rcases MB a3 b3 with⟨k1,k2,k3⟩|⟨k1,k2,k3⟩|⟨k1,k2,k3⟩<;>simp[h1,h2,h3,g1,g2,g3,k1,k2,k3]
def ahz(hl:l.length<=100000000):bY [] (some l)=some l:=by
 have fl:l.flatMap (λx=>[x])=l:=by
  clear hl
  induction l with
  |nil=>rfl
  |cons a l ih=>rw[Pg,ih];rfl
 unfold bY;show Jc l _ [] _=_;refine(p6 (λx=>[x]) 1 l [] (λx _=>⟨AV,λs next hs=>by rw[app_1 A4 A4];rfl⟩) DC).trans ?_;rw[fl];rfl
def agp(hp:∀p∈l,D6 n p)(hn:n<=10000000000)(hl:l.length<=100000000):∃r,V2 l=some r/\r.Pairwise HF/\∀z,z∈r↔z∈l:=by
 have hO:M7 (λx:Q3×Q3=>TA x.1 x.2) HF l:=akh λx mx y my=>by let⟨v,h1,h2,_⟩:=pO (hp x mx) (hp y my) hn;exact⟨v,h1,h2⟩
 let⟨s,s1,s2,s3⟩:=pY hO A4;have hs:∀p∈s,D6 n p:=λp mp=>hp p<|s2.mem_iff.1 mp
 let⟨r,r1,r2,r3⟩:=ahk (e:=λx:Q3×Q3=>QA x.1 x.2) (λa ma b mb=>by
  let⟨v,h1,_,h2⟩:=pO (hs a ma) (hs b mb) hn;show bd (TA a b) _=_;rw[h1];show some (decide<|v=0)=_
  congr 1
  exact Ha.2 h2) s3<|hO.perm s2
 refine⟨r,?_,r2,λz=>by rw[r3,s2.mem_iff]⟩;unfold V2 bg kX kY;have e:Vh l=some l:=by unfold Vh;rw[show Nat.blt l.length 4000000000=true from Ik A4];rfl
 rw[e];simp[bd];rw[ahz hl];simp[bd];rw[s1];simp only;rw[r1]
def abF{a b:Q3}(h:HF a b):a≠b:=λe=>S9 a (by rw[<-e] at h;exact h)
theorem agP(hf:f.1≠o3)(hl:∀p∈l,Bt L p/\val f p=0/\D6 n p)(hn:D6 n f.1)(h1:1<=n)(IV:n<=10000)(hlen:l.length<=100000000)(sK:∀r:A3 Q3,(∀z∈l,z∈r)->2<=r.length):∃p s,QD l f.1=some (p::s)/\Hj f.1 (p::s)/\(∀z,z∈p::s↔z∈l)/\(∀x∈s,HF p x)/\s.Pairwise λx y=>0<CN f.1 p x y:=by
 let⟨d,d1,d2,d3⟩:=agp (λp mp=>(hl p mp).2.2) A4 hlen;have h2:=sK d λz mz=>(d3 z).2 mz
 cases d with
 |nil=>simp at h2
 |cons p t=>
  let⟨g1,g2⟩:=JK.1 d2;let⟨vp,tp,np⟩:=hl p<|(d3 p).1 DT
  have ht:0<t.length:=by rw[E7] at h2;omega
  have hlt:t.length<4611686018427387904:=by
   have:=Mq (l:=p::t) (T:=l) (d2.imp λh=>abF h) λx mx=>(d3 x).1 mx
   rw[E7] at this;omega
  have hO:M7 (λx:Q3×Q3=>V6 x.1 x.2 f.1 p) (λx y=>0<CN f.1 p x y) t:=alQ hf vp tp (λx mx=>by
   let⟨a,b,_⟩:=hl x<|(d3 x).1<|C2 _ mx
   exact⟨a,b,g1 x mx⟩) λx mx y my=>by
   let⟨_,_,nx⟩:=hl x<|(d3 x).1<|C2 _ mx
   let⟨_,_,ny⟩:=hl y<|(d3 y).1<|C2 _ my
   let⟨e1,k1⟩:=pN ny np h1 A4;let⟨e2,k2⟩:=pN nx np h1 A4;let⟨e3,k3⟩:=ai5 k1 k2 A4 A4;let⟨e4,k4⟩:=zd (n:=16*(4*n)) ⟨Fs hn.1 A4,Fs hn.2.1 A4,Fs hn.2.2 A4⟩ k3 A4 A4;refine⟨_,by show V6 x y f.1 p=_;unfold V6;rw[e1];simp[bd];rw[e2];simp[bd];rw[e3];simp[bd];rw[e4];simp[bd,JP];rfl,?_⟩;rw[Int.sign_neg_iff,gG];have:CN f.1 p x y= -AM f.1 (Ag (BD y p)<|BD x p):=by unfold CN AM Ag BD;grind
   rw[this];grind
  let⟨s,s1,s2,s3⟩:=pY hO hlt;have hm:∀z,z∈p::s↔z∈l:=λz=>by rw[<-d3,Ao,Ao,s2.mem_iff]
  have hn:s.Nodup:=s2.nodup_iff.2<|g2.imp λh=>abF h
  have pw:s.Pairwise λx y=>0<CN f.1 p x y:=UJ (λ{a b} ma mb h=>h.1.resolve_left h.2)<|s3.and hn
  refine⟨p,s,?_,aic hf (L:=L) (λx mx=>⟨(hl x<|(hm x).1 mx).1,(hl x<|(hm x).1 mx).2.1⟩) pw,hm,λx mx=>g1 x<|s2.mem_iff.1 mx,pw⟩
  ·unfold QD;rw[d1];have e1:((t.length+1:Nat):Int)-1=(t.length:Int):=A4;simp only[bd,AB,List.getElem?_cons_zero,E7,e1,Ce,List.take_length,List.drop_succ_cons,Pe,show((1:Int)).toNat=1 from rfl];rw[show decide ((0:Nat)<=1)=true from rfl,B5 (show(1:Int)<((t.length+1:Nat):Int) by omega),B5 (show((t.length+1:Nat):Int)<=((t.length+1:Nat):Int) by omega)];simp[Bool.and_self,gC];rw[s1];dsimp;have l1:s.length=t.length:=s2.length_eq;rw[show Nat.blt 0 t.length=true from Ik ht,show Nat.ble (1+t.length) (t.length+1)=true from Ik A4,show Nat.beq s.length t.length=true from by rw[l1];exact Nat.beq_refl _];simp[Pb]
def yV(hf:f.1≠o3)(hl:∀p∈l,Bt L p/\val f p=0/\D6 n p)(hn:D6 n f.1)(h1:1<=n)(IV:n<=10000)(hlen:l.length<=100000000)(sK:∀r:A3 Q3,(∀z∈l,z∈r)->2<=r.length):∃r,QD l f.1=some r/\Hj f.1 r/\∀z,z∈r↔z∈l:=by let⟨p,s,h1,h2,h3,_⟩:=agP hf hl hn h1 IV hlen sK;exact⟨_,h1,h2,h3⟩
def Iw(k:Nat)(L:A3 H3):Prop:=∀g∈L,D6 k g.1/\lv k g.2
def j4(h:Iw k M){p:Q3}(hp:Bt M p):D6 (35*k+2) p:=by have b:=anq (k:=k) (λg mg=>h g mg) hp;exact⟨Sf b.1 A4 A4,Sf b.2.1 A4 A4,Sf b.2.2 A4 A4⟩
def QR{v:Q3}(h:D6 m v)(hm:m<=n):D6 n v:=⟨Fs h.1 hm,Fs h.2.1 hm,Fs h.2.2 hm⟩
def ajP(h:H3)(l:A3 Q3):(Fc h l).length<=2*l.length:=by
 have:∀s:A3 (Q3×Q3),(s.flatMap<|M0 h).length<=2*s.length:=λs=>by
  induction s with
  |nil=>simp
  |cons x s ih=>
   have hx:(M0 h x).length<=2:=by unfold M0;cases decide (val h x.1<=0)<;>cases GK (val h x.1) (val h x.2)<;>simp
   rw[Pg,Dg,E7];omega
 have k:=this<|JO l
 have e:(JO l).length=l.length:=by rw[<-eL,fM]
 unfold Fc;omega
def sign_neg(x:Rat):decide (x.num.sign<0)=decide (x<0):=Ha.2 (by rw[Int.sign_neg_iff,gG])
def Yn(x:Rat):decide (0<x.num.sign)=decide (0<x):=Ha.2 (by rw[Int.sign_pos_iff,Yr])
def vV(h:H3)(A:A3 CC)(f:CC):Nv h (A++[f])=Nv h A++(bif decide (2<(Fc h f.2).length) then [(f.1,Fc h f.2)] else []):=by unfold Nv;rw[List.filterMap_append];cases hd:decide (2<(Fc h f.2).length)<;>simp[hd]
def alC(I:CJ S M)(hl:M.length<=60){f:CC}(mf:f∈S):f.2.length<=216000:=by
 let⟨_,g2,g3,g4⟩:=I.EZ f mf;have:=pM (g2.nodup g3) λp mp=>((g4 p).1 mp).1
 have:=HK hl<|HK hl hl
 omega
theorem Yd.nK{h:H3}(I:CJ S M)(hM:Iw k (h::M))(hk:k<=280)(hlen:M.length<=60)(hz:h.1≠o3)(hn:∀a∈h::M,∀b∈h::M,R2 a b->a=b):Yd (λr:A3 CC×Bool=>(r.2=true/\CJ r.1 (h::M))\/(r.2=false/\ ¬ ∃o,∀k∈h::M,val k o<0)) (Mk S h):=by
 have hM':Iw k M:=λg mg=>hM g<|C2 _ mg
 have np:∀f∈S,∀p∈f.2,D6 (35*k+2) p:=λf mf p mp=>j4 hM' (((I.EZ f mf).2.2.2 p).1 mp).1
 have nc:∀f∈S,∀p∈Fc h f.2,D6 (35*k+2) p:=λf mf p mp=>j4 hM ((I.Vx h f mf p).1 mp).1
 have hh:D6 (35*k+2) h.1/\lv (35*k+2) h.2:=⟨QR (hM h DT).1 A4,Fs (hM h DT).2 A4⟩;have hS:=I.len;have fl:∀f∈S,f.2.length<=216000:=λf mf=>alC I hlen mf
 unfold Mk;refine C9 S (λ(s:Bool×Bool) i=>(s.1,s.2,i)) (λA s=>(s.1=true↔∃f∈A,∃p∈f.2,val h p<0)/\(s.2=true↔∃f∈A,∃p∈f.2,0<val h p)) (λA f C s k1 hL hP next=>?_) (λs k1 hP=>?_) (s0:=(false,false)) AV A4
 ·dsimp;rw[CD hL,BH];refine A6 (Bk hL) ?_;have mf:=at_mem hL;refine C9 f.2 (λ(s:Bool×Bool) i=>(s.1,s.2,i)) (λB t=>(t.1=true↔(∃f∈A,∃p∈f.2,val h p<0)\/∃p∈B,val h p<0)/\(t.2=true↔(∃f∈A,∃p∈f.2,0<val h p)\/∃p∈B,0<val h p)) (λB p D t k2 hL' hP' next'=>?_) (λt k2 hP'=>?_) (s0:=s) (by simpa using hP) (by have:=fl f mf;omega)
  ·dsimp;rw[CD hL',BH];refine DJ (λt:Bool×Bool=>(t.1=true↔(∃f∈A,∃p∈f.2,val h p<0)\/∃q∈B++[p],val h q<0)/\(t.2=true↔(∃f∈A,∃p∈f.2,0<val h p)\/∃q∈B++[p],0<val h q)) (λt ht=>A6 (C4 hL' (by have:=fl f mf;omega))<|next' t ht) λk3 hk3=>?_
   refine A6 (Bk hL')<|A6 (fF hh (np f mf p<|at_mem hL') A4 A4).1<|A6 (x:=(val h p).num.sign) rfl ?_
   rw[sign_neg,Yn];simp only[Bs,Cl,ZI,exists_or,exists_eq_left] at hk3;refine Ad (λhc=>hk3 _ ?_) λhc=>Ad (λHG=>hk3 _ ?_) λHG=>hk3 _ ?_
   ·have hc:=As hc;have FA: ¬0<val h p:=AK;simp only[hc,FA,or_true,or_false,true_iff];exact⟨trivial,hP'.2⟩
   ·have hc:=Bg hc;have HG:=As HG;simp only[hc,HG,or_true,or_false];exact⟨hP'.1,AV⟩
   ·have hc:=Bg hc;have HG:=Bg HG;simp only[hc,HG,or_false];exact hP'
  ·dsimp;rw[CG,Ar];refine A6 (C4 hL A4)<|next t ?_
   simpa[Bs,ZI,exists_or] using hP'
 ·dsimp;rw[CG,Ar];refine Ad (λhc=>AU<| .inr ⟨rfl,I.empty λf mf p mp=>?_⟩) λhc=>Ad (λHG=>AU<| .inl ⟨rfl,I.out hz hn λf mf p mp=>?_⟩) λHG=>?_
  ·grind
  ·grind
  ·let⟨f0,m0,p0,q0,h0⟩:=hP.1.1 (by simpa using hc);let⟨f1,m1,p1,q1,h1⟩:=hP.2.1 (by simpa using HG);let⟨_,c1,c2⟩:=I.cut hz m0 q0 h0 m1 q1 h1;refine C9 S (λ(s:A3 Q3×A3 CC) i=>(s.1,s.2,i)) (λA s=>s.2=Nv h A/\(∀p,p∈s.1↔(∃f∈A,p∈Fc h f.2)/\val h p=0)/\s.1.length<=A.length*432000) (λA f C s k1 hL hP next=>?_) (λs k1 hP=>?_) (s0:=([],[])) (by simp[Nv]) A4
   ·dsimp;have mf:=at_mem hL;have cl:=ajP h f.2;have fl':=fl f mf;have al:=Cn hL;have fal:(Nv h A).length<=A.length:=List.length_filterMap_le _ _;rw[CD hL,BH];refine DJ (λt:A3 Q3×A3 CC=>t.2=Nv h (A++[f])/\(∀p,p∈t.1↔(∃g∈A++[f],p∈Fc h g.2)/\val h p=0)/\t.1.length<=(A++[f]).length*432000) (λt ht=>A6 (C4 hL A4)<|next t ht) λk3 hk3=>?_
    refine A6 (Bk hL)<|A6 (ajO A4 hh (np f mf) A4 A4) ?_
    have mc:=nc f mf;refine C9 (Fc h f.2) (λ(t:A3 Q3) i=>(t,i)) (λB t=>(∀p,p∈t↔((∃f∈A,p∈Fc h f.2)\/p∈B)/\val h p=0)/\t.length<=A.length*432000+B.length) (λB p D t k2 hL' hP' next'=>?_) (λt k2 hP'=>?_) (s0:=s.1) (by simpa using hP.2) A4
    ·dsimp;have bl:=Cn hL';rw[CD hL',BH];refine DJ (λt:A3 Q3=>(∀q,q∈t↔((∃f∈A,q∈Fc h f.2)\/q∈B++[p])/\val h q=0)/\t.length<=A.length*432000+(B++[p]).length) (λt ht=>A6 (C4 hL' A4)<|next' t ht) λk4 hk4=>?_
     refine A6 (Bk hL')<|A6 (fF hh (mc p<|at_mem hL') A4 A4).1<|A6 (x:=(val h p).num.sign) rfl ?_
     rw[sign_zero];refine Ad (λhc=>A6 (app_1 A4 A4) (hk4 _ ⟨λq=>?_,by have:=hP'.2;simp;omega⟩)) λhc=>hk4 _ ⟨λq=>?_,by have:=hP'.2;simp;omega⟩
     ·grind
     ·grind
    ·dsimp;rw[CG,Ar];have g1:∀p,p∈t↔(∃g∈A++[f],p∈Fc h g.2)/\val h p=0:=λp=>by rw[hP'.1];simp[Bs,ZI,exists_or]
     have g2:t.length<=(A++[f]).length*432000:=AK;have hd:decide (2<((Fc h f.2).length:Int))=decide (2<(Fc h f.2).length):=Ha.2 A4;rw[hd];refine Ad (λhc=>?_) λhc=>hk3 _ ⟨?_,g1,g2⟩
     ·rw[hP.1];exact A6 (app_1 A4 A4) (hk3 _ ⟨by rw[vV,hc];rfl,g1,g2⟩)
     ·rw[vV,hc,hP.1];simp
   ·dsimp;rw[CG,Ar];let⟨r,r1,r2,r3⟩:=yV (L:=h::M) hz (l:=s.1) (n:=35*k+2) (λp mp=>by
     let⟨⟨f,mf,mp'⟩,hv⟩:=(hP.2.1 p).1 mp;exact⟨((I.Vx h f mf p).1 mp').1,hv,nc f mf p mp'⟩) hh.1 A4 A4 (by have:=hP.2.2;omega) λl hl=>by
      have:=c2 l λp vp tp=>hl p<|(hP.2.1 p).2<|(c1 p).2 ⟨vp,tp⟩
      omega
    have fsl:(Nv h S).length<=S.length:=List.length_filterMap_le _ _;rw[hP.1];refine A6 r1<|A6 (app_1 A4 A4)<|AU<| .inl ⟨rfl,?_⟩
    exact I.clip hz hn m0 q0 h0 m1 q1 h1 r2 λp=>by rw[r3,hP.2.1]
theorem Yd.dc(I:CJ S M)(hM:Iw k (L++M))(hk:k<=280)(hlen:L.length+M.length<=60)(hz:∀h∈L,h.1≠o3)(hn:∀a∈L++M,∀b∈L++M,R2 a b->a=b):Yd (λr:A3 CC×Bool=>(r.2=true/\∃N,(∀h,h∈N↔h∈L\/h∈M)/\N.length=L.length+M.length/\CJ r.1 N)\/(r.2=false/\ ¬ ∃o,∀k∈L++M,val k o<0)) (Mj S L):=by
 unfold Mj;refine C9 L (λ(s:A3 CC) i=>(s,i)) (λA s=>∃N,(∀h,h∈N↔h∈A\/h∈M)/\N.length=A.length+M.length/\CJ s N) (λA h C s k1 hL hP next=>?_) (λs k1 hP=>?_) (s0:=S) ⟨M,AV,AV,I⟩ A4
 ·let⟨N,n1,n2,n3⟩:=hP;have al:=Cn hL;rw[CD hL,BH];refine A6 (Bk hL) ?_;have sub:∀g∈h::N,g∈L++M:=λg mg=>by
   rcases Ao.1 mg with e|mg
   ·grind
   ·grind
  refine Aq (Yd.nK (k:=k) n3 (λg mg=>hM g<|sub g mg) hk A4 (hz h<|at_mem hL) λa ma b mb=>hn a (sub a ma) b<|sub b mb) λr hr=>?_
  rcases hr with⟨e,hr⟩|⟨e,hr⟩
  ·rw[e,Qd,Ar];refine A6 (C4 hL A4)<|next _ ⟨h::N,λg=>?_,DC,hr⟩
   rw[Ao,n1];simp[Bs,Cl];constructor
   ·grind
   ·grind
  ·rw[e,Bool.not_false,BH];exact AU<| .inr ⟨rfl,λ⟨o,ho⟩=>hr ⟨o,λg mg=>ho g<|sub g mg⟩⟩
 ·dsimp;rw[CG,Ar];exact AU<| .inl ⟨rfl,hP⟩
def Nh{d:Int}(h:d=1\/d= -1):qF d=some (d:Rat):=by rcases h with rfl|rfl<;>rfl
def Jm{d:Int}(h:d=1\/d= -1)(n:Nat):lv n (d:Rat):=by have e:(10:Nat)^0<=10^n:=KD A4 A4;have:1<=10^n:=e;rcases h with rfl|rfl<;>exact⟨by show 1<=1*10^n;omega,by show 1<=10^n;omega⟩
def kI:NV 0 0 0=some ((0:Rat),(0:Rat),(0:Rat)):=A7
def Vl(ha:0<a)(hk:Iw k (DU a))(hk2:k<=280){N:Q3}(hN:(N,a)∈DU a)(hz:N≠o3){f:Rat->Rat->Q3}
 (hf:∀p,(∃x y,(x=a\/x= -a)/\(y=a\/y= -a)/\p=f x y)↔Bt (DU a) p/\val (N,a) p=0)(hne:f a a≠f (-a) (-a))(hl:l=O0 a f):∃r,QD l N=some r/\Hj N r/\∀p,p∈r↔Bt (DU a) p/\val (N,a) p=0:=by
 subst hl;have hm:∀p,p∈O0 a f↔Bt (DU a) p/\val (N,a) p=0:=λp=>by rw[yX,hf]
 let⟨r,r1,r2,r3⟩:=yV (L:=DU a) (f:=(N,a)) hz (l:=O0 a f) (n:=35*k+2) (λp mp=>⟨((hm p).1 mp).1,((hm p).1 mp).2,j4 hk ((hm p).1 mp).1⟩) (QR (hk _ hN).1 A4) A4 A4 (by unfold O0;simp) λr hr=>by
  have:=Mq (l:=[f a a,f (-a)<| -a]) (T:=r) (by simp[hne]) (by
   intro x mx;refine hr x<|yX.2 ?_
   rcases Ao.1 mx with e|mx
   ·exact⟨a,a,.inl rfl,.inl rfl,e⟩
   ·exact⟨-a,-a,.inr rfl,.inr rfl,Cl.1 mx⟩)
  exact this
 exact⟨r,r1,r2,λp=>by rw[r3,hm]⟩
def cpt(a:Rat)(m:Nat)(s:Int)(d:Int×Int):Q3:=match m with
 |0=>((s:Rat)*a,(d.1:Rat)*a,(d.2:Rat)*a)
 |1=>((d.2:Rat)*a,(s:Rat)*a,(d.1:Rat)*a)
 |_=>((d.1:Rat)*a,(d.2:Rat)*a,(s:Rat)*a)
abbrev four:A3 (Int×Int):=[((-1),(-1)),((-1),1),(1,(-1)),(1,1)]
theorem anP{d:Int×Int}(h:d∈four):(d.1=1\/d.1= -1)/\(d.2=1\/d.2= -1):=by grind
theorem Wg(a:Rat):((1:Int):Rat)*a=a:=by grind
theorem Wf(a:Rat):((-1:Int):Rat)*a= -a:=by grind
theorem anW(ha:0<a)(h1:1<=k)(hk:lv k a)(hk2:k<=280):Yd (λS=>CJ S<|DU a) (YF a):=by
 have Fm:Iw k (DU a):=by have o:=Jm (.inl rfl:(1:Int)=1\/(1:Int)= -1) k;have m:=Jm (.inr rfl:(-1:Int)=1\/(-1:Int)= -1) k;have z:lv k (0:Rat):=⟨FY _,o.2⟩;exact ML.2 ⟨⟨⟨m,z,z⟩,hk⟩,⟨⟨o,z,z⟩,hk⟩,⟨⟨z,m,z⟩,hk⟩,⟨⟨z,o,z⟩,hk⟩,⟨⟨z,z,m⟩,hk⟩,⟨z,z,o⟩,hk⟩
 unfold YF;refine C9 ([0,1,2]:A3 Nat) (λ(s:A3 CC) i=>(s,i)) (λA s=>s.map Prod.fst=(DU a).take (2*A.length)/\∀f∈s,Hj f.1.1 f.2/\∀p,p∈f.2↔Bt (DU a) p/\val f.1 p=0) (λA i C s k1 hL hP next=>?_) (λs k1 hP=>?_) (s0:=[]) ⟨rfl,AV⟩ AV
 ·have hm:=Cn hL;rw[show([0,1,2]:A3 Nat).length=3 from rfl] at hm;rw[Dg] at next
  generalize A.length=m at*
  clear hL;rw[B5 (show(m:Int)<3 by omega),BH];refine C9 ([(-1),1]:A3 Int) (λ(t:A3 CC) j=>(t,j)) (λB t=>t.map Prod.fst=(DU a).take (2*m+B.length)/\∀f∈t,Hj f.1.1 f.2/\∀p,p∈f.2↔Bt (DU a) p/\val f.1 p=0) (λB sg C t k2 hL hP FE=>?_) (λt k2 hP=>?_) (s0:=s) (by simpa using hP) AV
  ·dsimp only;rw[CD hL,BH];have hsg:sg=1\/sg= -1:=by have:=at_mem hL;simp at this;omega
   have hb:=Cn hL;rw[show([(-1),1]:A3 Int).length=2 from rfl] at hb;have hbs:sg=2*(B.length:Int)-1:=by
    rcases B with _|⟨b0,_|⟨b1,B⟩⟩
    ·grind
    ·grind
    ·simp at hb
   have tl:t.length<=6:=by rw[<-BY Prod.fst,hP.1];simp[DU];omega
   refine A6 (Bk hL)<|A6 kI<|A6 (Nh hsg) ?_
   have fin:∀(N:Q3) (l:A3 Q3),(∃r,QD l N=some r/\Hj N r/\∀p,p∈r↔Bt (DU a) p/\val (N,a) p=0)->(DU a)[2*m+B.length]? =some (N,a)->Yd (λS=>CJ S<|DU a) (bd (QD l N) λGd=>bd (BG 280 t ([((N,a),Gd)]:A3 CC)) λHy=>bd (AH<|(B.length:Int)+1) λJw=>k2 (Hy,Jw)):=by
    rintro N l ⟨r,r1,r2,r3⟩ hix;refine A6 r1<|A6 (app_1 A4 A4)<|A6 (C4 hL AV)<|FE _ ⟨?_,λf mf=>?_⟩
    ·rw[G9,hP.1,Dg,<-LG];show _=List.take (2*m+B.length+1) _;rw[List.take_add_one,hix];rfl
    ·grind
   have hm:m=0\/m=1\/m=2:=A4;refine A6 (x:=(0:Rat)) (by rcases hm with rfl|rfl|rfl<;>rfl) ?_;refine C9 four (λ(u:A3 Q3) j=>(u,j)) (λD u=>u=D.map (cpt a m sg)) (λD d E u k3 hL3 hP3 Ns=>?_) (λu k3 hP3=>?_) (s0:=[]) rfl (by simp[four])
   ·dsimp only;rw[CD hL3,BH];let⟨d1,d2⟩:=anP<|at_mem hL3
    have ul:u.length<=100000000:=by rw[hP3,BY];have:=Cn hL3;simp at this;omega
    rcases hm with rfl|rfl|rfl
    ·exact A6 (Bk hL3) (A6 (kI) (A6 ((rfl)) (A6 ((rfl)) (A6 ((rfl)) (A6 ((rfl)) (A6 (Nh hsg) (A6 ((Ig (Jm hsg k) hk h1 A4).1) (A6 (Nh d1) (A6 ((Ig (Jm d1 k) hk h1 A4).1) (A6 (Nh d2) (A6 ((Ig (Jm d2 k) hk h1 A4).1) (A6 ((rfl)) (A6 ((rfl)) (A6 ((rfl)) (A6 (app_1 A4 A4) (A6 (C4 hL3 AV) (Ns _ (by rw[hP3,G9];rfl))))))))))))))))))
    ·exact A6 (Bk hL3) (A6 (kI) (A6 ((rfl)) (A6 ((rfl)) (A6 ((rfl)) (A6 ((rfl)) (A6 (Nh hsg) (A6 ((Ig (Jm hsg k) hk h1 A4).1) (A6 (Nh d1) (A6 ((Ig (Jm d1 k) hk h1 A4).1) (A6 (Nh d2) (A6 ((Ig (Jm d2 k) hk h1 A4).1) (A6 ((rfl)) (A6 ((rfl)) (A6 ((rfl)) (A6 (app_1 A4 A4) (A6 (C4 hL3 AV) (Ns _ (by rw[hP3,G9];rfl))))))))))))))))))
    ·exact A6 (Bk hL3) (A6 (kI) (A6 ((rfl)) (A6 ((rfl)) (A6 ((rfl)) (A6 ((rfl)) (A6 (Nh hsg) (A6 ((Ig (Jm hsg k) hk h1 A4).1) (A6 (Nh d1) (A6 ((Ig (Jm d1 k) hk h1 A4).1) (A6 (Nh d2) (A6 ((Ig (Jm d2 k) hk h1 A4).1) (A6 ((rfl)) (A6 ((rfl)) (A6 ((rfl)) (A6 (app_1 A4 A4) (A6 (C4 hL3 AV) (Ns _ (by rw[hP3,G9];rfl))))))))))))))))))
   ·dsimp only;rw[CG,Ar,hP3];have ne:a≠ -a:=AK;rcases hm with rfl|rfl|rfl<;>rcases hsg with rfl|rfl
    ·exact fin _ _ (Vl (N:=(1,0,0)) (f:=λx y=>(a,x,y)) ha Fm hk2 (by simp[DU]) (λe=>by simp only[o3,Ls] at e;grind) (λp=>by rw[Tj ha,Og];exact⟨λ⟨x,y,hx,hy,e⟩=>by subst e;grind,λh=>⟨p.2.1,p.2.2,AK,AK,Prod.ext (by dsimp<;>grind) (Prod.ext (by dsimp<;>grind) (by dsimp<;>grind))⟩⟩) (λe=>by simp[Prod.ext_iff] at e;grind) (by simp[cpt,O0,Wg,Wf]<;>grind)) (by rw[show B.length=1 by omega];rfl)
    ·exact fin _ _ (Vl (N:=(-1,0,0)) (f:=λx y=>(-a,x,y)) ha Fm hk2 (by simp[DU]) (λe=>by simp[o3,Ls] at e;grind) (λp=>by rw[Tj ha,Oh];exact⟨λ⟨x,y,hx,hy,e⟩=>by subst e;grind,λh=>⟨p.2.1,p.2.2,AK,AK,Prod.ext (by dsimp<;>grind) (Prod.ext (by dsimp<;>grind) (by dsimp<;>grind))⟩⟩) (λe=>by simp[Prod.ext_iff] at e;grind) (by simp[cpt,O0,Wg,Wf]<;>grind)) (by rw[show B.length=0 by omega];rfl)
    ·exact fin _ _ (Vl (N:=(0,1,0)) (f:=λx y=>(y,a,x)) ha Fm hk2 (by simp[DU]) (λe=>by simp only[o3,Ls] at e;grind) (λp=>by rw[Tj ha,Oe];exact⟨λ⟨x,y,hx,hy,e⟩=>by subst e;grind,λh=>⟨p.2.2,p.1,AK,AK,Prod.ext (by dsimp<;>grind) (Prod.ext (by dsimp<;>grind) (by dsimp<;>grind))⟩⟩) (λe=>by simp[Prod.ext_iff] at e;grind) (by simp[cpt,O0,Wg,Wf]<;>grind)) (by rw[show B.length=1 by omega];rfl)
    ·exact fin _ _ (Vl (N:=(0,-1,0)) (f:=λx y=>(y,-a,x)) ha Fm hk2 (by simp[DU]) (λe=>by simp[o3,Ls] at e;grind) (λp=>by rw[Tj ha,Of];exact⟨λ⟨x,y,hx,hy,e⟩=>by subst e;grind,λh=>⟨p.2.2,p.1,AK,AK,Prod.ext (by dsimp<;>grind) (Prod.ext (by dsimp<;>grind) (by dsimp<;>grind))⟩⟩) (λe=>by simp[Prod.ext_iff] at e;grind) (by simp[cpt,O0,Wg,Wf]<;>grind)) (by rw[show B.length=0 by omega];rfl)
    ·exact fin _ _ (Vl (N:=(0,0,1)) (f:=λx y=>(x,y,a)) ha Fm hk2 (by simp[DU]) (λe=>by simp only[o3,Ls] at e;grind) (λp=>by rw[Tj ha,Oc];exact⟨λ⟨x,y,hx,hy,e⟩=>by subst e;grind,λh=>⟨p.1,p.2.1,AK,AK,Prod.ext (by dsimp<;>grind) (Prod.ext (by dsimp<;>grind) (by dsimp<;>grind))⟩⟩) (λe=>by simp[Prod.ext_iff] at e;grind) (by simp[cpt,O0,Wg,Wf]<;>grind)) (by rw[show B.length=1 by omega];rfl)
    ·exact fin _ _ (Vl (N:=(0,0,-1)) (f:=λx y=>(x,y,-a)) ha Fm hk2 (by simp[DU]) (λe=>by simp[o3,Ls] at e;grind) (λp=>by rw[Tj ha,Od];exact⟨λ⟨x,y,hx,hy,e⟩=>by subst e;grind,λh=>⟨p.1,p.2.1,AK,AK,Prod.ext (by dsimp<;>grind) (Prod.ext (by dsimp<;>grind) (by dsimp<;>grind))⟩⟩) (λe=>by simp[Prod.ext_iff] at e;grind) (by simp[cpt,O0,Wg,Wf]<;>grind)) (by rw[show B.length=0 by omega];rfl)
  ·dsimp only;rw[CG,Ar];refine A6 (x:=((m+1:Nat):Int)) (by rw[EO ⟨A4,A4⟩];rfl)<|next t ?_
   have:2*(m+[i].length)=2*m+([(-1),1]:A3 Int).length:=by simp;omega
   rw[this];exact hP
 ·dsimp only;rw[show decide (((([0,1,2]:A3 Nat).length:Nat):Int)<3)=false from rfl,Ar];exact AU<|ajK ha hP.1 hP.2
def Hu(n:Q3):Prop:=∃x y z:Int,n=((x:Rat),(y:Rat),(z:Rat))/\Nat.gcd (Nat.gcd x.natAbs y.natAbs) z.natAbs=1
def Hu.J7{n:Q3}:Hu n->O2 n|⟨x,y,z,h,_⟩=>by rw[h];exact⟨⟨x,rfl⟩,⟨y,rfl⟩,⟨z,rfl⟩⟩
theorem rA{x:Int}(h:(x:Rat)=0):x=0:=by simp_all
def Hu.nz{n:Q3}(p:Hu n):n≠o3:=λe=>by let⟨x,y,z,h,g⟩:=p;rw[h] at e;simp only[o3,Ls] at e;rw[rA e.1,rA e.2.1,rA e.2.2] at g;cases g
def qY{s:Rat}{x y:Int}(h:(x:Rat)*s=(y:Rat)):s.den∣x.natAbs/\s.num.natAbs∣y.natAbs:=by
 have e:x*s.num=y*(s.den:Int):=by
  have hd:(s.den:Rat)≠0:=by have:=s.den_nz;intro c;exact this<|Rat.natCast_eq_zero_iff.1 c
  have h2:(x:Rat)*(s.num:Rat)=(y:Rat)*(s.den:Rat):=by
   have h3:(s.num:Rat)=s*(s.den:Rat):=by have:=Rat.num_divInt_den s;rw[OW,Rat.intCast_natCast] at this;have t:=Nk (a:=(s.num:Rat)) hd;rw[this] at t;exact t.symm
   rw[h3,<-h,Rat.mul_assoc]
  have h4:((x*s.num:Int):Rat)=((y*(s.den:Int):Int):Rat):=by rw[Rat.intCast_mul,Rat.intCast_mul];exact h2
  exact iH.1 h4
 have n:=congrArg Int.natAbs e;rw[Mw,Mw,GB] at n;have c:=s.reduced;exact⟨(Nat.Coprime.dvd_of_dvd_mul_right c.symm ⟨y.natAbs,by rw[n,MN]⟩),(Nat.Coprime.dvd_of_dvd_mul_right c ⟨x.natAbs,by rw[<-n,MN]⟩)⟩
theorem Tg{h k:H3}(a:Hu h.1)(b:Hu k.1):R2 h k->h=k:=λ⟨s,s0,e⟩=>by
 let⟨x,y,z,e1,g1⟩:=a;let⟨x',y',z',e2,g2⟩:=b;have e3:BX h.1 s=k.1:=by rw[e]
 rw[e1,e2] at e3;simp[BX,Ls] at e3;let⟨c1,c2⟩:=qY e3.1;let⟨d1,d2⟩:=qY e3.2.1;let⟨f1,f2⟩:=qY e3.2.2;have u:=Nat.dvd_gcd (Nat.dvd_gcd c1 d1) f1;have v:=Nat.dvd_gcd (Nat.dvd_gcd c2 d2) f2;rw[g1] at u;rw[g2] at v;have u:=Nat.dvd_one.1 u;have v:=Nat.dvd_one.1 v;have:0<s.num:=Yr.2 s0;have s1:s=1:=Rat.ext (by show s.num=1;omega) (by show s.den=1;omega);rw[e,s1];exact Prod.ext (J5) (by simp only;grind)
def ajM:∀h∈DU a,Hu h.1:=ML.2 ⟨⟨-1,0,0,A7,rfl⟩,⟨1,0,0,A7,rfl⟩,⟨0,-1,0,A7,rfl⟩,⟨0,1,0,A7,rfl⟩,⟨0,0,-1,A7,rfl⟩,⟨0,0,1,A7,rfl⟩⟩
def P1(x:Rat):Rat:=bif decide (x<0) then -x else x
theorem j8{m:Rat}(h:P1 x<=m):wi x m:=by grind [P1,wi]
def j9(h:lv n x):lv n (P1 x):=by
 unfold P1;cases decide (x<0)
 ·exact h
 ·exact abb h
def zq(x:Rat):YD x=some (P1 x):=by unfold YD JP P1 Su;rw[Cm,sign_neg];cases decide (x<0)<;>rfl
theorem w8{l:A3 Rat}(h:∀x∈l,lv n x)(hn:n<=10000000000)(hl:l.length<=10000000):Yd (λr=>1<=r/\lv n r/\∀x∈l,x<=r) (Xc l):=by
 have hL:∀x∈l++[1],lv n x:=λx mx=>by
  rcases Bs.1 mx with m|m
  ·exact h x m
  ·rw[Cl.1 m];exact Jm (d:=1) (.inl rfl) n
 have fin:∀r,r∈l++[1]->(∀x∈l++[1],x<=r)->1<=r/\lv n r/\∀x∈l,x<=r:=λr mr hr=>⟨hr 1 AV,hL r mr,λx mx=>hr x (by simp[mx])⟩
 have len:(l++[1]).length=l.length+1:=AV;unfold Xc;refine A6 (Nh<| .inl rfl)<|A6 (app_1 A4 A4) ?_
 rw[show((1:Int):Rat)=1 from rfl]
 generalize l++[1]=L at*
 unfold kT;cases L with
 |nil=>simp at len
 |cons y T=>
  rw[Bu (show¬(((y::T).length:Nat):Int)<1 by simp;omega),Ar];refine Aq (S:=λr=>r∈y::T/\∀x∈y::T,x<=r) (A6 (x:=y) rfl ?_) λr hr=>AU<|fin r hr.1 hr.2
  refine jA (y::T) (λ(m:Rat) i=>(m,i)) (λA m=>m∈y::T/\∀x∈A,x<=m) (λA x C m k hA hP next=>?_) (λm k hP=>?_) [y] T (s0:=y) rfl ⟨AV,by simp[GY]⟩ A4
  ·dsimp only;rw[CD hA,BH];have mx:=at_mem hA;refine DJ (λm':Rat=>m'∈y::T/\∀z∈A++[x],z<=m') (λm' KV=>A6 (C4 hA A4)<|next m' KV) λk8 h8=>?_
   refine A6 (Bk hA)<|A6 (jU (hL x mx) (hL m hP.1) hn)<|Ad (λhc=>A6 (Bk hA)<|h8 x ⟨mx,λz mz=>?_⟩) λhc=>h8 m ⟨hP.1,λz mz=>?_⟩
   ·have hm:m<=x:=by
     refine Cr λg=>?_
     rw[B5 (show x<m by grind)] at hc;cases hc
    rcases Bs.1 mz with mz|mz
    ·grind
    ·grind
   ·have hm:x<=m:=by
     refine Cr λg=>?_
     rw[Bu (show¬x<m by grind),B5 (show m<x by grind)] at hc;cases hc
    rcases Bs.1 mz with mz|mz
    ·exact hP.2 z mz
    ·grind
  ·dsimp only;rw[CG,Ar];exact AU hP
def zN(hk:lv k a):Iw k (DU a):=by have o:=Jm (.inl rfl:(1:Int)=1\/(1:Int)= -1) k;have m:=Jm (.inr rfl:(-1:Int)=1\/(-1:Int)= -1) k;have z:lv k (0:Rat):=⟨FY _,o.2⟩;exact ML.2 ⟨⟨⟨m,z,z⟩,hk⟩,⟨⟨o,z,z⟩,hk⟩,⟨⟨z,m,z⟩,hk⟩,⟨⟨z,o,z⟩,hk⟩,⟨⟨z,z,m⟩,hk⟩,⟨z,z,o⟩,hk⟩
def ZF(hx:lv m x)(hy:lv n y)(hm:m<=1000)(hn:n<=1000):GH x y=some (x*y):=by unfold GH;rw[MS hx A4,MS hy A4];rfl
def Ug(L:A3 H3)(k:Nat)(r:A3 CC×Bool):Prop:=
 ∃a m D:Rat,a=7*(m*m*D)/\0<m/\0<D/\lv (3*k+1) a/\(∀h∈L,wi3 h.1 m/\wi h.2 D)/\
  ((r.2=true/\∃N,(∀h,h∈N↔h∈L\/h∈DU a)/\CJ r.1 N)\/(r.2=false/\ ¬ ∃o,∀k∈L++DU a,val k o<0))
theorem zQ(hL:Iw k L)(h1:1<=k)(hk:k<=90)(hlen:L.length<=50)(hp:∀h∈L,Hu h.1):Yd (Ug L k) (TP L):=by
 unfold TP;refine C9 L (λ(s:A3 Rat×A3 Rat) i=>(s.1,s.2,i)) (λA s=>((∀x∈s.1,lv k x)/\∀x∈s.2,lv k x)/\(∀h∈A,P1 h.1.1∈s.1/\P1 h.1.2.1∈s.1/\P1 h.1.2.2∈s.1/\P1 h.2∈s.2)/\s.1.length=3*A.length/\s.2.length=A.length) (λA h C s k1 hA hP next=>?_) (λs k1 hP=>?_) (s0:=([],[])) AV A4
 ·dsimp;rw[CD hA,BH];refine A6 (Bk hA) ?_;let⟨g1,g2⟩:=hL h<|at_mem hA
  have al:=Cn hA;refine C9 [h.1.1,h.1.2.1,h.1.2.2] (λ(t:A3 Rat) i=>(t,i)) (λB t=>t=s.1++B.map P1) (λB x D t k2 hB hQ FE=>?_) (λt k2 hQ=>?_) (s0:=s.1) AV AV
  ·dsimp;have bl:=Cn hB;rw[show [h.1.1,h.1.2.1,h.1.2.2].length=3 from rfl] at bl;rw[B5 (show(B.length:Int)<3 by omega),BH];refine A6 (Bk hB) (A6 (zq x) (A6 (app_1 A4 (by rw[hQ];simp;omega))<|A6 (C4 hB AV)<|FE _ ?_));rw[hQ,G9,Hm];rfl
  ·dsimp only;rw[show decide ((([h.1.1,h.1.2.1,h.1.2.2].length:Nat):Int)<3)=false from rfl,Ar];refine A6 (zq h.2)<|A6 (app_1 A4 A4)<|A6 (C4 hA A4)<|next (_,_) ⟨⟨?_,?_⟩,?_,?_,?_⟩
   ·intro x mx;rw[hQ] at mx;simp[MO,ZM,Bs,Ao,ZX,or_false] at mx;rcases mx with m|rfl|rfl|rfl
    ·exact hP.1.1 x m
    ·exact j9 g1.1
    ·exact j9 g1.2.1
    ·exact j9 g1.2.2
   ·intro x mx;rcases Bs.1 mx with m|m
    ·exact hP.1.2 x m
    ·rw[Cl.1 m];exact j9 g2
   ·grind
   ·grind
   ·simp;omega
 ·dsimp;rw[CG,Ar];let⟨⟨p1,p2⟩,p3,p4,p5⟩:=hP;refine Aq (w8 p1 A4 A4) λm ⟨m1,m2,m3⟩=>?_
  have s7:lv 1 (7:Rat):=⟨Fa A7,Fa A7⟩;have a1:=Ma s7 m2;have a2:=Ma a1 m2;refine A6 (x:=(7:Rat)) A7<|A6 (ZF s7 m2 A4 A4)<|A6 (ZF a1 m2 A4 A4) ?_
  refine Aq (w8 p2 A4 A4) λD ⟨D1,D2,D3⟩=>?_
  have a3:lv (3*k+1) (7*m*m*D):=Fs (Ma a2 D2) A4;have e:7*m*m*D=7*(m*m*D):=AK;have m0:0<m:=AK;have D0:0<D:=AK;have pos:0<7*m*m*D:=by have:=GX (GX m0 m0) D0;rw[e];grind
  refine A6 (ZF a2 D2 A4 A4)<|Aq (anW pos A4 a3 A4) λS IS=>?_
  have pr:∀g∈L++DU (7*m*m*D),Hu g.1:=λg mg=>(Bs.1 mg).elim (hp g)<|ajM g
  have fw:Iw (3*k+1) (L++DU (7*m*m*D)):=λg mg=>(Bs.1 mg).elim (λh=>⟨QR (hL g h).1 A4,Fs (hL g h).2 A4⟩)<|zN a3 g
  refine Aq (Yd.dc IS fw A4 (by simp[DU];omega) (λh mh=>(hp h mh).nz) λa ma b mb=>Tg (pr a ma)<|pr b mb) λr hr=>AU ⟨_,m,D,e,m0,D0,a3,λh mh=>?_,?_⟩
  ·let⟨a,b,c,d⟩:=p3 h mh;exact⟨⟨j8<|m3 _ a,j8<|m3 _ b,j8<|m3 _ c⟩,j8<|D3 _ d⟩
  ·rcases hr with⟨e1,N,n1,_,n3⟩|⟨e1,n⟩
   ·grind
   ·exact .inr ⟨e1,n⟩
def Ug.sy(hp:∀h∈L,Hu h.1)(hb:Ef L){m D:Rat}(e:a=7*(m*m*D))(m0:0<m)(D0:0<D)(hw:∀h∈L,wi3 h.1 m/\wi h.2 D){p:Q3}(mp:Mem L p):∀h∈DU a,val h p<0:=by rw[e];exact anC hb m0 D0 (λh mh=>⟨(hp h mh).J7,hw h mh⟩) mp
def Ug.O6{r:A3 CC×Bool}(h:Ug L k r)(hp:∀h∈L,Hu h.1)(hb:Ef L):(r.2=true/\CJ r.1 L)\/(r.2=false/\ ¬ ∃o,∀k∈L,val k o<0):=by
 let⟨a,m,D,e,m0,D0,_,hw,hr⟩:=h;rcases hr with⟨e1,N,n1,n2⟩|⟨e1,n⟩
 ·exact .inl ⟨e1,(n2.drop n1 hb λp mp=>Ug.sy hp hb e m0 D0 hw mp).1⟩
 ·refine .inr ⟨e1,λ⟨o,ho⟩=>n ⟨o,λg mg=>?_⟩⟩;rcases Bs.1 mg with mg|mg
  ·exact ho g mg
  ·exact Ug.sy hp hb e m0 D0 hw (λg mg=>GZ<|ho g mg) g mg
def akm{g:H3->AA Bool}{p:H3->Bool}(hg:∀x∈L,g x=some (p x))(hl:L.length<=100000000):bU L g=some (L.any p):=by
 have key:Yd (λi=>decide (0<=i)=L.any p) (bX L g):=by
  unfold bX;refine C9 L (λ(_:Unit) i=>i) (λA _=>A.any p=false) (λA x C s k hA hP next=>?_) (λs k hP=>?_) (s0:=()) rfl A4
  ·rw[CD hA,BH];refine A6 (Bk hA)<|A6 (hg x<|at_mem hA)<|Ad (λhc=>AU ?_) λhc=>A6 (C4 hA A4)<|next () ?_
   ·rw[B5 A4,hA,ZP,List.any_cons,hc];simp
   ·rw[ZP,hP,List.any_cons,hc];rfl
  ·rw[CG,Ar];exact AU (by rw[hP];rfl)
 let⟨r,r1,r2⟩:=key;unfold bU;rw[r1,<-r2];rfl
def aiS{x:H3}(hx:D6 n x.1/\lv n x.2)(hf:D6 n f.1/\lv n f.2)(hn:n<=10000000000):XW x (f,l)=some (decide<|x=f):=by
 let⟨v,v1,_,v2⟩:=pO hx.1 hf.1 hn;have s:QA x.1 f.1=some (decide<|x.1=f.1):=by
  unfold QA;rw[v1];show some (decide<|v=0)=_
  congr 1;exact Ha.2 v2
 have q:Se x.2 f.2=some (decide<|x.2=f.2):=by unfold Se;rw[MS hx.2 hn,MS hf.2 hn];rfl
 have e:decide (x=f)=(decide (x.1=f.1)&&decide (x.2=f.2)):=by rw[ZQ];simp[Qj]
 unfold XW;rw[s,Cm,e];cases decide (x.1=f.1)
 ·rfl
 ·show bd (Se x.2 f.2) _=_;rw[q];rfl
theorem ahw(hL:Iw k L)(h1:1<=k)(hk:k<=90)(hlen:L.length<=50)(hp:∀h∈L,Hu h.1):Yd (λb=>b=true↔Ef L) (cz L):=by
 unfold cz;refine C9 L (λ(s:A3 H3) i=>(s,i)) (λA s=>s=A.map λh=>(h.1,(1:Rat))) (λA h C s k1 hA hP next=>?_) (λs k1 hP=>?_) (s0:=[]) rfl A4
 ·dsimp;rw[CD hA,BH];have al:=Cn hA;refine A6 (Bk hA) (A6 (Nh<| .inl rfl) (A6 (app_1 A4 (by rw[hP];simp;omega))<|A6 (C4 hA A4)<|next _ ?_));rw[hP,G9];rfl
 ·dsimp;rw[CG,Ar];have hO:∀h∈s,∃g∈L,h=(g.1,(1:Rat)):=λh mh=>by rw[hP] at mh;let⟨g,mg,e⟩:=BR.1 mh;exact⟨g,mg,e.symm⟩
  have hI:∀g∈L,(g.1,(1:Rat))∈s:=λg mg=>by rw[hP];exact BR.2 ⟨g,mg,rfl⟩
  have sl:s.length=L.length:=by rw[hP,BY]
  have sp:∀h∈s,Hu h.1:=λh mh=>by let⟨g,mg,e⟩:=hO h mh;rw[e];exact hp g mg
  have sf:Iw k s:=λh mh=>by let⟨g,mg,e⟩:=hO h mh;rw[e];exact⟨(hL g mg).1,Jm (d:=1) (.inl rfl) k⟩
  have sb:Ef s↔Ef L:=by
   constructor
   ·intro hb d hd;let⟨h,mh,k⟩:=hb d hd;let⟨g,mg,e⟩:=hO h mh;rw[e] at k;exact⟨g,mg,k⟩
   ·intro hb d hd;let⟨g,mg,k⟩:=hb d hd;exact⟨_,hI g mg,k⟩
  refine Aq (zQ sf h1 hk A4 sp) λr hr=>?_
  let⟨a,m,D,e,m0,D0,la,hw,hr⟩:=hr;have a0:0<a:=by rw[e];have:=GX (GX m0 m0) D0;grind
  have s1:∀h∈s,0<h.2:=λh mh=>by let⟨g,mg,e⟩:=hO h mh;rw[e];show(0:Rat)<1;grind
  rcases hr with⟨e1,N,n1,n2⟩|⟨e1,n⟩
  ·have nf:Iw (3*k+1) N:=λg mg=>(n1 g).1 mg|>.elim (λh=>⟨QR (sf g h).1 A4,Fs (sf g h).2 A4⟩) (zN la g)
   have bf:=alP n2 n1 a0 s1 λhb p mp=>Ug.sy sp hb e m0 D0 hw mp
   rw[<-sb,bf]
   generalize r.1=S at*
   have SL:S.length<=100000000:=by
    have:=Mq (l:=S.map (·.1)) (T:=s++DU a) (Nj.2<|n2.RG.imp λh=>h) λx mx=>by obtain⟨f,mf,rfl⟩:=BR.1 mx;exact Bs.2<|(n1 _).1 (n2.EZ f mf).1
    simp[DU] at this;omega
   refine C9 S (λ(_:Unit) i=>i) (λA _=>∀f∈A,f.1∈s) (λA f C u k2 hA hQ next=>?_) (λu k2 hQ=>?_) (s0:=()) AV A4
   ·rw[CD hA,BH];have mf:=at_mem hA;have ff:=nf f.1 (n2.EZ f mf).1;refine A6 (Bk hA) (A6 (akm (p:=λx=>decide<|x=f.1) (λx mx=>aiS (l:=f.2) ⟨QR (sf x mx).1 (show k<=3*k+1 by omega),Fs (sf x mx).2 A4⟩ ff A4) A4) ?_);refine Ad (λhc=>AU ?_) λhc=>A6 (C4 hA A4)<|next () λg mg=>?_
    ·constructor
     ·intro c;cases c
     ·intro c;have:=c f mf;rw[GA,Za] at hc;exact absurd (B5 rfl)<|hc f.1 this
    ·rcases Bs.1 mg with m|m
     ·exact hQ g m
     ·rw[Cl.1 m];rw[WK,iM] at hc;let⟨x,mx,e⟩:=hc;rw[<-As e];exact mx
   ·rw[CG,Ar];exact AU ⟨λ_=>hQ,λ_=>rfl⟩
  ·refine absurd ⟨o3,λg mg=>?_⟩ n;have v:val g o3= -g.2:=by unfold val;rw[Ww];grind
   rw[v];rcases Bs.1 mg with mg|mg
   ·have:=s1 g mg;grind
   ·have ca:∀h∈DU a,h.2=a:=by rw[ML];exact⟨rfl,rfl,rfl,rfl,rfl,rfl⟩
    rw[ca g mg];grind
def amG(hx:bq x m)(hy:bq y n)(h0:y≠0)(hm:0<m/\m<=19000)(hn:0<n/\n<=19000):YO (BW x) (BW y)=some (BW<|x/y):=by
 have key:RJ (BW y)=some (BW y⁻¹):=by
  have:Yd (λr=>r=BW y⁻¹) (RJ<|BW y):=by unfold RJ;refine Aq (Ru hy hn.1 hn.2) ?_;rintro⟨q1,q2⟩ ⟨⟨b1,b2⟩,b3,b4⟩;dsimp only at*;have hf:=eC b2 b1 (λe=>h0<|Nd.1 e) A4 A4;rw[pf] at hf;exact A6 hf<|AU rfl
  obtain⟨r,e,rfl⟩:=this;exact e
 unfold YO;rw[key];show bd (JD (BW x)<|BW y⁻¹) (λx3=>some x3)=_;rw[zw hx (apu hy h0) hm hn,Pa];rfl
abbrev Q12:=Q3×Q3×Q3×Q3
def fc(f:Q12):Prop:=vc f.1 1 14/\vc f.2.1 1 14/\vc f.2.2.1 1 14/\vc f.2.2.2 1 14
def aiE(hx:bq x n)(hy:bq y n)(h0:0<n)(hn:n<=19000)(h:BW x=BW y):x=y:=by
 let⟨p,e1,⟨p1,p2⟩,_⟩:=Ru hx h0 hn;let⟨r,e2,⟨r1,r2⟩,_⟩:=Ru hy h0 hn;rw[h,e2] at e1;have e:=E9 e1;subst e;have key:∀{q:Bool×A3 Int} {a b:Int},F6 q a->F6 q b->a=b:=by rintro q a b ⟨_,h2,h3⟩ ⟨_,k2,k3⟩;rw[h2] at k2;rw[h3] at k3;have:=Ha.1 k3;omega
 have d:=key r2 p2;exact(Rat.ext (key r1 p1) A4).symm
def c4(a b c d e:Int):Int:=bif !decide (a=0) then a else bif !decide (b=0) then b else bif !decide (c=0) then c else bif !decide (d=0) then d else e
def N9(h:lv n x):bq x (n+1):=by have h1:=h.1;rw[Mv] at h1;have e:(10:Nat)^n<10^(n+1):=Nat.pow_lt_pow_right A4 A4;exact⟨A4,by have:=h.2;omega⟩
def Lb(hx:lv m x)(hy:lv n y):lv (m+n) (x*y):=Ma hx hy
def abC(h:bc x (1+1) n):lv (n+1) x:=Sf h A4 A4
def lva(hx:lv m x)(hy:lv n y):lv (m+n+1) (x+y):=abC<|SY hx hy
def lvs(hx:lv m x)(hy:lv n y):lv (m+n+1) (x-y):=abC<|rD hx hy
def lvi(hx:lv n x)(h0:x≠0):lv n x⁻¹ :=rE (e:=0) hx h0 A4
end
section
variable{m n:Nat}{x y:Rat}(hx:lv m x)(hy:lv n y)(hm:m<=18000)(hn:n<=18000)
include hx hy hm hn
theorem Sk:JD (BW x) (BW y)=some (BW<|x*y):=zw (N9 hx) (N9 hy) ⟨A4,A4⟩ ⟨A4,A4⟩
theorem aj:OH (BW x) (BW y)=some (BW<|x+y):=zx (N9 hx) (N9 hy) ⟨A4,A4⟩ ⟨A4,A4⟩
theorem Ue:MF (BW x) (BW y)=some (BW<|x-y):=amD (N9 hx) (N9 hy) ⟨A4,A4⟩ ⟨A4,A4⟩
theorem arK(h0:y≠0):YO (BW x) (BW y)=some (BW<|x/y):=amG (N9 hx) (N9 hy) h0 ⟨A4,A4⟩ ⟨A4,A4⟩
end
section
variable{n:Nat}{x:Rat}
def aO(h:lv n x)(hn:n<=18000):(BW x).length<1000000:=by have:=nm (N9 h) A4;omega
def We(h:lv n x)(hn:n<=18000):Ji (BW x)=some x.num.sign:=by
 rw[yW<|aO h hn]
 congr 1
 by_cases h0:x=0
 ·subst h0;rfl
 ·rw[Bu h0,Ar];have hn:x.num≠0:=λe=>h0<|Nd.1 e
  by_cases h1:x.num<0
  ·rw[B5 h1,BH,il h1]
  ·rw[Bu h1,Ar,WO A4]
def rV{m:Nat}{y:Rat}(hx:lv m x)(hy:lv n y)(hm:m<=18000)(hn:n<=18000)(h:BW x=BW y):x=y:=aiE (N9<|Fs hx hm) (N9<|Fs hy hn) A4 A4 h
end
section
variable{m n:Nat}{v w:Q3}(hv:D6 m v)(hw:D6 n w)
include hv hw
theorem aa7:D6 (m+n+1) (BD v w):=⟨lvs hv.1 hw.1,lvs hv.2.1 hw.2.1,lvs hv.2.2 hw.2.2⟩
theorem gw:D6 (m+n+1) (Db v w):=⟨lva hv.1 hw.1,lva hv.2.1 hw.2.1,lva hv.2.2 hw.2.2⟩
theorem PV:D6 (2*(m+n)+1) (Ag v w):=by
 have k:∀{a b c d:Rat},lv m a->lv n b->lv m c->lv n d->lv (2*(m+n)+1) (a*b-c*d):=λh1 h2 h3 h4=>Fs (lvs (Lb h1 h2)<|Lb h3 h4) A4
 exact⟨k hv.2.1 hw.2.2 hv.2.2 hw.2.1,k hv.2.2 hw.1 hv.1 hw.2.2,k hv.1 hw.2.1 hv.2.1 hw.1⟩
theorem aP:lv (3*(m+n)+2) (AM v w):=Fs (lva (lva (Lb hv.1 hw.1)<|Lb hv.2.1 hw.2.1)<|Lb hv.2.2 hw.2.2) A4
theorem abT(h:m+n<=18000):Xr (C1 v) (C1 w)=some (C1<|BD v w):=by unfold Xr C1;dsimp only;rw[Ue hv.1 hw.1 A4 A4,Cm,Ue hv.2.1 hw.2.1 A4 A4,Cm,Ue hv.2.2 hw.2.2 A4 A4];rfl
theorem qz(h:m+n<=18000):VF (C1 v) (C1 w)=some (C1<|Db v w):=by unfold VF C1;dsimp only;rw[aj hv.1 hw.1 A4 A4,Cm,aj hv.2.1 hw.2.1 A4 A4,Cm,aj hv.2.2 hw.2.2 A4 A4];rfl
theorem jg(h:2*(m+n)+1<=18000):Rg (C1 v) (C1 w)=some (BW<|AM v w):=by unfold Rg C1;dsimp only;rw[Sk hv.1 hw.1 A4 A4,Cm,Sk hv.2.1 hw.2.1 A4 A4,Cm,aj (Lb hv.1 hw.1) (Lb hv.2.1 hw.2.1) A4 A4,Cm,Sk hv.2.2 hw.2.2 A4 A4,Cm,aj (lva (Lb hv.1 hw.1)<|Lb hv.2.1 hw.2.1) (Lb hv.2.2 hw.2.2) A4 A4];rfl
theorem WV(h:m+n<=18000):NP (C1 v) (C1 w)=some (C1<|Ag v w):=by
 have k:∀{a b c d:Rat},lv m a->lv n b->lv m c->lv n d->∀{ρ:Type} (K:AD->AA ρ),(bd (JD (BW a)<|BW b) λx=>bd (JD (BW c)<|BW d) λy=>bd (MF x y) K)=K (BW<|a*b-c*d):=λh1 h2 h3 h4 ρ K=>by rw[Sk h1 h2 A4 A4,Cm,Sk h3 h4 A4 A4,Cm,Ue (Lb h1 h2) (Lb h3 h4) A4 A4,Cm]
 unfold NP C1;dsimp only;rw[k hv.2.1 hw.2.2 hv.2.2 hw.2.1,k hv.2.2 hw.1 hv.1 hw.2.2,k hv.1 hw.2.1 hv.2.1 hw.1];rfl
end
section
variable{h:Bc}{n:Nat}{v:Q3}{m:Nat}
def SU{a:Rat}(hv:D6 m v)(ha:lv n a):D6 (m+n) (BX v a):=⟨Lb hv.1 ha,Lb hv.2.1 ha,Lb hv.2.2 ha⟩
def WU{a:Rat}(hv:D6 m v)(ha:lv n a)(h:m+n<=18000):PC (BW a) (C1 v)=some (C1<|BX v a):=by unfold PC C1;dsimp only;rw[Sk ha hv.1 A4 A4,Cm,Sk ha hv.2.1 A4 A4,Cm,Sk ha hv.2.2 A4 A4,Rat.mul_comm a,Rat.mul_comm a,Rat.mul_comm a];rfl
def ap9{w:Q3}(hv:D6 m v)(hw:D6 n w)(hm:m<=18000)(hn:m+n<=18000)(h:C1 v=C1 w):v=w:=by have a:=congrArg (·.1) h;have b:=congrArg (·.2.1) h;have c:=congrArg (·.2.2) h;exact LF (rV hv.1 hw.1 A4 A4 a) (rV hv.2.1 hw.2.1 A4 A4 b)<|rV hv.2.2 hw.2.2 A4 A4 c
theorem akl:kK v=true↔v=o3:=by grind [kK,o3]
def qx(h:D6 n v)(hn:n<=18000):Xf (C1 v)=some (decide<|v=o3):=by
 have t1:=YZ v.1<|aO h.1 hn
 have t2:=YZ v.2.1<|aO h.2.1 hn
 have t3:=YZ v.2.2<|aO h.2.2 hn
 have e:decide (v=o3)=kK v:=by rw[ZQ,akl,Hn]
 show some (decide<|C1 v=(([48]:AD),([48]:AD),([48]:AD)))=_;rw[e];unfold kK;rw[<-t1,<-t2,<-t3]
 congr 1
 rw[ZQ];unfold C1;simp[Qj]
abbrev N3:=Int×Int×Int
def rq(s:AD):Rat:=(MH s).getD 0
def rn(n:N3):Q3:=((n.1:Rat),(n.2.1:Rat),(n.2.2:Rat))
def rh(h:Bc):H3:=(rn h.1,rq h.2)
def Hv(n:N3):Nat:=Nat.gcd (Nat.gcd n.1.natAbs n.2.1.natAbs) n.2.2.natAbs
def EY(x:Int):Bool:=decide (999999999<x)||decide (x< -999999999)
structure Bp(h:Bc):Prop where
 num:isNum h.2 (rq h.2)
 x:EY h.1.1=false
 y:EY h.1.2.1=false
 z:EY h.1.2.2=false
 g:Hv h.1=1
theorem My{x:Int}(h:EY x=false): -999999999<=x/\x<=999999999:=by grind [EY]
def Bp.kH(o:Bp h):Hu (rh h).1:=⟨_,_,_,rfl,o.g⟩
def jJ{x:Int}(h:EY x=false)(hn:9<=n):lv n (x:Rat):=by
 have:=My h;have e:(10:Nat)^9<=10^n:=KD A4 hn;refine⟨?_,?_⟩
 ·rw[SD];omega
 ·rw[U9];omega
def Bp.lvn(o:Bp h)(hn:9<=n):D6 n (rh h).1:=⟨jJ o.x hn,jJ o.y hn,jJ o.z hn⟩
def Bp.Jb(o:Bp h):lv 14 (rh h).2:=arT o.num.2.1
def Bp.Fm{L:A3 Bc}(o:∀h∈L,Bp h):Iw 14 (L.map rh):=λg mg=>by obtain⟨h,mh,rfl⟩:=BR.1 mg;exact⟨(o h mh).lvn A4,(o h mh).Jb⟩
def Bp.Om{L:A3 Bc}(o:∀h∈L,Bp h):∀g∈L.map rh,Hu g.1:=λg mg=>by obtain⟨h,mh,rfl⟩:=BR.1 mg;exact(o h mh).kH
def Bp.txt(o:Bp h):h.2=BW (rh h).2:=o.num.1
def Pm{k:Bc}(a:Bp h)(b:Bp k)(e:rh h=rh k):h=k:=by have e1:=congrArg (·.1.1) e;have e2:=congrArg (·.1.2.1) e;have e3:=congrArg (·.1.2.2) e;have e4:=congrArg (·.2) e;exact Prod.ext (Prod.ext (iH.1 e1)<|Prod.ext (iH.1 e2)<|iH.1 e3) (by rw[a.txt,b.txt,e])
def an(n:N3)(c:Int):Int:=bif decide (Hv n=0) then 6 else bif EY n.1||(EY n.2.1||EY n.2.2) then 3 else bif !decide (Hv n=1) then 1 else c
def pL(b:Bool)(n:Int):YC b n=some (bif b then n else 0):=by cases b<;>rfl
theorem ap5(a b c d:Int):dh [a,b,c,d]=some (bif !decide (a=0) then a else bif !decide (b=0) then b else bif !decide (c=0) then c else d):=by
 obtain⟨F,hF⟩:∃F,18446744073709551616=F+5:=⟨18446744073709551611,rfl⟩;unfold dh;rw[hF];show cond (!decide (a=0)) (some a) (cond (!decide (b=0)) (some b)<|cond (!decide (c=0)) (some c)<|cond (!decide (d=0)) (some d)<|some 0)=_;cases ha:decide (a=0)
 ·rfl
 ·grind
def gK{z:Int}(h:z.natAbs<=9223372036854775808):DB z=true:=PX (n:=20) A4 A4
def in3(n:N3):Prop:=Cp n.1/\Cp n.2.1/\Cp n.2.2
theorem aeC(hi:in3 h.1){c:Int}(hc:TO h.2=some c):P6 h=some (an h.1 c):=by
 refine GJ ?_;unfold P6;refine A6 (x:=0) rfl ?_;refine C9 [h.1.1,h.1.2.1,h.1.2.2] (λ(s:Int×Bool) i=>(s.1,s.2,i)) (λA s=>s.1=((A.foldl (λg x=>Nat.gcd g x.natAbs) 0:Nat):Int)/\s.2=A.any EY) (λA x C s k hA hP next=>?_) (λs k hP=>?_) (s0:=(0,false)) ⟨rfl,rfl⟩ AV
 ·dsimp;have al:=Cn hA;rw[show [h.1.1,h.1.2.1,h.1.2.2].length=3 from rfl] at al;rw[B5 (show(A.length:Int)<3 by omega),BH];have ix:Cp x:=by have:=at_mem hA;simp at this;rcases this with rfl|rfl|rfl;exact hi.1;exact hi.2.1;exact hi.2.2
  have gl:(A.foldl (λg x=>Nat.gcd g x.natAbs) 0)<=9223372036854775808:=by
   have hA':∀y∈A,y.natAbs<=9223372036854775808:=λy my=>by
    have:y∈[h.1.1,h.1.2.1,h.1.2.2]:=by rw[hA];simp[my]
    have b1:=hi.1;have b2:=hi.2.1;have b3:=hi.2.2;unfold Cp at b1 b2 b3;simp at this;omega
   have:∀(l:A3 Int) (g:Nat),g<=9223372036854775808->(∀y∈l,y.natAbs<=9223372036854775808)->l.foldl (λg x=>Nat.gcd g x.natAbs) g<=9223372036854775808:=by
    intro l
    induction l with
    |nil=>intro g hg _;exact hg
    |cons y l ih=>
     intro g hg hl;refine ih _ ?_ λz mz=>hl z<|C2 _ mz
     have:=hl y DT;rcases LL g with e|e
     ·grind
     ·exact Cu (Nat.gcd_le_left _ e) hg
   exact this A 0 A4 hA'
  unfold Cp at ix;refine A6 (Bk hA)<|A6 (EO ix)<|A6 (x:=(x.natAbs:Int)) rfl<|A6 (x:=((Nat.gcd (A.foldl (λg x=>Nat.gcd g x.natAbs) 0) x.natAbs:Nat):Int)) ?_<|A6 (C4 hA AV)<|next (_,_) ⟨?_,?_⟩
  ·unfold P2;rw[hP.1,gK (by rw[GB];exact gl),gK (by rw[GB];omega)];rfl
  ·grind
  ·rw[ZP,hP.2];show((A.any EY||_)||_)=(_||(EY x||false));rw[ZN,Bool.or_assoc];rfl
 ·dsimp only;rw[show decide ((([h.1.1,h.1.2.1,h.1.2.2].length:Nat):Int)<3)=false from rfl,Ar];have e1:s.1=((Hv h.1:Nat):Int):=by rw[hP.1];show((Nat.gcd (Nat.gcd (Nat.gcd 0 _) _) _:Nat):Int)=_;rw[Nat.gcd_zero_left];rfl
  have e2:s.2=(EY h.1.1||(EY h.1.2.1||EY h.1.2.2)):=AK;rw[e1,e2];have sm:Pr ((Hv h.1:Nat):Int)=some (bif He ((Hv h.1:Nat):Int) then(((Hv h.1:Nat):Int),true) else(((Hv h.1:Nat):Int).sign,false)):=by unfold Pr;rw[Bu A4];rfl
  refine A6 sm<|A6 (x:=((Hv h.1:Nat):Int).sign) rfl<|A6 (pL _ _)<|A6 (pL _ _)<|A6 (pL _ _)<|A6 hc<|A6 (ap5 _ _ _ _)<|AU ?_
  unfold an
  generalize (EY h.1.1||(EY h.1.2.1||EY h.1.2.2))=f at*
  have hs:decide (((Hv h.1:Nat):Int).sign=0)=decide (Hv h.1=0):=Ha.2 (by rw[Int.sign_eq_zero_iff_zero];omega);rw[hs];cases h0:decide (Hv h.1=0)
  ·cases f
   ·by_cases hb:He ((Hv h.1:Nat):Int)=true
    ·grind
    ·rw[Bool.not_eq_true] at hb;have h1:decide (Hv h.1=1)=false:=by
      refine Bu λe=>?_
      rw[e] at hb;cases hb
     rw[hb,h1];rfl
   ·rfl
  ·rfl
def wO{a b:Int}(ha: -999999999<=a/\a<=999999999)(hb: -999999999<=b/\b<=999999999):Xp a b=some ((Nat.gcd a.natAbs b.natAbs:Nat):Int):=by
 refine GJ ?_;unfold Xp;refine EP (λs:Int×Int=>Nat.gcd s.1.natAbs s.2.natAbs=Nat.gcd a.natAbs b.natAbs/\(-999999999<=s.1/\s.1<=999999999)/\(-999999999<=s.2/\s.2<=999999999)) (λs=>s.2.natAbs) (λnext s hs hn=>?_) _ _ ⟨rfl,ha,hb⟩ (by show b.natAbs<_;omega);let⟨h1,h2,h3⟩:=hs;refine Ad (λhc=>?_) λhc=>?_
 ·have h0:s.2≠0:=by simpa using hc
  have t:=Int.natAbs_tmod s.1 s.2;have lt:=OS s.1.natAbs (show 0<s.2.natAbs by omega);refine A6 (x:=s.1.tmod s.2) (by unfold Fu;rw[Bu h0];rfl) (hn (_,_) ⟨?_,h3,by dsimp;omega⟩ (by dsimp;omega));rw[t,SB,<-Nat.gcd_rec,SB,h1]
 ·have h0:s.2=0:=by simpa using hc
  refine A6 (x:=0-s.1) BC<|AU ?_
  rw[qp,<-h1,h0];simp
theorem af9{c:Int}(hc:Ra h.2=some c):RL h=some (an h.1 c):=by
 refine GJ ?_;unfold RL an;have z:decide (h.1=((0:Int),(0:Int),(0:Int)))=decide (Hv h.1=0):=Ha.2 (by unfold Hv;rw[Nat.gcd_eq_zero_iff,Nat.gcd_eq_zero_iff,Qj,Qj];simp[Int.natAbs_eq_zero,and_assoc])
 rw[z];refine Ad (λhz=>by rw[hz];exact AU rfl) λhz=>?_
 rw[hz,Ar];refine C9 [h.1.1,h.1.2.1,h.1.2.2] (λ(_:Unit) i=>i) (λA _=>A.any EY=false) (λA x C s k hA hP next=>?_) (λs k hP=>?_) (s0:=()) rfl AV
 ·have al:=Cn hA;rw[show [h.1.1,h.1.2.1,h.1.2.2].length=3 from rfl] at al;rw[B5 (show(A.length:Int)<3 by omega),BH];refine A6 (Bk hA) ?_;have fin:∀y,y=x\/decide (x< -999999999)=true->Yd (λr=>r=(bif EY h.1.1||(EY h.1.2.1||EY h.1.2.2) then 3 else bif !decide (Hv h.1=1) then 1 else c)) (cond (decide (x< -999999999)||decide (999999999<y)) (some 3)<|bd (AH<|(A.length:Int)+1) k):=by
   intro y hy;have e:(decide (x< -999999999)||decide (999999999<y))=EY x:=by
    unfold EY;rcases hy with rfl|hy
    ·rw[Bool.or_comm]
    ·rw[hy];simp
   rw[e];refine Ad (λhf=>AU ?_) λhf=>A6 (C4 hA AV)<|next () ?_
   ·have:(EY h.1.1||(EY h.1.2.1||EY h.1.2.2))=true:=by have:=at_mem hA;simp at this;rcases this with rfl|rfl|rfl<;>rw[hf]<;>simp
    rw[this];rfl
   ·grind
  cases hx:decide (x< -999999999)
  ·rw[hx] at fin;exact A6 (Bk hA)<|fin x<| .inl rfl
  ·rw[hx] at fin;exact fin 0<| .inr rfl
 ·rw[show decide ((([h.1.1,h.1.2.1,h.1.2.2].length:Nat):Int)<3)=false from rfl,Ar];simp[List.any_cons,List.any_nil,ZN,MW] at hP;let⟨p1,p2,p3⟩:=hP;have b1:=My p1;have b2:=My p2;have b3:=My p3;have g0:Hv h.1≠0:=Bg hz;have gl:Nat.gcd h.1.1.natAbs h.1.2.1.natAbs<=999999999:=by
   rcases LL h.1.1.natAbs with e|e
   ·grind
   ·exact Cu (Nat.gcd_le_left _ e) A4
  refine A6 (wO b1 b2)<|A6 (wO (b:=h.1.2.2) ⟨A4,A4⟩ b3) ?_
  rw[GB,p1,p2,p3];have e:decide ((((Nat.gcd (Nat.gcd h.1.1.natAbs h.1.2.1.natAbs) h.1.2.2.natAbs:Nat)):Int)=1)=decide (Hv h.1=1):=Ha.2 (by unfold Hv;omega);rw[e];refine Ad (λh1=>by rw[h1];exact AU rfl) λh1=>by rw[h1];exact A6 hc<|AU rfl
def uW(hi:in3 h.1)(hl:h.2.length<=14):∃c,P6 h=some c/\RL h=some c/\(c=0->Bp h):=by
 let⟨c,c1,c2,c3⟩:=xG hl;refine⟨_,aeC hi c1,af9 c2,λe=>?_⟩;unfold an at e;cases h0:decide (Hv h.1=0) with
 |true=>rw[h0] at e;cases e
 |false=>
  rw[h0,Ar] at e;cases hf:EY h.1.1||(EY h.1.2.1||EY h.1.2.2) with
  |true=>rw[hf] at e;cases e
  |false=>
   rw[hf,Ar] at e;cases h1:decide (Hv h.1=1) with
   |false=>rw[h1] at e;cases e
   |true=>rw[h1] at e;let⟨q,hq⟩:=c3 e;rw[MW,MW] at hf;refine⟨?_,hf.1,hf.2.1,hf.2.2,As h1⟩;unfold rq;rw[hq.2.2];exact hq
end
end Trn
