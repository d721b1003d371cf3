/-
  Part of the proof of SolidFacets.
-/
import Derived.Test.YtiacmffbhnfhdaaGreatDoorLa
set_option maxRecDepth 100000
set_option maxHeartbeats 20000000
set_option linter.all false
open Go Go.RowKit Go.Proofs Go.Proofs.Tryz
namespace Trn
section
variable{n m:Nat}{q:Rat}{c d:Nat}{z:Int}{k:Nat}{p:Bool×A3 Int}{x:Rat}{l u:AB}{y:Rat}{neg:Bool}{core:AB}{a:Q3}{s:AB}{b:Q3}
theorem ajw{ρ:Type}{R:ρ->Prop}{u v:A3 Int}{j:Nat}{K:A3 Int×Int->A9 ρ}(hu:CS u)(hv:CS v)(hvl:v.length=k+2)(hj:j+(k+3)<=u.length)(hlen:u.length<439804651)(X9:BT<=2*v.getD (k+1) 0)(hlt:AI (u.drop<|j+1)<AI v)
 (h:∀l t,CS l->l.length=u.length->l.take j=u.take j->0<=t->t<BT->AI (l.drop j)=AI (u.drop j)-t*AI v->AI (l.drop j)<AI v->Yd R (K (l,t))):
  Yd R (bd (Xz u v (j:Int)) λH6=>
       lp 18446744073709551616 (λ(k46:(A3 Int×Int×Int)->A9 ρ) (D5:A3 Int×Int×Int)=>
        cond (decide<|D5.2.2<(v.length:Int)) (
         bd (AA v D5.2.2) λHI=>
         bd (AG<|H6*HI) λGI=>
         bd (AG<|GI+D5.2.1) λGJ=>
         bd (AG<|D5.2.2+(j:Int)) λHK=>
         bd (AA D5.1 HK) λK3=>
         bd (AA D5.1 HK) λJb=>
         bd (Fy GJ (1000000000:Int)) λLs=>
         bd (AG<|Jb-Ls) λIt=>
         bd (Gi GJ (1000000000:Int)) λx64=>
         jn (λ(s66:Int×Int)=>
          bd (AG<|D5.2.2+(j:Int)) λJc=>
          bd (AA D5.1 Jc) λx75=>
          bd (AA D5.1 Jc) λNv=>
          bd (AG<|D5.2.2+(1:Int)) λx79=>
          k46 ((D5.1.set (Jc).toNat s66.2),s66.1,x79)
         ) λk67=>
         cond (decide<|It<(0:Int)) (
          bd (AG<|It+(1000000000:Int)) λx69=>
          bd (AG<|x64+(1:Int)) λx71=>
          k67 (x71,x69)
         ) (
          k67 (x64,It)
         )
        ) (
         bd (AG<|(j:Int)+(v.length:Int)) λKa=>
         bd (AG<|(j:Int)+(v.length:Int)) λx83=>
         bd (AA D5.1 x83) λx85=>
         bd (AA D5.1 x83) λx87=>
         bd (AG<|x87-D5.2.1) λK4=>
         bd (AA D5.1 Ka) λx91=>
         bd (AA D5.1 Ka) λx93=>
         bd (AG<|(j:Int)+(v.length:Int)) λx95=>
         bd (AA (D5.1.set (Ka).toNat K4) x95) λx97=>
         bd (AA (D5.1.set (Ka).toNat K4) x95) λx99=>
         jn (λ(SZ:A3 Int×Int)=>K SZ) λX1=>
         cond (decide<|x99<(0:Int)) (
          bd (AG<|H6-(1:Int)) λjP=>
          lp 18446744073709551616 (λ(aW:(A3 Int×Int×Int)->A9 ρ) (DQ:A3 Int×Int×Int)=>
           cond (decide<|DQ.2.2<(v.length:Int)) (
            bd (AG<|DQ.2.2+(j:Int)) λIL=>
            bd (AA DQ.1 IL) λL9=>
            bd (AA DQ.1 IL) λKT=>
            bd (AA v DQ.2.2) λMs=>
            bd (AG<|KT+Ms) λNi=>
            bd (AG<|Ni+DQ.2.1) λMu=>
            bd (AG<|DQ.2.2+(j:Int)) λLj=>
            bd (Fy Mu (1000000000:Int)) λQr=>
            bd (AA DQ.1 Lj) λX6=>
            bd (AA DQ.1 Lj) λX5=>
            bd (Gi Mu (1000000000:Int)) λX4=>
            bd (AG<|DQ.2.2+(1:Int)) λX3=>
            aW ((DQ.1.set (Lj).toNat Qr),X4,X3)
           ) (
            bd (AG<|(j:Int)+(v.length:Int)) λSR=>
            bd (AG<|(j:Int)+(v.length:Int)) λX2=>
            bd (AA DQ.1 X2) λac4=>
            bd (AA DQ.1 X2) λjO=>
            bd (AG<|jO+DQ.2.1) λjN=>
            bd (AA DQ.1 SR) λac3=>
            bd (AA DQ.1 SR) λac2=>
            X1 ((DQ.1.set (SR).toNat jN),jP)
           )
          ) ((D5.1.set (Ka).toNat K4),(0:Int),(0:Int))
         ) (
          X1 ((D5.1.set (Ka).toNat K4),H6)
         )
        )
       ) (u,(0:Int),(0:Int))):=by
 have hVb:=F6 hv;rw[hvl] at hVb;have hP:=NF<|k+2
 have eW:AI (u.drop j)=u.getD j 0+BT*AI (u.drop<|j+1):=by rw[O8 A4,MY]
 have hj0:=HU hu j;have hW0:0<=AI (u.drop j):=(F6<|TW hu j).1;have atr:AI (u.drop j)<BT*AI v:=AY;have hzero:AI ((u.drop j).drop<|k+3)=0:=wT (TW hu j) (by rw[IC];omega) (by
  rw[Jm];have:BT*AI v<BT*BJ (k+2):=by unfold BT;omega
  omega)
 have eWw:AI (u.drop j)=AI ((u.drop j).take<|k+3):=by
  have:=RQ (u.drop j) (k+3) (by rw[IC];omega);rw[hzero] at this;omega
 have hz:∀m,j+(k+3)<=m->u.getD m 0=0:=λm hm=>by
  have:=aeU (l:=u.drop j) hzero (TW hu j) (m:=m-j) A4;rwa [Wv,show j+(m-j)=m by omega] at this
 have avW:AI ((u.drop j).take<|k+3)=AI ((u.drop j).take<|k+2)+BJ (k+2)*u.getD (j+(k+2)) 0:=by rw[Ic,Wv]
 refine Az (aie (k:=k) (j:=j) hu hv hvl hj A4 X9 rfl (by rw[<-eWw];exact atr)) ?_;rintro t ⟨⟨ht0,ht1⟩,Fp,hup⟩;rw[<-eWw] at Fp hup;refine ah1 (j:=j) (n:=k+2) hu hv hvl A4 A4 ⟨ht0,ht1⟩ ?_;intro u2 b g1 g2 g3 g4 g5 g6;dsimp only;have en:((j:Int)+(v.length:Int))=((j+(k+2):Nat):Int):=A4;rw[en];have gt:u2.getD (j+(k+2)) 0=u.getD (j+(k+2)) 0:=g4 _<|BM _
 have hb2:=HU hu<|j+(k+2)
 have i2:AA u2 ((j+(k+2):Nat):Int)=some (u.getD (j+(k+2)) 0):=by rw[<-gt];exact Bc A4
 have hS:=F6<|M4 (TW g1 j)<|k+2
 rw[Dn,IC,EN A4] at hS;refine A5 BC (A5 BC (A5 i2 (A5 i2 (A5 (EZ ⟨by unfold BT at*;omega,by unfold BT at*;omega⟩)<|A5 i2<|A5 i2<|A5 BC ?_))));rw[Ch];have i3:AA (u2.set (j+(k+2))<|u.getD (j+(k+2)) 0-b) ((j+(k+2):Nat):Int)=some (u.getD (j+(k+2)) 0-b):=by
  rw[Bc (by rw[Jq];omega),Ie A4]
 refine A5 i3<|A5 i3 ?_
 have eD:AI (u.drop j)-t*AI v=AI ((u2.drop j).take<|k+2)+BJ (k+2)*(u.getD (j+(k+2)) 0-b):=AY;rw[Tp,Ho] at Fp;rw[HY,Ho] at hup
 generalize u.getD (j+(k+2)) 0-b=y at*
 have hy1: -1<=y:=by
  rcases(show -1<=y\/y<= -2 by omega) with h|h
  ·exact h
  ·have:=Ey h (EM hP);omega
 have hy2:y<=0:=by
  rcases(show y<=0\/1<=y by omega) with h|h
  ·exact h
  ·have:=Ey h (EM hP);omega
 have fin:∀(l:A3 Int) (t':Int),l.length=u.length->l.take j=u.take j->(∀m,j+(k+2)<m->l.getD m 0=u.getD m 0)->(∀m,m≠j+(k+2)->0<=l.getD m 0/\l.getD m 0<BT)->0<=t'->t'<BT->
   AI ((l.drop j).take<|k+2)=AI (u.drop j)-t'*AI v->AI ((l.drop j).take<|k+2)<AI v->∀l2,l2=l.set (j+(k+2)) 0->Yd R (K (l2,t')):=by
  intro l t' q1 q2 q3 q4 q5 q6 q7 q8 l2 hl2;have ok2:CS l2:=aal λm=>by
   by_cases e:m=j+(k+2)
   ·grind
   ·rw[hl2,getD_set_ne e];exact q4 m e
  have ev:AI (l2.drop j)=AI ((l.drop j).take<|k+2):=by
   have e1:=RQ (l2.drop j) (k+2) (by rw[IC,hl2,Jq];omega);have e2:(l2.drop j).take (k+2)=(l.drop j).take (k+2):=by rw[hl2,ji,HB<|BM _]
   have e3:AI ((l2.drop j).drop<|k+2)=0:=vt λm=>by
    rw[Wv,Wv,hl2];by_cases e:m=0
    ·grind
    ·rw[<-Kx,getD_set_ne A4,q3 _ A4];exact hz _ A4
   rw[e1,e2,e3];omega
  exact h l2 t' ok2 (by rw[hl2,Jq];exact q1) (by rw[hl2,HB A4];exact q2) q5 q6 (by rw[ev];exact q7) (by rw[ev];exact q8)
 refine Du (λs:A3 Int×Int=>∃l:A3 Int,(l.length=u.length/\l.take j=u.take j/\(∀m,j+(k+2)<m->l.getD m 0=u.getD m 0)/\(∀m,m≠j+(k+2)->0<=l.getD m 0/\l.getD m 0<BT))/\(0<=s.2/\s.2<BT)/\AI ((l.drop j).take<|k+2)=AI (u.drop j)-s.2*AI v/\AI ((l.drop j).take<|k+2)<AI v/\s.1=l.set (j+(k+2)) 0) ?_ ?_
 ·grind
 intro X1 hk;refine Ad (λhc=>?_)<|λhc=>?_
 ·have hc:=An hc;have hy:y= -1:=A4;subst hy;have ht2:1<=t:=AY;refine A5 (EZ ⟨A4,by unfold BT at*;omega⟩) ?_;refine agJ (j:=j) (n:=k+2) ?_ hv hvl (by rw[Jq];omega) (by rw[Jq];omega) ?_
  ·intro m hm;rw[getD_set_ne hm];exact HU g1 m
  intro u4 c r1 r2 r3 r4 r5 r6;dsimp only;rw[Jq] at r1;rw[HB A4] at r2;have e6:((u2.set (j+(k+2))<| -1).drop j).take (k+2)=(u2.drop j).take (k+2):=by rw[ji,HB<|BM _]
  rw[e6] at r6;have r4':u4.getD (j+(k+2)) 0= -1:=AY;have i4:AA u4 ((j+(k+2):Nat):Int)=some (-1):=by rw[<-r4'];exact Bc A4
  have I3:0<=AI ((u4.drop j).take<|k+2)/\AI ((u4.drop j).take<|k+2)<BJ (k+2):=by
   have ok:CS ((u4.drop j).take<|k+2):=aal λm=>by
    by_cases e:m<k+2
    ·rw[fG e];exact r4 _ A4
    ·grind
   have:=F6 ok;rwa [Dn,IC,EN A4] at this
  have hc1:c=1:=AY;subst hc1;refine A5 BC (A5 BC (A5 i4 (A5 i4 (A5 BC (A5 i4 (A5 i4 (hk _ ⟨u4,⟨A4,by rw[r2,g3],?_,r4⟩,⟨Au,Au⟩,?_,?_,?_⟩)))))))
  ·grind
  ·grind
  ·omega
  ·grind
 ·have hc:=BQ hc;have hy:y=0:=A4;subst hy;refine hk _ ⟨u2,⟨g2,g3,λm hm=>g4 m A4,λm _=>HU g1 m⟩,⟨ht0,ht1⟩,?_,?_,rfl⟩
  ·dsimp only;omega
  ·omega
theorem aaM{l:A3 Int}(h:l.length<1099511627776):BH 8 ([]:A3 Int) l=some l:=by grind [BH]
def lP{a b:A3 Int}(ha:G1 a)(hb:G1 b)(h0:b≠[])(hla:a.length<43980465)(hlb:b.length<43980465):
  Yd (λp=>(G1 p.1/\G1 p.2)/\AI p.1=AI a/AI b/\AI p.2=AI a%AI b) (Um a b):=by
 unfold Um;have hbp:=hb.pos h0;have ha0:=(F6 ha.1).1;refine Az (tT ha hb A4 A4) λc hcmp=>Ad (λhc=>?_)<|λhc=>Ad (λh1=>?_)<|λh1=>?_
 ·have hc:=An hc;have hlt:AI a<AI b:=by rcases hcmp with⟨_,h⟩|⟨h,_⟩|⟨h,_⟩<;>omega
  exact AU ⟨⟨G1.nil,ha⟩,by rw[Int.ediv_eq_zero_of_lt ha0 hlt];rfl,(Tt ha0 hlt).symm⟩
 ·have h1:=An h1;obtain⟨d,rfl⟩:∃d,b=[d]:=gz.1 A4;have hd:AI [d]=d:=by simp[AI]
  rw[hd] at hbp⊢;have hd2:=hb.1 d AS;refine A5 (x:=d) rfl (Az (v8 ha.1 ⟨hbp,by unfold BT at hd2;omega⟩ A4) ?_);rintro⟨w,r⟩ ⟨g1,g2,g3,g4⟩;dsimp only at g1 g2 g3⊢;have Kd:=Ld (AI a) (show d≠0 by omega);have hr1:=L1 (AI a) hbp;have okr:CS [r]:=λx hx=>by rw[DV] at hx;subst hx;omega
  refine Az (TT okr AS) λz ⟨q1,q2,_⟩=>AU ⟨⟨g1,q1⟩,g2,?_⟩
  rw[q2,<-g3];simp[AI]
 ·have h1:=BQ h1;have hc:=BQ hc;have Kh:AI b<=AI a:=by rcases hcmp with⟨h,_⟩|⟨_,h⟩|⟨_,h⟩<;>omega
  have avV:0<b.length:=WD.2 h0;obtain⟨k,hk⟩:∃k,b.length=k+2:=⟨b.length-2,A4⟩;have hal:k+2<=a.length:=by
   rcases Hp a.length (k+2) with h|h
   ·have:=dx ha.1 hb A4;omega
   ·exact h
  have e1:((b.length:Int)-1)=((k+1:Nat):Int):=A4;rw[e1];have hbt:=HU hb.1<|k+1
  generalize hf:1000000000/(b.getD (k+1) 0+1)=f
  have hdv:Gi 1000000000 (b.getD (k+1) 0+1)=some f:=by rw[<-hf];exact div_pos A4 A4 A4
  have hf0:0<=f/\f<=1000000000:=by rw[<-hf];exact⟨Kz A4 A4,Ry _ A4⟩
  refine A5 BC (A5 (Bc A4) (A5 (EZ ⟨A4,by unfold BT at*;omega⟩)<|A5 hdv ?_));have hf1:1<=f/\f<=500000000:=by
   have hb1:b.getD (k+1) 0≠0:=λe=>by
    have l1:=TK hb.1 h0 hb.2;have l2:=Uz (l:=b) (n:=k+1) A4;rw[Cd A4,e] at l2;have l3:=(F6<|M4 hb.1<|k+1).2;rw[Dn,EN A4] at l3;rw[hk,show k+2-1=k+1 by omega] at l1;omega
   have:=zL (t:=b.getD (k+1) 0) A4 (by unfold BT at hbt;omega) hf.symm;exact⟨this.1,this.2.1⟩
  have okf:CS [f]:=λx hx=>by rw[DV] at hx;subst hx;unfold BT;omega
  have vf:AI [f]=f:=by simp[AI]
  refine Az (lO hb.1 okf A4 AS) λv ⟨v1,v2,v3⟩=>?_
  rw[vf] at v2;obtain⟨n1,n2,n3,_,_⟩:=aoX hb hk hf.symm v1 v2;refine Az (lO ha.1 okf A4 AS) λu0 ⟨w1,w2,w3⟩=>?_
  rw[vf] at w2;rw[Ij] at w3;refine A5 (aaM A4)<|am3 w1.1 w3 A4 ?_
  intro u hu hul huv;rw[w2] at huv;obtain⟨m,hm⟩:∃m,m+1+(k+2)=a.length+1:=⟨a.length-(k+2),A4⟩;have em:((u.length:Int)-(v.length:Int))=((m+1:Nat):Int):=A4;rw[em];refine A5 BC<|A5 (Qi A4 A4 A4)<|A5 BC<|A5 BC ?_
  rw[Ch];have hAp:AI a<BJ a.length:=(F6 ha.1).2;have Jf:=top_lt hu hul hm huv hAp hf1.1 n3;refine Ea (λs:A3 Int×A3 Int×Int=>CS s.1/\s.1.length=u.length/\CS s.2.1/\s.2.1.length=m+1/\ -1<=s.2.2/\s.2.2<(m+1:Nat)/\AI (s.1.drop (s.2.2+1).toNat)<AI v/\
    AI u=AI s.1+AI v*(BJ (s.2.2+1).toNat*AI (s.2.1.drop (s.2.2+1).toNat))) (λs=>(s.2.2+1).toNat) ?_ _ _
   ⟨hu,rfl,lR _,AS,Au,Au,?_,?_⟩ Au
  rotate_left
  ·dsimp only;have e:(((m+1:Nat):Int)-1+1).toNat=m+1:=A4;rw[e];exact Jf
  ·dsimp only;have e:(((m+1:Nat):Int)-1+1).toNat=m+1:=A4;rw[e,Mo AS];simp[AI]
  rintro next ⟨u',q,z⟩ ⟨s1,s2,s3,s4,s5,s6,s7,s8⟩ hn
  dsimp only at s1 s2 s3 s4 s5 s6 s7 s8 hn⊢;refine Ad (λhz=>?_)<|λhz=>?_
  ·have hz:=An hz;obtain⟨j,rfl⟩:=F8 hz;have ej:(((j:Nat):Int)+1).toNat=j+1:=A4;rw[ej] at s7 s8;refine ajw (k:=k) (j:=j) s1 v1.1 n1 A4 A4 n2 s7 ?_;intro l t r1 r2 r3 r4 r5 r6 r7;refine A5 (Bc A4) (A5 (Bc A4) (A5 BC (hn _ ⟨r1,Au,Z2 s3 _ ⟨r4,r5⟩,by simpa using s4,Au,Au,?_,?_⟩ ?_)))
   ·dsimp only;have e:(((j:Nat):Int)-1+1).toNat=j:=A4;rw[e];exact r7
   ·dsimp only;have e:(((j:Nat):Int)-1+1).toNat=j:=A4;rw[e,Ch,dW A4,MY,s8,RQ u' j A4,RQ l j A4,r3,r6,Jm];have x1:BJ j*(AI (u'.drop j)-t*AI v)=BJ j*AI (u'.drop j)-AI v*(BJ j*t):=by
     rw[Me,GC<|AI v,EC t]
    have x2:AI v*(BJ j*(t+BT*AI (q.drop<|j+1)))=AI v*(BJ j*t)+AI v*(BT*BJ j*AI (q.drop<|j+1)):=by
     rw[Ct,Ct,<-Ei (BJ j),EC (BJ j) BT]
    rw[x1,x2];omega
   ·dsimp only;omega
  ·have hz:=BQ hz;have:z= -1:=A4;subst this;have s7:AI u'<AI v:=s7;have s8:AI u=AI u'+AI v*(BJ 0*AI q):=s8;rw[TU,Ho] at s8;have u'0:=(F6 s1).1;have hVb:=(F6 v1.1).2;have htk:AI (u'.take v.length)=AI u':=by
    have:=RQ u' v.length A4;rw[wT s1 A4 A4] at this;omega
   refine A5 (EW A4 A4 A4) ?_;have et:((u'.take ((v.length:Nat):Int).toNat).drop (0:Int).toNat)=u'.take v.length:=AS;rw[et];refine Az (TT (M4 s1 _) (by rw[Dn];omega)) λy ⟨y1,y2,y3⟩=>A5 (x:=f) rfl ?_
   rw[Dn] at y3;refine Az (v8 y1.1 ⟨A4,A4⟩ A4) ?_;rintro⟨w,r⟩ ⟨g1,g2,g3,g4⟩;dsimp only at g1 g2 g3⊢;refine Az (TT s3 A4) λx ⟨x1,x2,_⟩=>AU ⟨⟨x1,g1⟩,?_⟩
   dsimp only;rw[x2,g2,y2,htk];have hR:AI u'=f*(AI a-AI b*AI q):=by
    rw[huv,v2] at s8;rw[Me,EC f<|AI a,EC (AI b) f] at*;rw[Ei] at s8;omega
   have hRd:AI u'/f=AI a-AI b*AI q:=by rw[hR,Int.mul_ediv_cancel_left _ A4]
   rw[hRd];have hR0:0<=AI a-AI b*AI q:=by rw[<-hRd];exact Kz u'0 A4
   have hR1:AI a-AI b*AI q<AI b:=by
    refine iA (a:=f) ?_ A4;rw[<-hR,EC f];omega
   have:=YL (A:=AI a) (B:=AI b) (q:=AI q) (r:=AI a-AI b*AI q) (by rw[EC<|AI q];omega) hR0 hR1;exact this
def Yx:∀n:Nat,BJ n=((10^(9*n):Nat):Int)
 |0=>rfl
 |n+1=>by
  rw[Jm,Yx n,show 9*(n+1)=9*n+9 by omega,M9,NL];unfold BT;omega
def abW{a:A3 Int}(ha:CS a)(hl:a.length<=100000):Nat.log2 (AI a).toNat<1099511627776:=by
 have h:=F6 ha;rw[Yx] at h;have h1:=KN (show 0<10 by omega) (show 9*a.length<=900000 by omega);have:Cn ((AI a).toNat:Int)=true:=NC (n:=900000) (by
  rw[En]
  generalize 10^(9*a.length)=P at*
  generalize 10^900000=Q at*
  omega) A4
 have:=F1 this;rw[En] at this;omega
def yk{x y:Int}(hx:0<=x)(hy:0<y):Int.gcd y (x%y)=Int.gcd x y:=by
 obtain⟨m,rfl⟩:=F8 hx;obtain⟨n,rfl⟩:=F8<|EM hy
 show Nat.gcd n (((m%n:Nat):Int)).natAbs=Nat.gcd m n;rw[En,Rt n,<-Nat.gcd_rec,Rt]
def wG{a b:A3 Int}(ha:G1 a)(hb:G1 b)(hla:a.length<=100000)(hlb:b.length<=100000):Yd (λw=>G1 w/\AI w=(Int.gcd (AI a) (AI b):Int)/\w.length<=100000) (Xp a b):=by
 unfold Xp;refine Ea (λs:A3 Int×A3 Int=>G1 s.1/\G1 s.2/\s.1.length<=100000/\s.2.length<=100000/\Int.gcd (AI s.1) (AI s.2)=Int.gcd (AI a) (AI b)) (λs=>muG (AI s.1).toNat (AI s.2).toNat) ?_ _ _ ⟨ha,hb,hla,hlb,rfl⟩<|qn (abW ha.1 hla)<|abW hb.1 hlb
 rintro next ⟨x,y⟩ ⟨h1,h2,h3,h4,h5⟩ hn
 dsimp only at h1 h2 h3 h4 h5 hn⊢;refine Ad (λhc=>?_)<|λhc=>?_
 ·have hc:=An hc;have hy0:y≠[]:=by intro e;subst e;simp at hc
  have hyp:=h2.pos hy0;have hx0:=(F6 h1.1).1;refine Az (lP h1 h2 hy0 A4 A4) ?_;rintro⟨q,r⟩ ⟨⟨g1,g2⟩,g3,g4⟩;dsimp only at g1 g2 g3 g4⊢;have hr:=L1 (AI x) hyp;have hrl:r.length<=y.length:=g2.len (by rw[g4];have:=(F6 h2.1).2;omega);refine hn _ ⟨h2,g2,h4,Au,?_⟩ ?_
  ·dsimp only;rw[g4,<-h5,yk hx0 hyp]
  ·dsimp only;rw[g4];have e:(AI x%AI y).toNat=(AI x).toNat%(AI y).toNat:=by
    rw[Int.toNat_emod hx0<|EM hyp]
   rw[e];exact oU A4
 ·have hc:=BQ hc;have hy0:y=[]:=Js A4;subst hy0;refine AU ⟨h1,?_,h3⟩;have hx0:=(F6 h1.1).1;rw[<-h5];show AI x=((Int.gcd (AI x) 0:Nat):Int);rw[Int.gcd_zero_right];omega
def am4{a b:Int}(ha:0<=a/\a<=4000000000000000000)(hb:0<=b/\b<=4000000000000000000):YJ a b=some (Int.gcd a b:Int):=by
 refine G5 ?_;unfold YJ;have XA:∀x:Int,0<=x/\x<=4000000000000000000->Nat.log2 x.toNat<1099511627776:=λx hx=>by
  have:=NC (z:=x) (n:=19) E8 A4;have:=F1 this;rw[show x.natAbs=x.toNat by omega] at this;omega
 refine Ea (λs:Int×Int=>(0<=s.1/\s.1<=4000000000000000000)/\(0<=s.2/\s.2<=4000000000000000000)/\Int.gcd s.1 s.2=Int.gcd a b) (λs=>muG s.1.toNat s.2.toNat) ?_ _ _ ⟨ha,hb,rfl⟩<|qn (XA a ha)<|XA b hb
 rintro next ⟨x,y⟩ ⟨h1,h2,h5⟩ hn
 dsimp only at h1 h2 h5 hn⊢;refine Ad (λhc=>?_)<|λhc=>?_
 ·have hc:=An hc;have hr:=L1 x hc;have Kd:=Ld x (show y≠0 by omega);refine A5 (QB h1.1 hc)<|hn _ ⟨h2,⟨Kd,Au⟩,?_⟩ ?_
  ·dsimp only;rw[<-h5,yk h1.1 hc]
  ·dsimp only;rw[Int.toNat_emod h1.1<|EM hc];exact oU A4
 ·have hc:=BQ hc;have:y=0:=A4;subst this;refine AU ?_;rw[<-h5,Int.gcd_zero_right];omega
def Yo(n:Nat):0<(Am n).length:=by
 by_cases h:n<10
 ·rw[OD h];simp
 ·rw[RZ h];simp
theorem pS{r:Nat}(h:k<=(Am r).length):IP k r=Am r:=by simp_all [Am,IP]
def aip(h:0<m/10\/1<k):IP k m=IP (k-1) (m/10)++[UInt8.ofNat<|48+m%10]:=by
 by_cases hm:m<10
 ·have hk:1<k:=A4;obtain⟨j,rfl⟩:∃j,k=j+2:=⟨k-2,A4⟩;unfold IP;rw[show m/10=0 by omega,OD hm,OD (show 0<10 by omega),show m%10=m by omega];simp only[Ij];rw[show j+2-1=j+1 by omega,show j+1-1=j by omega,List.replicate_succ'];rfl
 ·unfold IP;rw[RZ hm,ED,Ij,show k-((Am<|m/10).length+1)=k-1-(Am<|m/10).length by omega,ID]
def akC(h1:m/10=0)(h2:k<=1):IP k m=[UInt8.ofNat<|48+m%10]:=by
 rw[pS (by have:=Yo m;omega),OD A4,show m%10=m by omega]
def apc(h:d<10):(([48,49,50,51,52,53,54,55,56,57]:AB).take<|d+1).drop d=[UInt8.ofNat<|48+d]:=by
 match d,h with
 |0,_=>rfl
 |1,_=>rfl
 |2,_=>rfl
 |3,_=>rfl
 |4,_=>rfl
 |5,_=>rfl
 |6,_=>rfl
 |7,_=>rfl
 |8,_=>rfl
 |9,_=>rfl
theorem OE{m:AB}(h:l.length+m.length<=9223372036854775807):IN l m=some (l++m):=by grind [IN]
def mI(hn:n<=9000000000000000000)(hk:1<=k/\k<=20):N1 (n:Int) (k:Int)=some (IP k n):=by
 refine G5 ?_;unfold N1;refine Ea (λs:Int×AB=>∃m:Nat,s.1=m/\m<=n/\m+s.2.length<=n+20/\IP k n=(if 0<m\/s.2.length<k then IP (k-s.2.length) m++s.2 else s.2)) (λs=>s.1.toNat+(k-s.2.length)) ?_ _ _ ⟨n,rfl,BM _,AS,?_⟩ Au
 ·rintro next ⟨z,s⟩ ⟨m,rfl,h0,h1,h2⟩ H9
  dsimp only at h1 h2 H9⊢;refine Ad (λhc=>?_)<|λhc=>?_
  ·have hg:0<m\/s.length<k:=by
    rw[QK,J7,J7] at hc;omega
   rw[if_pos hg] at h2;have hr:((m:Int)%10)=((m%10:Nat):Int):=A4;have hq:((m:Int)/10)=((m/10:Nat):Int):=A4;have hd:m%10<10:=OH _ A4;have acI:Fy (m:Int) 10=some ((m%10:Nat):Int):=by rw[QB A4 A4,hr]
   have hdiv:Gi (m:Int) 10=some ((m/10:Nat):Int):=by rw[div_pos A4 A4 A4,hq]
   have BE:C2 ([48,49,50,51,52,53,54,55,56,57]:AB) ((m%10:Nat):Int) (((m%10:Nat):Int)+1)=some [UInt8.ofNat<|48+m%10]:=by
    rw[EW A4 A4 E8,Ch,show(((m%10:Nat):Int)+1).toNat=m%10+1 by omega,apc hd]
   refine A5 acI<|A5 acI<|A5 BC<|A5 BE<|A5 (OE E8)<|A5 hdiv<|H9 _ ⟨m/10,rfl,A4,?_,?_⟩ ?_
   ·dsimp only;simp only[List.singleton_append,List.length_cons];omega
   ·dsimp only;simp only[List.singleton_append,List.length_cons];rw[h2];by_cases hg2:0<m/10\/s.length+1<k
    ·rw[if_pos hg2,aip A4,ID,show k-s.length-1=k-(s.length+1) by omega];rfl
    ·rw[if_neg hg2,akC A4 A4];rfl
   ·dsimp only;simp only[List.singleton_append,List.length_cons];omega
  ·have hg: ¬(0<m\/s.length<k):=by
    rw[Jr,Ik,Ik] at hc;omega
   rw[if_neg hg] at h2;exact AU h2.symm
 ·dsimp only;rw[if_pos E8];simp
def akB{r:Nat}(hk:0<k)(h:r<10^k):(IP k r).length=k:=by
 have:=LS k r hk h;unfold IP;rw[ED,NT];omega
def oO(h:FB p z)(hl:p.2.length<=100000):T8 p=some (Bo z):=by
 refine G5 ?_;obtain⟨h1,h2,h3⟩:=h;obtain⟨neg,w⟩:=p;dsimp only at h1 h2 h3 hl;unfold T8;dsimp only;refine Ad (λhc=>?_)<|λhc=>?_
 ·have hc:=An hc;have hw:w=[]:=Js A4;subst hw;have hz:z=0:=by
   have:(0:Int)=(z.natAbs:Int):=h2;omega
  subst hz;exact AU rfl
 ·have hc:=BQ hc;obtain⟨n,hn⟩:∃n,w.length=n+1:=⟨w.length-1,A4⟩;have hw0:w≠[]:=by intro e;subst e;simp at hn
  have e1:((w.length:Int)-1)=(n:Int):=A4;rw[e1];have ht:=HU h1.1 n;have X9:0<w.getD n 0:=by
   have l1:=TK h1.1 hw0 h1.2;have l2:=Uz (l:=w) (n:=n) A4;rw[Cd A4] at l2;have l3:=(F6<|M4 h1.1 n).2;rw[Dn,EN A4] at l3;rw[hn,Nat.add_sub_cancel] at l1;rcases(show 0<w.getD n 0\/w.getD n 0=0 by omega) with h|h
   ·exact h
   ·rw[h] at l2;omega
  obtain⟨t,htt⟩:=F8 ht.1;have hdt:N1 (w.getD n 0) 1=some (IP 1 t):=by rw[htt];exact mI (k:=1) (by unfold BT at*;omega) A4
  refine A5 BC<|A5 (Bc A4)<|A5 hdt<|A5 BC ?_
  rw[pS<|Yo t];have Jf:(Am t).length<=9:=LS 9 t A4 (by unfold BT at*;omega);refine Ea (λs:AB×Int=> -1<=s.2/\s.2<n/\s.1=Am (AI<|w.drop (s.2+1).toNat).toNat/\0<AI (w.drop (s.2+1).toNat)/\s.1.length+9*(s.2+1).toNat<=1000000) (λs=>(s.2+1).toNat) ?_ _ _ ⟨Au,Au,?_,?_,?_⟩ Au
  ·rintro next ⟨s,i⟩ ⟨g1,g2,g3,g4,g5⟩ hnx
   dsimp only at g1 g2 g3 g4 g5 hnx⊢;refine Ad (λhd=>?_)<|λhd=>?_
   ·have hd:=An hd;obtain⟨j,rfl⟩:=F8 hd;have ej:(((j:Nat):Int)+1).toNat=j+1:=A4;have ej':(((j:Nat):Int)-1+1).toNat=j:=A4;rw[ej] at g3 g4 g5;have hx:=HU h1.1 j;obtain⟨r,hr⟩:=F8 hx.1;have hr9:r<1000000000:=by unfold BT at*;omega
    have hdr:N1 (w.getD j 0) 9=some (IP 9 r):=by rw[hr];exact mI (k:=9) A4 A4
    have Jg:(IP 9 r).length=9:=akB A4 A4;have Jv:AI (w.drop j)=r+BT*AI (w.drop<|j+1):=by rw[O8 A4,MY,hr]
    refine A5 (Bc A4)<|A5 hdr<|A5 (OE A4)<|A5 BC<|hnx _ ⟨Au,Au,?_,?_,?_⟩ Au
    ·dsimp only;rw[ej',g3,Jv];have e:(((r:Nat):Int)+BT*AI (w.drop<|j+1)).toNat=(AI<|w.drop<|j+1).toNat*10^9+r:=by unfold BT;omega
     rw[e,nK 9 _ r A4 A4 A4]
    ·dsimp only;rw[ej',Jv];unfold BT;omega
    ·dsimp only;rw[ej',List.length_append,Jg];omega
   ·have hd:=BQ hd;have:i= -1:=A4;subst this;have g3:s=Am (AI w).toNat:=g3;have e2:(AI w).toNat=z.natAbs:=by rw[h2];omega
    rw[e2] at g3;have g5:s.length+0<=1000000:=g5;refine Ad (λIq=>?_)<|λIq=>?_
    ·refine A5 (OE (by simp only[Ij];omega)) (AU ?_);rw[Iq] at h3;unfold Bo;rw[<-h3,g3];rfl
    ·rw[Iq] at h3;refine AU ?_;unfold Bo;rw[<-h3,g3];rfl
  ·dsimp only;have e:(((w.length:Int)-2)+1).toNat=n:=A4;rw[e,O8 A4,Mo A4];simp only[AI,htt];simp
  ·dsimp only;have e:(((w.length:Int)-2)+1).toNat=n:=A4;rw[e,O8 A4,Mo A4];simp only[AI];omega
  ·dsimp only;omega
def acH{b:UInt8}(h:l[n]? =some b):AA l (n:Int)=some b:=h
theorem fD{b:UInt8}(h:Dr b=true):48<=b.toNat/\b.toNat<=57:=by simp_all [Dr]
def eS(hd:s.all Dr=true)(hl:s.length<=18):O2 s=some (BR s:Int):=by
 refine G5 ?_;unfold O2;refine Ea (λt:Int×Int=>0<=t.2/\t.2<=s.length/\t.1=(BR (s.take t.2.toNat):Int)) (λt=>s.length-t.2.toNat) ?_ _ _ ⟨Au,Au,by simp[BR]⟩ Au;rintro next ⟨v,i⟩ ⟨h1,h2,h3⟩ hn
 dsimp only at h1 h2 h3 hn⊢;obtain⟨n,rfl⟩:=F8 h1;rw[Ch] at h3;refine Ad (λhc=>?_)<|λhc=>?_
 ·have hc:=An hc;have hlt:n<s.length:=A4;have hdt:(s.take n).all Dr=true:=DZ.2 λx hx=>DZ.1 hd x<|QP hx
  have hv:=QA _ hdt;rw[Dn,EN A4] at hv;have hp:(10:Nat)^n<=10^17:=KN A4 A4;have hb:=fD<|DZ.1 hd _<|L0 hlt
  have hw:wr .i64 ((s[n].toNat:Nat):Int)=(s[n].toNat:Int):=by
   show IntKind.wrap .i64 _=_;rw[IntKind.wrap_i64];omega
  refine A5 BC (A5 (acH<|Gy hlt) (A5 (EZ ⟨by rw[hw];omega,by rw[hw];omega⟩) (A5 (EZ ⟨by rw[hw];omega,by rw[hw];omega⟩)<|A5 BC<|hn _ ⟨Au,Au,?_⟩ Au)));dsimp only;rw[hw,show(((n:Nat):Int)+1).toNat=n+1 by omega,List.take_succ,Gy hlt,YF,h3];have e:BR [s[n]]=s[n].toNat-48:=by simp[BR]
  simp only[Option.toList_some,Ij,e];omega
 ·have hc:=BQ hc;have:n=s.length:=A4;subst this;refine AU ?_;rw[h3,Cd<|BM _]
theorem nX{ds:AB}(neg:Bool)(hd:ds.all Dr=true)(h0:ds≠[])(hl:ds.length<=800000):Yd (λp=>FB p (bif neg then -(BR ds:Int) else(BR ds:Int))/\p.2.length<=ds.length) (RH (bif neg then 45::ds else ds)):=by
 unfold RH;have core:Yd (λp=>FB p (bif neg then -(BR ds:Int) else(BR ds:Int))/\p.2.length<=ds.length)
  (lp 18446744073709551616 (λ(k9:(AB×A3 Int)->A9 _) (s8:AB×A3 Int)=>
   cond (decide<|(9:Int)<(s8.1.length:Int)) (
    bd (AG<|(s8.1.length:Int)-(9:Int)) λB3=>
    bd (C2 s8.1 B3 (s8.1.length:Int)) λBg=>
    bd (O2 Bg) λBe=>
    bd (BH 8 s8.2 ([Be]:A3 Int)) λBY=>
    bd (AG<|(s8.1.length:Int)-(9:Int)) λBi=>
    bd (C2 s8.1 0 Bi) λC5=>
    k9 (C5,BY)
   ) (
    bd (O2 s8.1) λCJ=>
    bd (BH 8 s8.2 ([CJ]:A3 Int)) λCu=>
    bd (Km neg Cu) λD7=>
    some D7
   )
  ) (ds,[])):=by
  refine Ea (λt:AB×A3 Int=>t.1.all Dr=true/\t.1≠[]/\t.1.length<=800000/\CS t.2/\t.1.length+t.2.length<=ds.length/\(BR ds:Int)=BR t.1*BJ t.2.length+AI t.2) (λt=>t.1.length) ?_ _ _ ⟨hd,h0,hl,fy,AS,by simp[TU,AI]⟩ Au;rintro next ⟨s,w⟩ ⟨g1,g2,g3,g4,g5,g6⟩ hn
  dsimp only at g1 g2 g3 g4 g5 g6 hn⊢;have okv:∀x:AB,x.all Dr=true->x.length<=9->0<=(BR x:Int)/\(BR x:Int)<BT:=λx hx GR=>by
   have h1:=QA x hx;have h2:(10:Nat)^x.length<=10^9:=KN A4 GR;unfold BT;omega
  have ext:∀v:Int,0<=v/\v<BT->CS (w++[v]):=λv hv=>by
   rw[eC];exact⟨g4,λy hy=>by rw[DV] at hy;subst hy;exact hv⟩
  refine Ad (λhc=>?_)<|λhc=>?_
  ·have hc:=An hc;obtain⟨n,H9⟩:∃n,s.length=n+9:=⟨s.length-9,A4⟩;have e1:((s.length:Int)-9)=(n:Int):=A4;rw[e1];have hda:(s.take n).all Dr=true:=DZ.2 λx hx=>DZ.1 g1 x<|QP hx
   have hdb:(s.drop n).all Dr=true:=DZ.2 λx hx=>DZ.1 g1 x<|Tx hx
   have hlb:(s.drop n).length=9:=AY;have es:C2 s (n:Int) (s.length:Int)=some (s.drop n):=by rw[EW A4 A4 A4];simp
   have et:C2 s 0 (n:Int)=some (s.take n):=by rw[EW A4 A4 A4];simp
   have hv:=okv _ hdb A4;refine A5 BC<|A5 es<|A5 (eS hdb A4)<|A5 (ax A4)<|A5 BC<|A5 et<|hn _ ⟨hda,?_,?_,ext _ hv,?_,?_⟩ ?_
   ·grind
   ·grind
   ·grind
   ·dsimp only;have hs:BR s=BR (s.take n)*10^9+BR (s.drop n):=by
     conv=>lhs;rw[<-OX n s]
     rw[YF,hlb]
    rw[g6,hs,ED,Ij,Jm,RN];have e:AI [(BR (s.drop n):Int)]=BR (s.drop n):=by simp[AI]
    rw[e,Int.natCast_add,NL,HY,Ei];have:((10^9:Nat):Int)=BT:=rfl;rw[this,EC (BR (s.drop n):Int)];omega
   ·grind
  ·have hc:=BQ hc;have hv:=okv s g1 A4;have hs0:0<s.length:=WD.2 g2;refine A5 (eS g1 A4) (A5 (ax A4) (Az (wE (ext _ hv) (by rw[ED,Ij];omega)) λp ⟨p1,p2⟩=>AU ?_));have e:AI (w++[(BR s:Int)])=(BR ds:Int):=by
    rw[RN,g6];have e:AI [(BR s:Int)]=BR s:=by simp[AI]
    rw[e,EC];omega
   rw[e] at p1;rw[ED,Ij] at p2;exact⟨p1,A4⟩
 cases neg with
 |true=>
  simp only[Bf] at core⊢;refine Hb (λ_=>⟨45,rfl,?_⟩) (λh=>by simp[gd] at h);have hb:((decide<|(0:Int)<((45::ds).length:Int))&&(decide<|((45:UInt8).toNat:Int)=(45:Int)))=true:=AY;rw[hb];have es:C2 (45::ds) (1:Int) ((45::ds).length:Int)=some ds:=by
   rw[EW A4 (by simp only[Dj];omega) A4,Ch,Cd<|BM _];rfl
  exact Du (λs=>s=ds) (λs hs=>by subst hs;exact core) λk hk=>Ad (λ_=>A5 es<|hk _ rfl) (λh=>by cases h)
 |false=>
  obtain⟨d,r,rfl⟩:∃d r,ds=d::r:=by
   cases ds with
   |nil=>exact absurd rfl h0
   |cons d r=>exact⟨d,r,rfl⟩
  have hdd:=fD<|DZ.1 hd d AS
  simp only[B8] at core⊢;refine Hb (λ_=>⟨d,rfl,?_⟩) (λh=>by simp[gd] at h);have hb:((decide<|(0:Int)<((d::r).length:Int))&&(decide<|(d.toNat:Int)=(45:Int)))=false:=AY;rw[hb];exact Du (λs=>s=d::r) (λs hs=>by subst hs;exact core) λk hk=>Ad (λh=>by cases h)<|λ_=>hk _ rfl
theorem nW(hk:k<=s.length)(h1:∀i,i<k->s[i]? ≠some 47)(h2:k<s.length->s[k]? =some 47)(hl:s.length<1099511627776):LM s=some (k:Int):=by
 refine G5 ?_;unfold LM;refine Ea (λi:Int=>0<=i/\i<=k) (λi=>s.length-i.toNat) ?_ _ _ ⟨A4,A4⟩ A4;rintro next i ⟨g1,g2⟩ hn
 obtain⟨n,rfl⟩:=F8 g1;refine Ad (λhc=>?_)<|λhc=>?_
 ·have hc:=An hc;have hlt:n<s.length:=A4;have hg:=Gy hlt;refine A5 (acH hg)<|Ad (λhd=>?_)<|λhd=>?_
  ·have hd:=An hd;refine AU ?_;have hb:s[n]=47:=gQ.1 (by show _=47;omega);rcases Hp n k with h|h
   ·grind
   ·omega
  ·have hd:=BQ hd;rcases Hp n k with h|h
   ·exact A5 BC<|hn _ ⟨A4,A4⟩ A4
   ·have e:n=k:=A4;subst e;have:=h2 hlt;rw[hg] at this;have:=E5 this;rw[this] at hd;exact absurd rfl hd
 ·have hc:=BQ hc;exact AU A4
def BL(q:Rat):AB:=Bo q.num++(bif decide (q.den=1) then [] else 47::Am q.den)
def Kr(n:Nat):(Am n).all Dr=true/\BR (Am n)=n:=by
 induction n using Nat.strongRecOn with
 |ind n ih=>
  have one:∀d,d<10->Dr (UInt8.ofNat<|48+d)=true/\BR [UInt8.ofNat<|48+d]=d:=by
   intro d hd
   match d,hd with
   |0,_=>decide
   |1,_=>decide
   |2,_=>decide
   |3,_=>decide
   |4,_=>decide
   |5,_=>decide
   |6,_=>decide
   |7,_=>decide
   |8,_=>decide
   |9,_=>decide
  by_cases h:n<10
  ·rw[OD h];have:=one n h;exact⟨by rw[OI,this.1];rfl,this.2⟩
  ·rw[RZ h];obtain⟨i1,i2⟩:=ih (n/10) A4;have:=one (n%10) A4;refine⟨by rw[gR,i1,OI,this.1];rfl,?_⟩;rw[YF,i2,this.2,Ij];omega
def aaA(n:Nat):Am n≠[]:=λe=>by have:=Yo n;rw[e] at this;simp at this
def iJ(h:(Am n).length<=k):n<10^k:=by
 have:=QA _ (Kr n).1;rw[(Kr n).2] at this;have h2:(10:Nat)^(Am n).length<=10^k:=KN A4 h;omega
def ajY(z:Int):Bo z=bif decide (z<0) then 45::Am z.natAbs else Am z.natAbs:=rfl
def mY(z:Int):∀x∈Bo z,x≠47:=by
 intro x hx e;subst e;have hd:(47:UInt8)∉Am z.natAbs:=λh=>by
  have:=DZ.1 (Kr z.natAbs).1 _ h;simp[Dr] at this
 unfold Bo at hx;cases hc:decide (z<0) with
 |true=>
  rw[hc] at hx;have hx:(47:UInt8)∈45::Am z.natAbs:=hx;rcases Ai.1 hx with h|h
  ·cases h
  ·exact hd h
 |false=>rw[hc] at hx;exact hd hx
def fH{t:AB}(hu:∀x∈u,x≠47)(hl:(u++47::t).length<1099511627776):LM (u++47::t)=some (u.length:Int):=by
 refine nW AS (λi hi=>?_) (λ_=>by simp) hl;rw[MG hi,Gy hi];intro e;exact hu _ (L0 hi)<|E5 e
def oI(hu:∀x∈u,x≠47)(hl:u.length<1099511627776):LM u=some (u.length:Int):=by
 refine nW (BM _) (λi hi=>?_) (λh=>absurd h<|Nat.lt_irrefl _) hl;rw[Gy hi];intro e;exact hu _ (L0 hi)<|E5 e
theorem VV(z:Int):(Bo z).length<=(Am z.natAbs).length+1:=by grind [Bo,Am]
theorem nh(hl:(Am z.natAbs).length<=800000):Yd (λp=>FB p z/\p.2.length<=800000) (RH<|Bo z):=by
 have h:=nX (decide<|z<0) (Kr z.natAbs).1 (aaA _) hl;rw[(Kr _).2] at h;rw[<-ajY] at h;refine h.imp λp hp=>⟨?_,A4⟩
 have e:(bif decide (z<0) then -(z.natAbs:Int) else(z.natAbs:Int))=z:=AY;rw[e] at hp;exact hp.1
def aio(hl:(Am n).length<=800000):Yd (λp=>FB p (n:Int)/\p.2.length<=800000) (RH<|Am n):=by
 have h:=nh (z:=(n:Int)) (by simpa using hl);have e:Bo (n:Int)=Am n:=by
  unfold Bo;rw[Bl A4];simp
 rwa [e] at h
def ahj:RF 1=some (false,[1]):=A6
def aid(h1:(Am q.num.natAbs).length<=800000)(h2:(Am q.den).length<=800000):Yd (λp=>(FB p.1 q.num/\FB p.2 (q.den:Int))/\p.1.2.length<=800000/\p.2.2.length<=800000) (N4<|BL q):=by
 have hlen:=VV q.num;unfold N4 BL;cases hd:decide (q.den=1) with
 |true=>
  have hd:=An hd;simp only[Bf,J6];refine A5 (oI (mY _) A4)<|Ad (λ_=>?_)<|λh=>absurd rfl<|BQ h
  refine Az (nh h1) λp hp=>A5 ahj<|AU ⟨⟨hp.1,?_⟩,hp.2,AS⟩
  rw[hd];refine⟨⟨λx hx=>?_,AS⟩,rfl,rfl⟩;rw[DV] at hx;subst hx;unfold BT;omega
 |false=>
  have hd:=BQ hd;simp only[B8];have hlt:(Bo q.num++47::Am q.den).length=(Bo q.num).length+1+(Am q.den).length:=by simp;omega
  refine A5 (fH (mY _) A4) (Ad (λh=>by have:=An h;omega)<|λ_=>?_);have es:C2 (Bo q.num++47::Am q.den) 0 ((Bo q.num).length:Int)=some (Bo q.num):=by
   rw[EW A4 A4 A4];simp
  have et:C2 (Bo q.num++47::Am q.den) (((Bo q.num).length:Int)+1) ((Bo q.num++47::Am q.den).length:Int)=some (Am q.den):=by
   rw[EW A4 A4 A4,Ch,Cd<|BM _,show(((Bo q.num).length:Int)+1).toNat=(Bo q.num).length+1 by omega,<-FW];simp
  refine A5 es<|Az (nh h1) λp hp=>A5 BC<|A5 et<|Az (aio h2) λr hr=>AU ⟨⟨hp.1,hr.1⟩,hp.2,hr.2⟩
def FB.len{p:Bool×A3 Int}{z:Int}(h:FB p z){n:Nat}(hz:(z.natAbs:Int)<BJ n):p.2.length<=n:=h.1.len (by rw[h.2.1];exact hz)
def FB.lt(h:FB p z):(z.natAbs:Int)<BJ p.2.length:=by rw[<-h.2.1];exact(F6 h.1.1).2
def Q1{b:Bool}{w:A3 Int}(hw:CS w)(hl:w.length<=4000000)(hz:(bif b then -AI w else AI w)=z):Yd (λp=>FB p z/\p.2.length<=w.length) (Km b w):=by
 rw[<-hz];exact wE hw A4
theorem Yt(h:FB p z):(bif p.1 then -AI p.2 else AI p.2)=z:=by grind [FB,AI]
theorem xN(h:FB p z)(hl:p.2.length<=4000000):Yd (λq=>FB q (-z)/\q.2.length<=p.2.length) (Xy p):=by
 unfold Xy;refine Az (Q1 (z:= -z) h.1.1 hl ?_) λq hq=>AU hq
 have:=Yt h;cases hp:p.1
 ·grind
 ·grind
def YV{q:Bool×A3 Int}{x y:Int}(hp:FB p x)(hq:FB q y)(hl:p.2.length<=1000000)(hm:q.2.length<=1000000):Yd (λr=>FB r (x*y)/\r.2.length<=p.2.length+q.2.length) (RG p q):=by
 unfold RG;refine Az (lO hp.1.1 hq.1.1 A4 A4) λw ⟨w1,w2,w3⟩=>Az (Q1 (z:=x*y) w1.1 A4 ?_) λr hr=>AU ⟨hr.1,A4⟩
 rw[w2,<-Yt hp,<-Yt hq]
 generalize AI p.2=a
 generalize AI q.2=b
 cases p.1<;>cases q.1<;>simp[Int.neg_mul,Int.mul_neg]
theorem ajx{q:Bool×A3 Int}{x y:Int}(hp:FB p x)(hq:FB q y)(hl:p.2.length<=1000000)(hm:q.2.length<=1000000):Yd (λr=>FB r (x+y)/\r.2.length<=p.2.length+q.2.length+1) (da p q):=by
 unfold da;have sp:=Yt hp;have sq:=Yt hq;have a0:=(F6 hp.1.1).1;have b0:=(F6 hq.1.1).1;have abX:∀{a b:A3 Int},G1 a->G1 b->AI a<=AI b->a.length<=b.length:=λha hb h=>by
  rcases Hp (List.length _) (List.length _) with h'|h'
  ·have:=dx hb.1 ha h';omega
  ·exact h'
 refine Ad (λhc=>?_)<|λhc=>?_
 ·have hc:p.1=q.1:=by simpa using hc
  refine Az (af4 hp.1.1 hq.1.1 A4 A4) λw ⟨w1,w2,w3⟩=>Az (Q1 (z:=x+y) w1 A4 ?_) λr hr=>AU ⟨hr.1,A4⟩
  rw[w2,<-sp,<-sq,<-hc];cases p.1
  ·rfl
  ·grind
 ·have hc:p.1= !q.1:=by
   cases h1:p.1<;>cases h2:q.1<;>rw[h1,h2] at hc<;>first|rfl|cases hc
  refine Az (tT hp.1 hq.1 A4 A4) λc hcmp=>Ad (λhd=>?_)<|λhd=>?_
  ·have hd:=An hd;have Kh:AI q.2<=AI p.2:=AY;refine Az (uh hp.1.1 hq.1.1 (abX hq.1 hp.1 Kh) A4 Kh) λw ⟨w1,w2,w3⟩=>Az (Q1 (z:=x+y) w1.1 A4 ?_) λr hr=>AU ⟨hr.1,A4⟩
   rw[w2,<-sp,<-sq,hc];cases q.1
   ·grind
   ·grind
  ·have hd:=BQ hd;have Kh:AI p.2<=AI q.2:=AY;refine Az (uh hq.1.1 hp.1.1 (abX hp.1 hq.1 Kh) A4 Kh) λw ⟨w1,w2,w3⟩=>Az (Q1 (z:=x+y) w1.1 A4 ?_) λr hr=>AU ⟨hr.1,A4⟩
   rw[w2,<-sp,<-sq,hc];cases q.1
   ·grind
   ·grind
def yc{w:A3 Int}(h:G1 w):(decide ((w.length:Int)=1)=true/\w.getD 0 0=1)↔AI w=1:=by
 constructor
 ·rintro⟨h1,h2⟩;have h1:=An h1;obtain⟨d,rfl⟩:∃d,w=[d]:=gz.1 A4;have h2:d=1:=by simpa using h2
  subst h2;simp[AI]
 ·intro hv;have hl:w.length<=1:=h.len (by rw[hv,Jm,TU];unfold BT;omega);have hl0:w≠[]:=by intro e;subst e;simp[AI] at hv
  have:0<w.length:=WD.2 hl0;obtain⟨d,rfl⟩:∃d,w=[d]:=gz.1 A4;have:d=1:=by simpa[AI] using hv
  subst this;exact⟨rfl,rfl⟩
def al8{x g:Int}(hg:0<g)(hd:g∣x):(bif decide (x<0) then -((x.natAbs:Int)/g) else(x.natAbs:Int)/g)=x/g:=by
 cases hc:decide (x<0) with
 |true=>
  have:=An hc;have e:(x.natAbs:Int)= -x:=A4;rw[e,Int.neg_ediv_of_dvd hd];simp
 |false=>
  have:=BQ hc;have e:(x.natAbs:Int)=x:=A4;rw[e];rfl
theorem mB{q:Bool×A3 Int}{x y:Int}(hp:FB p x)(hq:FB q y)(h0:y≠0)(hl:p.2.length<=80000)(hm:q.2.length<=80000):R6 p q=some (BL<|(x:Rat)/(y:Rat)):=by
 refine G5 ?_;unfold R6;have en:((x:Rat)/(y:Rat)).num=(y.sign*x)/(Int.gcd y x:Int):=by rw[<-OL,gL]
 have ed:(((x:Rat)/(y:Rat)).den:Int)=(y.natAbs:Int)/(Int.gcd y x:Int):=by
  rw[<-OL,gK,if_neg h0];rfl
 have hg0:0<Int.gcd y x:=iE _ h0;refine Du (λt:(Bool×A3 Int)×(Bool×A3 Int)=>FB t.1 (y.sign*x)/\FB t.2 (y.natAbs:Int)/\t.1.2.length<=80000/\t.2.2.length<=80000) ?_<|λk hk=>Ad (λhd=>?_)<|λhd=>?_
 ·rintro⟨a,b⟩ ⟨ha,hb,la,lb⟩;dsimp only at ha hb la lb⊢;have hX:(y.sign*x).natAbs=x.natAbs:=AY;have hg:Int.gcd (y.sign*x) (y.natAbs:Int)=Int.gcd y x:=by
   rw[Int.gcd_comm];unfold Int.gcd;rw[hX,En]
  refine Az (wG ha.1 hb.1 A4 A4) λg ⟨g1,g2,g3⟩=>?_
  have hgv:AI g=(Int.gcd y x:Int):=by
   rw[g2,ha.2.1,hb.2.1,<-hg];unfold Int.gcd;simp
  have gne:g≠[]:=by
   intro e;subst e;have:(0:Int)=(Int.gcd y x:Int):=hgv;omega
  refine Az (lP ha.1 g1 gne A4 A4) ?_;rintro⟨q1,r1⟩ ⟨⟨a1,_⟩,a2,_⟩;refine Az (lP hb.1 g1 gne A4 A4) ?_;rintro⟨q2,r2⟩ ⟨⟨b1,_⟩,b2,_⟩;dsimp only at a1 a2 b1 b2⊢;rw[hgv,ha.2.1] at a2;rw[hgv,hb.2.1,En] at b2;have auZ:(0:Int)<(Int.gcd y x:Int):=A4;have dvX:(Int.gcd y x:Int)∣y.sign*x:=Int.dvd_trans (Int.gcd_dvd_right _ _)<|Int.dvd_mul_left _ _
  have avA:q1.length<=80000:=Ca (a1.len (n:=a.2.length) (by
   rw[a2];have:=Ry (b:=(Int.gcd y x:Int)) (a:=((y.sign*x).natAbs:Int)) A4;have:=ha.lt;omega)) la
  have av9:q2.length<=80000:=Ca (b1.len (n:=b.2.length) (by
   rw[b2];have:=Ry (b:=(Int.gcd y x:Int)) (a:=(y.natAbs:Int)) A4;have:=hb.lt;rw[En] at this;omega)) lb
  have v1:(bif a.1 then -AI q1 else AI q1)=((x:Rat)/(y:Rat)).num:=by
   rw[en,a2,ha.2.2];exact al8 auZ dvX
  refine Az (Q1 a1.1 A4 v1) λs ⟨s1,s2⟩=>A5 (oO s1 A4) ?_
  have v2:AI q2=(((x:Rat)/(y:Rat)).den:Int):=by rw[ed,b2]
  have UW:=yc b1;have hnl:(Bo ((x:Rat)/(y:Rat)).num).length<=800000:=by
   have h1:=VV ((x:Rat)/(y:Rat)).num;have h2:=s1.lt;rw[Yx] at h2;by_cases hs0:s.2.length=0
   ·rw[hs0] at h2;have:((x:Rat)/(y:Rat)).num.natAbs<10:=AY;have:=LS 1 _ A4 (show _<10^1 by omega);omega
   ·have:=LS (9*s.2.length) ((x:Rat)/(y:Rat)).num.natAbs A4 A4;omega
  have hdl:(Am ((x:Rat)/(y:Rat)).den).length<=800000:=by
   have h2:=(F6 b1.1).2;rw[v2,Yx] at h2;by_cases hs0:q2.length=0
   ·rw[hs0] at h2;have hp:=((x:Rat)/(y:Rat)).den_pos;have:(10:Nat)^(9*0)=1:=rfl;omega
   ·have:=LS (9*q2.length) ((x:Rat)/(y:Rat)).den A4 A4;omega
  have aui:((x:Rat)/(y:Rat)).den=1->Bo ((x:Rat)/(y:Rat)).num=BL ((x:Rat)/(y:Rat)):=λh=>by
   unfold BL;rw[B0 h];simp
  have two:((x:Rat)/(y:Rat)).den≠1->Yd (λr=>r=BL ((x:Rat)/(y:Rat))) (bd (IN (Bo ((x:Rat)/(y:Rat)).num) ([47]:AB)) λC5=>bd (Km false q2) λCJ=>bd (T8 CJ) λCu=>bd (IN C5 Cu) λD7=>some D7):=λh=>by
   refine A5 (OE E8)<|Az (Q1 (b:=false) b1.1 A4 v2) λt ⟨t1,t2⟩=>A5 (oO t1 A4) ?_
   have e:Bo (((x:Rat)/(y:Rat)).den:Int)=Am ((x:Rat)/(y:Rat)).den:=by
    unfold Bo;rw[Bl A4];simp
   rw[e];refine A5 (OE E8)<|AU ?_
   unfold BL;rw[Bl h];simp
  by_cases hlen:(q2.length:Int)=1
  ·have hd:=B0 hlen;have g1':gd (decide<|(q2.length:Int)=1) true=true:=by rw[hd];rfl
   rw[CU g1'];refine A5 (Bc (n:=0) A4)<|Ad (λhc=>?_)<|λhc=>?_
   ·rw[Bx] at hc;have h1:=UW.1 ⟨hc.1,An hc.2⟩;exact AU<|aui A4
   ·grind
  ·have hd:=Bl hlen;have g1':gd (decide<|(q2.length:Int)=1) true=false:=by rw[hd];rfl
   rw[EP g1'];refine Ad (λhc=>by rw[hd,Tn] at hc;cases hc)<|λhc=>two λe=>?_
   have h1:=UW.2 (by rw[v2,e];rfl);exact hlen<|An h1.1
 ·have hn:y<0:=by
   rw[hq.2.2] at hd;exact An hd
  refine Az (xN hp A4) λa ⟨ha,la⟩=>Az (xN hq A4) λb ⟨hb,lb⟩=>hk _ ⟨?_,?_,Au,Au⟩
  ·grind
  ·grind
 ·have hn: ¬y<0:=by
   rw[hq.2.2] at hd;exact BQ hd
  refine hk _ ⟨?_,?_,hl,hm⟩
  ·grind
  ·grind
def bq(q:Rat)(n:Nat):Prop:=q.num.natAbs<10^n/\q.den<10^n
theorem bq.mono(h:bq q m)(hn:m<=n):bq q n:=by induction n<;>grind [bq]
def UD{x y:Int}(h0:y≠0):((x:Rat)/(y:Rat)).num.natAbs<=x.natAbs/\((x:Rat)/(y:Rat)).den<=y.natAbs:=by
 have en:((x:Rat)/(y:Rat)).num=(y.sign*x)/(Int.gcd y x:Int):=by rw[<-OL,gL]
 have ed:((x:Rat)/(y:Rat)).den=y.natAbs/(Int.gcd y x):=by
  rw[<-OL,gK,if_neg h0]
 have hg0:0<Int.gcd y x:=iE _ h0;refine⟨?_,by rw[ed];exact Nat.div_le_self _ _⟩;rw[en];have hX:(y.sign*x).natAbs=x.natAbs:=by
  rw[JS];rcases OM y 0 with h|h|h
  ·rw[PY h];simp
  ·exact absurd h h0
  ·rw[OY h];simp
 have dvX:(Int.gcd y x:Int)∣y.sign*x:=Int.dvd_trans (Int.gcd_dvd_right _ _)<|Int.dvd_mul_left _ _
 rw[Int.natAbs_ediv_of_dvd dvX,hX,En];exact Nat.div_le_self _ _
theorem abF(h:bq x n):bq (-x) n:=by simp_all [bq]
def aA(h:bq q n)(hn:0<n):(Am q.num.natAbs).length<=n/\(Am q.den).length<=n:=⟨LS n _ hn h.1,LS n _ hn h.2⟩
def FB.bl(h:FB p z)(hz:z.natAbs<10^n):p.2.length<=n:=by
 refine h.len ?_;rw[Yx];have:=KN (show 0<10 by omega) (show n<=9*n by omega);omega
def TV(h:bq q n)(hn:0<n)(hm:n<=19000):Yd (λp=>(FB p.1 q.num/\FB p.2 (q.den:Int))/\p.1.2.length<=n/\p.2.2.length<=n) (N4<|BL q):=by
 have hl:=aA h hn;refine(aid A4 A4).imp λp ⟨⟨p1,p2⟩,_,_⟩=>⟨⟨p1,p2⟩,p1.bl h.1,p2.bl (by rw[En];exact h.2)⟩
def w6(z:Int)(t:AB):∃c r,Bo z++t=c::r/\((c.toNat:Int)=45↔z<0)/\(c=45->r=Am z.natAbs++t)/\(z<0->r=Am z.natAbs++t):=by
 unfold Bo;cases hc:decide (z<0) with
 |true=>
  have:=An hc;exact⟨45,Am z.natAbs++t,rfl,⟨λ_=>this,λ_=>rfl⟩,λ_=>rfl,λ_=>rfl⟩
 |false=>
  have hz:=BQ hc;have hd:=(Kr z.natAbs).1;obtain⟨d,l,e⟩:∃d l,Am z.natAbs=d::l:=by
   cases h:Am z.natAbs with
   |nil=>exact absurd h<|aaA _
   |cons d l=>exact⟨d,l,rfl⟩
  have hb:=fD (DZ.1 hd d (by rw[e];simp));refine⟨d,l++t,by show Am z.natAbs++t=_;rw[e];rfl,⟨λh=>by omega,λh=>absurd h hz⟩,λh=>?_,λh=>absurd h hz⟩;subst h;exact absurd hb.1 dcZ
def Ya(n:Nat):∀x∈Am n,x≠47:=λx hx e=>by
 subst e;have:=DZ.1 (Kr n).1 _ hx;simp[Dr] at this
def DO(q:Rat):AB:=bif decide (q.den=1) then [] else 47::Am q.den
def eT(h:bq q n)(hn:0<n)(hm:n<=19000):Yd (λr=>r.2.2=false\/(r=(q.num,(q.den:Int),true)/\q.num.natAbs<1000000000/\q.den<1000000000)) (T4<|BL q):=by
 have hl:=aA h hn;obtain⟨c,r,e,IZ,hr,Ke⟩:=w6 q.num<|DO q
 have et:BL q=c::r:=e;have hlr:r.length<=38002:=by
  have h1:=congrArg List.length e;have h2:=VV q.num;have h3:(DO q).length<=n+1:=by
   unfold DO;cases decide (q.den=1)
   ·simp;omega
   ·simp
  simp only[ED,Dj] at h1;omega
 unfold T4;rw[et];refine Ad (λ_=>AU<| .inl rfl)<|λ_=>?_
 have g1:gd (decide<|(0:Int)<((c::r).length:Int)) true=true:=by rw[B0 (by simp only[Dj];omega)];rfl
 rw[CU g1];refine A5 (x:=c) rfl ?_;have hb:((decide<|(0:Int)<((c::r).length:Int))&&(decide<|(c.toNat:Int)=(45:Int)))=decide (q.num<0):=by
  rw[B0 (show(0:Int)<((c::r).length:Int) by simp only[Dj];omega),KL];exact Gf.2 IZ
 rw[hb];refine Du (λs=>s=Am q.num.natAbs++DO q) ?_<|λk hk=>Ad (λhc=>?_)<|λhc=>?_
 ·rintro s rfl;have hsl:LM (Am q.num.natAbs++DO q)=some ((Am q.num.natAbs).length:Int):=by
   unfold DO;cases hd:decide (q.den=1)
   ·exact fH (Ya _) E8
   ·rw[Bf,J6];exact oI (Ya _) A4
  have hlen:(Am q.num.natAbs++DO q).length=(Am q.num.natAbs).length+(DO q).length:=AS;have Jf:(DO q).length<=n+1:=by
   unfold DO;cases decide (q.den=1)
   ·simp;omega
   ·simp
  refine A5 hsl ?_;have rest:(Am q.num.natAbs).length<=9->(DO q).length<=10->Yd (λr=>r.2.2=false\/(r=(q.num,(q.den:Int),true)/\q.num.natAbs<1000000000/\q.den<1000000000))
   (bd (C2 (Am q.num.natAbs++DO q) 0 ((Am q.num.natAbs).length:Int)) λBj=>
    bd (O2 Bj) λBW=>
    jn (λ(DL:Int)=>
     jn (λ(Dh:Int)=>
      some (Dh,DL,true)
     ) λMT=>
     cond (decide<|q.num<0) (
      bd (AG<|(0:Int)-BW) λEE=>
      MT EE
     ) (
      MT BW
     )
    ) λNu=>
    cond (decide<|((Am q.num.natAbs).length:Int)<((Am q.num.natAbs++DO q).length:Int)) (
     bd (AG<|((Am q.num.natAbs).length:Int)+(1:Int)) λC5=>
     bd (C2 (Am q.num.natAbs++DO q) C5 ((Am q.num.natAbs++DO q).length:Int)) λCJ=>
     bd (O2 CJ) λCu=>
     Nu Cu
    ) (
     Nu (1:Int)
    )):=by
   intro h9 BS;have hN:q.num.natAbs<1000000000:=iJ h9;have es:C2 (Am q.num.natAbs++DO q) 0 ((Am q.num.natAbs).length:Int)=some (Am q.num.natAbs):=by
    rw[EW A4 A4 A4];simp
   have hv:=eS (Kr q.num.natAbs).1 A4;rw[(Kr _).2] at hv;refine A5 es<|A5 hv ?_
   refine Du (λd=>d=(q.den:Int)/\q.den<1000000000) ?_<|λk hk=>Ad (λhc=>?_)<|λhc=>?_
   ·rintro d ⟨rfl,hD⟩;refine Du (λz=>z=q.num) (λz hz=>by subst hz;exact AU<| .inr ⟨rfl,hN,hD⟩)<|λk hk=>Ad (λhc=>?_)<|λhc=>?_
    ·have hc:=An hc;exact A5 BC<|hk _ A4
    ·have hc:=BQ hc;exact hk _ A4
   ·have hc:=An hc;have hd:decide (q.den=1)=false:=by
     cases hd:decide (q.den=1) with
     |false=>rfl
     |true=>
      unfold DO at hlen hc;rw[hd] at hlen hc;simp at hc
    have etl:DO q=47::Am q.den:=by unfold DO;rw[hd];rfl
    rw[etl,Dj] at BS;have eu:C2 (Am q.num.natAbs++DO q) (((Am q.num.natAbs).length:Int)+1) ((Am q.num.natAbs++DO q).length:Int)=some (Am q.den):=by
     rw[EW A4 A4 A4,Ch,Cd<|BM _,show(((Am q.num.natAbs).length:Int)+1).toNat=(Am q.num.natAbs).length+1 by omega,<-FW,etl];simp
    have hw:=eS (Kr q.den).1 A4;rw[(Kr _).2] at hw;exact A5 BC<|A5 eu<|A5 hw<|hk _ ⟨rfl,iJ (k:=9) A4⟩
   ·have hc:=BQ hc;have hd:q.den=1:=by
     cases hd:decide (q.den=1) with
     |true=>exact An hd
     |false=>
      unfold DO at hlen hc;rw[hd] at hlen hc;simp at hc;omega
    exact hk _ ⟨by rw[hd];rfl,A4⟩
  by_cases hx:(9:Int)<((Am q.num.natAbs).length:Int)
  ·have hd:=B0 hx;have g2:gd (decide<|(9:Int)<((Am q.num.natAbs).length:Int)) false=false:=by rw[hd];rfl
   rw[EP g2];exact Ad (λ_=>AU<| .inl rfl) (λh=>by rw[hd,Vx] at h;cases h)
  ·have hd:=Bl hx;have g2:gd (decide<|(9:Int)<((Am q.num.natAbs).length:Int)) false=true:=by rw[hd];rfl
   rw[CU g2];refine A5 BC<|Ad (λ_=>AU<| .inl rfl)<|λh=>?_
   rw[hd,Tl] at h;have h:=BQ h;exact rest A4 A4
 ·have hc:=An hc;have es:C2 (c::r) (1:Int) ((c::r).length:Int)=some r:=by
   rw[EW A4 (by simp only[Dj];omega) A4,Ch,Cd<|BM _];rfl
  exact A5 es<|hk _<|Ke hc
 ·have hc:=BQ hc;refine hk _ ?_;rw[<-e];unfold Bo;rw[Bl hc];rfl
theorem qk(z:Int):mx_ z (0-z)=(z.natAbs:Int):=by grind [mx_]
def aa8{x g:Int}(hg:0<g)(hd:g∣x)(hx: -9000000000000000000<=x/\x<=9000000000000000000):Gi x g=some (x/g):=by
 unfold Gi;rw[Bl A4,Int.tdiv_eq_ediv_of_dvd hd];obtain⟨k,rfl⟩:=hd;rw[Int.mul_ediv_cancel_left _ A4];refine EZ ⟨?_,?_⟩
 ·rcases(show 0<=k\/k<0 by omega) with h|h
  ·omega
  ·have:g*k<=1*k:=Int.mul_le_mul_of_nonpos_right A4 A4;omega
 ·rcases(show 0<=k\/k<0 by omega) with h|h
  ·have:1*k<=g*k:=MH A4 h;omega
  ·omega
def acY(h:n<=9000000000000000000):N1 (n:Int) 1=some (Am n):=by
 have:=mI (k:=1) h A4;rw[pS<|Yo _] at this;exact this
theorem aad{a b:Int}(ha: -4000000000000000000<=a/\a<=4000000000000000000)(hb:0<b/\b<=4000000000000000000):YQ a b=some (BL<|(a:Rat)/(b:Rat)):=by
 refine G5 ?_;unfold YQ;have h0:b≠0:=A4;have en:((a:Rat)/(b:Rat)).num=a/(Int.gcd b a:Int):=by
  rw[<-OL,gL,OY hb.1,Ho]
 have ed:(((a:Rat)/(b:Rat)).den:Int)=b/(Int.gcd b a:Int):=by
  rw[<-OL,gK,if_neg h0];have:(b.natAbs:Int)=b:=A4
  conv=>rhs;rw[<-this]
  rfl
 have hg0:0<Int.gcd b a:=iE _ h0;refine Ad (λhc=>?_)<|λ_=>?_
 ·grind
 refine Du (λs:Int×Int=>s=(a,b)) ?_ (λk hk=>Ad (λhc=>by have:=An hc;omega)<|λ_=>hk _ rfl);rintro s rfl;dsimp only;have atH:YJ (mx_ a<|0-a) b=some (Int.gcd b a:Int):=by
  rw[qk,am4 ⟨A4,A4⟩ ⟨A4,hb.2⟩]
  congr 2
  unfold Int.gcd;rw[En,Rt]
 have d1:(Int.gcd b a:Int)∣a:=Int.gcd_dvd_right _ _;have d2:(Int.gcd b a:Int)∣b:=Int.gcd_dvd_left _ _;refine A5 BC<|A5 atH<|A5 (aa8 A4 d1 A4)<|A5 (aa8 A4 d2 A4) ?_
 rw[<-en,<-ed];have hle:=UD (x:=a) (y:=b) h0
 generalize hz:((a:Rat)/(b:Rat))=q at*
 have hN:q.num.natAbs<=4000000000000000000:=A4;have hD:q.den<=4000000000000000000:=A4;have hD0:=q.den_pos;have acQ:N1 (mx_ q.num<|0-q.num) 1=some (Am q.num.natAbs):=by
  rw[qk,acY A4]
 have arC:N1 (q.den:Int) 1=some (Am q.den):=by
  exact acY A4
 have hl1:=LS 19 q.num.natAbs A4 A4;have hl2:=LS 19 q.den A4 A4;refine Du (λs:AB=>s=bif decide (q.num<0) then [45] else []) ?_ (λk hk=>Ad (λhc=>hk _ (by rw[hc];rfl)) (λhc=>hk _ (by rw[hc];rfl)));intro s hs;have hsl:s.length<=1:=AY;have est:s++Am q.num.natAbs=Bo q.num:=by
  rw[hs];unfold Bo;cases decide (q.num<0)<;>rfl
 refine A5 BC<|A5 acQ<|A5 (OE A4) ?_
 rw[est];have Jf:=VV q.num;refine Du (λs=>s=BL q) (λs hs=>by subst hs;exact AU rfl)<|λk hk=>Ad (λhc=>?_)<|λhc=>?_
 ·have hc:=An hc;refine A5 (OE E8)<|A5 arC<|A5 (OE E8)<|hk _ ?_
  unfold BL;rw[Bl (show¬q.den=1 by omega)];simp
 ·have hc:=BQ hc;refine hk _ ?_;unfold BL;rw[B0 (show q.den=1 by omega)];simp
theorem am7(hx:bq x m)(hy:bq y n)(hm:0<m/\m<=19000)(hn:0<n/\n<=19000):JN (BL x) (BL y)=some (BL<|x*y):=by
 refine G5 ?_;unfold JN;refine Az (eT hx hm.1 hm.2) λr hr=>Az (eT hy hn.1 hn.2) λs hs=>Ad (λhc=>?_)<|λ_=>?_
 ·obtain⟨c1,c2⟩:=EH hc;obtain⟨rfl,a1,a2⟩:r=(x.num,(x.den:Int),true)/\_/\_:=by rcases hr with h|h;rw[h] at c1;cases c1;exact h
  obtain⟨rfl,b1,b2⟩:s=(y.num,(y.den:Int),true)/\_/\_:=by rcases hs with h|h;rw[h] at c2;cases c2;exact h
  dsimp only;have p1:(x.num*y.num).natAbs<=999999999*999999999:=by rw[JS];exact GB A4 A4
  have p2:x.den*y.den<=999999999*999999999:=GB A4 A4;have p3:0<x.den*y.den:=Nat.mul_pos x.den_pos y.den_pos;have e:((x.den:Int)*(y.den:Int))=((x.den*y.den:Nat):Int):=AY;have hOf:=aad (a:=x.num*y.num) (b:=(x.den:Int)*(y.den:Int)) A4 (by rw[e];omega);rw[Yv] at hOf;exact A5 BC (A5 (EZ ⟨by rw[e];omega,by rw[e];omega⟩)<|A5 hOf<|AU rfl)
 ·refine Az (TV hx hm.1 hm.2) ?_;rintro⟨p1,p2⟩ ⟨⟨a1,a2⟩,a3,a4⟩;refine Az (TV hy hn.1 hn.2) ?_;rintro⟨q1,q2⟩ ⟨⟨b1,b2⟩,b3,b4⟩;dsimp only at*;refine Az (YV a1 b1 A4 A4) λu ⟨u1,u2⟩=>Az (YV a2 b2 A4 A4) λv ⟨v1,v2⟩=>?_
  have hf:=mB u1 v1 (Rv (L4 x)<|L4 y) A4 A4;rw[Yv] at hf;exact A5 hf<|AU rfl
theorem zS(hx:bq x m)(hy:bq y n)(hm:0<m/\m<=19000)(hn:0<n/\n<=19000):O6 (BL x) (BL y)=some (BL<|x+y):=by
 refine G5 ?_;unfold O6;refine Az (eT hx hm.1 hm.2) λr hr=>Az (eT hy hn.1 hn.2) λs hs=>Ad (λhc=>?_)<|λ_=>?_
 ·obtain⟨c1,c2⟩:=EH hc;obtain⟨rfl,a1,a2⟩:r=(x.num,(x.den:Int),true)/\_/\_:=by rcases hr with h|h;rw[h] at c1;cases c1;exact h
  obtain⟨rfl,b1,b2⟩:s=(y.num,(y.den:Int),true)/\_/\_:=by rcases hs with h|h;rw[h] at c2;cases c2;exact h
  dsimp only;have p1:(x.num*y.den).natAbs<=999999999*999999999:=by rw[JS,En];exact GB A4 A4
  have p1':(y.num*x.den).natAbs<=999999999*999999999:=by rw[JS,En];exact GB A4 A4
  have p2:x.den*y.den<=999999999*999999999:=GB A4 A4;have p3:0<x.den*y.den:=Nat.mul_pos x.den_pos y.den_pos;have e:((x.den:Int)*(y.den:Int))=((x.den*y.den:Nat):Int):=AY;have hOf:=aad (a:=x.num*y.den+y.num*x.den) (b:=(x.den:Int)*(y.den:Int)) A4 (by rw[e];omega);rw[Yw] at hOf;exact A5 BC (A5 BC (A5 BC (A5 (EZ ⟨by rw[e];omega,by rw[e];omega⟩)<|A5 hOf<|AU rfl)))
 ·refine Az (TV hx hm.1 hm.2) ?_;rintro⟨p1,p2⟩ ⟨⟨a1,a2⟩,a3,a4⟩;refine Az (TV hy hn.1 hn.2) ?_;rintro⟨q1,q2⟩ ⟨⟨b1,b2⟩,b3,b4⟩;dsimp only at*;refine Az (YV a1 b2 A4 A4) λu ⟨u1,u2⟩=>Az (YV b1 a2 A4 A4) λv ⟨v1,v2⟩=>Az (ajx u1 v1 A4 A4) λw ⟨w1,w2⟩=>Az (YV a2 b2 A4 A4) λt ⟨t1,t2⟩=>?_
  have hf:=mB w1 t1 (Rv (L4 x)<|L4 y) A4 A4;rw[Yw] at hf;exact A5 hf<|AU rfl
def vw:BL 0=[48]:=A6
def YS(q:Rat)(hl:(BL q).length<1000000):(BL q==([48]:AB))=decide (q=0):=by
 by_cases h:q=0
 ·subst h;rw[vw];rfl
 ·rw[Bl h];rw[PN];intro e;apply h;have hn:=mY q.num;unfold BL at e;cases hd:decide (q.den=1) with
  |true=>
   rw[hd] at e;have e:Bo q.num=[48]:=by simpa using e
   unfold Bo at e;cases hc:decide (q.num<0) with
   |true=>rw[hc] at e;have e:45::Am q.num.natAbs=[48]:=e;cases e
   |false=>
    rw[hc] at e;have e:Am q.num.natAbs=[48]:=e;have hv:=(Kr q.num.natAbs).2;rw[e] at hv;have:q.num=0:=by
     have:BR [48]=0:=rfl;omega
    exact NK.1 this
  |false=>
   rw[hd] at e;have e:Bo q.num++47::Am q.den=[48]:=e;have:=congrArg List.length e;simp at this;have h2:=Yo q.den;omega
theorem yL(hl:(BL q).length<1000000):Jk (BL q)=some (bif decide (q=0) then 0 else bif decide (q.num<0) then -1 else 1):=by
 obtain⟨c,r,e,IZ,_,_⟩:=w6 q.num<|DO q
 have et:BL q=c::r:=e;unfold Jk;rw[YS q hl];cases hz:decide (q=0) with
 |true=>rfl
 |false=>
  show Aq _ _ _ _=_;rw[et];have g1:gd (decide<|(0:Int)<((c::r).length:Int)) true=true:=by rw[B0 (by simp only[Dj];omega)];rfl
  rw[CU g1];show cond ((decide<|(0:Int)<((c::r).length:Int))&&(decide<|(c.toNat:Int)=(45:Int))) _ _=_;have hb:((decide<|(0:Int)<((c::r).length:Int))&&(decide<|(c.toNat:Int)=(45:Int)))=decide (q.num<0):=AY;rw[hb];cases decide (q.num<0)<;>rfl
def nR(h:bq q n)(hn:0<n):(BL q).length<=2*n+2:=by
 have hl:=aA h hn;have h2:=VV q.num;unfold BL;cases decide (q.den=1)
 ·simp;omega
 ·simp;omega
def am6(h:bq q n)(hn:0<n/\n<=19000):TC (BL q)=some (BL<| -q):=by
 have hlen:=nR h hn.1;have hs:=yL (q:=q) A4;unfold TC;rw[hs];have ed:(-q).den=q.den:=Rat.neg_den q;have en:(-q).num= -q.num:=Rat.neg_num q;cases hz:decide (q=0) with
 |true=>
  have hz:=An hz;subst hz
  rfl
 |false=>
  have hz:=BQ hz;have hnz:q.num≠0:=λe=>hz<|NK.1 e
  cases hc:decide (q.num<0) with
  |true=>
   have EU:=An hc;have et:BL q=45::(Am q.num.natAbs++DO q):=by
    show Bo q.num++DO q=_;unfold Bo;rw[hc];rfl
   have e2:BL (-q)=Am q.num.natAbs++DO q:=by
    show Bo (-q).num++(bif decide ((-q).den=1) then [] else 47::Am (-q).den)=_;rw[en,ed];unfold Bo;rw[Bl A4,Tm];rfl
   show bd (C2 (BL q) 1 ((BL q).length:Int)) (λx4=>some x4)=_;rw[e2,et,EW A4 (by simp only[Dj];omega) A4,Ch,Cd<|BM _];rfl
  |false=>
   have EU:=BQ hc;have et:BL q=Am q.num.natAbs++DO q:=by
    show Bo q.num++DO q=_;unfold Bo;rw[hc];rfl
   have e2:BL (-q)=45::(Am q.num.natAbs++DO q):=by
    show Bo (-q).num++(bif decide ((-q).den=1) then [] else 47::Am (-q).den)=_;rw[en,ed];unfold Bo;rw[B0 (show -q.num<0 by omega),Tm];rfl
   show bd (IN ([45]:AB)<|BL q) (λx9=>some x9)=_;rw[OE E8,e2,et];rfl
def am5(hx:bq x m)(hy:bq y n)(hm:0<m/\m<=19000)(hn:0<n/\n<=19000):Ly (BL x) (BL y)=some (BL<|x-y):=by
 unfold Ly;rw[am6 hy hn];show bd (O6 (BL x)<|BL<| -y) (λx3=>some x3)=_;rw[zS hx (abF hy) hm hn,gZ];rfl
def pP(x:Rat):((x.den:Int):Rat)/(x.num:Rat)=x⁻¹ :=by
 rw[Rat.inv_def,OL]
def yr{e:Bool}(hl:l.length<1099511627776):lp 18446744073709551616 (λ(k2:Int->A9 Bool) (s1:Int)=>
  cond (decide<|s1<(l.length:Int)) (
   bd (AA l s1) λx4=>
   Aq (gd (decide<|(x4.toNat:Int)<(48:Int)) false) (0) (AA l s1) λx6=>
   cond (((decide<|(x4.toNat:Int)<(48:Int))||(decide<|(57:Int)<(x6.toNat:Int)))) (
    some false
   ) (
    bd (AG<|s1+(1:Int)) λx9=>
    k2 x9
   )
  ) (
   some e
  )
 ) (0:Int)=some (l.all Dr&&e):=by
 have key:Yd (λr=>r=(l.all Dr&&e)) (lp 18446744073709551616 (λ(k2:Int->A9 Bool) (s1:Int)=>
  cond (decide<|s1<(l.length:Int)) (
   bd (AA l s1) λx4=>
   Aq (gd (decide<|(x4.toNat:Int)<(48:Int)) false) (0) (AA l s1) λx6=>
   cond (((decide<|(x4.toNat:Int)<(48:Int))||(decide<|(57:Int)<(x6.toNat:Int)))) (
    some false
   ) (
    bd (AG<|s1+(1:Int)) λx9=>
    k2 x9
   )
  ) (
   some e
  )
 ) (0:Int)):=by
  refine Ea (λi:Int=>0<=i/\i<=l.length/\(l.take i.toNat).all Dr=true) (λi=>l.length-i.toNat) ?_ _ _ ⟨A4,A4,AS⟩ A4;rintro next i ⟨g1,g2,g3⟩ hn
  obtain⟨n,rfl⟩:=F8 g1;rw[Ch] at g3;refine Ad (λhc=>?_)<|λhc=>?_
  ·have hc:=An hc;have hlt:n<l.length:=A4;have hg:AA l (n:Int)=some l[n]:=Gy hlt;refine A5 hg ?_;have bad:Dr l[n]=false->(l.all Dr&&e)=false:=λh=>by
    have:l.all Dr=false:=by
     cases ha:l.all Dr with
     |false=>rfl
     |true=>rw[DZ.1 ha _<|L0 hlt] at h;cases h
    rw[this];rfl
   by_cases LK:(l[n].toNat:Int)<48
   ·have hd:=B0 LK;have g:gd (decide<|(l[n].toNat:Int)<48) false=false:=by rw[hd];rfl
    rw[EP g];refine Ad (λ_=>AU ?_) (λh=>by rw[hd,Vx] at h;cases h);rw[bad];unfold Dr;rw[show Nat.ble 48 l[n].toNat=false from by
     cases hb:Nat.ble 48 l[n].toNat with
     |false=>rfl
     |true=>have:=F1 hb;omega];rfl
   ·have hd:=Bl LK;have g:gd (decide<|(l[n].toNat:Int)<48) false=true:=by rw[hd];rfl
    rw[CU g];refine A5 hg<|Ad (λh=>?_)<|λh=>?_
    ·rw[hd,Tl] at h;have h:=An h;refine AU ?_;rw[bad];unfold Dr;rw[show Nat.ble l[n].toNat 57=false from by
      cases hb:Nat.ble l[n].toNat 57 with
      |false=>rfl
      |true=>have:=F1 hb;omega,gM]
    ·rw[hd,Tl] at h;have h:=BQ h;refine A5 BC<|hn _ ⟨A4,A4,?_⟩ A4
     rw[show(((n:Nat):Int)+1).toNat=n+1 by omega,List.take_succ,Gy hlt,gR,g3];simp only[Option.toList_some,OI,List.all_nil,gI,KL];unfold Dr;rw[IE A4,IE A4];rfl
  ·have hc:=BQ hc;have:n=l.length:=A4;subst this;rw[Cd<|BM _] at g3;refine AU ?_;rw[g3];rfl
 obtain⟨r,e,rfl⟩:=key;exact e
def GX(l:AB):Bool:=l.all Dr&&(!(l==[])&&(l==[48]|| !(l.head?==some 48)))
def u7(hl:l.length<1099511627776):XO l=some (GX l):=by
 have hd:c8 l=some (l.all Dr):=by
  unfold c8;rw[yr hl,gI]
 unfold XO;rw[hd]
 match l,hl with
 |[],_=>rfl
 |[x],_=>
  show some ([x].all Dr)=_;unfold GX;by_cases h:x=48
  ·subst h;rfl
  ·have e1:([x]==([]:AB))=false:=rfl;have e2:([x].head?==some (48:UInt8))=false:=by simpa using h
   rw[e1,e2];simp
 |x::y::r,hl=>
  have g:(gd (decide<|((x::y::r).length:Int)=(0:Int)) false&&gd (decide<|(1:Int)<((x::y::r).length:Int)) true)=true:=by
   rw[Bl (by simp only[Dj];omega),B0 (by simp only[Dj];omega)];rfl
  rw[CU g];show cond ((decide<|((x::y::r).length:Int)=(0:Int))||((decide<|(1:Int)<((x::y::r).length:Int))&&(decide<|(x.toNat:Int)=(48:Int)))) _ _=_;rw[Bl (show¬((x::y::r).length:Int)=0 by simp only[Dj];omega),B0 (show(1:Int)<((x::y::r).length:Int) by simp only[Dj];omega),Tl,KL];unfold GX;have e1:((x::y::r)==([]:AB))=false:=rfl;have e3:((x::y::r)==([48]:AB))=false:=by
   rw[PN];intro e;cases e
  have e2:((x::y::r).head?==some (48:UInt8))=decide ((x.toNat:Int)=48):=by
   show(some x==some (48:UInt8))=_;by_cases h:x=48
   ·subst h;rfl
   ·rw[Bl (λh'=>h (gQ.1 (by show _=48;omega)))];rw[PN];intro e;exact h<|E5 e
  rw[e1,e2,e3];cases decide ((x.toNat:Int)=48)
  ·show some _=some _;simp
  ·show some _=some _;simp
def vQ(hl:l.length<1099511627776):Sx l=some (GX l):=by
 have hd:c6 l=some (l.all Dr&& !(l==[])):=by
  unfold c6;rw[yr hl]
 unfold Sx;rw[hd];show Aq _ _ _ _=_;unfold GX
 match l with
 |[]=>rfl
 |x::r=>
  have e1:((x::r)==([]:AB))=false:=rfl;have e2:((x::r).head?==some (48:UInt8))=decide ((x.toNat:Int)=48):=by
   show(some x==some (48:UInt8))=_;by_cases h:x=48
   ·subst h;rfl
   ·rw[Bl (λh'=>h (gQ.1 (by show _=48;omega)))];rw[PN];intro e;exact h<|E5 e
  rw[e1,e2];have i0:AA (x::r) (0:Int)=some x:=rfl;rw[i0];cases(x::r).all Dr
  ·rfl
  ·cases((x::r)==([48]:AB))<;>rfl
def og:∀(n:Nat) (l:AB),l.length=n->GX l=true->l=Am (BR l)
 |0,l,hl,h=>by
  have:l=[]:=Js hl;subst this;cases h
 |n+1,l,hl,h=>by
  have hne:l≠[]:=by intro e;subst e;simp at hl
  obtain⟨h1,h2⟩:=EH h;obtain⟨h3,h4⟩:=EH h2;have hx:=List.dropLast_concat_getLast hne
  generalize hi:l.dropLast=i at hx
  generalize l.getLast hne=d at hx
  subst hx;rw[gR] at h1;obtain⟨hi1,hd1⟩:=EH h1;have hd:Dr d=true:=by simpa using hd1
  have hdr:=fD hd;have ed:UInt8.ofNat (48+(d.toNat-48))=d:=by
   rw[show 48+(d.toNat-48)=d.toNat by omega];simp
  have ev:BR [d]=d.toNat-48:=by simp[BR]
  rw[YF,ev,Ij,Nat.pow_one];by_cases h0:i=[]
  ·subst h0;rw[show BR ([]:AB)=0 from rfl,gH,PH,OD A4,ed];rfl
  ·have sN: ¬(i.head?=some 48):=λe=>by
    have e2:(i++[d]).head?=some 48:=by rw[List.head?_append,e];rfl
    rw[e2] at h4;have e3:((i++[d])==[48])=false:=by
     rw[PN];intro e;have:=congrArg List.length e;simp at this;exact h0 this
    rw[e3] at h4;cases h4
   have hid:GX i=true:=by
    unfold GX;rw[hi1];have e1:(i==([]:AB))=false:=by rw[PN];exact h0
    have e2:(i.head?==some (48:UInt8))=false:=by rw[PN];exact sN
    rw[e1,e2];simp
   have hln:i.length=n:=by simpa using hl
   have ih:=og n i hln hid;have hpos:0<BR i:=by
    rcases L2 (BR i) with e|e
    ·rw[e] at ih;rw[ih] at sN;exact absurd rfl sN
    ·exact e
   rw[RZ A4,show(BR i*10+(d.toNat-48))/10=BR i by omega,show(BR i*10+(d.toNat-48))%10=d.toNat-48 by omega,<-ih,ed]
def sp:AB->AB×AB×Bool
 |[]=>([],[],false)
 |b::l=>bif b==47 then([],l,true) else(b::(sp l).1,(sp l).2.1,(sp l).2.2)
def oi:∀(s pre:AB),cutAt 47 pre s=(pre.reverse++(sp s).1,(sp s).2.1,(sp s).2.2)
 |[],pre=>by simp[cutAt,sp]
 |b::l,pre=>by
  unfold cutAt sp;cases h:b==47
  ·rw[B8,B8,oi l];simp
  ·simp
def j4:∀(s:AB),s=(sp s).1++(bif (sp s).2.2 then 47::(sp s).2.1 else [])/\(∀x∈(sp s).1,x≠47)/\((sp s).2.2=false->(sp s).2.1=[])
 |[]=>⟨rfl,by simp[sp],λ_=>rfl⟩
 |b::l=>by
  obtain⟨h1,h2,h3⟩:=j4 l;unfold sp;cases h:b==47
  ·rw[B8];dsimp only;refine⟨by(conv=>lhs;rw[h1]);rfl,λx hx=>?_,h3⟩;rcases Ai.1 hx with e|hx
   ·subst e;simpa using h
   ·exact h2 x hx
  ·have:b=47:=by simpa using h
   subst this;exact⟨rfl,AS,λh=>by cases h⟩
def Hv(neg:Bool)(u t:AB)(fd:Bool):Int:=
 bif ((!GX u)||(neg&&(u==([48]:AB))))||(fd&&(((!GX t)||(t==([48]:AB)))||(t==([49]:AB)))) then 1
 else bif fd&& !decide (Nat.gcd (BR u) (BR t)=1) then 1 else 0
theorem VZ(h:GX l=true):l.all Dr=true/\l≠[]:=by grind [GX,Dr]
def Vb(h:l.all Dr=true)(hl:l.length<1000000):Hw l=some (BR l:Int):=by
 unfold Hw;split
 ·rename_i ds;have:=DZ.1 h 45 AS;cases this
 ·rw[h,show Nat.blt l.length 1000000=true from IE hl];rfl
def xu(h:l.all Dr=true)(hl:l.length<1000000):Hw (45::l)=some (-(BR l:Int)):=by
 show EV (l.all Dr&&Nat.blt l.length 1000000) (-(BR l:Int))=_;rw[h,show Nat.blt l.length 1000000=true from IE hl];rfl
def xC(h:z.natAbs<10^14):Cn z=true:=NC h A4
def oh(hl:core.length<=1000):j6 (bif neg then 45::core else core) [47]=some ((bif neg then 45::(sp core).1 else(sp core).1),(sp core).2.1,(sp core).2.2):=by
 cases neg
 ·show EV (Nat.blt core.length 4294967281) (cutAt 47 [] core)=_;rw[show Nat.blt core.length 4294967281=true from IE A4,oi];rfl
 ·show EV (Nat.blt (45::core).length 4294967281) (cutAt 47 [] (45::core))=_;rw[show Nat.blt (45::core).length 4294967281=true from IE (by simp only[Dj];omega),oi];rfl
def mK:Nx (45::u) [45]=some true:=by
 have e:C2 (45::u) 0 (([45]:AB).length:Int)=some [45]:=by rw[EW A4 AS E8];rfl
 have hd:decide ((([45]:AB).length:Int)<=((45::u).length:Int))=true:=B0 E8;have g:gd (decide<|(([45]:AB).length:Int)<=((45::u).length:Int)) true=true:=by rw[hd];rfl
 unfold Nx;rw[CU g,e];show some (_&&_)=_;rw[hd];rfl
def ah3:R3 (45::u) [45]=some (u,true):=by
 have e2:C2 (45::u) (([45]:AB).length:Int) ((45::u).length:Int)=some u:=by
  rw[EW AS E8 A4];simp
 unfold R3 bI;rw[mK];show bd (bd (C2 (45::u) (([45]:AB).length:Int) ((45::u).length:Int)) _) _=_;rw[e2];rfl
def n9(h:u.head?≠some 45):Nx u [45]=some false:=by
 unfold Nx
 match u,h with
 |[],_=>rfl
 |x::r,h=>
  have e:C2 (x::r) 0 (([45]:AB).length:Int)=some [x]:=by rw[EW A4 AS E8];rfl
  have hd:decide ((([45]:AB).length:Int)<=((x::r).length:Int))=true:=B0 E8;have g:gd (decide<|(([45]:AB).length:Int)<=((x::r).length:Int)) true=true:=by rw[hd];rfl
  rw[CU g,e];show some (_&&_)=_;have:([x]==([45]:AB))=false:=by
   rw[PN];intro e;have e:x=45:=by simpa using e
   subst e;exact h rfl
  rw[this,gM]
def ah2(h:u.head?≠some 45):R3 u [45]=some (u,false):=by
 unfold R3 bI;rw[n9 h];rfl
def D4{α ρ:Type}(x:α)(K:α->A9 ρ):bd (some x) K=K x:=rfl
def agD(hl:core.length<=14)(IZ:neg=false->core.head?≠some 45):Sy (bif neg then 45::core else core)=some (Hv neg (sp core).1 (sp core).2.1 (sp core).2.2):=by
 obtain⟨q1,q2,q3⟩:=j4 core;have hlen:=congrArg List.length q1;rw[ED] at hlen;unfold Sy;rw[oh A4]
 generalize hu:(sp core).1=u at*
 generalize ht:(sp core).2.1=t at*
 generalize hf:(sp core).2.2=fd at*
 have hul:u.length<=14:=A4;have Jf:t.length<=14:=by
  cases fd
  ·rw[q3 rfl];simp
  ·rw[Bf,Dj] at hlen;omega
 have hp:R3 (bif neg then 45::u else u) [45]=some (u,neg):=by
  cases neg
  ·refine ah2 ?_;have IZ:=IZ rfl;intro e;have e:u.head?=some 45:=e;apply IZ;rw[q1,List.head?_append,e];rfl
  ·exact ah3
 show bd (R3 (bif neg then 45::u else u) [45]) _=_;rw[hp];show bd (Sx u) _=_;rw[vQ (l:=u) A4];show Aq _ _ (Sx t) _=_;rw[vQ (l:=t) A4];have tail:∀sk:Bool,sk=(fd&&(((!GX t)||(t==([48]:AB)))||(t==([49]:AB))))->((!GX u)||(neg&&(u==([48]:AB))))=false->sk=false->
  (cond (((decide<|(600:Int)<(u.length:Int))||(decide<|(600:Int)<(t.length:Int)))) (
   some (4:Int)
  ) (
   jn (λ(Hz:Unit)=>
    some (0:Int)
   ) λJZ=>
   cond (fd) (
    bd (Hw u) λBj=>
    bd (Hw t) λBW=>
    bd (Oj Bj BW) λBz=>
    bd (PZ Bz) λBs=>
    cond (((!Bs.2)||(!decide (Bs.1=(1:Int))))) (
     some (1:Int)
    ) (
     JZ ()
    )
   ) (
    JZ ()
   )
  ))=some (Hv neg u t fd):=by
  intro sk e1 e2 e3;rw[Bl A4,Bl A4];unfold Hv;rw[e2,<-e1,e3];cases fd
  ·rfl
  ·have du:GX u=true:=by
    cases h:GX u with
    |true=>rfl
    |false=>rw[h] at e2;cases e2
   have dt:GX t=true:=by
    cases h:GX t with
    |true=>rfl
    |false=>rw[h] at e1;rw[e1] at e3;cases e3
   have au:=VZ du;have at':=VZ dt;have lu:=QA u au.1;have lt:=QA t at'.1;have p1:=KN (show 0<10 by omega) hul;have p2:=KN (show 0<10 by omega) Jf;have hg:Oj (BR u:Int) (BR t:Int)=some (Nat.gcd (BR u) (BR t):Int):=by
    unfold Oj;rw[xC E8,xC E8];rfl
   have avJ:Nat.gcd (BR u) (BR t)<10^14:=by
    rcases L2 (BR u) with e|e
    ·rw[e,qC];omega
    ·have:=Nat.le_of_dvd e (Nat.gcd_dvd_left (BR u)<|BR t);omega
   have hs:PZ (Nat.gcd (BR u) (BR t):Int)=some ((Nat.gcd (BR u) (BR t):Int),true):=by
    unfold PZ Hd;rw[Bl A4,B0 A4,B0 A4];rfl
   show bd (Hw u) _=_;rw[Vb au.1 A4];show bd (Hw t) _=_;rw[Vb at'.1 A4];show bd (Oj _ _) _=_;rw[hg];rw[D4];rw[hs];show cond (false|| !decide (((Nat.gcd (BR u) (BR t):Nat):Int)=1)) (some 1) (some 0)=some (bif false then 1 else bif true&& !decide (Nat.gcd (BR u) (BR t)=1) then 1 else 0);have e:decide (((Nat.gcd (BR u) (BR t):Nat):Int)=1)=decide (Nat.gcd (BR u) (BR t)=1):=Gf.2 A4;rw[e];cases decide (Nat.gcd (BR u) (BR t)=1)<;>rfl
 cases hb1:((!GX u)||(neg&&(u==([48]:AB)))) with
 |true=>
  show Aq (gd true false&&gd fd true) false _ _=_;rw[EP Em];show cond (true||_) _ _=_;rw[Vx,Bf];unfold Hv;rw[hb1];rfl
 |false=>
  cases fd with
  |false=>
   show Aq (gd false false&&gd false true) false _ _=_;rw[EP Em];exact tail false rfl hb1 rfl
  |true=>
   show Aq (gd false false&&gd true true) false _ _=_;rw[CU Em];show cond (false||(true&&_)) _ _=_;cases hb2:(((!GX t)||(t==([48]:AB)))||(t==([49]:AB))) with
   |true=>
    show some 1=_;unfold Hv;rw[hb1,hb2];rfl
   |false=>exact tail false (by rw[hb2];rfl) hb1 rfl
def agL{t:AB}(hu:GX u=true)(ht:GX t=true)(JK:∀x∈u,x≠47)(lu:u.length<=1000)(lt:t.length<=1000):Yd (λp=>FB p.1 (BR u:Int)/\FB p.2 (BR t:Int)/\p.1.2.length<=u.length/\p.2.2.length<=t.length) (N4 (u++47::t)):=by
 have au:=VZ hu;have at':=VZ ht;have hlt:(u++47::t).length=u.length+1+t.length:=by simp;omega
 unfold N4;refine A5 (fH JK A4) (Ad (λh=>by have:=An h;omega)<|λ_=>?_);have es:C2 (u++47::t) 0 (u.length:Int)=some u:=by
  rw[EW A4 A4 A4];simp
 have et:C2 (u++47::t) ((u.length:Int)+1) ((u++47::t).length:Int)=some t:=by
  rw[EW A4 A4 A4,Ch,Cd<|BM _,show((u.length:Int)+1).toNat=u.length+1 by omega,<-FW];simp
 refine A5 es<|Az (nX false au.1 au.2 A4) λp hp=>A5 BC<|A5 et<|Az (nX false at'.1 at'.2 A4) λr hr=>AU ⟨hp.1,hr.1,hp.2,hr.2⟩
def aih(hl:core.length<=14)(IZ:neg=false->core.head?≠some 45):RI (bif neg then 45::core else core)=some (Hv neg (sp core).1 (sp core).2.1 (sp core).2.2):=by
 have key:Yd (λr=>r=Hv neg (sp core).1 (sp core).2.1 (sp core).2.2) (RI (bif neg then 45::core else core)):=by
  obtain⟨q1,q2,q3⟩:=j4 core;have hlen:=congrArg List.length q1;rw[ED] at hlen;by_cases hF0:(bif neg then 45::core else core)=[]
  ·have hn:neg=false:=by cases neg;rfl;cases hF0
   subst hn;have hc:core=[]:=hF0;subst hc;exact AU rfl
  obtain⟨c,r,e⟩:∃c r,(bif neg then 45::core else core)=c::r:=by
   cases h:(bif neg then 45::core else core) with
   |nil=>exact absurd h hF0
   |cons c r=>exact⟨c,r,rfl⟩
  have hc:decide ((c.toNat:Int)=45)=neg:=by
   cases neg with
   |true=>
    have:c=45:=by cases e;rfl
    subst this;rfl
   |false=>
    have e:core=c::r:=e;refine Bl λh=>IZ rfl ?_
    have:c=45:=gQ.1 (by show _=45;omega);rw[e,this];rfl
  have hs1:neg=true->r=core:=by rintro rfl;cases e;rfl
  have hs0:neg=false->c::r=core:=by rintro rfl;exact e.symm
  generalize hu:(sp core).1=u at*
  generalize ht:(sp core).2.1=t at*
  generalize hf:(sp core).2.2=fd at*
  have hul:u.length<=14:=A4;have Jf:t.length<=14:=by
   cases fd
   ·rw[q3 rfl];simp
   ·rw[Bf,Dj] at hlen;omega
  unfold RI;rw[e];have g1:gd (decide<|(0:Int)<((c::r).length:Int)) true=true:=by rw[B0 (by simp only[Dj];omega)];rfl
  rw[CU g1];refine A5 (x:=c) rfl ?_;have hb:((decide<|(0:Int)<((c::r).length:Int))&&(decide<|(c.toNat:Int)=(45:Int)))=neg:=by
   rw[B0 (show(0:Int)<((c::r).length:Int) by simp only[Dj];omega),KL,hc]
  rw[hb];refine Du (λs=>s=core) ?_<|λk hk=>Ad (λhn=>?_)<|λhn=>?_
  rotate_left
  ·have es:C2 (c::r) (1:Int) ((c::r).length:Int)=some core:=by
    rw[EW A4 (by simp only[Dj];omega) A4,<-hs1 hn];simp
   exact A5 es<|hk _ rfl
  ·exact hk _<|hs0 hn
  ·intro s hs;rw[hs];clear hs s;have hsl:LM core=some (u.length:Int):=by
    rw[q1];cases fd
    ·rw[B8,J6];exact oI q2 A4
    ·rw[Bf];exact fH q2 E8
   have hsu:C2 core 0 (u.length:Int)=some u:=by
    rw[EW A4 A4 A4,q1];simp
   have hlt:decide ((u.length:Int)<(core.length:Int))=fd:=by
    cases fd
    ·exact Bl (by rw[B8] at hlen;simp at hlen;omega)
    ·exact B0 (by rw[Bf] at hlen;simp only[Dj] at hlen;omega)
   refine A5 hsl<|A5 hsu<|A5 (u7 (l:=u) A4) ?_
   rw[hlt];cases hdu:GX u with
   |false=>
    rw[EP Em,EP Em];refine AU ?_;unfold Hv;rw[hdu];rfl
   |true=>
    rw[CU Em];refine A5 (x:=c) rfl ?_;rw[hc];have ast:∀K:AB->A9 Int,((neg&&(u==([48]:AB)))=true->Yd (λr=>r=Hv neg u t fd) (K u))->((neg&&(u==([48]:AB)))=false->∀w,(neg&&(w==([48]:AB)))=false->Yd (λr=>r=Hv neg u t fd) (K w))->Yd (λr=>r=Hv neg u t fd) (Aq (gd (!true) false&&gd neg true) ([]) (C2 core 0 (u.length:Int)) K):=by
     intro K h1 h2;cases neg with
     |false=>rw[EP Em];exact h2 rfl _ rfl
     |true=>
      rw[CU Em];refine A5 hsu ?_;cases hb:(true&&(u==([48]:AB))) with
      |true=>exact h1 hb
      |false=>exact h2 hb _ hb
    refine ast _ (λhb1=>?_)<|λhb1 w hw=>?_
    ·rw[hb1];refine AU ?_;unfold Hv;rw[hb1,hdu];rfl
    ·rw[hw];refine Ad (λh=>by cases h)<|λ_=>?_
     have small:∀K:Int->Int->A9 Int,Yd (λr=>r=Hv neg u t fd) (K ((core.length:Int)-(u.length:Int))<|(core.length:Int)-(u.length:Int)-1)->Yd (λr=>r=Hv neg u t fd) (Aq (gd (decide<|(600:Int)<(u.length:Int)) false) (0) (AG<|(core.length:Int)-(u.length:Int)) λGH=>Aq (gd (decide<|(600:Int)<(u.length:Int)) false) (0) (AG<|GH-(1:Int)) λEJ=>K GH EJ):=by
      intro K h;rw[Bl (show¬(600:Int)<(u.length:Int) by omega),CU Em];refine A5 BC ?_;rw[CU Em];exact A5 BC h
     cases fd with
     |false=>
      rw[EP Em,EP Em,EP Em,EP Em,EP Em,EP Em,EP Em];refine Ad (λh=>by cases h)<|λ_=>?_
      refine small (λGH EJ=>_) ?_;rw[Bl (show¬(600:Int)<(u.length:Int) by omega),Bl (show¬(600:Int)<((core.length:Int)-(u.length:Int)-1) by omega)];refine AU ?_;unfold Hv;rw[hdu,hb1];rfl
     |true=>
      rw[Bf] at q1 hlen;rw[Dj] at hlen;have f1:AG ((u.length:Int)+1)=some ((u.length:Int)+1):=EZ ⟨A4,A4⟩;have et:C2 core ((u.length:Int)+1) (core.length:Int)=some t:=by
       rw[EW A4 A4 A4,Ch,Cd<|BM _,show((u.length:Int)+1).toNat=u.length+1 by omega,q1,<-FW];simp
      rw[CU Em];refine A5 f1 ?_;rw[CU Em];refine A5 et ?_;rw[CU Em];refine A5 (u7 (l:=t) A4) ?_;cases hdt:GX t with
      |false=>
       rw[EP Em,EP Em,EP Em,EP Em];refine AU ?_;unfold Hv;rw[hdu,hb1,hdt];rfl
      |true=>
       rw[CU Em];refine A5 f1 ?_;rw[CU Em];refine A5 et ?_;cases h0:(t==([48]:AB)) with
       |true=>
        rw[EP Em,EP Em];refine AU ?_;unfold Hv;rw[hdu,hb1,hdt,h0];rfl
       |false=>
        rw[CU Em];refine A5 f1 ?_;rw[CU Em];refine A5 et ?_;cases h1:(t==([49]:AB)) with
        |true=>
         refine AU ?_;unfold Hv;rw[hdu,hb1,hdt,h0,h1];rfl
        |false=>
         refine Ad (λh=>by cases h)<|λ_=>?_
         refine small (λGH EJ=>_) ?_;rw[Bl (show¬(600:Int)<(u.length:Int) by omega),Bl (show¬(600:Int)<((core.length:Int)-(u.length:Int)-1) by omega)];refine Ad (λh=>by cases h)<|λ_=>?_
         refine Du (λ_=>Nat.gcd (BR u) (BR t)=1) (λ_ h=>AU ?_) (λk hk=>Ad (λ_=>?_) (λh=>by cases h))
         ·unfold Hv;rw[hdu,hb1,hdt,h0,h1,B0 h];rfl
         ·have pp:=agL hdu hdt q2 A4 A4;rw[<-q1] at pp;refine Az pp λp ⟨p1,p2,p3,p4⟩=>Az (wG p1.1 p2.1 A4 A4) λw ⟨w1,w2,w3⟩=>?_
          have hv:AI w=(Nat.gcd (BR u) (BR t):Int):=by
           rw[w2,p1.2.1,p2.2.1];simp[Int.gcd]
          have UW:=yc w1;rw[hv] at UW;have bad:Nat.gcd (BR u) (BR t)≠1->Yd (λr=>r=Hv neg u t true) (some (1:Int)):=λh=>AU (by
           unfold Hv;rw[hdu,hb1,hdt,h0,h1,Bl h];rfl)
          refine Hb (λhg=>?_)<|λhg=>?_
          ·have hlw:decide ((w.length:Int)=1)=true:=by
            cases h:decide ((w.length:Int)=1) with
            |true=>rfl
            |false=>rw[h] at hg;cases hg
           obtain⟨d,rfl⟩:∃d,w=[d]:=gz.1 (by have:=An hlw;omega);refine⟨d,rfl,?_⟩;refine Ad (λh=>?_)<|λh=>?_
           ·refine bad λh'=>?_
            have:=(UW.2 A4).2;have:d=1:=by simpa using this
            subst this;cases h
           ·refine hk () ?_;have:d=1:=by
             by_cases hd:d=1
             ·exact hd
             ·rw[Bl hd] at h;rw[Bool.not_false,Bool.or_true] at h;cases h
            subst this;have:=UW.1 ⟨rfl,rfl⟩;omega
          ·have hlw:decide ((w.length:Int)=1)=false:=by
            cases h:decide ((w.length:Int)=1) with
            |false=>rfl
            |true=>rw[h] at hg;cases hg
           rw[hlw];refine bad λh'=>?_
           have:=(UW.2 A4).1;rw[hlw] at this;cases this
 obtain⟨r,h1,h2⟩:=key;rw[h1,h2]
def isNum(s:AB)(q:Rat):Prop:=s=BL q/\bq q 14/\MX s=some q
def ab9:Am 0=[48]:=A6
def ab8:Am 1=[49]:=A6
def aan{a:Int}(h0:d≠0)(hg:Nat.gcd a.natAbs d=1):∃q,mkq a (d:Int)=some q/\q.num=a/\q.den=d:=by
 obtain⟨k,rfl⟩:=Nat.exists_eq_succ_of_ne_zero h0;have h:mkq a ((k+1:Nat):Int)=some (mkRat a<|k+1):=by
  show EV (Nat.beq (Nat.gcd a.natAbs<|k+1) 1) (mkRat a<|k+1)=_;rw[show Nat.beq (Nat.gcd a.natAbs<|k+1) 1=true from by rw[hg];rfl];rfl
 obtain⟨h1,h2⟩:=yX h;exact⟨_,h,h1,A4⟩
def alI(hl:(bif neg then 45::core else core).length<=14)(hc:Hv neg (sp core).1 (sp core).2.1 (sp core).2.2=0):∃q,isNum (bif neg then 45::core else core) q:=by
 have hl:core.length<=14:=by cases neg<;>simp at hl<;>omega
 obtain⟨q1,q2,q3⟩:=j4 core;have hlen:=congrArg List.length q1;rw[ED] at hlen;unfold isNum MX;rw[oh A4]
 generalize hu:(sp core).1=u at*
 generalize ht:(sp core).2.1=t at*
 generalize hf:(sp core).2.2=fd at*
 have hul:u.length<=14:=A4;unfold Hv at hc;cases sT:((!GX u)||(neg&&(u==([48]:AB))))||(fd&&(((!GX t)||(t==([48]:AB)))||(t==([49]:AB)))) with
 |true=>rw[sT] at hc;cases hc
 |false=>
 rw[sT,B8] at hc;obtain⟨b1,b2⟩:=Jr.1 sT;obtain⟨b3,b4⟩:=Jr.1 b1;have du:GX u=true:=by simpa using b3
 have au:=VZ du;have lu:=QA u au.1;have p1:=KN (show 0<10 by omega) hul;have eu:=og _ u rfl du;obtain⟨z,hz,hzn,hzr⟩:∃z:Int,(bif neg then 45::u else u)=Bo z/\z.natAbs=BR u/\Hw (bif neg then 45::u else u)=some z:=by
  cases neg with
  |false=>
   refine⟨(BR u:Int),?_,AS,Vb (l:=u) au.1 A4⟩;unfold Bo;rw[Bl A4];simp[<-eu]
  |true=>
   have h0:BR u≠0:=λh=>by
    rw[h,ab9] at eu;rw[eu] at b4;cases b4
   refine⟨-(BR u:Int),?_,AS,xu (l:=u) au.1 A4⟩;unfold Bo;rw[B0 A4];simp[<-eu]
 cases fd with
 |false=>
  rw[B8,J6] at q1;refine⟨(z:Rat),?_,⟨by rw[PL];omega,by rw[Rw];omega⟩,?_⟩
  ·rw[q1,hz];unfold BL;rw[PL,Rw];simp
  ·show bd (Hw (bif neg then 45::u else u)) _=_;rw[hzr];rfl
 |true=>
  rw[Bf] at q1 hlen;rw[Dj] at hlen;rw[KL] at b2 hc;obtain⟨c1,c2⟩:=Jr.1 b2;obtain⟨c3,c4⟩:=Jr.1 c1;have dt:GX t=true:=by simpa using c3
  have at':=VZ dt;have lt:=QA t at'.1;have p2:=KN (show 0<10 by omega) (show t.length<=14 by omega);have et:=og _ t rfl dt;have h0:BR t≠0:=λh=>by
   rw[h,ab9] at et;rw[et] at c4;cases c4
  have h1:BR t≠1:=λh=>by
   rw[h,ab8] at et;rw[et] at c2;cases c2
  have hg:Nat.gcd (BR u) (BR t)=1:=by
   cases h:decide (Nat.gcd (BR u) (BR t)=1) with
   |true=>exact An h
   |false=>rw[h] at hc;cases hc
  obtain⟨q,m1,m2,m3⟩:=aan (a:=z) h0 (by rw[hzn];exact hg);refine⟨q,?_,⟨A4,A4⟩,?_⟩
  ·unfold BL;rw[m2,m3,Bl h1,B8,<-hz,<-et,q1];cases neg<;>rfl
  ·show bd (Hw (bif neg then 45::u else u)) _=_;rw[hzr];show bd (Hw t) _=_;rw[Vb at'.1 A4];show bd (mkq z (BR t:Int)) _=_;rw[m1];rfl
def wh(hl:s.length<=14):∃c,Sy s=some c/\RI s=some c/\(c=0->∃q,isNum s q):=by
 obtain⟨neg,core,rfl,IZ⟩:∃(neg:Bool) (core:AB),s=(bif neg then 45::core else core)/\(neg=false->core.head?≠some 45):=by
  match s with
  |[]=>exact⟨false,[],rfl,λ_ h=>by cases h⟩
  |x::r=>
   by_cases hx:x=45
   ·exact⟨true,r,by rw[hx];rfl,λh=>by cases h⟩
   ·exact⟨false,x::r,rfl,λ_ h=>hx<|E5 h⟩
 have hlc:core.length<=14:=by cases neg<;>simp at hl<;>omega
 exact⟨_,agD hlc IZ,aih hlc IZ,alI hl⟩
def short(v:AB×AB×AB):Prop:=v.1.length<=14/\v.2.1.length<=14/\v.2.2.length<=14
def f3(a b c:Int):Int:=bif !decide (a=0) then a else bif !decide (b=0) then b else c
def bc(q:Rat)(c n:Nat):Prop:=q.num.natAbs<=c*10^n/\q.den<=10^n
def arX(h:bq q n):bc q 1 n:=⟨by rw[LZ];exact Vw h.1,Vw h.2⟩
theorem qm(c d m n:Nat):(c*10^m)*(d*10^n)=(c*d)*10^(m+n):=by
 rw[M9];grind
def MJ(hx:bc x c m)(hy:bc y d n):bc (x*y) (c*d) (m+n):=by
 have h:=UD (x:=x.num*y.num) (y:=(x.den:Int)*(y.den:Int))<|Rv (L4 x)<|L4 y
 rw[Yv] at h;rw[JS,JS,En,En] at h;refine⟨Ca h.1 ?_,Ca h.2 ?_⟩
 ·rw[<-qm];exact GB hx.1 hy.1
 ·rw[M9];exact GB hx.2 hy.2
def SC(hx:bc x c m)(hy:bc y d n):bc (x+y) (c+d) (m+n):=by
 have h:=UD (x:=x.num*y.den+y.num*x.den) (y:=(x.den:Int)*(y.den:Int))<|Rv (L4 x)<|L4 y
 rw[Yw] at h;rw[JS,En,En] at h;have a1:=GB hx.1 hy.2;have a2:=GB hy.1 hx.2;have t:=qD (x.num*y.den)<|y.num*x.den
 rw[JS,JS,En,En] at t;have e1:=qm c 1 m n;have e2:=qm d 1 n m;rw[LZ,Nat.mul_one] at e1 e2;rw[PG n m] at e2;refine⟨?_,Ca h.2 ?_⟩
 ·rw[JR];omega
 ·rw[M9];exact GB hx.2 hy.2
def abG(h:bc x c n):bc (-x) c n:=by
 refine⟨?_,?_⟩
 ·rw[Rat.neg_num,Tm];exact h.1
 ·rw[Rat.neg_den];exact h.2
def rD(hx:bc x c m)(hy:bc y d n):bc (x-y) (c+d) (m+n):=by
 rw[gZ];exact SC hx<|abG hy
abbrev T3:=AB×AB×AB
def vc(v:Q3)(c n:Nat):Prop:=bc v.1 c n/\bc v.2.1 c n/\bc v.2.2 c n
def Ap(v:Q3):T3:=(BL v.1,BL v.2.1,BL v.2.2)
def zp(h:z.natAbs<10^600):Q0 z=some false:=by
 have key:Yd (λb=>b=false) (Q0 z):=by
  have hs:=NC h A4;have hd:=LS 600 _ A4 h;unfold Q0 jK;rw[hs];refine A5 (x:=(bif decide (z=0) then 0 else(Nat.log2 z.natAbs:Int)+1)) rfl ?_
  generalize (bif decide (z=0) then 0 else(Nat.log2 z.natAbs:Int)+1)=n
  cases decide ((1800:Int)<n)
  ·exact AU rfl
  ·rw[CU Em];refine A5 (x:=Bo z) (by unfold OO;rw[hs];rfl) ?_;rw[CU Em];have sQ:Om (Bo z) [45]=some (Am z.natAbs):=by
    unfold Bo;cases hc:decide (z<0)
    ·rw[B8];have hh:(Am z.natAbs).head?≠some 45:=λe=>by
      have:=DZ.1 (Kr z.natAbs).1 45<|List.mem_of_mem_head? e
      cases this
     unfold Om Sm;rw[n9 hh];rfl
    ·rw[Bf];unfold Om Sm;rw[mK];show bd (bd (C2 (45::Am z.natAbs) (([45]:AB).length:Int) ((45::Am z.natAbs).length:Int)) _) _=_;rw[EW AS E8 A4];simp;rfl
   refine A5 sQ<|AU ?_
   rw[Bl A4];rfl
 obtain⟨r,e,rfl⟩:=key;exact e
def akg(h1:q.num.natAbs<10^600)(h2:q.den<10^600):Oq q=some false:=by
 unfold Oq;rw[zp h1,D4,CU Em,zp (z:=(q.den:Int)) (by rw[En];exact h2)];rfl
def fC(h1:q.num.natAbs<10^600)(h2:q.den<10^600):R7 q=some (BL q):=by
 have s1:OO q.num=some (Bo q.num):=by unfold OO;rw[NC h1 A4];rfl
 have s2:OO (q.den:Int)=some (Am q.den):=by
  unfold OO;rw[NC (z:=(q.den:Int)) (by rw[En];exact h2) A4];show some (Bo (q.den:Int))=_;unfold Bo;rw[Bl A4];simp
 have l1:=VV q.num;have l2:=LS 600 _ A4 h1;have l3:=LS 600 _ A4 h2;unfold R7 LU BL;rw[D4,s1,s2];cases decide (q.den=1)
 ·rw[B8,D4,OE E8,D4,D4,OE E8];simp[Trn.bd]
 ·rw[Bf,Bf,D4,J6]
def jd(v:Q3):Bool:=decide (v.1=0)&&(decide (v.2.1=0)&&decide (v.2.2=0))
def sign_zero(x:Rat):decide (x.num.sign=0)=decide (x=0):=by
 refine Gf.2 ⟨λh=>NK.1<|Int.sign_eq_zero_iff_zero.1 h,λh=>by subst h;rfl⟩
def Za(h:bc q c m)(hc:c<=d)(hm:m<=n):bc q d n:=by
 have hp:=KN (show 0<10 by omega) hm;exact⟨Ca h.1<|GB hc hp,Ca h.2 hp⟩
def rE{e:Nat}(hx:bc x c n)(h0:x≠0)(he:c<=10^e):bc x⁻¹ 1 (n+e):=by
 have hn:x.num≠0:=λe=>h0<|NK.1 e
 have e1:=(pP x).symm;have h:=UD (x:=(x.den:Int)) (y:=x.num) hn;rw[<-e1] at h;rw[En] at h;refine⟨?_,?_⟩
 ·rw[LZ,M9];exact Ca h.1<|Ca hx.2<|Nat.le_mul_of_pos_right _<|Z7 A4
 ·rw[M9,Kt];exact Ca h.2<|Ca hx.1<|J9 _ he
def bc3(p:Q3)(c n:Nat):Prop:=bc p.1 c n/\bc p.2.1 c n/\bc p.2.2 c n
def fF(ha:bc3 a c m)(hb:bc3 b d n):bc3 (Ac a b) (2*(c*d)) (2*(m+n)):=by
 obtain⟨a1,a2,a3⟩:=ha;obtain⟨b1,b2,b3⟩:=hb;have k:∀{w x y z:Rat},bc w c m->bc x d n->bc y c m->bc z d n->bc (w*x-y*z) (2*(c*d)) (2*(m+n)):=λh1 h2 h3 h4=>by
  have:=rD (MJ h1 h2)<|MJ h3 h4
  rwa [<-Nat.two_mul,<-Nat.two_mul] at this
 exact⟨k a2 b3 a3 b2,k a3 b1 a1 b3,k a1 b2 a2 b1⟩
def aq3(ha:bc3 a c m)(hb:bc3 b d n):bc (AK a b) (3*(c*d)) (3*(m+n)):=by
 obtain⟨a1,a2,a3⟩:=ha;obtain⟨b1,b2,b3⟩:=hb;have:=SC (SC (MJ a1 b1)<|MJ a2 b2)<|MJ a3 b3
 exact Za this A4 A4
def aaF(ha:bc3 a c m)(hb:bc3 b d n):bc3 (Bw a b) (c+d) (m+n):=⟨SC ha.1 hb.1,SC ha.2.1 hb.2.1,SC ha.2.2 hb.2.2⟩
def ik{t:Rat}(ha:bc3 a c m)(ht:bc t d n):bc3 (Ba a t) (c*d) (m+n):=⟨MJ ha.1 ht,MJ ha.2.1 ht,MJ ha.2.2 ht⟩
def anp{M:A3 H3}{p:Q3}(hM:∀h∈M,bc3 h.1 1 k/\bc h.2 1 k)(hv:C1 M p):bc3 p 6 (35*k+1):=by
 obtain⟨_,a,ma,b,mb,c,mc,hd,rfl⟩:=Vc.1 hv;obtain⟨a1,a2⟩:=hM a ma;obtain⟨b1,b2⟩:=hM b mb;obtain⟨c1,c2⟩:=hM c mc;have d:=rE (e:=1) (aq3 (fF a1 b1) c1) hd A4;have s:=aaF (aaF (ik (fF b1 c1) a2)<|ik (fF c1 a1) b2)<|ik (fF a1 b1) c2
 have r:=ik s d;exact⟨Za r.1 A4 A4,Za r.2.1 A4 A4,Za r.2.2 A4 A4⟩
def lv(n:Nat)(q:Rat):Prop:=bc q 1 n
def Bu(n:Nat)(p:Q3):Prop:=lv n p.1/\lv n p.2.1/\lv n p.2.2
def Fi(h:lv m q)(hm:m<=n):lv n q:=Za h A4 hm
def SJ(h:bc q c m)(hc:c<=10)(hm:m+1<=n):lv n q:=by
 refine⟨?_,Ca h.2<|KN A4 A4⟩;rw[LZ];refine Ca h.1<|Ca (J9 _ hc) ?_
 rw[Kt,<-Rs];exact KN A4 hm
def MD(h:lv n q)(hn:n<=10000000000):FE q=true:=by
 have one:∀k:Nat,k<=10^n->Nat.blt (Nat.log2 k) 68719476736=true:=by
  intro k hk;refine IE ?_;rcases L2 k with h0|h0
  ·rw[h0];exact F1 rfl
  ·have h1:(10:Nat)^n<=(2^4)^n:=qE A4 n;rw[<-Nat.pow_mul] at h1;have h2:(2:Nat)^(4*n)<2^(4*n+1):=Nat.pow_lt_pow_right A4 A4;have:Nat.log2 k<4*n+1:=(PF A4).2 A4;omega
 unfold FE;have h1:=h.1;rw[LZ] at h1;rw[one _ h1,one _ h.2];rfl
end
section
variable{x y:Rat}{n:Nat}(hx:lv n x)(hy:lv n y)(h1:1<=n)(hn:n<=10000000000)
include hx hy h1 hn
theorem Ih:GG x y=some (x*y)/\lv (4*n) (x*y):=
 ⟨by unfold GG;rw[MD hx hn,MD hy hn];rfl,SJ (MJ hx hy) A4 A4⟩
theorem Zv:Lk x y=some (x+y)/\lv (4*n) (x+y):=
 ⟨by unfold Lk;rw[MD hx hn,MD hy hn];rfl,SJ (SC hx hy) A4 A4⟩
theorem S8:Nn x y=some (x-y)/\lv (4*n) (x-y):=
 ⟨by unfold Nn;rw[MD hx hn,MD hy hn];rfl,SJ (rD hx hy) A4 A4⟩
theorem aau(h0:y≠0):Sb x y=some (x/y)/\lv (4*n) (x/y):=
 ⟨by unfold Sb;rw[MD hx hn,MD hy hn,Bl h0];rfl,by
  rw[Tg];exact SJ (MJ hx<|rE (e:=0) hy h0 A4) A4 A4⟩
end
section
variable{a b:Q3}{n:Nat}(ha:Bu n a)(hb:Bu n b)(h1:1<=n)(hn:n<=10000000000)
include ha hb h1 hn
theorem p9:MU a b=some (B7 a b)/\Bu (4*n) (B7 a b):=by
 obtain⟨e1,k1⟩:=S8 ha.1 hb.1 h1 hn;obtain⟨e2,k2⟩:=S8 ha.2.1 hb.2.1 h1 hn;obtain⟨e3,k3⟩:=S8 ha.2.2 hb.2.2 h1 hn;exact⟨by unfold MU;rw[e1,e2,e3];rfl,k1,k2,k3⟩
theorem zH:Lu a b=some (Bw a b)/\Bu (4*n) (Bw a b):=by
 obtain⟨e1,k1⟩:=Zv ha.1 hb.1 h1 hn;obtain⟨e2,k2⟩:=Zv ha.2.1 hb.2.1 h1 hn;obtain⟨e3,k3⟩:=Zv ha.2.2 hb.2.2 h1 hn;exact⟨by unfold Lu;rw[e1,e2,e3];rfl,k1,k2,k3⟩
end
section
variable{n:Nat}{α:Type}{a:Q3}{ρ:Type}
def nQ{t:Rat}(ha:Bu n a)(ht:lv n t)(h1:1<=n)(hn:n<=10000000000):Ot a t=some (Ba a t)/\Bu (4*n) (Ba a t):=by
 obtain⟨e1,k1⟩:=Ih ha.1 ht h1 hn;obtain⟨e2,k2⟩:=Ih ha.2.1 ht h1 hn;obtain⟨e3,k3⟩:=Ih ha.2.2 ht h1 hn;exact⟨by unfold Ot;rw[e1,e2,e3];rfl,k1,k2,k3⟩
def zG{b:Q3}(ha:Bu n a)(hb:Bu n b)(h1:1<=n)(hn:n<=100000000):Sw a b=some (AK a b)/\lv (64*n) (AK a b):=by
 obtain⟨e1,k1⟩:=Ih ha.1 hb.1 h1 A4;obtain⟨e2,k2⟩:=Ih ha.2.1 hb.2.1 h1 A4;obtain⟨e3,k3⟩:=Ih ha.2.2 hb.2.2 h1 A4;obtain⟨e4,k4⟩:=Zv k1 k2 A4 A4;obtain⟨e5,k5⟩:=Zv k4 (Fi k3 (show 4*n<=4*(4*n) by omega)) A4 A4;refine⟨?_,Fi k5 A4⟩;unfold Sw;rw[e1,e2];simp only[bd];rw[e4];simp only[bd];rw[e3];simp only[bd];rw[e5];rfl
def wz{b:Q3}(ha:Bu n a)(hb:Bu n b)(h1:1<=n)(hn:n<=100000000):Ss a b=some (Ac a b)/\Bu (16*n) (Ac a b):=by
 obtain⟨e1,k1⟩:=Ih ha.2.1 hb.2.2 h1 A4;obtain⟨e2,k2⟩:=Ih ha.2.2 hb.2.1 h1 A4;obtain⟨e3,k3⟩:=S8 k1 k2 A4 A4;obtain⟨e4,k4⟩:=Ih ha.2.2 hb.1 h1 A4;obtain⟨e5,k5⟩:=Ih ha.1 hb.2.2 h1 A4;obtain⟨e6,k6⟩:=S8 k4 k5 A4 A4;obtain⟨e7,k7⟩:=Ih ha.1 hb.2.1 h1 A4;obtain⟨e8,k8⟩:=Ih ha.2.1 hb.1 h1 A4;obtain⟨e9,k9⟩:=S8 k7 k8 A4 A4;refine⟨?_,Fi k3 A4,Fi k6 A4,Fi k9 A4⟩;unfold Ss;rw[e1,e2];simp only[bd];rw[e3];simp only[bd];rw[e4,e5];simp only[bd];rw[e6];simp only[bd];rw[e7,e8];simp only[bd];rw[e9];rfl
def eJ{h:H3}{p:Q3}(hh:Bu n h.1/\lv n h.2)(hp:Bu n p)(h1:1<=n)(hn:n<=100000000):Po h p=some (val h p)/\lv (256*n) (val h p):=by
 obtain⟨e1,k1⟩:=zG hh.1 hp h1 hn;obtain⟨e2,k2⟩:=S8 k1 (Fi hh.2 (show n<=64*n by omega)) A4 A4;refine⟨?_,Fi k2 A4⟩;unfold Po;rw[e1];simp only[bd];rw[e2];rfl
def T9:∀l:A3 Q3,Rm l=FY l
 |[]=>rfl
 |a::l=>by
  have go:∀(f a:Q3) (l:A3 Q3),(a::l).zip (l++[f])=Hm f (a::l):=by
   intro f a l
   induction l generalizing a with
   |nil=>rfl
   |cons b l ih=>simp only[QL,List.zip_cons_cons,Hm];rw[ih]
  exact go a a l
def oW{α β ρ:Type}{K:A3 β->A9 ρ}{B:(A3 β->A9 ρ)->α->A3 β->A9 ρ}(f:α->A3 β)(w:Nat):∀(L:A3 α) (s:A3 β),(∀x∈L,(f x).length<=w/\∀(s:A3 β) (next:A3 β->A9 ρ),s.length<=100000000->B next x s=next (s++f x))->s.length+w*L.length<=100000000->IW L B s K=K (s++L.flatMap f)
 |[],s,_,_=>by simp[IW]
 |x::L,s,h,hl=>by
  obtain⟨h1,h2⟩:=h x Dq;rw[Dj,Nat.mul_add] at hl;unfold IW;rw[h2 s _ A4,oW f w L _ (λy hy=>h y<|Bq _ hy) (by rw[ED];omega),QM,ID]
def abI{b:Nat}{s:A3 α}{x:α}(hb:b<=1000)(hs:s.length<=1000000001):BH b s [x]=some (s++[x]):=by
 unfold BH;have h1:(s.length+[x].length)*b<=140737488355328:=Ca (GB (show s.length+[x].length<=1000000002 by simp;omega) hb) A4;rw[B0 h1,B0 (show s.length+[x].length<=9223372036854775807 by simp;omega)];rfl
def app_1{b:Nat}{s:A3 α}{x:α}(hb:b<=1000)(hs:s.length<=1000000000):BH b s [x]=some (s++[x]):=abI hb A4
def fS{x:Rat}:x.num<0↔x<0:=by
 rw[<-Int.not_le,Rat.num_nonneg,Rat.not_le]
theorem Yl{x:Rat}:0<x.num↔0<x:=by
 constructor
 ·intro h;have h1:0<=x:=Rat.num_nonneg.1 A4;have h2:x≠0:=λe=>by rw[NK.2 e] at h;omega
  grind
 ·intro h;have h1:0<=x.num:=Rat.num_nonneg.2 AY;have h2:x.num≠0:=λe=>by rw[NK.1 e] at h;grind
  omega
def zQ(x:Rat):decide (x.num.sign<=0)=decide (x<=0):=by
 rw[Gf,<-Int.not_lt,<-Rat.not_lt,Int.sign_pos_iff,Yl]
theorem ajk(x y:Rat):decide (x.num.sign*y.num.sign<0)=HN x y:=by
 rw[ZD,OG,J7];have hx:x.num.sign=1/\0<x\/x.num.sign=0/\x=0\/x.num.sign= -1/\x<0:=by
  rcases OM x.num 0 with h|h|h
  ·exact .inr<| .inr ⟨PY h,fS.1 h⟩
  ·exact .inr (.inl ⟨by rw[h];rfl,NK.1 h⟩)
  ·exact .inl ⟨OY h,Yl.1 h⟩
 have hy:y.num.sign=1/\0<y\/y.num.sign=0/\y=0\/y.num.sign= -1/\y<0:=by
  rcases OM y.num 0 with h|h|h
  ·exact .inr<| .inr ⟨PY h,fS.1 h⟩
  ·exact .inr (.inl ⟨by rw[h];rfl,NK.1 h⟩)
  ·exact .inl ⟨OY h,Yl.1 h⟩
 rcases hx with⟨e,h⟩|⟨e,h⟩|⟨e,h⟩<;>rcases hy with⟨e',h'⟩|⟨e',h'⟩|⟨e',h'⟩<;>rw[e,e']<;>constructor<;>intro k<;>first|(exfalso;revert k;decide)|grind
def al1(x y:Rat):AG (x.num.sign*y.num.sign)=some (x.num.sign*y.num.sign):=by
 have h:∀z:Int,z.sign=1\/z.sign=0\/z.sign= -1:=λz=>by
  rcases OM z 0 with h|h|h
  ·exact .inr<| .inr<|PY h
  ·exact .inr (.inl (by rw[h];rfl))
  ·exact .inl<|OY h
 rcases h x.num with e|e|e<;>rcases h y.num with e'|e'|e'<;>rw[e,e']<;>rfl
theorem ajJ{l:A3 Q3}{h:H3}(hl:l.length<=1000000)(hh:Bu n h.1/\lv n h.2)(hp:∀p∈l,Bu n p)(h1:1<=n)(hn:n<=10000):XM l h=some (Fa h l):=by
 unfold XM VB;have e:Rc l=some (FY l):=by
  unfold Rc;rw[IE (show l.length+1<=1000000000 by omega)|>(λh=>(h:Nat.blt l.length 1000000000=true)),T9];rfl
 rw[e];simp only[bd];have hs:(FY l).length=l.length:=by rw[<-T9,YW]
 have hm:∀x∈FY l,x.1∈l/\x.2∈l:=λx hx=>by
  rw[<-T9] at hx;obtain⟨i,hi⟩:=qI.1 hx;obtain⟨a,b,_⟩:=oQ hi;exact⟨OV a,OV b⟩
 refine oW (Lf h) 2 (FY l) [] (λx hx=>⟨?_,λs next hs=>?_⟩) (by simp[hs];omega)
 ·unfold Lf;cases decide (val h x.1<=0)<;>cases HN (val h x.1) (val h x.2)<;>simp
 ·obtain⟨m1,m2⟩:=hm x hx;obtain⟨v1,w1⟩:=eJ hh (hp _ m1) h1 A4;obtain⟨v2,w2⟩:=eJ hh (hp _ m2) h1 A4;have tail:∀s:A3 Q3,s.length<=100000001->(bd (JB<|val h x.1) λBs=>bd (JB<|val h x.2) λDK=>bd (AG<|Bs*DK) λDg=>cond (decide<|Dg<0) (bd (Nn (val h x.1)<|val h x.2) λD7=>bd (Sb (val h x.1) D7) λFc=>bd (MU x.2 x.1) λFl=>bd (Ot Fl Fc) λG2=>bd (Lu x.1 G2) λFR=>bd (BH 192 s ([FR]:A3 V3)) λFD=>next FD)<|next s)=next (s++(bif HN (val h x.1) (val h x.2) then [Jw h x.1 x.2] else [])):=by
   intro s hs;unfold JB;simp only[bd];rw[al1];simp only[bd];rw[ajk];cases ho:HN (val h x.1) (val h x.2)
   ·simp
   ·have h0:val h x.1-val h x.2≠0:=by have:=OG.1 ho;grind
    obtain⟨a1,b1⟩:=S8 w1 w2 A4 A4;obtain⟨a2,b2⟩:=aau (Fi w1 (show 256*n<=4*(256*n) by omega)) b1 A4 A4 h0;obtain⟨a3,b3⟩:=p9 (hp _ m2) (hp _ m1) h1 A4;obtain⟨a4,b4⟩:=nQ (n:=4096*n) ⟨Fi b3.1 A4,Fi b3.2.1 A4,Fi b3.2.2 A4⟩ (Fi b2 A4) A4 A4;obtain⟨a5,b5⟩:=zH (n:=4*(4096*n)) ⟨Fi (hp _ m1).1 A4,Fi (hp _ m1).2.1 A4,Fi (hp _ m1).2.2 A4⟩ b4 A4 A4;simp only[Bf];rw[a1];simp only[bd];rw[a2];simp only[bd];rw[a3];simp only[bd];rw[a4];simp only[bd];rw[a5];simp only[bd];have:BH 192 s [Bw x.1<|Ba (B7 x.2 x.1)<|val h x.1/(val h x.1-val h x.2)]=some (s++[Bw x.1<|Ba (B7 x.2 x.1)<|val h x.1/(val h x.1-val h x.2)]):=abI A4 A4;rw[this];rfl
  show bd (Po h x.1) _=_;rw[v1];simp only[bd];rw[v2];simp only[bd];unfold jn;unfold Lf;cases hc:decide (val h x.1<=0)
  ·have hd:decide ((val h x.1).num.sign<=0)=false:=by rw[zQ];exact hc
   simp only[JB,hd,B8,Ii];exact tail s A4
  ·have hd:decide ((val h x.1).num.sign<=0)=true:=by rw[zQ];exact hc
   simp only[JB,hd,Bf];rw[app_1 A4 A4];rw[<-ID];exact tail (s++[x.1]) E8
def UA{σ S:Type}{R:ρ->Prop}(L:A3 α)(e:σ->Int->S)(P:A3 α->σ->Prop){B:(S->A9 ρ)->S->A9 ρ}{N:Nat}
 (hs:∀(A:A3 α) (x:α) (C:A3 α) (s:σ) (k:S->A9 ρ),L=A++x::C->P A s->(∀s',P (A++[x]) s'->Yd R (k<|e s' ((A.length+1:Nat):Int)))->Yd R (B k<|e s (A.length:Int)))
 (he:∀(s:σ) (k:S->A9 ρ),P L s->Yd R (B k<|e s (L.length:Int)))(A0 C0:A3 α){s0:σ}(hA:L=A0++C0)(h0:P A0 s0)(hl:L.length<N):Yd R (Trn.lp N B<|e s0 (A0.length:Int)):=by
 have main:∀(C A:A3 α) (F:Nat) (s:σ),L=A++C->P A s->C.length<F->Yd R (Trn.lp F B<|e s (A.length:Int)):=by
  intro C
  induction C with
  |nil=>
   intro A F s hL hp hF;obtain⟨F,rfl⟩:∃G,F=G+1:=⟨F-1,A4⟩;rw[J6] at hL;subst hL;exact he s _ hp
  |cons x C ih=>
   intro A F s hL hp hF;obtain⟨F,rfl⟩:∃G,F=G+1:=⟨F-1,A4⟩;rw[Dj] at hF;refine hs A x C s _ hL hp λs' hp'=>?_
   have:=ih (A++[x]) F s' (by rw[hL,ID];rfl) hp' A4;rwa [ED] at this
 exact main C0 A0 N s0 hA h0 (by rw[hA] at hl;simp at hl;omega)
def Cz{σ S:Type}{R:ρ->Prop}(L:A3 α)(e:σ->Int->S)(P:A3 α->σ->Prop){B:(S->A9 ρ)->S->A9 ρ}{N:Nat}
 (hs:∀(A:A3 α) (x:α) (C:A3 α) (s:σ) (k:S->A9 ρ),L=A++x::C->P A s->(∀s',P (A++[x]) s'->Yd R (k<|e s' ((A.length+1:Nat):Int)))->Yd R (B k<|e s (A.length:Int)))
 (he:∀(s:σ) (k:S->A9 ρ),P L s->Yd R (B k<|e s (L.length:Int))){s0:σ}(h0:P [] s0)(hl:L.length<N):Yd R (Trn.lp N B<|e s0 0):=UA L e P hs he [] L rfl h0 hl
end
section
variable{α:Type}{L A C:List α}{x:α}(h:L=A++x::C)
include h
theorem DD:decide ((A.length:Int)<(L.length:Int))=true:=by rw[h];simp<;>omega
theorem C8:AA L (A.length:Int)=some x:=by rw[KW,h];simp
theorem at_mem:x∈L:=by rw[h];simp
theorem Dt:A.length+1<=L.length:=by rw[h];simp<;>omega
theorem Cb(hl:L.length<=1000000000):AG ((A.length:Int)+1)=some ((A.length+1:Nat):Int):=by
 have:=Dt h;rw[EZ ⟨A4,A4⟩];rfl
end
section
variable{n:Nat}{x:Rat}{k:Nat}{L:A3 H3}{y:Rat}{l:A3 Q3}{m:Nat}{a:Rat}{M:A3 H3}{f:H3}{S:A3 CV}
def DB{α:Type}(L:A3 α):decide ((L.length:Int)<(L.length:Int))=false:=Bl A4
def aqA{α σ ρ:Type}{R:ρ->Prop}(L:A3 α)(P:A3 α->σ->Prop){B:(σ->A9 ρ)->α->σ->A9 ρ}{K:σ->A9 ρ}
  (hs:∀(A:A3 α) (x:α) (C:A3 α) (s:σ) (k:σ->A9 ρ),L=A++x::C->P A s->(∀s',P (A++[x]) s'->Yd R (k s'))->Yd R (B k x s))
  (he:∀s,P L s->Yd R (K s)){s0:σ}(h0:P [] s0):Yd R (IW L B s0 K):=by
 have main:∀(C A:A3 α) (s:σ),L=A++C->P A s->Yd R (IW C B s K):=by
  intro C
  induction C with
  |nil=>intro A s hL hp;rw[J6] at hL;subst hL;exact he s hp
  |cons x C ih=>
   intro A s hL hp;exact hs A x C s _ hL hp λs' hp'=>ih (A++[x]) s' (by rw[hL,ID];rfl) hp'
 exact main L [] s0 rfl h0
def j5(hx:lv n x)(hy:lv n y)(hn:n<=10000000000):Og x y=some (bif decide (x<y) then -1 else bif decide (y<x) then 1 else 0):=by
 unfold Og;rw[MD hx hn,MD hy hn];rfl
def or3(a b c:Int):VI [a,b,c]=some (bif !decide (a=0) then a else bif !decide (b=0) then b else c):=by
 obtain⟨F,hF⟩:∃F,18446744073709551616=F+4:=⟨18446744073709551612,rfl⟩;unfold VI;rw[hF];show cond (!decide (a=0)) (some a) (cond (!decide (b=0)) (some b)<|cond (!decide (c=0)) (some c)<|some 0)=_;cases ha:decide (a=0)
 ·rfl
 ·cases hb:decide (b=0)
  ·rfl
  ·cases hc:decide (c=0)
   ·rfl
   ·rw[An hc];rfl
theorem pA{a b:Q3}(ha:Bu n a)(hb:Bu n b)(hn:n<=10000000000):∃v,Sn a b=some v/\(v<0↔EA a b)/\(v=0↔a=b):=by
 unfold Sn;rw[j5 ha.1 hb.1 hn,j5 ha.2.1 hb.2.1 hn,j5 ha.2.2 hb.2.2 hn];simp only[bd];rw[or3];refine⟨_,rfl,?_⟩;obtain⟨a1,a2,a3⟩:=a;obtain⟨b1,b2,b3⟩:=b;have Lt:∀x y:Rat,(x<y/\ ¬y<x/\x≠y)\/(¬x<y/\ ¬y<x/\x=y)\/(¬x<y/\y<x/\x≠y):=λx y=>by grind
 unfold EA;simp only[La];rcases Lt a1 b1 with⟨h1,h2,h3⟩|⟨h1,h2,h3⟩|⟨h1,h2,h3⟩<;>rcases Lt a2 b2 with⟨g1,g2,g3⟩|⟨g1,g2,g3⟩|⟨g1,g2,g3⟩<;>rcases Lt a3 b3 with⟨k1,k2,k3⟩|⟨k1,k2,k3⟩|⟨k1,k2,k3⟩<;>simp[h1,h2,h3,g1,g2,g3,k1,k2,k3]
def ahg(hl:l.length<=100000000):bH [] (some l)=some l:=by
 have fl:l.flatMap (λx=>[x])=l:=by
  clear hl
  induction l with
  |nil=>rfl
  |cons a l ih=>rw[QM,ih];rfl
 unfold bH;show IW l _ [] _=_;refine(oW (λx=>[x]) 1 l [] (λx _=>⟨AS,λs next hs=>by rw[app_1 A4 A4];rfl⟩) E8).trans ?_;rw[fl];rfl
def vn(hp:∀p∈l,Bu n p)(hn:n<=10000000000)(hl:l.length<=100000000):∃r,Uq l=some r/\r.Pairwise EA/\∀z,z∈r↔z∈l:=by
 have hO:Ln (λx:Q3×Q3=>Sn x.1 x.2) EA l:=akc λx mx y my=>by
  obtain⟨v,h1,h2,_⟩:=pA (hp x mx) (hp y my) hn;exact⟨v,h1,h2⟩
 obtain⟨s,s1,s2,s3⟩:=pK hO A4;have hs:∀p∈s,Bu n p:=λp mp=>hp p<|s2.mem_iff.1 mp
 obtain⟨r,r1,r2,r3⟩:=ahR (e:=λx:Q3×Q3=>Pr x.1 x.2) (λa ma b mb=>by
  obtain⟨v,h1,_,h2⟩:=pA (hs a ma) (hs b mb) hn;show bd (Sn a b) _=_;rw[h1];show some (decide<|v=0)=_
  congr 1
  exact Gf.2 h2) s3<|hO.perm s2
 refine⟨r,?_,r2,λz=>by rw[r3,s2.mem_iff]⟩;unfold Uq bK ju jx;have e:VW l=some l:=by
  unfold VW;rw[show Nat.blt l.length 4000000000=true from IE A4];rfl
 rw[e];simp only[bd];rw[ahg hl];simp only[bd];rw[s1];simp only;rw[r1]
def Zw{a b:Q3}(h:EA a b):a≠b:=λe=>NI a (by rw[<-e] at h;exact h)
theorem vY(hf:f.1≠o3)(hl:∀p∈l,C1 L p/\val f p=0/\Bu n p)(hn:Bu n f.1)(h1:1<=n)(IY:n<=10000)(hlen:l.length<=100000000)(sG:∀r:A3 Q3,(∀z∈l,z∈r)->2<=r.length):
  ∃p s,O1 l f.1=some (p::s)/\F5 f.1 (p::s)/\(∀z,z∈p::s↔z∈l)/\(∀x∈s,EA p x)/\s.Pairwise λx y=>0<Bn f.1 p x y:=by
 obtain⟨d,d1,d2,d3⟩:=vn (λp mp=>(hl p mp).2.2) A4 hlen;have h2:=sG d λz mz=>(d3 z).2 mz
 cases d with
 |nil=>simp at h2
 |cons p t=>
  obtain⟨g1,g2⟩:=HE.1 d2;obtain⟨vp,tp,np⟩:=hl p<|(d3 p).1 Dq
  have ht:0<t.length:=by rw[Dj] at h2;omega
  have hlt:t.length<4611686018427387904:=by
   have:=Kp (l:=p::t) (T:=l) (d2.imp λh=>Zw h) λx mx=>(d3 x).1 mx
   rw[Dj] at this;omega
  have hO:Ln (λx:Q3×Q3=>Uu x.1 x.2 f.1 p) (λx y=>0<Bn f.1 p x y) t:=alV hf vp tp (λx mx=>by
   obtain⟨a,b,_⟩:=hl x<|(d3 x).1<|Bq _ mx
   exact⟨a,b,g1 x mx⟩) λx mx y my=>by
   obtain⟨_,_,nx⟩:=hl x<|(d3 x).1<|Bq _ mx
   obtain⟨_,_,ny⟩:=hl y<|(d3 y).1<|Bq _ my
   obtain⟨e1,k1⟩:=p9 ny np h1 A4;obtain⟨e2,k2⟩:=p9 nx np h1 A4;obtain⟨e3,k3⟩:=wz k1 k2 A4 A4;obtain⟨e4,k4⟩:=zG (n:=16*(4*n)) ⟨Fi hn.1 A4,Fi hn.2.1 A4,Fi hn.2.2 A4⟩ k3 A4 A4;refine⟨_,by show Uu x y f.1 p=_;unfold Uu;rw[e1];simp only[bd];rw[e2];simp only[bd];rw[e3];simp only[bd];rw[e4];simp only[bd,JB];rfl,?_⟩;rw[gT,fS];have:Bn f.1 p x y= -AK f.1 (Ac (B7 y p)<|B7 x p):=by unfold Bn AK Ac B7;grind
   rw[this];grind
  obtain⟨s,s1,s2,s3⟩:=pK hO hlt;have hm:∀z,z∈p::s↔z∈l:=λz=>by rw[<-d3,Ai,Ai,s2.mem_iff]
  have hn:s.Nodup:=s2.nodup_iff.2<|g2.imp λh=>Zw h
  have pw:s.Pairwise λx y=>0<Bn f.1 p x y:=WH (λ{a b} ma mb h=>h.1.resolve_left h.2)<|s3.and hn
  refine⟨p,s,?_,xM hf (L:=L) (λx mx=>⟨(hl x<|(hm x).1 mx).1,(hl x<|(hm x).1 mx).2.1⟩) pw,hm,λx mx=>g1 x<|s2.mem_iff.1 mx,pw⟩
  ·unfold O1;rw[d1];have e1:((t.length+1:Nat):Int)-1=(t.length:Int):=A4;simp only[bd,AA,List.getElem?_cons_zero,Dj,e1,Ch,List.take_length,List.drop_succ_cons,PJ,show((1:Int)).toNat=1 from rfl];rw[show decide ((0:Nat)<=1)=true from rfl,B0 (show(1:Int)<((t.length+1:Nat):Int) by omega),B0 (show((t.length+1:Nat):Int)<=((t.length+1:Nat):Int) by omega)];simp only[Bool.and_self,gC];rw[s1];dsimp only;have l1:s.length=t.length:=s2.length_eq;rw[show Nat.blt 0 t.length=true from IE ht,show Nat.ble (1+t.length) (t.length+1)=true from IE A4,show Nat.beq s.length t.length=true from by rw[l1];exact Nat.beq_refl _];simp[PG]
def yI(hf:f.1≠o3)(hl:∀p∈l,C1 L p/\val f p=0/\Bu n p)(hn:Bu n f.1)(h1:1<=n)(IY:n<=10000)(hlen:l.length<=100000000)(sG:∀r:A3 Q3,(∀z∈l,z∈r)->2<=r.length):
  ∃r,O1 l f.1=some r/\F5 f.1 r/\∀z,z∈r↔z∈l:=by
 obtain⟨p,s,h1,h2,h3,_⟩:=vY hf hl hn h1 IY hlen sG;exact⟨_,h1,h2,h3⟩
def Mx(k:Nat)(L:A3 H3):Prop:=∀g∈L,Bu k g.1/\lv k g.2
def qT(h:Mx k M){p:Q3}(hp:C1 M p):Bu (35*k+2) p:=by
 have b:=anp (k:=k) (λg mg=>h g mg) hp;exact⟨SJ b.1 A4 A4,SJ b.2.1 A4 A4,SJ b.2.2 A4 A4⟩
def M5{v:Q3}(h:Bu m v)(hm:m<=n):Bu n v:=⟨Fi h.1 hm,Fi h.2.1 hm,Fi h.2.2 hm⟩
def ajK(h:H3)(l:A3 Q3):(Fa h l).length<=2*l.length:=by
 have:∀s:A3 (Q3×Q3),(s.flatMap<|Lf h).length<=2*s.length:=λs=>by
  induction s with
  |nil=>simp
  |cons x s ih=>
   have hx:(Lf h x).length<=2:=by
    unfold Lf;cases decide (val h x.1<=0)<;>cases HN (val h x.1) (val h x.2)<;>simp
   rw[QM,ED,Dj];omega
 have k:=this<|FY l
 have e:(FY l).length=l.length:=by rw[<-T9,YW]
 unfold Fa;omega
def sign_neg(x:Rat):decide (x.num.sign<0)=decide (x<0):=Gf.2 (by rw[gT,fS])
def fI(x:Rat):decide (0<x.num.sign)=decide (0<x):=Gf.2 (by rw[Int.sign_pos_iff,Yl])
def vH(h:H3)(A:A3 CV)(f:CV):Nd h (A++[f])=Nd h A++(bif decide (2<(Fa h f.2).length) then [(f.1,Fa h f.2)] else []):=by
 unfold Nd;rw[List.filterMap_append];cases hd:decide (2<(Fa h f.2).length)<;>simp[hd]
def al6(I:Da S M)(hl:M.length<=60){f:CV}(mf:f∈S):f.2.length<=216000:=by
 obtain⟨_,g2,g3,g4⟩:=I.Fb f mf;have:=fU (g2.nodup g3) λp mp=>((g4 p).1 mp).1
 have:=GB hl<|GB hl hl
 omega
theorem Yd.agy{h:H3}(I:Da S M)(hM:Mx k (h::M))(hk:k<=280)(hlen:M.length<=60)(hz:h.1≠o3)(hn:∀a∈h::M,∀b∈h::M,UR a b->a=b):
  Yd (λr:A3 CV×Bool=>(r.2=true/\Da r.1 (h::M))\/(r.2=false/\ ¬ ∃o,∀k∈h::M,val k o<0)) (R4 S h):=by
 have hM':Mx k M:=λg mg=>hM g<|Bq _ mg
 have np:∀f∈S,∀p∈f.2,Bu (35*k+2) p:=λf mf p mp=>qT hM' (((I.Fb f mf).2.2.2 p).1 mp).1
 have nc:∀f∈S,∀p∈Fa h f.2,Bu (35*k+2) p:=λf mf p mp=>qT hM ((I.Vo h f mf p).1 mp).1
 have hh:Bu (35*k+2) h.1/\lv (35*k+2) h.2:=⟨M5 (hM h Dq).1 A4,Fi (hM h Dq).2 A4⟩;have hS:=I.len;have fl:∀f∈S,f.2.length<=216000:=λf mf=>al6 I hlen mf
 unfold R4;refine Cz S (λ(s:Bool×Bool) i=>(s.1,s.2,i)) (λA s=>(s.1=true↔∃f∈A,∃p∈f.2,val h p<0)/\(s.2=true↔∃f∈A,∃p∈f.2,0<val h p)) (λA f C s k1 hL hP next=>?_) (λs k1 hP=>?_) (s0:=(false,false)) AS A4
 ·dsimp only;rw[DD hL,Bf];refine A5 (C8 hL) ?_;have mf:=at_mem hL;refine Cz f.2 (λ(s:Bool×Bool) i=>(s.1,s.2,i)) (λB t=>(t.1=true↔(∃f∈A,∃p∈f.2,val h p<0)\/∃p∈B,val h p<0)/\(t.2=true↔(∃f∈A,∃p∈f.2,0<val h p)\/∃p∈B,0<val h p)) (λB p D t k2 hL' hP' next'=>?_) (λt k2 hP'=>?_) (s0:=s) (by simpa using hP) (by have:=fl f mf;omega)
  ·dsimp only;rw[DD hL',Bf];refine Du (λt:Bool×Bool=>(t.1=true↔(∃f∈A,∃p∈f.2,val h p<0)\/∃q∈B++[p],val h q<0)/\(t.2=true↔(∃f∈A,∃p∈f.2,0<val h p)\/∃q∈B++[p],0<val h q)) (λt ht=>A5 (Cb hL' (by have:=fl f mf;omega))<|next' t ht) λk3 hk3=>?_
   refine A5 (C8 hL')<|A5 (eJ hh (np f mf p<|at_mem hL') A4 A4).1<|A5 (x:=(val h p).num.sign) rfl ?_
   rw[sign_neg,fI];simp only[Cp,DV,Z8,exists_or,exists_eq_left] at hk3;refine Ad (λhc=>hk3 _ ?_) λhc=>Ad (λGb=>hk3 _ ?_) λGb=>hk3 _ ?_
   ·have hc:=An hc;have ET: ¬0<val h p:=AY;simp only[hc,ET,or_true,or_false,true_iff];exact⟨trivial,hP'.2⟩
   ·have hc:=BQ hc;have Gb:=An Gb;simp only[hc,Gb,or_true,or_false];exact⟨hP'.1,AS⟩
   ·have hc:=BQ hc;have Gb:=BQ Gb;simp only[hc,Gb,or_false];exact hP'
  ·dsimp only;rw[DB,B8];refine A5 (Cb hL A4)<|next t ?_
   simpa[Cp,Z8,exists_or] using hP'
 ·dsimp only;rw[DB,B8];refine Ad (λhc=>AU<| .inr ⟨rfl,I.empty λf mf p mp=>?_⟩) λhc=>Ad (λGb=>AU<| .inl ⟨rfl,I.out hz hn λf mf p mp=>?_⟩) λGb=>?_
  ·grind
  ·grind
  ·obtain⟨f0,m0,p0,q0,h0⟩:=hP.1.1 (by simpa using hc);obtain⟨f1,m1,p1,q1,h1⟩:=hP.2.1 (by simpa using Gb);obtain⟨_,c1,c2⟩:=I.cut hz m0 q0 h0 m1 q1 h1;refine Cz S (λ(s:A3 Q3×A3 CV) i=>(s.1,s.2,i)) (λA s=>s.2=Nd h A/\(∀p,p∈s.1↔(∃f∈A,p∈Fa h f.2)/\val h p=0)/\s.1.length<=A.length*432000) (λA f C s k1 hL hP next=>?_) (λs k1 hP=>?_) (s0:=([],[])) (by simp[Nd]) A4
   ·dsimp only;have mf:=at_mem hL;have cl:=ajK h f.2;have fl':=fl f mf;have al:=Dt hL;have fal:(Nd h A).length<=A.length:=List.length_filterMap_le _ _;rw[DD hL,Bf];refine Du (λt:A3 Q3×A3 CV=>t.2=Nd h (A++[f])/\(∀p,p∈t.1↔(∃g∈A++[f],p∈Fa h g.2)/\val h p=0)/\t.1.length<=(A++[f]).length*432000) (λt ht=>A5 (Cb hL A4)<|next t ht) λk3 hk3=>?_
    refine A5 (C8 hL)<|A5 (ajJ A4 hh (np f mf) A4 A4) ?_
    have mc:=nc f mf;refine Cz (Fa h f.2) (λ(t:A3 Q3) i=>(t,i)) (λB t=>(∀p,p∈t↔((∃f∈A,p∈Fa h f.2)\/p∈B)/\val h p=0)/\t.length<=A.length*432000+B.length) (λB p D t k2 hL' hP' next'=>?_) (λt k2 hP'=>?_) (s0:=s.1) (by simpa using hP.2) A4
    ·dsimp only;have bl:=Dt hL';rw[DD hL',Bf];refine Du (λt:A3 Q3=>(∀q,q∈t↔((∃f∈A,q∈Fa h f.2)\/q∈B++[p])/\val h q=0)/\t.length<=A.length*432000+(B++[p]).length) (λt ht=>A5 (Cb hL' A4)<|next' t ht) λk4 hk4=>?_
     refine A5 (C8 hL')<|A5 (eJ hh (mc p<|at_mem hL') A4 A4).1<|A5 (x:=(val h p).num.sign) rfl ?_
     rw[sign_zero];refine Ad (λhc=>A5 (app_1 A4 A4) (hk4 _ ⟨λq=>?_,by have:=hP'.2;simp;omega⟩)) λhc=>hk4 _ ⟨λq=>?_,by have:=hP'.2;simp;omega⟩
     ·grind
     ·grind
    ·dsimp only;rw[DB,B8];have g1:∀p,p∈t↔(∃g∈A++[f],p∈Fa h g.2)/\val h p=0:=λp=>by
      rw[hP'.1];simp[Cp,Z8,exists_or]
     have g2:t.length<=(A++[f]).length*432000:=AY;have hd:decide (2<((Fa h f.2).length:Int))=decide (2<(Fa h f.2).length):=Gf.2 A4;rw[hd];refine Ad (λhc=>?_) λhc=>hk3 _ ⟨?_,g1,g2⟩
     ·rw[hP.1];exact A5 (app_1 A4 A4) (hk3 _ ⟨by rw[vH,hc];rfl,g1,g2⟩)
     ·rw[vH,hc,hP.1];simp
   ·dsimp only;rw[DB,B8];obtain⟨r,r1,r2,r3⟩:=yI (L:=h::M) hz (l:=s.1) (n:=35*k+2) (λp mp=>by
     obtain⟨⟨f,mf,mp'⟩,hv⟩:=(hP.2.1 p).1 mp;exact⟨((I.Vo h f mf p).1 mp').1,hv,nc f mf p mp'⟩) hh.1 A4 A4 (by have:=hP.2.2;omega) λl hl=>by
      have:=c2 l λp vp tp=>hl p<|(hP.2.1 p).2<|(c1 p).2 ⟨vp,tp⟩
      omega
    have fsl:(Nd h S).length<=S.length:=List.length_filterMap_le _ _;rw[hP.1];refine A5 r1<|A5 (app_1 A4 A4)<|AU<| .inl ⟨rfl,?_⟩
    exact I.clip hz hn m0 q0 h0 m1 q1 h1 r2 λp=>by rw[r3,hP.2.1]
theorem Yd.af2(I:Da S M)(hM:Mx k (L++M))(hk:k<=280)(hlen:L.length+M.length<=60)(hz:∀h∈L,h.1≠o3)(hn:∀a∈L++M,∀b∈L++M,UR a b->a=b):
  Yd (λr:A3 CV×Bool=>(r.2=true/\∃N,(∀h,h∈N↔h∈L\/h∈M)/\N.length=L.length+M.length/\Da r.1 N)\/(r.2=false/\ ¬ ∃o,∀k∈L++M,val k o<0)) (R2 S L):=by
 unfold R2;refine Cz L (λ(s:A3 CV) i=>(s,i)) (λA s=>∃N,(∀h,h∈N↔h∈A\/h∈M)/\N.length=A.length+M.length/\Da s N) (λA h C s k1 hL hP next=>?_) (λs k1 hP=>?_) (s0:=S) ⟨M,AS,AS,I⟩ A4
 ·obtain⟨N,n1,n2,n3⟩:=hP;have al:=Dt hL;dsimp only;rw[DD hL,Bf];refine A5 (C8 hL) ?_;have sub:∀g∈h::N,g∈L++M:=λg mg=>by
   rcases Ai.1 mg with e|mg
   ·grind
   ·grind
  refine Az (Yd.agy (k:=k) n3 (λg mg=>hM g<|sub g mg) hk A4 (hz h<|at_mem hL) λa ma b mb=>hn a (sub a ma) b<|sub b mb) λr hr=>?_
  rcases hr with⟨e,hr⟩|⟨e,hr⟩
  ·rw[e,ZB,B8];refine A5 (Cb hL A4)<|next _ ⟨h::N,λg=>?_,E8,hr⟩
   rw[Ai,n1];simp only[Cp,DV];constructor
   ·grind
   ·grind
  ·rw[e,Bool.not_false,Bf];exact AU<| .inr ⟨rfl,λ⟨o,ho⟩=>hr ⟨o,λg mg=>ho g<|sub g mg⟩⟩
 ·dsimp only;rw[DB,B8];exact AU<| .inl ⟨rfl,hP⟩
def NQ{d:Int}(h:d=1\/d= -1):qF d=some (d:Rat):=by rcases h with rfl|rfl<;>rfl
def JQ{d:Int}(h:d=1\/d= -1)(n:Nat):lv n (d:Rat):=by
 have e:(10:Nat)^0<=10^n:=KN A4 A4;have:1<=10^n:=e;rcases h with rfl|rfl<;>exact⟨by show 1<=1*10^n;omega,by show 1<=10^n;omega⟩
def jb:N9 0 0 0=some ((0:Rat),(0:Rat),(0:Rat)):=A6
def Va(ha:0<a)(hk:Mx k (DP a))(hk2:k<=280){N:Q3}(hN:(N,a)∈DP a)(hz:N≠o3){f:Rat->Rat->Q3}
 (hf:∀p,(∃x y,(x=a\/x= -a)/\(y=a\/y= -a)/\p=f x y)↔C1 (DP a) p/\val (N,a) p=0)(hne:f a a≠f (-a) (-a))(hl:l=Nl a f):
  ∃r,O1 l N=some r/\F5 N r/\∀p,p∈r↔C1 (DP a) p/\val (N,a) p=0:=by
 subst hl;have hm:∀p,p∈Nl a f↔C1 (DP a) p/\val (N,a) p=0:=λp=>by rw[yM,hf]
 obtain⟨r,r1,r2,r3⟩:=yI (L:=DP a) (f:=(N,a)) hz (l:=Nl a f) (n:=35*k+2) (λp mp=>⟨((hm p).1 mp).1,((hm p).1 mp).2,qT hk ((hm p).1 mp).1⟩) (M5 (hk _ hN).1 A4) A4 A4 (by unfold Nl;simp) λr hr=>by
  have:=Kp (l:=[f a a,f (-a)<| -a]) (T:=r) (by simp[hne]) (by
   intro x mx;refine hr x<|yM.2 ?_
   rcases Ai.1 mx with e|mx
   ·exact⟨a,a,.inl rfl,.inl rfl,e⟩
   ·exact⟨-a,-a,.inr rfl,.inr rfl,DV.1 mx⟩)
  exact this
 exact⟨r,r1,r2,λp=>by rw[r3,hm]⟩
def cpt(a:Rat)(m:Nat)(s:Int)(d:Int×Int):Q3:=match m with
 |0=>((s:Rat)*a,(d.1:Rat)*a,(d.2:Rat)*a)
 |1=>((d.2:Rat)*a,(s:Rat)*a,(d.1:Rat)*a)
 |_=>((d.1:Rat)*a,(d.2:Rat)*a,(s:Rat)*a)
abbrev four:A3 (Int×Int):=[((-1),(-1)),((-1),1),(1,(-1)),(1,1)]
theorem anN{d:Int×Int}(h:d∈four):(d.1=1\/d.1= -1)/\(d.2=1\/d.2= -1):=by grind
theorem Wd(a:Rat):((1:Int):Rat)*a=a:=by grind
theorem Wc(a:Rat):((-1:Int):Rat)*a= -a:=by grind
theorem anW(ha:0<a)(h1:1<=k)(hk:lv k a)(hk2:k<=280):Yd (λS=>Da S<|DP a) (YB a):=by
 have few:Mx k (DP a):=by
  have o:=JQ (.inl rfl:(1:Int)=1\/(1:Int)= -1) k;have m:=JQ (.inr rfl:(-1:Int)=1\/(-1:Int)= -1) k;have z:lv k (0:Rat):=⟨FM _,o.2⟩;exact M7.2 ⟨⟨⟨m,z,z⟩,hk⟩,⟨⟨o,z,z⟩,hk⟩,⟨⟨z,m,z⟩,hk⟩,⟨⟨z,o,z⟩,hk⟩,⟨⟨z,z,m⟩,hk⟩,⟨z,z,o⟩,hk⟩
 unfold YB;refine Cz ([0,1,2]:A3 Nat) (λ(s:A3 CV) i=>(s,i)) (λA s=>s.map Prod.fst=(DP a).take (2*A.length)/\∀f∈s,F5 f.1.1 f.2/\∀p,p∈f.2↔C1 (DP a) p/\val f.1 p=0) (λA i C s k1 hL hP next=>?_) (λs k1 hP=>?_) (s0:=[]) ⟨rfl,AS⟩ AS
 ·have hm:=Dt hL;rw[show([0,1,2]:A3 Nat).length=3 from rfl] at hm;rw[ED] at next
  generalize A.length=m at*
  clear hL;dsimp only;rw[B0 (show(m:Int)<3 by omega),Bf];refine Cz ([(-1),1]:A3 Int) (λ(t:A3 CV) j=>(t,j)) (λB t=>t.map Prod.fst=(DP a).take (2*m+B.length)/\∀f∈t,F5 f.1.1 f.2/\∀p,p∈f.2↔C1 (DP a) p/\val f.1 p=0) (λB sg C t k2 hL hP HG=>?_) (λt k2 hP=>?_) (s0:=s) (by simpa using hP) AS
  ·dsimp only;rw[DD hL,Bf];have hsg:sg=1\/sg= -1:=by have:=at_mem hL;simp at this;omega
   have hb:=Dt hL;rw[show([(-1),1]:A3 Int).length=2 from rfl] at hb;have hbs:sg=2*(B.length:Int)-1:=by
    rcases B with _|⟨b0,_|⟨b1,B⟩⟩
    ·grind
    ·grind
    ·simp at hb
   have tl:t.length<=6:=by
    rw[<-Bp Prod.fst,hP.1];simp[DP];omega
   refine A5 (C8 hL)<|A5 jb<|A5 (NQ hsg) ?_
   have fin:∀(N:Q3) (l:A3 Q3),(∃r,O1 l N=some r/\F5 N r/\∀p,p∈r↔C1 (DP a) p/\val (N,a) p=0)->(DP a)[2*m+B.length]? =some (N,a)->Yd (λS=>Da S<|DP a) (bd (O1 l N) λGJ=>bd (BH 280 t ([((N,a),GJ)]:A3 CV)) λHK=>bd (AG<|(B.length:Int)+1) λK3=>k2 (HK,K3)):=by
    rintro N l ⟨r,r1,r2,r3⟩ hix;refine A5 r1<|A5 (app_1 A4 A4)<|A5 (Cb hL AS)<|HG _ ⟨?_,λf mf=>?_⟩
    ·rw[Mg,hP.1,ED,<-Kx];show _=List.take (2*m+B.length+1) _;rw[List.take_add_one,hix];rfl
    ·grind
   have hm:m=0\/m=1\/m=2:=A4;refine A5 (x:=(0:Rat)) (by rcases hm with rfl|rfl|rfl<;>rfl) ?_;refine Cz four (λ(u:A3 Q3) j=>(u,j)) (λD u=>u=D.map (cpt a m sg)) (λD d E u k3 hL3 hP3 Wn=>?_) (λu k3 hP3=>?_) (s0:=[]) rfl (by simp[four])
   ·dsimp only;rw[DD hL3,Bf];obtain⟨d1,d2⟩:=anN<|at_mem hL3
    have ul:u.length<=100000000:=by rw[hP3,Bp];have:=Dt hL3;simp at this;omega
    rcases hm with rfl|rfl|rfl
    ·exact A5 (C8 hL3) (A5 (jb) (A5 ((rfl)) (A5 ((rfl)) (A5 ((rfl)) (A5 ((rfl)) (A5 (NQ hsg) (A5 ((Ih (JQ hsg k) hk h1 A4).1) (A5 (NQ d1) (A5 ((Ih (JQ d1 k) hk h1 A4).1) (A5 (NQ d2) (A5 ((Ih (JQ d2 k) hk h1 A4).1) (A5 ((rfl)) (A5 ((rfl)) (A5 ((rfl)) (A5 (app_1 A4 A4) (A5 (Cb hL3 AS) (Wn _ (by rw[hP3,Mg];rfl))))))))))))))))))
    ·exact A5 (C8 hL3) (A5 (jb) (A5 ((rfl)) (A5 ((rfl)) (A5 ((rfl)) (A5 ((rfl)) (A5 (NQ hsg) (A5 ((Ih (JQ hsg k) hk h1 A4).1) (A5 (NQ d1) (A5 ((Ih (JQ d1 k) hk h1 A4).1) (A5 (NQ d2) (A5 ((Ih (JQ d2 k) hk h1 A4).1) (A5 ((rfl)) (A5 ((rfl)) (A5 ((rfl)) (A5 (app_1 A4 A4) (A5 (Cb hL3 AS) (Wn _ (by rw[hP3,Mg];rfl))))))))))))))))))
    ·exact A5 (C8 hL3) (A5 (jb) (A5 ((rfl)) (A5 ((rfl)) (A5 ((rfl)) (A5 ((rfl)) (A5 (NQ hsg) (A5 ((Ih (JQ hsg k) hk h1 A4).1) (A5 (NQ d1) (A5 ((Ih (JQ d1 k) hk h1 A4).1) (A5 (NQ d2) (A5 ((Ih (JQ d2 k) hk h1 A4).1) (A5 ((rfl)) (A5 ((rfl)) (A5 ((rfl)) (A5 (app_1 A4 A4) (A5 (Cb hL3 AS) (Wn _ (by rw[hP3,Mg];rfl))))))))))))))))))
   ·dsimp only;rw[DB,B8,hP3];have ne:a≠ -a:=AY;rcases hm with rfl|rfl|rfl<;>rcases hsg with rfl|rfl
    ·exact fin _ _ (Va (N:=(1,0,0)) (f:=λx y=>(a,x,y)) ha few hk2 (by simp[DP]) (λe=>by simp only[o3,La] at e;grind) (λp=>by rw[TP ha,OT];exact⟨λ⟨x,y,hx,hy,e⟩=>by subst e;grind,λh=>⟨p.2.1,p.2.2,AY,AY,Prod.ext (by dsimp only<;>grind) (Prod.ext (by dsimp only<;>grind) (by dsimp only<;>grind))⟩⟩) (λe=>by simp[Prod.ext_iff] at e;grind) (by simp[cpt,Nl,Wd,Wc]<;>grind)) (by rw[show B.length=1 by omega];rfl)
    ·exact fin _ _ (Va (N:=(-1,0,0)) (f:=λx y=>(-a,x,y)) ha few hk2 (by simp[DP]) (λe=>by simp only[o3,La] at e;grind) (λp=>by rw[TP ha,OU];exact⟨λ⟨x,y,hx,hy,e⟩=>by subst e;grind,λh=>⟨p.2.1,p.2.2,AY,AY,Prod.ext (by dsimp only<;>grind) (Prod.ext (by dsimp only<;>grind) (by dsimp only<;>grind))⟩⟩) (λe=>by simp[Prod.ext_iff] at e;grind) (by simp[cpt,Nl,Wd,Wc]<;>grind)) (by rw[show B.length=0 by omega];rfl)
    ·exact fin _ _ (Va (N:=(0,1,0)) (f:=λx y=>(y,a,x)) ha few hk2 (by simp[DP]) (λe=>by simp only[o3,La] at e;grind) (λp=>by rw[TP ha,OR];exact⟨λ⟨x,y,hx,hy,e⟩=>by subst e;grind,λh=>⟨p.2.2,p.1,AY,AY,Prod.ext (by dsimp only<;>grind) (Prod.ext (by dsimp only<;>grind) (by dsimp only<;>grind))⟩⟩) (λe=>by simp[Prod.ext_iff] at e;grind) (by simp[cpt,Nl,Wd,Wc]<;>grind)) (by rw[show B.length=1 by omega];rfl)
    ·exact fin _ _ (Va (N:=(0,-1,0)) (f:=λx y=>(y,-a,x)) ha few hk2 (by simp[DP]) (λe=>by simp only[o3,La] at e;grind) (λp=>by rw[TP ha,OS];exact⟨λ⟨x,y,hx,hy,e⟩=>by subst e;grind,λh=>⟨p.2.2,p.1,AY,AY,Prod.ext (by dsimp only<;>grind) (Prod.ext (by dsimp only<;>grind) (by dsimp only<;>grind))⟩⟩) (λe=>by simp[Prod.ext_iff] at e;grind) (by simp[cpt,Nl,Wd,Wc]<;>grind)) (by rw[show B.length=0 by omega];rfl)
    ·exact fin _ _ (Va (N:=(0,0,1)) (f:=λx y=>(x,y,a)) ha few hk2 (by simp[DP]) (λe=>by simp only[o3,La] at e;grind) (λp=>by rw[TP ha,OP];exact⟨λ⟨x,y,hx,hy,e⟩=>by subst e;grind,λh=>⟨p.1,p.2.1,AY,AY,Prod.ext (by dsimp only<;>grind) (Prod.ext (by dsimp only<;>grind) (by dsimp only<;>grind))⟩⟩) (λe=>by simp[Prod.ext_iff] at e;grind) (by simp[cpt,Nl,Wd,Wc]<;>grind)) (by rw[show B.length=1 by omega];rfl)
    ·exact fin _ _ (Va (N:=(0,0,-1)) (f:=λx y=>(x,y,-a)) ha few hk2 (by simp[DP]) (λe=>by simp only[o3,La] at e;grind) (λp=>by rw[TP ha,OQ];exact⟨λ⟨x,y,hx,hy,e⟩=>by subst e;grind,λh=>⟨p.1,p.2.1,AY,AY,Prod.ext (by dsimp only<;>grind) (Prod.ext (by dsimp only<;>grind) (by dsimp only<;>grind))⟩⟩) (λe=>by simp[Prod.ext_iff] at e;grind) (by simp[cpt,Nl,Wd,Wc]<;>grind)) (by rw[show B.length=0 by omega];rfl)
  ·dsimp only;rw[DB,B8];refine A5 (x:=((m+1:Nat):Int)) (by rw[EZ ⟨A4,A4⟩];rfl)<|next t ?_
   have:2*(m+[i].length)=2*m+([(-1),1]:A3 Int).length:=by simp;omega
   rw[this];exact hP
 ·dsimp only;rw[show decide (((([0,1,2]:A3 Nat).length:Nat):Int)<3)=false from rfl,B8];exact AU<|ajF ha hP.1 hP.2
def Lg(n:Q3):Prop:=∃x y z:Int,n=((x:Rat),(y:Rat),(z:Rat))/\Nat.gcd (Nat.gcd x.natAbs y.natAbs) z.natAbs=1
def Lg.Iy{n:Q3}:Lg n->Np n|⟨x,y,z,h,_⟩=>by rw[h];exact⟨⟨x,rfl⟩,⟨y,rfl⟩,⟨z,rfl⟩⟩
theorem r8{x:Int}(h:(x:Rat)=0):x=0:=by simp_all
def Lg.nz{n:Q3}(p:Lg n):n≠o3:=λe=>by
 obtain⟨x,y,z,h,g⟩:=p;rw[h] at e;simp only[o3,La] at e;rw[r8 e.1,r8 e.2.1,r8 e.2.2] at g;cases g
def qV{s:Rat}{x y:Int}(h:(x:Rat)*s=(y:Rat)):s.den∣x.natAbs/\s.num.natAbs∣y.natAbs:=by
 have e:x*s.num=y*(s.den:Int):=by
  have hd:(s.den:Rat)≠0:=by
   have:=s.den_nz;intro c;exact this<|Rat.natCast_eq_zero_iff.1 c
  have h2:(x:Rat)*(s.num:Rat)=(y:Rat)*(s.den:Rat):=by
   have h3:(s.num:Rat)=s*(s.den:Rat):=by
    have:=Rat.num_divInt_den s;rw[OL,Rat.intCast_natCast] at this;have t:=PM (a:=(s.num:Rat)) hd;rw[this] at t;exact t.symm
   rw[h3,<-h,Rat.mul_assoc]
  have h4:((x*s.num:Int):Rat)=((y*(s.den:Int):Int):Rat):=by rw[Rat.intCast_mul,Rat.intCast_mul];exact h2
  exact ZC.1 h4
 have n:=congrArg Int.natAbs e;rw[JS,JS,En] at n;have c:=s.reduced;exact⟨(Nat.Coprime.dvd_of_dvd_mul_right c.symm ⟨y.natAbs,by rw[n,Kt]⟩),(Nat.Coprime.dvd_of_dvd_mul_right c ⟨x.natAbs,by rw[<-n,Kt]⟩)⟩
theorem aij{h k:H3}(a:Lg h.1)(b:Lg k.1):UR h k->h=k:=λ⟨s,s0,e⟩=>by
 obtain⟨x,y,z,e1,g1⟩:=a;obtain⟨x',y',z',e2,g2⟩:=b;have e3:Ba h.1 s=k.1:=by rw[e]
 rw[e1,e2] at e3;simp only[Ba,La] at e3;obtain⟨c1,c2⟩:=qV e3.1;obtain⟨d1,d2⟩:=qV e3.2.1;obtain⟨f1,f2⟩:=qV e3.2.2;have u:=Nat.dvd_gcd (Nat.dvd_gcd c1 d1) f1;have v:=Nat.dvd_gcd (Nat.dvd_gcd c2 d2) f2;rw[g1] at u;rw[g2] at v;have u:=Nat.dvd_one.1 u;have v:=Nat.dvd_one.1 v;have:0<s.num:=Yl.2 s0;have s1:s=1:=Rat.ext (by show s.num=1;omega) (by show s.den=1;omega);rw[e,s1];exact Prod.ext (HM) (by simp only;grind)
def ajI:∀h∈DP a,Lg h.1:=M7.2 ⟨⟨-1,0,0,A6,rfl⟩,⟨1,0,0,A6,rfl⟩,⟨0,-1,0,A6,rfl⟩,⟨0,1,0,A6,rfl⟩,⟨0,0,-1,A6,rfl⟩,⟨0,0,1,A6,rfl⟩⟩
def Oi(x:Rat):Rat:=bif decide (x<0) then -x else x
theorem iL{m:Rat}(h:Oi x<=m):wi x m:=by grind [Oi,wi]
def iM(h:lv n x):lv n (Oi x):=by
 unfold Oi;cases decide (x<0)
 ·exact h
 ·exact abG h
def zP(x:Rat):Y8 x=some (Oi x):=by
 unfold Y8 JB Oi Sa;rw[D4,sign_neg];cases decide (x<0)<;>rfl
theorem vl{l:A3 Rat}(h:∀x∈l,lv n x)(hn:n<=10000000000)(hl:l.length<=10000000):Yd (λr=>1<=r/\lv n r/\∀x∈l,x<=r) (XZ l):=by
 have hL:∀x∈l++[1],lv n x:=λx mx=>by
  rcases Cp.1 mx with m|m
  ·exact h x m
  ·rw[DV.1 m];exact JQ (d:=1) (.inl rfl) n
 have fin:∀r,r∈l++[1]->(∀x∈l++[1],x<=r)->1<=r/\lv n r/\∀x∈l,x<=r:=λr mr hr=>⟨hr 1 AS,hL r mr,λx mx=>hr x (by simp[mx])⟩
 have len:(l++[1]).length=l.length+1:=AS;unfold XZ;refine A5 (NQ<| .inl rfl)<|A5 (app_1 A4 A4) ?_
 rw[show((1:Int):Rat)=1 from rfl]
 generalize l++[1]=L at*
 unfold jr;cases L with
 |nil=>simp at len
 |cons y T=>
  rw[Bl (show¬(((y::T).length:Nat):Int)<1 by simp;omega),B8];refine Az (S:=λr=>r∈y::T/\∀x∈y::T,x<=r) (A5 (x:=y) rfl ?_) λr hr=>AU<|fin r hr.1 hr.2
  refine UA (y::T) (λ(m:Rat) i=>(m,i)) (λA m=>m∈y::T/\∀x∈A,x<=m) (λA x C m k hA hP next=>?_) (λm k hP=>?_) [y] T (s0:=y) rfl ⟨AS,by simp[Gx]⟩ A4
  ·dsimp only;rw[DD hA,Bf];have mx:=at_mem hA;refine Du (λm':Rat=>m'∈y::T/\∀z∈A++[x],z<=m') (λm' hm'=>A5 (Cb hA A4)<|next m' hm') λk8 h8=>?_
   refine A5 (C8 hA)<|A5 (j5 (hL x mx) (hL m hP.1) hn)<|Ad (λhc=>A5 (C8 hA)<|h8 x ⟨mx,λz mz=>?_⟩) λhc=>h8 m ⟨hP.1,λz mz=>?_⟩
   ·have hm:m<=x:=by
     refine Cl λg=>?_
     rw[B0 (show x<m by grind)] at hc;cases hc
    rcases Cp.1 mz with mz|mz
    ·grind
    ·grind
   ·have hm:x<=m:=by
     refine Cl λg=>?_
     rw[Bl (show¬x<m by grind),B0 (show m<x by grind)] at hc;cases hc
    rcases Cp.1 mz with mz|mz
    ·exact hP.2 z mz
    ·grind
  ·dsimp only;rw[DB,B8];exact AU hP
def yu(hk:lv k a):Mx k (DP a):=by
 have o:=JQ (.inl rfl:(1:Int)=1\/(1:Int)= -1) k;have m:=JQ (.inr rfl:(-1:Int)=1\/(-1:Int)= -1) k;have z:lv k (0:Rat):=⟨FM _,o.2⟩;exact M7.2 ⟨⟨⟨m,z,z⟩,hk⟩,⟨⟨o,z,z⟩,hk⟩,⟨⟨z,m,z⟩,hk⟩,⟨⟨z,o,z⟩,hk⟩,⟨⟨z,z,m⟩,hk⟩,⟨z,z,o⟩,hk⟩
def Z4(hx:lv m x)(hy:lv n y)(hm:m<=1000)(hn:n<=1000):GG x y=some (x*y):=by
 unfold GG;rw[MD hx A4,MD hy A4];rfl
def US(L:A3 H3)(k:Nat)(r:A3 CV×Bool):Prop:=
 ∃a m D:Rat,a=7*(m*m*D)/\0<m/\0<D/\lv (3*k+1) a/\(∀h∈L,wi3 h.1 m/\wi h.2 D)/\
  ((r.2=true/\∃N,(∀h,h∈N↔h∈L\/h∈DP a)/\Da r.1 N)\/(r.2=false/\ ¬ ∃o,∀k∈L++DP a,val k o<0))
theorem yx(hL:Mx k L)(h1:1<=k)(hk:k<=90)(hlen:L.length<=50)(hp:∀h∈L,Lg h.1):Yd (US L k) (Sz L):=by
 unfold Sz;refine Cz L (λ(s:A3 Rat×A3 Rat) i=>(s.1,s.2,i)) (λA s=>((∀x∈s.1,lv k x)/\∀x∈s.2,lv k x)/\(∀h∈A,Oi h.1.1∈s.1/\Oi h.1.2.1∈s.1/\Oi h.1.2.2∈s.1/\Oi h.2∈s.2)/\s.1.length=3*A.length/\s.2.length=A.length) (λA h C s k1 hA hP next=>?_) (λs k1 hP=>?_) (s0:=([],[])) AS A4
 ·dsimp only;rw[DD hA,Bf];refine A5 (C8 hA) ?_;obtain⟨g1,g2⟩:=hL h<|at_mem hA
  have al:=Dt hA;refine Cz [h.1.1,h.1.2.1,h.1.2.2] (λ(t:A3 Rat) i=>(t,i)) (λB t=>t=s.1++B.map Oi) (λB x D t k2 hB hQ HG=>?_) (λt k2 hQ=>?_) (s0:=s.1) AS AS
  ·dsimp only;have bl:=Dt hB;rw[show [h.1.1,h.1.2.1,h.1.2.2].length=3 from rfl] at bl;rw[B0 (show(B.length:Int)<3 by omega),Bf];refine A5 (C8 hB) (A5 (zP x) (A5 (app_1 A4 (by rw[hQ];simp;omega))<|A5 (Cb hB AS)<|HG _ ?_));rw[hQ,Mg,ID];rfl
  ·dsimp only;rw[show decide ((([h.1.1,h.1.2.1,h.1.2.2].length:Nat):Int)<3)=false from rfl,B8];refine A5 (zP h.2)<|A5 (app_1 A4 A4)<|A5 (Cb hA A4)<|next (_,_) ⟨⟨?_,?_⟩,?_,?_,?_⟩
   ·intro x mx;rw[hQ] at mx;simp only[Mf,ZA,Cp,Ai,S2,or_false] at mx;rcases mx with m|rfl|rfl|rfl
    ·exact hP.1.1 x m
    ·exact iM g1.1
    ·exact iM g1.2.1
    ·exact iM g1.2.2
   ·intro x mx;rcases Cp.1 mx with m|m
    ·exact hP.1.2 x m
    ·rw[DV.1 m];exact iM g2
   ·grind
   ·grind
   ·simp;omega
 ·dsimp only;rw[DB,B8];obtain⟨⟨p1,p2⟩,p3,p4,p5⟩:=hP;refine Az (vl p1 A4 A4) λm ⟨m1,m2,m3⟩=>?_
  have s7:lv 1 (7:Rat):=⟨F1 A6,F1 A6⟩;have a1:=MJ s7 m2;have a2:=MJ a1 m2;refine A5 (x:=(7:Rat)) A6<|A5 (Z4 s7 m2 A4 A4)<|A5 (Z4 a1 m2 A4 A4) ?_
  refine Az (vl p2 A4 A4) λD ⟨D1,D2,D3⟩=>?_
  have a3:lv (3*k+1) (7*m*m*D):=Fi (MJ a2 D2) A4;have e:7*m*m*D=7*(m*m*D):=AY;have m0:0<m:=AY;have D0:0<D:=AY;have pos:0<7*m*m*D:=by
   have:=Gw (Gw m0 m0) D0;rw[e];grind
  refine A5 (Z4 a2 D2 A4 A4)<|Az (anW pos A4 a3 A4) λS IS=>?_
  have pr:∀g∈L++DP (7*m*m*D),Lg g.1:=λg mg=>(Cp.1 mg).elim (hp g)<|ajI g
  have fw:Mx (3*k+1) (L++DP (7*m*m*D)):=λg mg=>(Cp.1 mg).elim (λh=>⟨M5 (hL g h).1 A4,Fi (hL g h).2 A4⟩)<|yu a3 g
  refine Az (Yd.af2 IS fw A4 (by simp[DP];omega) (λh mh=>(hp h mh).nz) λa ma b mb=>aij (pr a ma)<|pr b mb) λr hr=>AU ⟨_,m,D,e,m0,D0,a3,λh mh=>?_,?_⟩
  ·obtain⟨a,b,c,d⟩:=p3 h mh;exact⟨⟨iL<|m3 _ a,iL<|m3 _ b,iL<|m3 _ c⟩,iL<|D3 _ d⟩
  ·rcases hr with⟨e1,N,n1,_,n3⟩|⟨e1,n⟩
   ·grind
   ·exact .inr ⟨e1,n⟩
def US.si(hp:∀h∈L,Lg h.1)(hb:Eg L){m D:Rat}(e:a=7*(m*m*D))(m0:0<m)(D0:0<D)(hw:∀h∈L,wi3 h.1 m/\wi h.2 D){p:Q3}(mp:Mem L p):∀h∈DP a,val h p<0:=by
 rw[e];exact anA hb m0 D0 (λh mh=>⟨(hp h mh).Iy,hw h mh⟩) mp
def US.XB{r:A3 CV×Bool}(h:US L k r)(hp:∀h∈L,Lg h.1)(hb:Eg L):(r.2=true/\Da r.1 L)\/(r.2=false/\ ¬ ∃o,∀k∈L,val k o<0):=by
 obtain⟨a,m,D,e,m0,D0,_,hw,hr⟩:=h;rcases hr with⟨e1,N,n1,n2⟩|⟨e1,n⟩
 ·exact .inl ⟨e1,(n2.drop n1 hb λp mp=>US.si hp hb e m0 D0 hw mp).1⟩
 ·refine .inr ⟨e1,λ⟨o,ho⟩=>n ⟨o,λg mg=>?_⟩⟩;rcases Cp.1 mg with mg|mg
  ·exact ho g mg
  ·exact US.si hp hb e m0 D0 hw (λg mg=>Ge<|ho g mg) g mg
def akj{g:H3->A9 Bool}{p:H3->Bool}(hg:∀x∈L,g x=some (p x))(hl:L.length<=100000000):bE L g=some (L.any p):=by
 have key:Yd (λi=>decide (0<=i)=L.any p) (bF L g):=by
  unfold bF;refine Cz L (λ(_:Unit) i=>i) (λA _=>A.any p=false) (λA x C s k hA hP next=>?_) (λs k hP=>?_) (s0:=()) rfl A4
  ·rw[DD hA,Bf];refine A5 (C8 hA)<|A5 (hg x<|at_mem hA)<|Ad (λhc=>AU ?_) λhc=>A5 (Cb hA A4)<|next () ?_
   ·rw[B0 A4,hA,Vz,List.any_cons,hc];simp
   ·rw[Vz,hP,List.any_cons,hc];rfl
  ·rw[DB,B8];exact AU (by rw[hP];rfl)
 obtain⟨r,r1,r2⟩:=key;unfold bE;rw[r1,<-r2];rfl
def aiI{x:H3}(hx:Bu n x.1/\lv n x.2)(hf:Bu n f.1/\lv n f.2)(hn:n<=10000000000):XS x (f,l)=some (decide<|x=f):=by
 obtain⟨v,v1,_,v2⟩:=pA hx.1 hf.1 hn;have s:Pr x.1 f.1=some (decide<|x.1=f.1):=by
  unfold Pr;rw[v1];show some (decide<|v=0)=_
  congr 1;exact Gf.2 v2
 have q:SI x.2 f.2=some (decide<|x.2=f.2):=by unfold SI;rw[MD hx.2 hn,MD hf.2 hn];rfl
 have e:decide (x=f)=(decide (x.1=f.1)&&decide (x.2=f.2)):=by
  rw[ZD];simp[QO]
 unfold XS;rw[s,D4,e];cases decide (x.1=f.1)
 ·rfl
 ·show bd (SI x.2 f.2) _=_;rw[q];rfl
theorem ahc(hL:Mx k L)(h1:1<=k)(hk:k<=90)(hlen:L.length<=50)(hp:∀h∈L,Lg h.1):Yd (λb=>b=true↔Eg L) (bn L):=by
 unfold bn;refine Cz L (λ(s:A3 H3) i=>(s,i)) (λA s=>s=A.map λh=>(h.1,(1:Rat))) (λA h C s k1 hA hP next=>?_) (λs k1 hP=>?_) (s0:=[]) rfl A4
 ·dsimp only;rw[DD hA,Bf];have al:=Dt hA;refine A5 (C8 hA) (A5 (NQ<| .inl rfl) (A5 (app_1 A4 (by rw[hP];simp;omega))<|A5 (Cb hA A4)<|next _ ?_));rw[hP,Mg];rfl
 ·dsimp only;rw[DB,B8];have hO:∀h∈s,∃g∈L,h=(g.1,(1:Rat)):=λh mh=>by
   rw[hP] at mh;obtain⟨g,mg,e⟩:=Bv.1 mh;exact⟨g,mg,e.symm⟩
  have hI:∀g∈L,(g.1,(1:Rat))∈s:=λg mg=>by rw[hP];exact Bv.2 ⟨g,mg,rfl⟩
  have sl:s.length=L.length:=by rw[hP,Bp]
  have sp:∀h∈s,Lg h.1:=λh mh=>by obtain⟨g,mg,e⟩:=hO h mh;rw[e];exact hp g mg
  have sf:Mx k s:=λh mh=>by
   obtain⟨g,mg,e⟩:=hO h mh;rw[e];exact⟨(hL g mg).1,JQ (d:=1) (.inl rfl) k⟩
  have sb:Eg s↔Eg L:=by
   constructor
   ·intro hb d hd;obtain⟨h,mh,k⟩:=hb d hd;obtain⟨g,mg,e⟩:=hO h mh;rw[e] at k;exact⟨g,mg,k⟩
   ·intro hb d hd;obtain⟨g,mg,k⟩:=hb d hd;exact⟨_,hI g mg,k⟩
  refine Az (yx sf h1 hk A4 sp) λr hr=>?_
  obtain⟨a,m,D,e,m0,D0,la,hw,hr⟩:=hr;have a0:0<a:=by rw[e];have:=Gw (Gw m0 m0) D0;grind
  have s1:∀h∈s,0<h.2:=λh mh=>by obtain⟨g,mg,e⟩:=hO h mh;rw[e];show(0:Rat)<1;grind
  rcases hr with⟨e1,N,n1,n2⟩|⟨e1,n⟩
  ·have nf:Mx (3*k+1) N:=λg mg=>(n1 g).1 mg|>.elim (λh=>⟨M5 (sf g h).1 A4,Fi (sf g h).2 A4⟩) (yu la g)
   have bf:=alL n2 n1 a0 s1 λhb p mp=>US.si sp hb e m0 D0 hw mp
   rw[<-sb,bf]
   generalize r.1=S at*
   have SL:S.length<=100000000:=by
    have:=Kp (l:=S.map (·.1)) (T:=s++DP a) (Mm.2<|n2.Ph.imp λh=>h) λx mx=>by
     obtain⟨f,mf,rfl⟩:=Bv.1 mx;exact Cp.2<|(n1 _).1 (n2.Fb f mf).1
    simp[DP] at this;omega
   refine Cz S (λ(_:Unit) i=>i) (λA _=>∀f∈A,f.1∈s) (λA f C u k2 hA hQ next=>?_) (λu k2 hQ=>?_) (s0:=()) AS A4
   ·rw[DD hA,Bf];have mf:=at_mem hA;have ff:=nf f.1 (n2.Fb f mf).1;refine A5 (C8 hA) (A5 (akj (p:=λx=>decide<|x=f.1) (λx mx=>aiI (l:=f.2) ⟨M5 (sf x mx).1 (show k<=3*k+1 by omega),Fi (sf x mx).2 A4⟩ ff A4) A4) ?_);refine Ad (λhc=>AU ?_) λhc=>A5 (Cb hA A4)<|next () λg mg=>?_
    ·constructor
     ·intro c;cases c
     ·intro c;have:=c f mf;rw[GW,gW] at hc;exact absurd (B0 rfl)<|hc f.1 this
    ·rcases Cp.1 mg with m|m
     ·exact hQ g m
     ·rw[DV.1 m];rw[ZN,gU] at hc;obtain⟨x,mx,e⟩:=hc;rw[<-An e];exact mx
   ·rw[DB,B8];exact AU ⟨λ_=>hQ,λ_=>rfl⟩
  ·refine absurd ⟨o3,λg mg=>?_⟩ n;have v:val g o3= -g.2:=by unfold val;rw[Wu];grind
   rw[v];rcases Cp.1 mg with mg|mg
   ·have:=s1 g mg;grind
   ·have ca:∀h∈DP a,h.2=a:=by rw[M7];exact⟨rfl,rfl,rfl,rfl,rfl,rfl⟩
    rw[ca g mg];grind
abbrev Q12:=Q3×Q3×Q3×Q3
def fc(f:Q12):Prop:=vc f.1 1 14/\vc f.2.1 1 14/\vc f.2.2.1 1 14/\vc f.2.2.2 1 14
def aht(hx:bq x n)(hy:bq y n)(h0:0<n)(hn:n<=19000)(h:BL x=BL y):x=y:=by
 obtain⟨p,e1,⟨p1,p2⟩,_⟩:=TV hx h0 hn;obtain⟨r,e2,⟨r1,r2⟩,_⟩:=TV hy h0 hn;rw[h,e2] at e1;have e:=E5 e1;subst e;have key:∀{q:Bool×A3 Int} {a b:Int},FB q a->FB q b->a=b:=by
  rintro q a b ⟨_,h2,h3⟩ ⟨_,k2,k3⟩;rw[h2] at k2;rw[h3] at k3;have:=Gf.1 k3;omega
 have d:=key r2 p2;exact(Rat.ext (key r1 p1) A4).symm
def c4(a b c d e:Int):Int:=bif !decide (a=0) then a else bif !decide (b=0) then b else bif !decide (c=0) then c else bif !decide (d=0) then d else e
def Mr(h:lv n x):bq x (n+1):=by
 have h1:=h.1;rw[LZ] at h1;have e:(10:Nat)^n<10^(n+1):=Nat.pow_lt_pow_right A4 A4;exact⟨A4,by have:=h.2;omega⟩
def lvm(hx:lv m x)(hy:lv n y):lv (m+n) (x*y):=MJ hx hy
def aat(h:bc x (1+1) n):lv (n+1) x:=SJ h A4 A4
def lva(hx:lv m x)(hy:lv n y):lv (m+n+1) (x+y):=aat<|SC hx hy
def lvs(hx:lv m x)(hy:lv n y):lv (m+n+1) (x-y):=aat<|rD hx hy
def lvi(hx:lv n x)(h0:x≠0):lv n x⁻¹ :=rE (e:=0) hx h0 A4
end
section
variable{m n:Nat}{x y:Rat}(hx:lv m x)(hy:lv n y)(hm:m<=18000)(hn:n<=18000)
include hx hy hm hn
theorem SO:JN (BL x) (BL y)=some (BL<|x*y):=am7 (Mr hx) (Mr hy) ⟨A4,A4⟩ ⟨A4,A4⟩
theorem aK:O6 (BL x) (BL y)=some (BL<|x+y):=zS (Mr hx) (Mr hy) ⟨A4,A4⟩ ⟨A4,A4⟩
theorem UP:Ly (BL x) (BL y)=some (BL<|x-y):=am5 (Mr hx) (Mr hy) ⟨A4,A4⟩ ⟨A4,A4⟩
end
section
variable{n:Nat}{x:Rat}
def Qb(h:lv n x)(hn:n<=18000):(BL x).length<1000000:=by have:=nR (Mr h) A4;omega
def Wb(h:lv n x)(hn:n<=18000):Jk (BL x)=some x.num.sign:=by
 rw[yL<|Qb h hn]
 congr 1
 by_cases h0:x=0
 ·subst h0;rfl
 ·rw[Bl h0,B8];have hn:x.num≠0:=λe=>h0<|NK.1 e
  by_cases h1:x.num<0
  ·rw[B0 h1,Bf,PY h1]
  ·rw[Bl h1,B8,OY A4]
def rT{m:Nat}{y:Rat}(hx:lv m x)(hy:lv n y)(hm:m<=18000)(hn:n<=18000)(h:BL x=BL y):x=y:=
 aht (Mr<|Fi hx hm) (Mr<|Fi hy hn) A4 A4 h
end
section
variable{m n:Nat}{v w:Q3}(hv:Bu m v)(hw:Bu n w)
include hv hw
theorem Z5:Bu (m+n+1) (B7 v w):=⟨lvs hv.1 hw.1,lvs hv.2.1 hw.2.1,lvs hv.2.2 hw.2.2⟩
theorem Vt:Bu (m+n+1) (Bw v w):=⟨lva hv.1 hw.1,lva hv.2.1 hw.2.1,lva hv.2.2 hw.2.2⟩
theorem MZ:Bu (2*(m+n)+1) (Ac v w):=by
 have k:∀{a b c d:Rat},lv m a->lv n b->lv m c->lv n d->lv (2*(m+n)+1) (a*b-c*d):=λh1 h2 h3 h4=>Fi (lvs (lvm h1 h2)<|lvm h3 h4) A4
 exact⟨k hv.2.1 hw.2.2 hv.2.2 hw.2.1,k hv.2.2 hw.1 hv.1 hw.2.2,k hv.1 hw.2.1 hv.2.1 hw.1⟩
theorem WZ:lv (3*(m+n)+2) (AK v w):=Fi (lva (lva (lvm hv.1 hw.1)<|lvm hv.2.1 hw.2.1)<|lvm hv.2.2 hw.2.2) A4
theorem a7(h:m+n<=18000):Ps (Ap v) (Ap w)=some (Ap<|B7 v w):=by
 unfold Ps Ap;dsimp only;rw[UP hv.1 hw.1 A4 A4,D4,UP hv.2.1 hw.2.1 A4 A4,D4,UP hv.2.2 hw.2.2 A4 A4];rfl
theorem qx(h:m+n<=18000):Su (Ap v) (Ap w)=some (Ap<|Bw v w):=by
 unfold Su Ap;dsimp only;rw[aK hv.1 hw.1 A4 A4,D4,aK hv.2.1 hw.2.1 A4 A4,D4,aK hv.2.2 hw.2.2 A4 A4];rfl
theorem aJ(h:2*(m+n)+1<=18000):Py (Ap v) (Ap w)=some (BL<|AK v w):=by
 unfold Py Ap;dsimp only;rw[SO hv.1 hw.1 A4 A4,D4,SO hv.2.1 hw.2.1 A4 A4,D4,aK (lvm hv.1 hw.1) (lvm hv.2.1 hw.2.1) A4 A4,D4,SO hv.2.2 hw.2.2 A4 A4,D4,aK (lva (lvm hv.1 hw.1)<|lvm hv.2.1 hw.2.1) (lvm hv.2.2 hw.2.2) A4 A4];rfl
theorem S4(h:m+n<=18000):Lv (Ap v) (Ap w)=some (Ap<|Ac v w):=by
 have k:∀{a b c d:Rat},lv m a->lv n b->lv m c->lv n d->∀{ρ:Type} (K:AB->A9 ρ),(bd (JN (BL a)<|BL b) λx=>bd (JN (BL c)<|BL d) λy=>bd (Ly x y) K)=K (BL<|a*b-c*d):=λh1 h2 h3 h4 ρ K=>by
  rw[SO h1 h2 A4 A4,D4,SO h3 h4 A4 A4,D4,UP (lvm h1 h2) (lvm h3 h4) A4 A4,D4]
 unfold Lv Ap;dsimp only;rw[k hv.2.1 hw.2.2 hv.2.2 hw.2.1,k hv.2.2 hw.1 hv.1 hw.2.2,k hv.1 hw.2.1 hv.2.1 hw.1];rfl
end
section
variable{n:Nat}{h:C3}{v:Q3}{m:Nat}
def S9{a:Rat}(hv:Bu m v)(ha:lv n a):Bu (m+n) (Ba v a):=⟨lvm hv.1 ha,lvm hv.2.1 ha,lvm hv.2.2 ha⟩
def WN{a:Rat}(hv:Bu m v)(ha:lv n a)(h:m+n<=18000):O3 (BL a) (Ap v)=some (Ap<|Ba v a):=by
 unfold O3 Ap;dsimp only;rw[SO ha hv.1 A4 A4,D4,SO ha hv.2.1 A4 A4,D4,SO ha hv.2.2 A4 A4,Rat.mul_comm a,Rat.mul_comm a,Rat.mul_comm a];rfl
def apa{w:Q3}(hv:Bu m v)(hw:Bu n w)(hm:m<=18000)(hn:m+n<=18000)(h:Ap v=Ap w):v=w:=by
 have a:=congrArg (·.1) h;have b:=congrArg (·.2.1) h;have c:=congrArg (·.2.2) h;exact KK (rT hv.1 hw.1 A4 A4 a) (rT hv.2.1 hw.2.1 A4 A4 b)<|rT hv.2.2 hw.2.2 A4 A4 c
theorem aki:jd v=true↔v=o3:=by grind [jd,o3]
def qu(h:Bu n v)(hn:n<=18000):Xc (Ap v)=some (decide<|v=o3):=by
 have t1:=YS v.1<|Qb h.1 hn
 have t2:=YS v.2.1<|Qb h.2.1 hn
 have t3:=YS v.2.2<|Qb h.2.2 hn
 have e:decide (v=o3)=jd v:=by rw[ZD,aki,J7]
 show some (decide<|Ap v=(([48]:AB),([48]:AB),([48]:AB)))=_;rw[e];unfold jd;rw[<-t1,<-t2,<-t3]
 congr 1
 rw[ZD];unfold Ap;simp[QO]
abbrev N3:=Int×Int×Int
def rq(s:AB):Rat:=(MX s).getD 0
def rn(n:N3):Q3:=((n.1:Rat),(n.2.1:Rat),(n.2.2:Rat))
def rh(h:C3):H3:=(rn h.1,rq h.2)
def Hx(n:N3):Nat:=Nat.gcd (Nat.gcd n.1.natAbs n.2.1.natAbs) n.2.2.natAbs
def Ek(x:Int):Bool:=decide (999999999<x)||decide (x< -999999999)
structure D8(h:C3):Prop where
 num:isNum h.2 (rq h.2)
 x:Ek h.1.1=false
 y:Ek h.1.2.1=false
 z:Ek h.1.2.2=false
 g:Hx h.1=1
theorem PO{x:Int}(h:Ek x=false): -999999999<=x/\x<=999999999:=by grind [Ek]
def D8.ac8(o:D8 h):Lg (rh h).1:=⟨_,_,_,rfl,o.g⟩
def iW{x:Int}(h:Ek x=false)(hn:9<=n):lv n (x:Rat):=by
 have:=PO h;have e:(10:Nat)^9<=10^n:=KN A4 hn;refine⟨?_,?_⟩
 ·rw[PL];omega
 ·rw[Rw];omega
def D8.lvn(o:D8 h)(hn:9<=n):Bu n (rh h).1:=⟨iW o.x hn,iW o.y hn,iW o.z hn⟩
def D8.Ix(o:D8 h):lv 14 (rh h).2:=arX o.num.2.1
def D8.few{L:A3 C3}(o:∀h∈L,D8 h):Mx 14 (L.map rh):=λg mg=>by
 obtain⟨h,mh,rfl⟩:=Bv.1 mg;exact⟨(o h mh).lvn A4,(o h mh).Ix⟩
def D8.abT{L:A3 C3}(o:∀h∈L,D8 h):∀g∈L.map rh,Lg g.1:=λg mg=>by
 obtain⟨h,mh,rfl⟩:=Bv.1 mg;exact(o h mh).ac8
def D8.txt(o:D8 h):h.2=BL (rh h).2:=o.num.1
def WV{k:C3}(a:D8 h)(b:D8 k)(e:rh h=rh k):h=k:=by
 have e1:=congrArg (·.1.1) e;have e2:=congrArg (·.1.2.1) e;have e3:=congrArg (·.1.2.2) e;have e4:=congrArg (·.2) e;exact Prod.ext (Prod.ext (ZC.1 e1)<|Prod.ext (ZC.1 e2)<|ZC.1 e3) (by rw[a.txt,b.txt,e])
def aM(n:N3)(c:Int):Int:=bif decide (Hx n=0) then 6 else bif Ek n.1||(Ek n.2.1||Ek n.2.2) then 3 else bif !decide (Hx n=1) then 1 else c
def ow(b:Bool)(n:Int):Y7 b n=some (bif b then n else 0):=by cases b<;>rfl
theorem ap8(a b c d:Int):dH [a,b,c,d]=some (bif !decide (a=0) then a else bif !decide (b=0) then b else bif !decide (c=0) then c else d):=by
 obtain⟨F,hF⟩:∃F,18446744073709551616=F+5:=⟨18446744073709551611,rfl⟩;unfold dH;rw[hF];show cond (!decide (a=0)) (some a) (cond (!decide (b=0)) (some b)<|cond (!decide (c=0)) (some c)<|cond (!decide (d=0)) (some d)<|some 0)=_;cases ha:decide (a=0)
 ·rfl
 ·grind
def fW{z:Int}(h:z.natAbs<=9223372036854775808):Cn z=true:=NC (n:=20) A4 A4
def in3(n:N3):Prop:=DX n.1/\DX n.2.1/\DX n.2.2
theorem adz(hi:in3 h.1){c:Int}(hc:Sy h.2=some c):Oo h=some (aM h.1 c):=by
 refine G5 ?_;unfold Oo;refine A5 (x:=0) rfl ?_;refine Cz [h.1.1,h.1.2.1,h.1.2.2] (λ(s:Int×Bool) i=>(s.1,s.2,i)) (λA s=>s.1=((A.foldl (λg x=>Nat.gcd g x.natAbs) 0:Nat):Int)/\s.2=A.any Ek) (λA x C s k hA hP next=>?_) (λs k hP=>?_) (s0:=(0,false)) ⟨rfl,rfl⟩ AS
 ·dsimp only;have al:=Dt hA;rw[show [h.1.1,h.1.2.1,h.1.2.2].length=3 from rfl] at al;rw[B0 (show(A.length:Int)<3 by omega),Bf];have ix:DX x:=by have:=at_mem hA;simp at this;rcases this with rfl|rfl|rfl;exact hi.1;exact hi.2.1;exact hi.2.2
  have gl:(A.foldl (λg x=>Nat.gcd g x.natAbs) 0)<=9223372036854775808:=by
   have hA':∀y∈A,y.natAbs<=9223372036854775808:=λy my=>by
    have:y∈[h.1.1,h.1.2.1,h.1.2.2]:=by rw[hA];simp[my]
    have b1:=hi.1;have b2:=hi.2.1;have b3:=hi.2.2;unfold DX at b1 b2 b3;simp at this;omega
   have:∀(l:A3 Int) (g:Nat),g<=9223372036854775808->(∀y∈l,y.natAbs<=9223372036854775808)->l.foldl (λg x=>Nat.gcd g x.natAbs) g<=9223372036854775808:=by
    intro l
    induction l with
    |nil=>intro g hg _;exact hg
    |cons y l ih=>
     intro g hg hl;refine ih _ ?_ λz mz=>hl z<|Bq _ mz
     have:=hl y Dq;rcases L2 g with e|e
     ·grind
     ·exact Ca (Nat.gcd_le_left _ e) hg
   exact this A 0 A4 hA'
  unfold DX at ix;refine A5 (C8 hA)<|A5 (EZ ix)<|A5 (x:=(x.natAbs:Int)) rfl<|A5 (x:=((Nat.gcd (A.foldl (λg x=>Nat.gcd g x.natAbs) 0) x.natAbs:Nat):Int)) ?_<|A5 (Cb hA AS)<|next (_,_) ⟨?_,?_⟩
  ·unfold Oj;rw[hP.1,fW (by rw[En];exact gl),fW (by rw[En];omega)];rfl
  ·grind
  ·rw[Vz,hP.2];show((A.any Ek||_)||_)=(_||(Ek x||false));rw[gJ,Bool.or_assoc];rfl
 ·dsimp only;rw[show decide ((([h.1.1,h.1.2.1,h.1.2.2].length:Nat):Int)<3)=false from rfl,B8];have e1:s.1=((Hx h.1:Nat):Int):=by rw[hP.1];show((Nat.gcd (Nat.gcd (Nat.gcd 0 _) _) _:Nat):Int)=_;rw[qC];rfl
  have e2:s.2=(Ek h.1.1||(Ek h.1.2.1||Ek h.1.2.2)):=AY;rw[e1,e2];have sm:PZ ((Hx h.1:Nat):Int)=some (bif Hd ((Hx h.1:Nat):Int) then(((Hx h.1:Nat):Int),true) else(((Hx h.1:Nat):Int).sign,false)):=by
   unfold PZ;rw[Bl A4];rfl
  refine A5 sm<|A5 (x:=((Hx h.1:Nat):Int).sign) rfl<|A5 (ow _ _)<|A5 (ow _ _)<|A5 (ow _ _)<|A5 hc<|A5 (ap8 _ _ _ _)<|AU ?_
  unfold aM
  generalize (Ek h.1.1||(Ek h.1.2.1||Ek h.1.2.2))=f at*
  have hs:decide (((Hx h.1:Nat):Int).sign=0)=decide (Hx h.1=0):=Gf.2 (by rw[Int.sign_eq_zero_iff_zero];omega);rw[hs];cases h0:decide (Hx h.1=0)
  ·cases f
   ·by_cases hb:Hd ((Hx h.1:Nat):Int)=true
    ·grind
    ·rw[qA] at hb;have h1:decide (Hx h.1=1)=false:=by
      refine Bl λe=>?_
      rw[e] at hb;cases hb
     rw[hb,h1];rfl
   ·rfl
  ·rfl
def wF{a b:Int}(ha: -999999999<=a/\a<=999999999)(hb: -999999999<=b/\b<=999999999):Xo a b=some ((Nat.gcd a.natAbs b.natAbs:Nat):Int):=by
 refine G5 ?_;unfold Xo;refine Ea (λs:Int×Int=>Nat.gcd s.1.natAbs s.2.natAbs=Nat.gcd a.natAbs b.natAbs/\(-999999999<=s.1/\s.1<=999999999)/\(-999999999<=s.2/\s.2<=999999999)) (λs=>s.2.natAbs) (λnext s hs hn=>?_) _ _ ⟨rfl,ha,hb⟩ (by show b.natAbs<_;omega);obtain⟨h1,h2,h3⟩:=hs;refine Ad (λhc=>?_) λhc=>?_
 ·have h0:s.2≠0:=by simpa using hc
  have t:=Int.natAbs_tmod s.1 s.2;have lt:=OH s.1.natAbs (show 0<s.2.natAbs by omega);refine A5 (x:=s.1.tmod s.2) (by unfold Fy;rw[Bl h0];rfl)<|hn (_,_) ⟨?_,h3,Au⟩ Au
  dsimp only;rw[t,Rt,<-Nat.gcd_rec,Rt,h1]
 ·have h0:s.2=0:=by simpa using hc
  refine A5 (x:=0-s.1) BC<|AU ?_
  rw[qk,<-h1,h0];simp
end
end Trn
