/-
  Part of the proof of SolidForms.
-/
import Derived.Test.YtflhfjdapojoiaaGreatDoorLa
set_option maxRecDepth 100000
set_option maxHeartbeats 20000000
set_option linter.all false
open Go Go.RowKit Go.Proofs Go.Proofs.Tryz
namespace Trn
section
variable{n m:Nat}{q:Rat}{k c d:Nat}{x:Rat}{p:Bool×A3 Int}{z:Int}{l u:A9}{y:Rat}{ρ:Type}{R:ρ->Prop}{v:A3 Int}{neg:Bool}{core:A9}{a:Q3}{j:Nat}{f:Int}{b:A3 Int}{s:A9}
def afW{u:A3 Int}{t:Int}{Zu:A3 Int×Int×Int->A6 ρ}(hu:CJ u)(hv:CJ v)(L2:v.length=n)(hj:j+n<=u.length)(hl:u.length<4398046511)(ht:0<=t/\t<BT)
 (h:∀u2 b,CJ u2->u2.length=u.length->u2.take j=u.take j->(∀m,j+n<=m->u2.getD m 0=u.getD m 0)->(0<=b/\b<BT)->AF ((u2.drop j).take n)=AF ((u.drop j).take n)-t*AF v+B3 n*b->Yd R (Zu (u2,b,(n:Int)))):
  Yd R (lp 18446744073709551616 (λ(k46:(A3 Int×Int×Int)->A6 ρ) (Cb:A3 Int×Int×Int)=>
        cond (decide<|Cb.2.2<(v.length:Int)) (
         bd (A8 v Cb.2.2) λIC=>
         bd (AE<|t*IC) λHH=>
         bd (AE<|HH+Cb.2.1) λG7=>
         bd (AE<|Cb.2.2+(j:Int)) λHI=>
         bd (A8 Cb.1 HI) λJ9=>
         bd (A8 Cb.1 HI) λIg=>
         bd (FP G7 (1000000000:Int)) λKF=>
         bd (AE<|Ig-KF) λHp=>
         bd (GF G7 (1000000000:Int)) λML=>
         jn (λ(s66:Int×Int)=>
          bd (AE<|Cb.2.2+(j:Int)) λJ8=>
          bd (A8 Cb.1 J8) λx75=>
          bd (A8 Cb.1 J8) λNc=>
          bd (AE<|Cb.2.2+(1:Int)) λx79=>
          k46 ((Cb.1.set (J8).toNat s66.2),s66.1,x79)
         ) λk67=>
         cond (decide<|Hp<(0:Int)) (
          bd (AE<|Hp+(1000000000:Int)) λx69=>
          bd (AE<|ML+(1:Int)) λx71=>
          k67 (x71,x69)
         ) (
          k67 (ML,Hp)
         )
        ) (Zu Cb)) (u,(0:Int),(0:Int))):=by
 subst L2;refine Yd.lp (λs:A3 Int×Int×Int=>CJ s.1/\s.1.length=u.length/\s.1.take j=u.take j/\(∀m,j+s.2.2.toNat<=m->s.1.getD m 0=u.getD m 0)/\(0<=s.2.1/\s.2.1<BT)/\(0<=s.2.2/\s.2.2<=v.length)/\AF ((s.1.drop j).take s.2.2.toNat)=AF ((u.drop j).take s.2.2.toNat)-t*AF (v.take s.2.2.toNat)+B3 s.2.2.toNat*s.2.1)
  (λs=>v.length-s.2.2.toNat) ?_ _ _ ⟨hu,rfl,rfl,λ_ _=>rfl,⟨by dsimp only;omega,by dsimp only;unfold BT;omega⟩,⟨by dsimp only;omega,by dsimp only;omega⟩,by simp[AF]⟩ (by dsimp only;omega)
 rintro next ⟨p,c,z⟩ ⟨g1,g2,g3,g4,g5,⟨g6,g6'⟩,g7⟩ hn
 dsimp only at g1 g2 g3 g4 g5 g6 g6' g7 hn⊢;obtain⟨i,rfl⟩:=ER g6;simp only[CA,M7] at*;refine Yd.cond (λhc=>?_)<|λhc=>?_
 ·have hc:=AZ hc;have hi:i<v.length:=by omega
  have hx:=Gs hv i;have hy:=Gs g1<|j+i
  have hm0:0<=t*v.getD i 0:=Kd ht.1 hx.1;have hm1:t*v.getD i 0<=(BT-1)*(BT-1):=P3 (by omega) (by omega) hx.1 (by unfold BT;omega);have ej:(((i:Nat):Int)+((j:Nat):Int))=((j+i:Nat):Int):=by omega
  have gu:p.getD (j+i) 0=u.getD (j+i) 0:=g4 _<|Az _
  refine Yd.bd (BN hi) (Yd.bd (Ad ⟨by omega,by unfold BT at*;omega⟩) (Yd.bd (Ad ⟨by omega,by unfold BT at*;omega⟩) (Yd.bd (Ad ⟨by omega,by omega⟩) ?_)));rw[ej];have step:∀d x:Int,(0<=d/\d<BT)->(0<=x/\x<BT)->x=u.getD (j+i) 0-(t*v.getD i 0+c)+BT*d->
    Yd R (bd (AE ((j+i:Nat):Int)) λJ8=>bd (A8 p J8) λx75=>bd (A8 p J8) λNc=>bd (AE<|((i:Nat):Int)+(1:Int)) λx79=>next ((p.set (J8).toNat x),d,x79)):=by
   intro d x hd L1 hxe;refine Yd.bd (Ad ⟨by omega,by omega⟩) (Yd.bd (BN (by omega)) (Yd.bd (BN (by omega)) (Yd.bd (Ad ⟨by omega,by omega⟩)<|hn _ ⟨YP g1 _ L1,?_,?_,?_,hd,⟨?_,?_⟩,?_⟩ ?_)))
   ·simpa using g2
   ·rw[CA,Gd (by omega)];exact g3
   ·intro m hm;dsimp only at hm⊢;rw[CA,getD_set_ne (by omega)];exact g4 m (by omega)
   ·dsimp only;omega
   ·dsimp only;omega
   ·dsimp only;have e:(((i:Nat):Int)+1).toNat=i+1:=by omega
    rw[e,CA,j7,Hx,Gd<|Az _,Ge (by rw[H9];omega),Hx,Hx,g7,WI,JK,hxe]
    generalize u.getD (j+i) 0=X at*
    generalize v.getD i 0=Y at*
    rw[BZ t,F5 t];have:B3 i*(X-(t*Y+c)+BT*d)=B3 i*X-B3 i*(t*Y)-B3 i*c+BT*B3 i*d:=by
     generalize t*Y=q
     rw[BZ,He,BZ (B3 i) q c,F5 (B3 i) BT d,<-DO BT];omega
    omega
   ·dsimp only;omega
  rw[gu] at hy;refine Yd.bd (BN (by omega)) (Yd.bd (BN (by omega)) (Yd.bd (Q1 (by omega) (by omega)) ?_));rw[gu]
  generalize hq:t*v.getD i 0=q at*
  refine Yd.bd (Ad ⟨by unfold BT at*;omega,by unfold BT at*;omega⟩) (Yd.bd (div_pos (by omega) (by omega) (by unfold BT at*;omega)) ?_);refine Yd.jn (λs:Int×Int=>(0<=s.1/\s.1<BT)/\(0<=s.2/\s.2<BT)/\s.2=u.getD (j+i) 0-(q+c)+BT*s.1) (λs hs=>step s.1 s.2 hs.1 hs.2.1 hs.2.2) λk hk=>Yd.cond (λhd=>?_)<|λhd=>?_
  ·have hd:=AZ hd;refine Yd.bd (Ad ⟨by unfold BT at*;omega,by unfold BT at*;omega⟩) (Yd.bd (Ad ⟨by unfold BT at*;omega,by unfold BT at*;omega⟩)<|hk _ ⟨?_,?_,?_⟩)<;>(dsimp only;unfold BT at*;omega)
  ·have hd:=Ay hd;refine hk _ ⟨?_,?_,?_⟩<;>(dsimp only;unfold BT at*;omega)
 ·have hc:=Ay hc;have hi:i=v.length:=by omega
  subst hi;refine h p c g1 g2 g3 g4 g5 ?_;rw[CB (l:=v)<|Az _] at g7;exact g7
def aed{u:A3 Int}{Zu:A3 Int×Int×Int->A6 ρ}(hu:∀m,m≠j+n->0<=u.getD m 0/\u.getD m 0<BT)(hv:CJ v)(L2:v.length=n)(hj:j+n<u.length)(hl:u.length<4398046511)
 (h:∀u2 b,u2.length=u.length->u2.take j=u.take j->(∀m,j+n<=m->u2.getD m 0=u.getD m 0)->(∀m,m≠j+n->0<=u2.getD m 0/\u2.getD m 0<BT)->(b=0\/b=1)->AF ((u2.drop j).take n)+B3 n*b=AF ((u.drop j).take n)+AF v->Yd R (Zu (u2,b,(n:Int)))):
  Yd R (lp 18446744073709551616 (λ(Zb:(A3 Int×Int×Int)->A6 ρ) (D6:A3 Int×Int×Int)=>
           cond (decide<|D6.2.2<(v.length:Int)) (
            bd (AE<|D6.2.2+(j:Int)) λHk=>
            bd (A8 D6.1 Hk) λKt=>
            bd (A8 D6.1 Hk) λK7=>
            bd (A8 v D6.2.2) λMc=>
            bd (AE<|K7+Mc) λNT=>
            bd (AE<|NT+D6.2.1) λMe=>
            bd (AE<|D6.2.2+(j:Int)) λLU=>
            bd (FP Me (1000000000:Int)) λQZ=>
            bd (A8 D6.1 LU) λWU=>
            bd (A8 D6.1 LU) λWT=>
            bd (GF Me (1000000000:Int)) λWS=>
            bd (AE<|D6.2.2+(1:Int)) λWR=>
            Zb ((D6.1.set (LU).toNat QZ),WS,WR)
           ) (Zu D6)) (u,(0:Int),(0:Int))):=by
 subst L2;refine Yd.lp (λs:A3 Int×Int×Int=>s.1.length=u.length/\s.1.take j=u.take j/\(∀m,j+s.2.2.toNat<=m->s.1.getD m 0=u.getD m 0)/\(∀m,m≠j+v.length->0<=s.1.getD m 0/\s.1.getD m 0<BT)/\(s.2.1=0\/s.2.1=1)/\(0<=s.2.2/\s.2.2<=v.length)/\AF ((s.1.drop j).take s.2.2.toNat)+B3 s.2.2.toNat*s.2.1=AF ((u.drop j).take s.2.2.toNat)+AF (v.take s.2.2.toNat))
  (λs=>v.length-s.2.2.toNat) ?_ _ _ ⟨rfl,rfl,λ_ _=>rfl,hu,.inl rfl,⟨by dsimp only;omega,by dsimp only;omega⟩,by simp[AF]⟩ (by dsimp only;omega)
 rintro next ⟨p,c,z⟩ ⟨g2,g3,g4,g1,g5,⟨g6,g6'⟩,g7⟩ hn
 dsimp only at g1 g2 g3 g4 g5 g6 g6' g7 hn⊢;obtain⟨i,rfl⟩:=ER g6;simp only[CA,M7] at*;refine Yd.cond (λhc=>?_)<|λhc=>?_
 ·have hc:=AZ hc;have hi:i<v.length:=by omega
  have hx:=Gs hv i;have hy:=g1 (j+i) (by omega);have ej:(((i:Nat):Int)+((j:Nat):Int))=((j+i:Nat):Int):=by omega
  have gu:p.getD (j+i) 0=u.getD (j+i) 0:=g4 _<|Az _
  rw[ej];rw[gu] at hy;have hS:0<=u.getD (j+i) 0+v.getD i 0+c/\u.getD (j+i) 0+v.getD i 0+c<2000000000:=by unfold BT at*;omega
  have i1:A8 p ((j+i:Nat):Int)=some (u.getD (j+i) 0):=by rw[<-gu];exact BN (by omega)
  have hdm:u.getD (j+i) 0+v.getD i 0+c=(u.getD (j+i) 0+v.getD i 0+c)%1000000000+BT*((u.getD (j+i) 0+v.getD i 0+c)/1000000000):=by unfold BT;omega
  have hr:0<=(u.getD (j+i) 0+v.getD i 0+c)%1000000000/\(u.getD (j+i) 0+v.getD i 0+c)%1000000000<BT:=by unfold BT;omega
  have hd:(u.getD (j+i) 0+v.getD i 0+c)/1000000000=0\/(u.getD (j+i) 0+v.getD i 0+c)/1000000000=1:=by omega
  refine Yd.bd (Ad ⟨by omega,by omega⟩) (Yd.bd i1 (Yd.bd i1 (Yd.bd (BN hi) (Yd.bd (Ad ⟨by omega,by unfold BT at*;omega⟩) (Yd.bd (Ad ⟨by omega,by omega⟩) (Yd.bd (Ad ⟨by omega,by omega⟩) (Yd.bd (Q1 hS.1 (by omega)) (Yd.bd i1 (Yd.bd i1 (Yd.bd (div_pos hS.1 (by omega) (by omega)) (Yd.bd (Ad ⟨by omega,by omega⟩)<|hn _ ⟨?_,?_,?_,?_,hd,⟨?_,?_⟩,?_⟩ ?_)))))))))))
  ·simpa using g2
  ·rw[CA,Gd (by omega)];exact g3
  ·intro m hm;dsimp only at hm⊢;rw[CA,getD_set_ne (by omega)];exact g4 m (by omega)
  ·intro m hm;dsimp only;rw[CA];by_cases e:m=j+i
   ·subst e;rw[Ge (by omega)];exact hr
   ·rw[getD_set_ne e];exact g1 m hm
  ·dsimp only;omega
  ·dsimp only;omega
  ·dsimp only;have e:(((i:Nat):Int)+1).toNat=i+1:=by omega
   rw[e,CA,j7,Hx,Gd<|Az _,Ge (by rw[H9];omega),Hx,Hx,WI,JK]
   generalize (u.getD (j+i) 0+v.getD i 0+c)%1000000000=r at*
   generalize (u.getD (j+i) 0+v.getD i 0+c)/1000000000=d at*
   generalize u.getD (j+i) 0=X at*
   generalize v.getD i 0=Y at*
   have:B3 i*r+BT*B3 i*d=B3 i*X+B3 i*Y+B3 i*c:=by
    rw[D8 BT,DO,<-BZ,<-BZ,<-BZ,<-hdm]
   omega
  ·dsimp only;omega
 ·have hc:=Ay hc;have hi:i=v.length:=by omega
  subst hi;refine h p c g2 g3 g4 g1 g5 ?_;rw[CB (l:=v)<|Az _] at g7;exact g7
def xh{t:Int}(h1:1<=t)(h2:t<1000000000)(hf:f=1000000000/(t+1)):1<=f/\f<=500000000/\(t+1)*f<=1000000000/\1000000000<=2*(t*f):=by
 have hp:(0:Int)<t+1:=by omega
 have a1:(t+1)*f<=1000000000:=by rw[hf,D8];exact Int.ediv_mul_le _ (by omega)
 have a2:1000000000<(f+1)*(t+1):=by rw[hf];exact Int.lt_ediv_add_one_mul_self _ hp
 have a3:1<=f:=by
  rw[hf];exact(Int.le_ediv_iff_mul_le hp).2 (by omega)
 have a4:f<=500000000:=by
  have:2*f<=(t+1)*f:=M8 (by omega) (by omega);omega
 refine⟨a3,a4,a1,?_⟩;rw[Gg,G2] at a2;have e:(t+1)*f=t*f+f:=by rw[Gg,G2]
 have e2:f*(t+1)=t*f+f:=by rw[BZ,Jv,D8 f t]
 rw[e] at a1;rw[e2] at a2;have hP:t<=t*f:=by
  have:t*1<=t*f:=ET a3 (by omega);omega
 rcases(show t=1\/1000000000<=2*t\/(2<=t/\2*t<=999999998) by omega) with h|h|⟨h,h'⟩
 ·subst h;omega
 ·omega
 ·rcases(show 1000000000<=2*(t*f)\/2*(t*f)<=999999999 by omega) with h3|h3
  ·exact h3
  ·exfalso;have b1:t*(1000000000-t)<=t*(t*f+f):=ET (by omega) (by omega);have b2:t*(2*(t*f))<=t*999999999:=ET h3 (by omega);have b3:0<(t-1)*(999999999-2*t):=Int.mul_pos (by omega) (by omega);rw[He] at b1;rw[BZ] at b1;rw[F5] at b2;rw[Rk,G2,He,F5 t 2 t] at b3
   generalize t*t=T at*
   generalize t*(t*f)=Q at*
   generalize t*f=P at*
   omega
def amU(hb:FR b)(hbl:b.length=k+2)(hf:f=1000000000/(b.getD (k+1) 0+1))(hv:FR v)(hvv:AF v=AF b*f):
  v.length=k+2/\BT<=2*v.getD (k+1) 0/\B3 (k+1)*f<=AF v/\1<=f/\f<=500000000:=by
 have hP:=N5<|k+1
 have hb0:b≠[]:=by intro e;subst e;simp at hbl
 have l1:=Sy hb.1 hb0 hb.2;rw[hbl,show k+2-1=k+1 by omega] at l1;have l2:=UO (l:=b) (n:=k+1) (by omega);rw[CB (by omega)] at l2;obtain⟨l3,l4⟩:=Ee<|Lu hb.1<|k+1
 rw[DI,Dt (by omega)] at l4;have ht:=Gs hb.1<|k+1
 generalize b.getD (k+1) 0=t at*
 have h1:1<=t:=by
  rcases(show 1<=t\/t=0 by omega) with h|h
  ·exact h
  ·rw[h] at l2;omega
 obtain⟨f1,f2,f3,f4⟩:=xh h1 (by unfold BT at ht;omega) hf;have u1:(AF b+1)*f<=(B3 (k+1)*(t+1))*f:=M8 (by rw[BZ,Jv];omega) (by omega);rw[Gg,G2,DO] at u1;have u2:B3 (k+1)*((t+1)*f)<=B3 (k+1)*BT:=ET (by unfold BT;omega) (by omega);have u3:(B3 (k+1)*t)*f<=AF b*f:=M8 (by omega) (by omega);rw[DO] at u3;have u4:B3 (k+1)*1<=B3 (k+1)*(t*f):=ET (by omega) (by omega);have u5:B3 (k+1)*f<=B3 (k+1)*(t*f):=ET (by
  have:1*f<=t*f:=M8 h1 (by omega);omega) (by omega)
 rw[<-hvv] at u1 u3;have aol:v.length<=k+2:=hv.len (by rw[JK,D8];omega);have To:k+2<=v.length:=by
  rcases Gh v.length (k+2) with h|h
  ·have a:=(Ee hv.1).2;have b:=wL (show v.length<=k+1 by omega);omega
  ·exact h
 have hlen:v.length=k+2:=by omega
 refine⟨hlen,?_,by omega,f1,f2⟩;have m2:=UO (l:=v) (n:=k+1) (by omega);rw[CB (by omega)] at m2;obtain⟨m3,m4⟩:=Ee<|Lu hv.1<|k+1
 rw[DI,Dt (by omega)] at m4;have m5:B3 (k+1)*(t*f)<B3 (k+1)*(v.getD (k+1) 0+1):=by rw[BZ,Jv];omega
 have m6:=fp m5<|Ds hP
 unfold BT;omega
def akE{x:A3 Int}{L:Nat}{K:A3 Int->A6 ρ}(hx:CJ x)(hl:x.length<=L+1)(hL:L<109951162)(h:∀u,CJ u->u.length=L+1->AF u=AF x->Yd R (K u)):
  Yd R (lp 18446744073709551616 (λ(Nb:(A3 Int)->A6 ρ) (Dq:(A3 Int))=>
    bd (AE<|(L:Int)+(1:Int)) λCt=>
    cond (decide<|(Dq.length:Int)<Ct) (bd (BC 8 Dq ([(0:Int)]:A3 Int)) λDw=>Nb Dw) (K Dq)) x):=by
 refine Yd.lp (λs:A3 Int=>CJ s/\s.length<=L+1/\AF s=AF x) (λs=>L+1-s.length) ?_ _ _ ⟨hx,hl,rfl⟩ (by omega);rintro next s ⟨h1,h2,h3⟩ hn
 refine Yd.bd (Ad ⟨by omega,by omega⟩)<|Yd.cond (λhc=>?_)<|λhc=>?_
 ·have hc:=AZ hc;refine Yd.bd (Zq (by omega)) (hn _ ⟨?_,by rw[ES,LN];omega,?_⟩ (by rw[ES,LN];omega))
  ·rw[c8];exact⟨h1,λy hy=>by rw[Be] at hy;subst hy;unfold BT;omega⟩
  ·rw[Qz];simp[AF,h3]
 ·have hc:=Ay hc;exact h s h1 (by omega) h3
def zK{l:A3 Int}(h:∀m,0<=l.getD m 0/\l.getD m 0<BT):CJ l:=λx hx=>by
 obtain⟨i,hi,rfl⟩:=List.getElem_of_mem hx;have:=h i;rwa [Eo,Fe hi] at this
def uF:∀{l:A3 Int},(∀m,l.getD m 0=0)->AF l=0
 |[],_=>rfl
 |x::l,h=>by
  have h0:x=0:=by simpa using h 0
  have:=uF (l:=l) λm=>by simpa using h (m+1)
  rw[MQ,h0,this];omega
def top_lt{u:A3 Int}{A V:Int}{L:Nat}(hu:CJ u)(Lf:u.length=L+1)(hm:m+(k+2)=L+1)(hv:AF u=A*f)(hA:A<B3 L)(hf:1<=f)(hV:B3 (k+1)*f<=V):AF (u.drop m)<V:=by
 have h1:=R4 u m (by omega);obtain⟨b0,b1⟩:=Ee<|Lu hu m
 have hP:=N5 m;have e:B3 L=B3 m*B3 (k+1):=by rw[<-eP];congr 1;omega
 have h2:(A+1)*f<=B3 L*f:=M8 (by omega) (by omega);rw[Gg,G2,e,DO] at h2;have h3:B3 m*(B3 (k+1)*f)<=B3 m*V:=ET hV (by omega);have h4:B3 m*AF (u.drop m)<B3 m*V:=by omega
 exact fp h4 (by omega)
def aiO{u:A3 Int}{K:A3 Int×Int->A6 ρ}(hu:CJ u)(hv:CJ v)(L2:v.length=k+2)(hj:j+(k+3)<=u.length)(hlen:u.length<439804651)(WX:BT<=2*v.getD (k+1) 0)(hlt:AF (u.drop<|j+1)<AF v)
 (h:∀l t,CJ l->l.length=u.length->l.take j=u.take j->0<=t->t<BT->AF (l.drop j)=AF (u.drop j)-t*AF v->AF (l.drop j)<AF v->Yd R (K (l,t))):
  Yd R (bd (XJ u v (j:Int)) λH5=>
       lp 18446744073709551616 (λ(k46:(A3 Int×Int×Int)->A6 ρ) (Cb:A3 Int×Int×Int)=>
        cond (decide<|Cb.2.2<(v.length:Int)) (
         bd (A8 v Cb.2.2) λIC=>
         bd (AE<|H5*IC) λHH=>
         bd (AE<|HH+Cb.2.1) λG7=>
         bd (AE<|Cb.2.2+(j:Int)) λHI=>
         bd (A8 Cb.1 HI) λJ9=>
         bd (A8 Cb.1 HI) λIg=>
         bd (FP G7 (1000000000:Int)) λKF=>
         bd (AE<|Ig-KF) λHp=>
         bd (GF G7 (1000000000:Int)) λML=>
         jn (λ(s66:Int×Int)=>
          bd (AE<|Cb.2.2+(j:Int)) λJ8=>
          bd (A8 Cb.1 J8) λx75=>
          bd (A8 Cb.1 J8) λNc=>
          bd (AE<|Cb.2.2+(1:Int)) λx79=>
          k46 ((Cb.1.set (J8).toNat s66.2),s66.1,x79)
         ) λk67=>
         cond (decide<|Hp<(0:Int)) (
          bd (AE<|Hp+(1000000000:Int)) λx69=>
          bd (AE<|ML+(1:Int)) λx71=>
          k67 (x71,x69)
         ) (
          k67 (ML,Hp)
         )
        ) (
         bd (AE<|(j:Int)+(v.length:Int)) λKE=>
         bd (AE<|(j:Int)+(v.length:Int)) λNf=>
         bd (A8 Cb.1 Nf) λx85=>
         bd (A8 Cb.1 Nf) λMm=>
         bd (AE<|Mm-Cb.2.1) λJf=>
         bd (A8 Cb.1 KE) λx91=>
         bd (A8 Cb.1 KE) λx93=>
         bd (AE<|(j:Int)+(v.length:Int)) λx95=>
         bd (A8 (Cb.1.set (KE).toNat Jf) x95) λx97=>
         bd (A8 (Cb.1.set (KE).toNat Jf) x95) λMl=>
         jn (λ(SJ:A3 Int×Int)=>K SJ) λWO=>
         cond (decide<|Ml<(0:Int)) (
          bd (AE<|H5-(1:Int)) λiU=>
          lp 18446744073709551616 (λ(Zb:(A3 Int×Int×Int)->A6 ρ) (D6:A3 Int×Int×Int)=>
           cond (decide<|D6.2.2<(v.length:Int)) (
            bd (AE<|D6.2.2+(j:Int)) λHk=>
            bd (A8 D6.1 Hk) λKt=>
            bd (A8 D6.1 Hk) λK7=>
            bd (A8 v D6.2.2) λMc=>
            bd (AE<|K7+Mc) λNT=>
            bd (AE<|NT+D6.2.1) λMe=>
            bd (AE<|D6.2.2+(j:Int)) λLU=>
            bd (FP Me (1000000000:Int)) λQZ=>
            bd (A8 D6.1 LU) λWU=>
            bd (A8 D6.1 LU) λWT=>
            bd (GF Me (1000000000:Int)) λWS=>
            bd (AE<|D6.2.2+(1:Int)) λWR=>
            Zb ((D6.1.set (LU).toNat QZ),WS,WR)
           ) (
            bd (AE<|(j:Int)+(v.length:Int)) λSD=>
            bd (AE<|(j:Int)+(v.length:Int)) λWQ=>
            bd (A8 D6.1 WQ) λaab=>
            bd (A8 D6.1 WQ) λiS=>
            bd (AE<|iS+D6.2.1) λiR=>
            bd (A8 D6.1 SD) λaaa=>
            bd (A8 D6.1 SD) λaaZ=>
            WO ((D6.1.set (SD).toNat iR),iU)
           )
          ) ((Cb.1.set (KE).toNat Jf),(0:Int),(0:Int))
         ) (
          WO ((Cb.1.set (KE).toNat Jf),H5)
         )
        )
       ) (u,(0:Int),(0:Int))):=by
 have hVb:=Ee hv;rw[L2] at hVb;have hP:=N5<|k+2
 have eW:AF (u.drop j)=u.getD j 0+BT*AF (u.drop<|j+1):=by rw[Nk (by omega),MQ]
 have hj0:=Gs hu j;have hW0:0<=AF (u.drop j):=(Ee<|T9 hu j).1;have as8:AF (u.drop j)<BT*AF v:=by unfold BT at*;omega
 have hzero:AF ((u.drop j).drop<|k+3)=0:=uh (T9 hu j) (by rw[H9];omega) (by
  rw[JK];have:BT*AF v<BT*B3 (k+2):=by unfold BT;omega
  omega)
 have eWw:AF (u.drop j)=AF ((u.drop j).take<|k+3):=by
  have:=R4 (u.drop j) (k+3) (by rw[H9];omega);rw[hzero] at this;omega
 have hz:∀m,j+(k+3)<=m->u.getD m 0=0:=λm hm=>by
  have:=acq (l:=u.drop j) hzero (T9 hu j) (m:=m-j) (by omega);rwa [WI,show j+(m-j)=m by omega] at this
 have atp:AF ((u.drop j).take<|k+3)=AF ((u.drop j).take<|k+2)+B3 (k+2)*u.getD (j+(k+2)) 0:=by rw[Hx,WI]
 refine Yd.Ak (ags (k:=k) (j:=j) hu hv L2 hj (by omega) WX rfl (by rw[<-eWw];exact as8)) ?_;rintro t ⟨⟨ht0,ht1⟩,FG,hup⟩;rw[<-eWw] at FG hup;refine afW (j:=j) (n:=k+2) hu hv L2 (by omega) (by omega) ⟨ht0,ht1⟩ ?_;intro u2 b g1 g2 g3 g4 g5 g6;dsimp only;have en:((j:Int)+(v.length:Int))=((j+(k+2):Nat):Int):=by omega
 rw[en];have gt:u2.getD (j+(k+2)) 0=u.getD (j+(k+2)) 0:=g4 _<|Az _
 have hb2:=Gs hu<|j+(k+2)
 have i2:A8 u2 ((j+(k+2):Nat):Int)=some (u.getD (j+(k+2)) 0):=by rw[<-gt];exact BN (by omega)
 have hS:=Ee<|Lu (T9 g1 j)<|k+2
 rw[DI,H9,Dt (by omega)] at hS;refine Yd.bd (Ad ⟨by omega,by omega⟩) (Yd.bd (Ad ⟨by omega,by omega⟩) (Yd.bd i2 (Yd.bd i2 (Yd.bd (Ad ⟨by unfold BT at*;omega,by unfold BT at*;omega⟩) (Yd.bd i2 (Yd.bd i2 (Yd.bd (Ad ⟨by omega,by omega⟩) ?_)))))));rw[Int.toNat_natCast];have i3:A8 (u2.set (j+(k+2))<|u.getD (j+(k+2)) 0-b) ((j+(k+2):Nat):Int)=some (u.getD (j+(k+2)) 0-b):=by
  rw[BN (by rw[JP];omega),Ge (by omega)]
 refine Yd.bd i3<|Yd.bd i3 ?_
 have eD:AF (u.drop j)-t*AF v=AF ((u2.drop j).take<|k+2)+B3 (k+2)*(u.getD (j+(k+2)) 0-b):=by
  rw[He];omega
 rw[Int.sub_mul,Int.one_mul] at FG;rw[Gg,Int.one_mul] at hup
 generalize u.getD (j+(k+2)) 0-b=y at*
 have hy1: -1<=y:=by
  rcases(show -1<=y\/y<= -2 by omega) with h|h
  ·exact h
  ·have:=ET h (Ds hP);omega
 have hy2:y<=0:=by
  rcases(show y<=0\/1<=y by omega) with h|h
  ·exact h
  ·have:=ET h (Ds hP);omega
 have fin:∀(l:A3 Int) (t':Int),l.length=u.length->l.take j=u.take j->(∀m,j+(k+2)<m->l.getD m 0=u.getD m 0)->(∀m,m≠j+(k+2)->0<=l.getD m 0/\l.getD m 0<BT)->0<=t'->t'<BT->
   AF ((l.drop j).take<|k+2)=AF (u.drop j)-t'*AF v->AF ((l.drop j).take<|k+2)<AF v->∀l2,l2=l.set (j+(k+2)) 0->Yd R (K (l2,t')):=by
  intro l t' q1 q2 q3 q4 q5 q6 q7 q8 l2 hl2;have ok2:CJ l2:=zK λm=>by
   by_cases e:m=j+(k+2)
   ·subst e;rw[hl2,Ge (by omega)];unfold BT;omega
   ·rw[hl2,getD_set_ne e];exact q4 m e
  have ev:AF (l2.drop j)=AF ((l.drop j).take<|k+2):=by
   have e1:=R4 (l2.drop j) (k+2) (by rw[H9,hl2,JP];omega);have e2:(l2.drop j).take (k+2)=(l.drop j).take (k+2):=by rw[hl2,j7,Gd<|Az _]
   have e3:AF ((l2.drop j).drop<|k+2)=0:=uF λm=>by
    rw[WI,WI,hl2];by_cases e:m=0
    ·subst e;rw[Re,Ge (by omega)]
    ·rw[<-KY,getD_set_ne (by omega),q3 _ (by omega)];exact hz _ (by omega)
   rw[e1,e2,e3];omega
  exact h l2 t' ok2 (by rw[hl2,JP];exact q1) (by rw[hl2,Gd (by omega)];exact q2) q5 q6 (by rw[ev];exact q7) (by rw[ev];exact q8)
 refine Yd.jn (λs:A3 Int×Int=>∃l:A3 Int,(l.length=u.length/\l.take j=u.take j/\(∀m,j+(k+2)<m->l.getD m 0=u.getD m 0)/\(∀m,m≠j+(k+2)->0<=l.getD m 0/\l.getD m 0<BT))/\(0<=s.2/\s.2<BT)/\AF ((l.drop j).take<|k+2)=AF (u.drop j)-s.2*AF v/\AF ((l.drop j).take<|k+2)<AF v/\s.1=l.set (j+(k+2)) 0) ?_ ?_
 ·rintro⟨l2,t'⟩ ⟨l,⟨q1,q2,q3,q4⟩,⟨q5,q6⟩,q7,q8,q9⟩;exact fin l t' q1 q2 q3 q4 q5 q6 q7 q8 l2 q9
 intro WO hk;refine Yd.cond (λhc=>?_)<|λhc=>?_
 ·have hc:=AZ hc;have hy:y= -1:=by omega
  subst hy;have ht2:1<=t:=by
   rcases(show 1<=t\/t=0 by omega) with h|h
   ·exact h
   ·rw[h,YW] at eD;omega
  refine Yd.bd (Ad ⟨by omega,by unfold BT at*;omega⟩) ?_;refine aed (j:=j) (n:=k+2) ?_ hv L2 (by rw[JP];omega) (by rw[JP];omega) ?_
  ·intro m hm;rw[getD_set_ne hm];exact Gs g1 m
  intro u4 c r1 r2 r3 r4 r5 r6;dsimp only;rw[JP] at r1;rw[Gd (by omega)] at r2;have e6:((u2.set (j+(k+2))<| -1).drop j).take (k+2)=(u2.drop j).take (k+2):=by rw[j7,Gd<|Az _]
  rw[e6] at r6;have r4':u4.getD (j+(k+2)) 0= -1:=by rw[r3 _<|Az _,Ge (by omega)]
  have i4:A8 u4 ((j+(k+2):Nat):Int)=some (-1):=by rw[<-r4'];exact BN (by omega)
  have HN:0<=AF ((u4.drop j).take<|k+2)/\AF ((u4.drop j).take<|k+2)<B3 (k+2):=by
   have ok:CJ ((u4.drop j).take<|k+2):=zK λm=>by
    by_cases e:m<k+2
    ·rw[dU e];exact r4 _ (by omega)
    ·rw[Rr (by rw[DI];omega)];unfold BT;omega
   have:=Ee ok;rwa [DI,H9,Dt (by omega)] at this
  have hc1:c=1:=by
   rcases r5 with h|h
   ·rw[h] at r6;omega
   ·exact h
  subst hc1;refine Yd.bd (Ad ⟨by omega,by omega⟩) (Yd.bd (Ad ⟨by omega,by omega⟩) (Yd.bd i4 (Yd.bd i4 (Yd.bd (Ad ⟨by omega,by omega⟩) (Yd.bd i4 (Yd.bd i4 (hk _ ⟨u4,⟨by omega,by rw[r2,g3],?_,r4⟩,⟨by dsimp only;omega,by dsimp only;omega⟩,?_,?_,?_⟩)))))))
  ·intro m hm;rw[r3 m (by omega),getD_set_ne (by omega),g4 m (by omega)]
  ·dsimp only;rw[Int.sub_mul,Int.one_mul];omega
  ·omega
  ·dsimp only;rw[Int.toNat_natCast];rfl
 ·have hc:=Ay hc;have hy:y=0:=by omega
  subst hy;refine hk _ ⟨u2,⟨g2,g3,λm hm=>g4 m (by omega),λm _=>Gs g1 m⟩,⟨ht0,ht1⟩,?_,?_,rfl⟩
  ·dsimp only;omega
  ·omega
def yo{l:A3 Int}(h:l.length<1099511627776):BC 8 ([]:A3 Int) l=some l:=by
 unfold BC;rw[TU,Nt,Ab (by omega),Ab (by omega)];rfl
def kM{a:A3 Int}(ha:FR a)(hb:FR b)(h0:b≠[])(hla:a.length<43980465)(hlb:b.length<43980465):
  Yd (λp=>(FR p.1/\FR p.2)/\AF p.1=AF a/AF b/\AF p.2=AF a%AF b) (UC a b):=by
 unfold UC;have hbp:=hb.pos h0;have ha0:=(Ee ha.1).1;refine Yd.Ak (rM ha hb (by omega) (by omega)) λc hcmp=>Yd.cond (λhc=>?_)<|λhc=>Yd.cond (λh1=>?_)<|λh1=>?_
 ·have hc:=AZ hc;have hlt:AF a<AF b:=by rcases hcmp with⟨_,h⟩|⟨h,_⟩|⟨h,_⟩<;>omega
  exact Yd.mk ⟨⟨FR.nil,ha⟩,by rw[Int.ediv_eq_zero_of_lt ha0 hlt];rfl,(TW ha0 hlt).symm⟩
 ·have h1:=AZ h1;obtain⟨d,rfl⟩:∃d,b=[d]:=fk.1 (by omega);have hd:AF [d]=d:=by simp[AF]
  rw[hd] at hbp⊢;have hd2:=hb.1 d (by simp);refine Yd.bd (x:=d) rfl (Yd.Ak (tL ha.1 ⟨hbp,by unfold BT at hd2;omega⟩ (by omega)) ?_);rintro⟨w,r⟩ ⟨g1,g2,g3,g4⟩;dsimp only at g1 g2 g3⊢;have KJ:=LI (AF a) (show d≠0 by omega);have hr1:=Kj (AF a) hbp;have okr:CJ [r]:=λx hx=>by rw[Be] at hx;subst hx;omega
  refine Yd.Ak (T7 okr (by simp)) λz ⟨q1,q2,_⟩=>Yd.mk ⟨⟨g1,q1⟩,g2,?_⟩
  rw[q2,<-g3];simp[AF]
 ·have h1:=Ay h1;have hc:=Ay hc;have KN:AF b<=AF a:=by rcases hcmp with⟨h,_⟩|⟨_,h⟩|⟨_,h⟩<;>omega
  have ato:0<b.length:=Vb.2 h0;obtain⟨k,hk⟩:∃k,b.length=k+2:=⟨b.length-2,by omega⟩;have hal:k+2<=a.length:=by
   rcases Gh a.length (k+2) with h|h
   ·have:=c6 ha.1 hb (by omega);omega
   ·exact h
  have e1:((b.length:Int)-1)=((k+1:Nat):Int):=by omega
  rw[e1];have hbt:=Gs hb.1<|k+1
  generalize hf:1000000000/(b.getD (k+1) 0+1)=f
  have hdv:GF 1000000000 (b.getD (k+1) 0+1)=some f:=by rw[<-hf];exact div_pos (by omega) (by omega) (by omega)
  have hf0:0<=f/\f<=1000000000:=by rw[<-hf];exact⟨Ke (by omega) (by omega),Rh _ (by omega)⟩
  refine Yd.bd (Ad ⟨by omega,by omega⟩) (Yd.bd (BN (by omega)) (Yd.bd (Ad ⟨by omega,by unfold BT at*;omega⟩)<|Yd.bd hdv ?_));have hf1:1<=f/\f<=500000000:=by
   have hb1:b.getD (k+1) 0≠0:=λe=>by
    have l1:=Sy hb.1 h0 hb.2;have l2:=UO (l:=b) (n:=k+1) (by omega);rw[CB (by omega),e] at l2;have l3:=(Ee<|Lu hb.1<|k+1).2;rw[DI,Dt (by omega)] at l3;rw[hk,show k+2-1=k+1 by omega] at l1;omega
   have:=xh (t:=b.getD (k+1) 0) (by omega) (by unfold BT at hbt;omega) hf.symm;exact⟨this.1,this.2.1⟩
  have okf:CJ [f]:=λx hx=>by rw[Be] at hx;subst hx;unfold BT;omega
  have vf:AF [f]=f:=by simp[AF]
  refine Yd.Ak (kL hb.1 okf (by omega) (by simp)) λv ⟨v1,v2,v3⟩=>?_
  rw[vf] at v2;obtain⟨n1,n2,n3,_,_⟩:=amU hb hk hf.symm v1 v2;refine Yd.Ak (kL ha.1 okf (by omega) (by simp)) λu0 ⟨w1,w2,w3⟩=>?_
  rw[vf] at w2;rw[LN] at w3;refine Yd.bd (yo (by omega)) (akE w1.1 w3 (by omega) ?_);intro u hu Lf huv;rw[w2] at huv;obtain⟨m,hm⟩:∃m,m+1+(k+2)=a.length+1:=⟨a.length-(k+2),by omega⟩;have em:((u.length:Int)-(v.length:Int))=((m+1:Nat):Int):=by omega
  rw[em];refine Yd.bd (Ad ⟨by omega,by omega⟩) (Yd.bd (PO (by omega) (by omega) (by omega)) (Yd.bd (Ad ⟨by omega,by omega⟩) (Yd.bd (Ad ⟨by omega,by omega⟩) ?_)));rw[CA];have hAp:AF a<B3 a.length:=(Ee ha.1).2;have JD:=top_lt hu Lf hm huv hAp hf1.1 n3;refine Yd.lp (λs:A3 Int×A3 Int×Int=>CJ s.1/\s.1.length=u.length/\CJ s.2.1/\s.2.1.length=m+1/\ -1<=s.2.2/\s.2.2<(m+1:Nat)/\AF (s.1.drop (s.2.2+1).toNat)<AF v/\
    AF u=AF s.1+AF v*(B3 (s.2.2+1).toNat*AF (s.2.1.drop (s.2.2+1).toNat))) (λs=>(s.2.2+1).toNat) ?_ _ _
   ⟨hu,rfl,kN _,by simp,by dsimp only;omega,by dsimp only;omega,?_,?_⟩ (by dsimp only;omega)
  rotate_left
  ·dsimp only;have e:(((m+1:Nat):Int)-1+1).toNat=m+1:=by omega
   rw[e];exact JD
  ·dsimp only;have e:(((m+1:Nat):Int)-1+1).toNat=m+1:=by omega
   rw[e,MZ (by simp)];simp[AF]
  rintro next ⟨u',q,z⟩ ⟨s1,s2,s3,s4,s5,s6,s7,s8⟩ hn
  dsimp only at s1 s2 s3 s4 s5 s6 s7 s8 hn⊢;refine Yd.cond (λhz=>?_)<|λhz=>?_
  ·have hz:=AZ hz;obtain⟨j,rfl⟩:=ER hz;have ej:(((j:Nat):Int)+1).toNat=j+1:=by omega
   rw[ej] at s7 s8;refine aiO (k:=k) (j:=j) s1 v1.1 n1 (by omega) (by omega) n2 s7 ?_;intro l t r1 r2 r3 r4 r5 r6 r7;refine Yd.bd (BN (by omega)) (Yd.bd (BN (by omega)) (Yd.bd (Ad ⟨by omega,by omega⟩) (hn _ ⟨r1,by dsimp only;omega,YP s3 _ ⟨r4,r5⟩,by simpa using s4,by dsimp only;omega,by dsimp only;omega,?_,?_⟩ ?_)))
   ·dsimp only;have e:(((j:Nat):Int)-1+1).toNat=j:=by omega
    rw[e];exact r7
   ·dsimp only;have e:(((j:Nat):Int)-1+1).toNat=j:=by omega
    rw[e,CA,bT (by omega),MQ,s8,R4 u' j (by omega),R4 l j (by omega),r3,r6,JK];have x1:B3 j*(AF (u'.drop j)-t*AF v)=B3 j*AF (u'.drop j)-AF v*(B3 j*t):=by
     rw[He,F5<|AF v,D8 t]
    have x2:AF v*(B3 j*(t+BT*AF (q.drop<|j+1)))=AF v*(B3 j*t)+AF v*(BT*B3 j*AF (q.drop<|j+1)):=by
     rw[BZ,BZ,<-DO (B3 j),D8 (B3 j) BT]
    rw[x1,x2];omega
   ·dsimp only;omega
  ·have hz:=Ay hz;have:z= -1:=by omega
   subst this;have s7:AF u'<AF v:=s7;have s8:AF u=AF u'+AF v*(B3 0*AF q):=s8;rw[T8,G2] at s8;have u'0:=(Ee s1).1;have hVb:=(Ee v1.1).2;have htk:AF (u'.take v.length)=AF u':=by
    have:=R4 u' v.length (by omega);rw[uh s1 (by omega) (by omega)] at this;omega
   refine Yd.bd (EO (by omega) (by omega) (by omega)) ?_;have et:((u'.take ((v.length:Nat):Int).toNat).drop (0:Int).toNat)=u'.take v.length:=by simp
   rw[et];refine Yd.Ak (T7 (Lu s1 _) (by rw[DI];omega)) λy ⟨y1,y2,y3⟩=>Yd.bd (x:=f) rfl ?_
   rw[DI] at y3;refine Yd.Ak (tL y1.1 ⟨by omega,by omega⟩ (by omega)) ?_;rintro⟨w,r⟩ ⟨g1,g2,g3,g4⟩;dsimp only at g1 g2 g3⊢;refine Yd.Ak (T7 s3 (by omega)) λx ⟨x1,x2,_⟩=>Yd.mk ⟨⟨x1,g1⟩,?_⟩
   dsimp only;rw[x2,g2,y2,htk];have hR:AF u'=f*(AF a-AF b*AF q):=by
    rw[huv,v2] at s8;rw[He,D8 f<|AF a,D8 (AF b) f] at*;rw[DO] at s8;omega
   have hRd:AF u'/f=AF a-AF b*AF q:=by rw[hR,Int.mul_ediv_cancel_left _ (by omega)]
   rw[hRd];have hR0:0<=AF a-AF b*AF q:=by rw[<-hRd];exact Ke u'0 (by omega)
   have hR1:AF a-AF b*AF q<AF b:=by
    refine fp (a:=f) ?_ (by omega);rw[<-hR,D8 f];omega
   have:=Xf (A:=AF a) (B:=AF b) (q:=AF q) (r:=AF a-AF b*AF q) (by rw[D8<|AF q];omega) hR0 hR1;exact this
def YJ:∀n:Nat,B3 n=((10^(9*n):Nat):Int)
 |0=>rfl
 |n+1=>by
  rw[JK,YJ n,show 9*(n+1)=9*n+9 by omega,Lx,M1];unfold BT;omega
def aa0{a:A3 Int}(ha:CJ a)(hl:a.length<=100000):Nat.log2 (AF a).toNat<1099511627776:=by
 have h:=Ee ha;rw[YJ] at h;have h1:=Kl (show 0<10 by omega) (show 9*a.length<=900000 by omega);have:Cl ((AF a).toNat:Int)=true:=TG (n:=900000) (by
  rw[Fc]
  generalize 10^(9*a.length)=P at*
  generalize 10^900000=Q at*
  omega) (by omega)
 have:=EP this;rw[Fc] at this;omega
def xD{x y:Int}(hx:0<=x)(hy:0<y):Int.gcd y (x%y)=Int.gcd x y:=by
 obtain⟨m,rfl⟩:=ER hx;obtain⟨n,rfl⟩:=ER<|Ds hy
 show Nat.gcd n (((m%n:Nat):Int)).natAbs=Nat.gcd m n;rw[Fc,Rb n,<-Nat.gcd_rec,Rb]
def uS{a:A3 Int}(ha:FR a)(hb:FR b)(hla:a.length<=100000)(hlb:b.length<=100000):Yd (λw=>FR w/\AF w=(Int.gcd (AF a) (AF b):Int)/\w.length<=100000) (X8 a b):=by
 unfold X8;refine Yd.lp (λs:A3 Int×A3 Int=>FR s.1/\FR s.2/\s.1.length<=100000/\s.2.length<=100000/\Int.gcd (AF s.1) (AF s.2)=Int.gcd (AF a) (AF b)) (λs=>muG (AF s.1).toNat (AF s.2).toNat) ?_ _ _ ⟨ha,hb,hla,hlb,rfl⟩<|pA (aa0 ha.1 hla)<|aa0 hb.1 hlb
 rintro next ⟨x,y⟩ ⟨h1,h2,h3,h4,h5⟩ hn
 dsimp only at h1 h2 h3 h4 h5 hn⊢;refine Yd.cond (λhc=>?_)<|λhc=>?_
 ·have hc:=AZ hc;have hy0:y≠[]:=by intro e;subst e;simp at hc
  have hyp:=h2.pos hy0;have L1:=(Ee h1.1).1;refine Yd.Ak (kM h1 h2 hy0 (by omega) (by omega)) ?_;rintro⟨q,r⟩ ⟨⟨g1,g2⟩,g3,g4⟩;dsimp only at g1 g2 g3 g4⊢;have hr:=Kj (AF x) hyp;have hrl:r.length<=y.length:=g2.len (by rw[g4];have:=(Ee h2.1).2;omega);refine hn _ ⟨h2,g2,h4,by dsimp only;omega,?_⟩ ?_
  ·dsimp only;rw[g4,<-h5,xD L1 hyp]
  ·dsimp only;rw[g4];have e:(AF x%AF y).toNat=(AF x).toNat%(AF y).toNat:=by
    rw[Int.toNat_emod L1<|Ds hyp]
   rw[e];exact n5 (by omega)
 ·have hc:=Ay hc;have hy0:y=[]:=JS (by omega);subst hy0;refine Yd.mk ⟨h1,?_,h3⟩;have L1:=(Ee h1.1).1;rw[<-h5];show AF x=((Int.gcd (AF x) 0:Nat):Int);rw[Int.gcd_zero_right];omega
def akG{a b:Int}(ha:0<=a/\a<=4000000000000000000)(hb:0<=b/\b<=4000000000000000000):Uj a b=some (Int.gcd a b:Int):=by
 have key:Yd (λr=>r=(Int.gcd a b:Int)) (Uj a b):=by
  unfold Uj;have WY:∀x:Int,0<=x/\x<=4000000000000000000->Nat.log2 x.toNat<1099511627776:=λx hx=>by
   have:=TG (z:=x) (n:=19) (by simp;omega) (by omega);have:=EP this;rw[show x.natAbs=x.toNat by omega] at this;omega
  refine Yd.lp (λs:Int×Int=>(0<=s.1/\s.1<=4000000000000000000)/\(0<=s.2/\s.2<=4000000000000000000)/\Int.gcd s.1 s.2=Int.gcd a b) (λs=>muG s.1.toNat s.2.toNat) ?_ _ _ ⟨ha,hb,rfl⟩<|pA (WY a ha)<|WY b hb
  rintro next ⟨x,y⟩ ⟨h1,h2,h5⟩ hn
  dsimp only at h1 h2 h5 hn⊢;refine Yd.cond (λhc=>?_)<|λhc=>?_
  ·have hc:=AZ hc;have hr:=Kj x hc;have KJ:=LI x (show y≠0 by omega);refine Yd.bd (Q1 h1.1 hc) (hn _ ⟨h2,⟨KJ,by dsimp only;omega⟩,?_⟩ ?_)
   ·dsimp only;rw[<-h5,xD h1.1 hc]
   ·dsimp only;rw[Int.toNat_emod h1.1<|Ds hc];exact n5 (by omega)
  ·have hc:=Ay hc;have:y=0:=by omega
   subst this;refine Yd.mk ?_;rw[<-h5,Int.gcd_zero_right];omega
 obtain⟨r,e,rfl⟩:=key;exact e
def Y8(n:Nat):0<(B5 n).length:=by
 by_cases h:n<10
 ·rw[Nq h];simp
 ·rw[RA h];simp
def nr{r:Nat}(h:k<=(B5 r).length):HE k r=B5 r:=by
 unfold HE;rw[Nat.sub_eq_zero_of_le h];rfl
def agy(h:0<m/10\/1<k):HE k m=HE (k-1) (m/10)++[UInt8.ofNat<|48+m%10]:=by
 by_cases hm:m<10
 ·have hk:1<k:=by omega
  obtain⟨j,rfl⟩:∃j,k=j+2:=⟨k-2,by omega⟩;unfold HE;rw[show m/10=0 by omega,Nq hm,Nq (show 0<10 by omega),show m%10=m by omega];simp only[LN];rw[show j+2-1=j+1 by omega,show j+1-1=j by omega,List.replicate_succ'];rfl
 ·unfold HE;rw[RA hm,ES,LN,show k-((B5<|m/10).length+1)=k-1-(B5<|m/10).length by omega,Gw]
def aib(h1:m/10=0)(h2:k<=1):HE k m=[UInt8.ofNat<|48+m%10]:=by
 rw[nr (by have:=Y8 m;omega),Nq (by omega),show m%10=m by omega]
def an6(h:d<10):(([48,49,50,51,52,53,54,55,56,57]:A9).take<|d+1).drop d=[UInt8.ofNat<|48+d]:=by
 match d,h with
 |0,_=>rfl
 |1,_=>rfl
 |2,_=>rfl
 |3,_=>rfl
 |4,_=>rfl
 |5,_=>rfl
 |6,_=>rfl
 |7,_=>rfl
 |8,_=>rfl
 |9,_=>rfl
def Q0{m:A9}(h:l.length+m.length<=9223372036854775807):Hl l m=some (l++m):=by
 unfold Hl;rw[Ab h];rfl
def kc(hn:n<=9000000000000000000)(hk:1<=k/\k<=20):MM (n:Int) (k:Int)=some (HE k n):=by
 have key:Yd (λr=>r=HE k n) (MM (n:Int) (k:Int)):=by
  unfold MM;refine Yd.lp (λs:Int×A9=>∃m:Nat,s.1=m/\m<=n/\m+s.2.length<=n+20/\HE k n=(if 0<m\/s.2.length<k then HE (k-s.2.length) m++s.2 else s.2)) (λs=>s.1.toNat+(k-s.2.length)) ?_ _ _ ⟨n,rfl,Az _,by simp,?_⟩ (by dsimp only;omega)
  ·rintro next ⟨z,s⟩ ⟨m,rfl,h0,h1,h2⟩ Gc
   dsimp only at h1 h2 Gc⊢;refine Yd.cond (λhc=>?_)<|λhc=>?_
   ·have hg:0<m\/s.length<k:=by
     rw[Kf,Ev,Ev] at hc;omega
    rw[if_pos hg] at h2;have hr:((m:Int)%10)=((m%10:Nat):Int):=by omega
    have hq:((m:Int)/10)=((m/10:Nat):Int):=by omega
    have hd:m%10<10:=N8 _ (by omega);have aan:FP (m:Int) 10=some ((m%10:Nat):Int):=by rw[Q1 (by omega) (by omega),hr]
    have hdiv:GF (m:Int) 10=some ((m/10:Nat):Int):=by rw[div_pos (by omega) (by omega) (by omega),hq]
    have B0:Br ([48,49,50,51,52,53,54,55,56,57]:A9) ((m%10:Nat):Int) (((m%10:Nat):Int)+1)=some [UInt8.ofNat<|48+m%10]:=by
     rw[EO (by omega) (by omega) (by simp;omega),CA,show(((m%10:Nat):Int)+1).toNat=m%10+1 by omega,an6 hd]
    refine Yd.bd aan (Yd.bd aan (Yd.bd (Ad ⟨by omega,by omega⟩) (Yd.bd B0 (Yd.bd (Q0 (by simp;omega)) (Yd.bd hdiv (Gc _ ⟨m/10,rfl,by omega,?_,?_⟩ ?_))))))
    ·dsimp only;simp only[List.singleton_append,List.length_cons];omega
    ·dsimp only;simp only[List.singleton_append,List.length_cons];rw[h2];by_cases hg2:0<m/10\/s.length+1<k
     ·rw[if_pos hg2,agy (by omega),Gw,show k-s.length-1=k-(s.length+1) by omega];rfl
     ·rw[if_neg hg2,aib (by omega) (by omega)];rfl
    ·dsimp only;simp only[List.singleton_append,List.length_cons];omega
   ·have hg: ¬(0<m\/s.length<k):=by
     rw[LL,HB,HB] at hc;omega
    rw[if_neg hg] at h2;exact Yd.mk h2.symm
  ·dsimp only;rw[if_pos (by simp;omega)];simp
 obtain⟨r,e,rfl⟩:=key;exact e
def aia{r:Nat}(hk:0<k)(h:r<10^k):(HE k r).length=k:=by
 have:=Nr k r hk h;unfold HE;rw[ES,NJ];omega
def mY(h:Er p z)(hl:p.2.length<=100000):Qx p=some (CU z):=by
 have key:Yd (λr=>r=CU z) (Qx p):=by
  obtain⟨h1,h2,h3⟩:=h;obtain⟨neg,w⟩:=p;dsimp only at h1 h2 h3 hl;unfold Qx;dsimp only;refine Yd.cond (λhc=>?_)<|λhc=>?_
  ·have hc:=AZ hc;have hw:w=[]:=JS (by omega);subst hw;have hz:z=0:=by
    have:(0:Int)=(z.natAbs:Int):=h2;omega
   subst hz;exact Yd.mk rfl
  ·have hc:=Ay hc;obtain⟨n,hn⟩:∃n,w.length=n+1:=⟨w.length-1,by omega⟩;have hw0:w≠[]:=by intro e;subst e;simp at hn
   have e1:((w.length:Int)-1)=(n:Int):=by omega
   rw[e1];have ht:=Gs h1.1 n;have WX:0<w.getD n 0:=by
    have l1:=Sy h1.1 hw0 h1.2;have l2:=UO (l:=w) (n:=n) (by omega);rw[CB (by omega)] at l2;have l3:=(Ee<|Lu h1.1 n).2;rw[DI,Dt (by omega)] at l3;rw[hn,Nat.add_sub_cancel] at l1;rcases(show 0<w.getD n 0\/w.getD n 0=0 by omega) with h|h
    ·exact h
    ·rw[h] at l2;omega
   obtain⟨t,htt⟩:=ER ht.1;have hdt:MM (w.getD n 0) 1=some (HE 1 t):=by rw[htt];exact kc (k:=1) (by unfold BT at*;omega) (by omega)
   refine Yd.bd (Ad ⟨by omega,by omega⟩) (Yd.bd (BN (by omega)) (Yd.bd hdt (Yd.bd (Ad ⟨by omega,by omega⟩) ?_)));rw[nr<|Y8 t];have JD:(B5 t).length<=9:=Nr 9 t (by omega) (by unfold BT at*;omega);refine Yd.lp (λs:A9×Int=> -1<=s.2/\s.2<n/\s.1=B5 (AF<|w.drop (s.2+1).toNat).toNat/\0<AF (w.drop (s.2+1).toNat)/\s.1.length+9*(s.2+1).toNat<=1000000) (λs=>(s.2+1).toNat) ?_ _ _ ⟨by dsimp only;omega,by dsimp only;omega,?_,?_,?_⟩ (by dsimp only;omega)
   ·rintro next ⟨s,i⟩ ⟨g1,g2,g3,g4,g5⟩ hnx
    dsimp only at g1 g2 g3 g4 g5 hnx⊢;refine Yd.cond (λhd=>?_)<|λhd=>?_
    ·have hd:=AZ hd;obtain⟨j,rfl⟩:=ER hd;have ej:(((j:Nat):Int)+1).toNat=j+1:=by omega
     have ej':(((j:Nat):Int)-1+1).toNat=j:=by omega
     rw[ej] at g3 g4 g5;have hx:=Gs h1.1 j;obtain⟨r,hr⟩:=ER hx.1;have hr9:r<1000000000:=by unfold BT at*;omega
     have hdr:MM (w.getD j 0) 9=some (HE 9 r):=by rw[hr];exact kc (k:=9) (by omega) (by omega)
     have JE:(HE 9 r).length=9:=aia (by omega) (by omega);have JW:AF (w.drop j)=r+BT*AF (w.drop<|j+1):=by rw[Nk (by omega),MQ,hr]
     refine Yd.bd (BN (by omega)) (Yd.bd hdr (Yd.bd (Q0 (by omega)) (Yd.bd (Ad ⟨by omega,by omega⟩) (hnx _ ⟨by dsimp only;omega,by dsimp only;omega,?_,?_,?_⟩ (by dsimp only;omega)))))
     ·dsimp only;rw[ej',g3,JW];have e:(((r:Nat):Int)+BT*AF (w.drop<|j+1)).toNat=(AF<|w.drop<|j+1).toNat*10^9+r:=by unfold BT;omega
      rw[e,lS 9 _ r (by omega) (by omega) (by omega)]
     ·dsimp only;rw[ej',JW];unfold BT;omega
     ·dsimp only;rw[ej',List.length_append,JE];omega
    ·have hd:=Ay hd;have:i= -1:=by omega
     subst this;have g3:s=B5 (AF w).toNat:=g3;have e2:(AF w).toNat=z.natAbs:=by rw[h2];omega
     rw[e2] at g3;have g5:s.length+0<=1000000:=g5;refine Yd.cond (λHF=>?_)<|λHF=>?_
     ·refine Yd.bd (Q0 (by simp only[LN];omega)) (Yd.mk ?_);rw[HF] at h3;unfold CU;rw[<-h3,g3];rfl
     ·rw[HF] at h3;refine Yd.mk ?_;unfold CU;rw[<-h3,g3];rfl
   ·dsimp only;have e:(((w.length:Int)-2)+1).toNat=n:=by omega
    rw[e,Nk (by omega),MZ (by omega)];simp only[AF,htt];simp
   ·dsimp only;have e:(((w.length:Int)-2)+1).toNat=n:=by omega
    rw[e,Nk (by omega),MZ (by omega)];simp only[AF];omega
   ·dsimp only;omega
 obtain⟨r,e,rfl⟩:=key;exact e
def aam{b:UInt8}(h:l[n]? =some b):A8 l (n:Int)=some b:=h
def dK{b:UInt8}(h:DW b=true):48<=b.toNat/\b.toNat<=57:=by
 unfold DW at h;obtain⟨h1,h2⟩:=DQ h;exact⟨EP h1,EP h2⟩
def cw(hd:s.all DW=true)(hl:s.length<=18):Mq s=some (BA s:Int):=by
 have key:Yd (λr=>r=(BA s:Int)) (Mq s):=by
  unfold Mq;refine Yd.lp (λt:Int×Int=>0<=t.2/\t.2<=s.length/\t.1=(BA (s.take t.2.toNat):Int)) (λt=>s.length-t.2.toNat) ?_ _ _ ⟨by dsimp only;omega,by dsimp only;omega,by simp[BA]⟩ (by dsimp only;omega);rintro next ⟨v,i⟩ ⟨h1,h2,h3⟩ hn
  dsimp only at h1 h2 h3 hn⊢;obtain⟨n,rfl⟩:=ER h1;rw[CA] at h3;refine Yd.cond (λhc=>?_)<|λhc=>?_
  ·have hc:=AZ hc;have hlt:n<s.length:=by omega
   have hdt:(s.take n).all DW=true:=Cy.2 λx hx=>Cy.1 hd x<|OA hx
   have hv:=Py _ hdt;rw[DI,Dt (by omega)] at hv;have hp:(10:Nat)^n<=10^17:=Kl (by omega) (by omega);have hb:=dK<|Cy.1 hd _<|Kg hlt
   have hw:wr .i64 ((s[n].toNat:Nat):Int)=(s[n].toNat:Int):=by
    show IntKind.wrap .i64 _=_;rw[IntKind.wrap_i64];omega
   refine Yd.bd (Ad ⟨by omega,by omega⟩) (Yd.bd (aam<|Fe hlt) (Yd.bd (Ad ⟨by rw[hw];omega,by rw[hw];omega⟩) (Yd.bd (Ad ⟨by rw[hw];omega,by rw[hw];omega⟩) (Yd.bd (Ad ⟨by omega,by omega⟩) (hn _ ⟨by dsimp only;omega,by dsimp only;omega,?_⟩ (by dsimp only;omega))))));dsimp only;rw[hw,show(((n:Nat):Int)+1).toNat=n+1 by omega,fO,Fe hlt,XY,h3];have e:BA [s[n]]=s[n].toNat-48:=by simp[BA]
   simp only[Option.toList_some,LN,e];omega
  ·have hc:=Ay hc;have:n=s.length:=by omega
   subst this;refine Yd.mk ?_;rw[h3,CB<|Az _]
 obtain⟨r,e,rfl⟩:=key;exact e
def lf{ds:A9}(neg:Bool)(hd:ds.all DW=true)(h0:ds≠[])(hl:ds.length<=800000):Yd (λp=>Er p (bif neg then -(BA ds:Int) else(BA ds:Int))/\p.2.length<=ds.length) (Qu (bif neg then 45::ds else ds)):=by
 unfold Qu;have core:Yd (λp=>Er p (bif neg then -(BA ds:Int) else(BA ds:Int))/\p.2.length<=ds.length)
  (lp 18446744073709551616 (λ(k9:(A9×A3 Int)->A6 _) (s8:A9×A3 Int)=>
   cond (decide<|(9:Int)<(s8.1.length:Int)) (
    bd (AE<|(s8.1.length:Int)-(9:Int)) λAx=>
    bd (Br s8.1 Ax (s8.1.length:Int)) λBf=>
    bd (Mq Bf) λBV=>
    bd (BC 8 s8.2 ([BV]:A3 Int)) λBW=>
    bd (AE<|(s8.1.length:Int)-(9:Int)) λBg=>
    bd (Br s8.1 0 Bg) λC5=>
    k9 (C5,BW)
   ) (
    bd (Mq s8.1) λC7=>
    bd (BC 8 s8.2 ([C7]:A3 Int)) λCs=>
    bd (KT neg Cs) λCt=>
    some Ct
   )
  ) (ds,[])):=by
  refine Yd.lp (λt:A9×A3 Int=>t.1.all DW=true/\t.1≠[]/\t.1.length<=800000/\CJ t.2/\t.1.length+t.2.length<=ds.length/\(BA ds:Int)=BA t.1*B3 t.2.length+AF t.2) (λt=>t.1.length) ?_ _ _ ⟨hd,h0,hl,fB,by simp,by simp[T8,AF]⟩ (by dsimp only;omega);rintro next ⟨s,w⟩ ⟨g1,g2,g3,g4,g5,g6⟩ hn
  dsimp only at g1 g2 g3 g4 g5 g6 hn⊢;have okv:∀x:A9,x.all DW=true->x.length<=9->0<=(BA x:Int)/\(BA x:Int)<BT:=λx hx Fx=>by
   have h1:=Py x hx;have h2:(10:Nat)^x.length<=10^9:=Kl (by omega) Fx;unfold BT;omega
  have ext:∀v:Int,0<=v/\v<BT->CJ (w++[v]):=λv hv=>by
   rw[c8];exact⟨g4,λy hy=>by rw[Be] at hy;subst hy;exact hv⟩
  refine Yd.cond (λhc=>?_)<|λhc=>?_
  ·have hc:=AZ hc;obtain⟨n,Gc⟩:∃n,s.length=n+9:=⟨s.length-9,by omega⟩;have e1:((s.length:Int)-9)=(n:Int):=by omega
   rw[e1];have hda:(s.take n).all DW=true:=Cy.2 λx hx=>Cy.1 g1 x<|OA hx
   have hdb:(s.drop n).all DW=true:=Cy.2 λx hx=>Cy.1 g1 x<|QC hx
   have hlb:(s.drop n).length=9:=by rw[H9];omega
   have es:Br s (n:Int) (s.length:Int)=some (s.drop n):=by rw[EO (by omega) (by omega) (by omega)];simp
   have et:Br s 0 (n:Int)=some (s.take n):=by rw[EO (by omega) (by omega) (by omega)];simp
   have hv:=okv _ hdb (by omega);refine Yd.bd (Ad ⟨by omega,by omega⟩) (Yd.bd es (Yd.bd (cw hdb (by omega)) (Yd.bd (Zq (by omega)) (Yd.bd (Ad ⟨by omega,by omega⟩)<|Yd.bd et<|hn _ ⟨hda,?_,?_,ext _ hv,?_,?_⟩ ?_))))
   ·intro e;have:=congrArg List.length e;rw[List.length_take,TU] at this;omega
   ·dsimp only;rw[List.length_take];omega
   ·dsimp only;rw[List.length_take,List.length_append,List.length_singleton];omega
   ·dsimp only;have hs:BA s=BA (s.take n)*10^9+BA (s.drop n):=by
     conv=>lhs;rw[<-OC n s]
     rw[XY,hlb]
    rw[g6,hs,List.length_append,List.length_singleton,JK,Qz];have e:AF [(BA (s.drop n):Int)]=BA (s.drop n):=by simp[AF]
    rw[e,Int.natCast_add,M1,Gg,DO];have:((10^9:Nat):Int)=BT:=rfl;rw[this,D8 (BA (s.drop n):Int)];omega
   ·dsimp only;rw[List.length_take];omega
  ·have hc:=Ay hc;have hv:=okv s g1 (by omega);have Lg:0<s.length:=Vb.2 g2;refine Yd.bd (cw g1 (by omega)) (Yd.bd (Zq (by omega)) (Yd.Ak (uQ (ext _ hv) (by rw[List.length_append,List.length_singleton];omega)) λp ⟨p1,p2⟩=>Yd.mk ?_));have e:AF (w++[(BA s:Int)])=(BA ds:Int):=by
    rw[Qz,g6];have e:AF [(BA s:Int)]=BA s:=by simp[AF]
    rw[e,D8];omega
   rw[e] at p1;rw[List.length_append,List.length_singleton] at p2;exact⟨p1,by omega⟩
 cases neg with
 |true=>
  simp only[BM] at core⊢;refine Yd.Aa (λ_=>⟨45,rfl,?_⟩) (λh=>by simp[gd] at h);have hb:((decide<|(0:Int)<((45::ds).length:Int))&&(decide<|((45:UInt8).toNat:Int)=(45:Int)))=true:=by
   rw[Ab (by simp only[DF];omega)];rfl
  rw[hb];have es:Br (45::ds) (1:Int) ((45::ds).length:Int)=some ds:=by
   rw[EO (by omega) (by simp only[DF];omega) (by omega),CA,CB<|Az _];rfl
  exact Yd.jn (λs=>s=ds) (λs hs=>by subst hs;exact core) λk hk=>Yd.cond (λ_=>Yd.bd es<|hk _ rfl) (λh=>by cases h)
 |false=>
  obtain⟨d,r,rfl⟩:∃d r,ds=d::r:=by
   cases ds with
   |nil=>exact absurd rfl h0
   |cons d r=>exact⟨d,r,rfl⟩
  have hdd:=dK (Cy.1 hd d (by simp));simp only[B8] at core⊢;refine Yd.Aa (λ_=>⟨d,rfl,?_⟩) (λh=>by simp[gd] at h);have hb:((decide<|(0:Int)<((d::r).length:Int))&&(decide<|(d.toNat:Int)=(45:Int)))=false:=by
   rw[BH (show¬(d.toNat:Int)=45 by omega),Ya]
  rw[hb];exact Yd.jn (λs=>s=d::r) (λs hs=>by subst hs;exact core) λk hk=>Yd.cond (λh=>by cases h)<|λ_=>hk _ rfl
def vJ(hk:k<=s.length)(h1:∀i,i<k->s[i]? ≠some 47)(h2:k<s.length->s[k]? =some 47)(hl:s.length<1099511627776):L5 s=some (k:Int):=by
 have key:Yd (λr=>r=(k:Int)) (L5 s):=by
  unfold L5;refine Yd.lp (λi:Int=>0<=i/\i<=k) (λi=>s.length-i.toNat) ?_ _ _ ⟨by omega,by omega⟩ (by omega);rintro next i ⟨g1,g2⟩ hn
  obtain⟨n,rfl⟩:=ER g1;refine Yd.cond (λhc=>?_)<|λhc=>?_
  ·have hc:=AZ hc;have hlt:n<s.length:=by omega
   have hg:=Fe hlt;refine Yd.bd (aam hg)<|Yd.cond (λhd=>?_)<|λhd=>?_
   ·have hd:=AZ hd;refine Yd.mk ?_;have hb:s[n]=47:=fR.1 (by show _=47;omega);rcases Gh n k with h|h
    ·exact absurd (by rw[hg,hb])<|h1 n h
    ·omega
   ·have hd:=Ay hd;rcases Gh n k with h|h
    ·exact Yd.bd (Ad ⟨by omega,by omega⟩) (hn _ ⟨by omega,by omega⟩ (by omega))
    ·have e:n=k:=by omega
     subst e;have:=h2 hlt;rw[hg] at this;have:=Dg this;rw[this] at hd;exact absurd rfl hd
  ·have hc:=Ay hc;exact Yd.mk (by omega)
 obtain⟨r,e,rfl⟩:=key;exact e
def BG(q:Rat):A9:=CU q.num++(bif decide (q.den=1) then [] else 47::B5 q.den)
def N2(n:Nat):(B5 n).all DW=true/\BA (B5 n)=n:=by
 induction n using Nat.strongRecOn with
 |ind n ih=>
  have one:∀d,d<10->DW (UInt8.ofNat<|48+d)=true/\BA [UInt8.ofNat<|48+d]=d:=by
   intro d hd
   match d,hd with
   |0,_=>decide
   |1,_=>decide
   |2,_=>decide
   |3,_=>decide
   |4,_=>decide
   |5,_=>decide
   |6,_=>decide
   |7,_=>decide
   |8,_=>decide
   |9,_=>decide
  by_cases h:n<10
  ·rw[Nq h];have:=one n h;exact⟨by rw[N9,this.1];rfl,this.2⟩
  ·rw[RA h];obtain⟨i1,i2⟩:=ih (n/10) (by omega);have:=one (n%10) (by omega);refine⟨by rw[fS,i1,N9,this.1];rfl,?_⟩;rw[XY,i2,this.2,LN];omega
def ye(n:Nat):B5 n≠[]:=λe=>by have:=Y8 n;rw[e] at this;simp at this
def yf(h:(B5 n).length<=k):n<10^k:=by
 have:=Py _ (N2 n).1;rw[(N2 n).2] at this;have h2:(10:Nat)^(B5 n).length<=10^k:=Kl (by omega) h;omega
def aiB(z:Int):CU z=bif decide (z<0) then 45::B5 z.natAbs else B5 z.natAbs:=rfl
def l8(z:Int):∀x∈CU z,x≠47:=by
 intro x hx e;subst e;have hd:(47:UInt8)∉B5 z.natAbs:=λh=>by
  have:=Cy.1 (N2 z.natAbs).1 _ h;simp[DW] at this
 unfold CU at hx;cases hc:decide (z<0) with
 |true=>
  rw[hc] at hx;have hx:(47:UInt8)∈45::B5 z.natAbs:=hx;rcases Ag.1 hx with h|h
  ·cases h
  ·exact hd h
 |false=>rw[hc] at hx;exact hd hx
def dX{t:A9}(hu:∀x∈u,x≠47)(hl:(u++47::t).length<1099511627776):L5 (u++47::t)=some (u.length:Int):=by
 refine vJ (by simp) (λi hi=>?_) (λ_=>by simp) hl;rw[IQ hi,Fe hi];intro e;exact hu _ (Kg hi)<|Dg e
def mT(hu:∀x∈u,x≠47)(hl:u.length<1099511627776):L5 u=some (u.length:Int):=by
 refine vJ (Az _) (λi hi=>?_) (λh=>absurd h<|Nat.lt_irrefl _) hl;rw[Fe hi];intro e;exact hu _ (Kg hi)<|Dg e
def Xn(z:Int):(CU z).length<=(B5 z.natAbs).length+1:=by
 unfold CU;cases decide (z<0)
 ·exact P1 _
 ·exact Az _
def lz(hl:(B5 z.natAbs).length<=800000):Yd (λp=>Er p z/\p.2.length<=800000) (Qu<|CU z):=by
 have h:=lf (decide<|z<0) (N2 z.natAbs).1 (ye _) hl;rw[(N2 _).2] at h;rw[<-aiB] at h;refine h.imp λp hp=>⟨?_,by omega⟩
 have e:(bif decide (z<0) then -(z.natAbs:Int) else(z.natAbs:Int))=z:=by
  cases hc:decide (z<0) with
  |true=>have:=AZ hc;show -(z.natAbs:Int)=z;omega
  |false=>have:=Ay hc;show(z.natAbs:Int)=z;omega
 rw[e] at hp;exact hp.1
def agx(hl:(B5 n).length<=800000):Yd (λp=>Er p (n:Int)/\p.2.length<=800000) (Qu<|B5 n):=by
 have h:=lz (z:=(n:Int)) (by simpa using hl);have e:CU (n:Int)=B5 n:=by
  unfold CU;rw[BH (by omega)];simp
 rwa [e] at h
def agF:Qs 1=some (false,[1]):=A4
def agr(h1:(B5 q.num.natAbs).length<=800000)(h2:(B5 q.den).length<=800000):Yd (λp=>(Er p.1 q.num/\Er p.2 (q.den:Int))/\p.1.2.length<=800000/\p.2.2.length<=800000) (Mr<|BG q):=by
 have hlen:=Xn q.num;unfold Mr BG;cases hd:decide (q.den=1) with
 |true=>
  have hd:=AZ hd;simp only[BM,JQ];refine Yd.bd (mT (l8 _) (by omega))<|Yd.cond (λ_=>?_)<|λh=>absurd rfl<|Ay h
  refine Yd.Ak (lz h1) λp hp=>Yd.bd agF (Yd.mk ⟨⟨hp.1,?_⟩,hp.2,by simp⟩)
  rw[hd];refine⟨⟨λx hx=>?_,by simp⟩,rfl,rfl⟩;rw[Be] at hx;subst hx;unfold BT;omega
 |false=>
  have hd:=Ay hd;simp only[B8];have hlt:(CU q.num++47::B5 q.den).length=(CU q.num).length+1+(B5 q.den).length:=by simp;omega
  refine Yd.bd (dX (l8 _) (by omega)) (Yd.cond (λh=>by have:=AZ h;omega)<|λ_=>?_);have es:Br (CU q.num++47::B5 q.den) 0 ((CU q.num).length:Int)=some (CU q.num):=by
   rw[EO (by omega) (by omega) (by omega)];simp
  have et:Br (CU q.num++47::B5 q.den) (((CU q.num).length:Int)+1) ((CU q.num++47::B5 q.den).length:Int)=some (B5 q.den):=by
   rw[EO (by omega) (by omega) (by omega),CA,CB<|Az _,show(((CU q.num).length:Int)+1).toNat=(CU q.num).length+1 by omega,<-F4];simp
  refine Yd.bd es (Yd.Ak (lz h1) λp hp=>Yd.bd (Ad ⟨by omega,by omega⟩)<|Yd.bd et<|Yd.Ak (agx h2) λr hr=>Yd.mk ⟨⟨hp.1,hr.1⟩,hp.2,hr.2⟩)
def Er.len{p:Bool×A3 Int}{z:Int}(h:Er p z){n:Nat}(hz:(z.natAbs:Int)<B3 n):p.2.length<=n:=h.1.len (by rw[h.2.1];exact hz)
def Er.lt(h:Er p z):(z.natAbs:Int)<B3 p.2.length:=by rw[<-h.2.1];exact(Ee h.1.1).2
def Po{b:Bool}{w:A3 Int}(hw:CJ w)(hl:w.length<=4000000)(hz:(bif b then -AF w else AF w)=z):Yd (λp=>Er p z/\p.2.length<=w.length) (KT b w):=by
 rw[<-hz];exact uQ hw (by omega)
def YH(h:Er p z):(bif p.1 then -AF p.2 else AF p.2)=z:=by
 rw[h.2.1,h.2.2];cases hc:decide (z<0) with
 |true=>have:=AZ hc;show -(z.natAbs:Int)=z;omega
 |false=>have:=Ay hc;show(z.natAbs:Int)=z;omega
def vK(h:Er p z)(hl:p.2.length<=4000000):Yd (λq=>Er q (-z)/\q.2.length<=p.2.length) (XI p):=by
 unfold XI;refine Yd.Ak (Po (z:= -z) h.1.1 hl ?_) λq hq=>Yd.mk hq
 have:=YH h;cases hp:p.1
 ·rw[hp] at this;show -AF p.2= -z;have:AF p.2=z:=this;omega
 ·rw[hp] at this;show AF p.2= -z;have: -AF p.2=z:=this;omega
def Xp{q:Bool×A3 Int}{x y:Int}(hp:Er p x)(hq:Er q y)(hl:p.2.length<=1000000)(hm:q.2.length<=1000000):Yd (λr=>Er r (x*y)/\r.2.length<=p.2.length+q.2.length) (Qt p q):=by
 unfold Qt;refine Yd.Ak (kL hp.1.1 hq.1.1 (by omega) (by omega)) λw ⟨w1,w2,w3⟩=>Yd.Ak (Po (z:=x*y) w1.1 (by omega) ?_) λr hr=>Yd.mk ⟨hr.1,by omega⟩
 rw[w2,<-YH hp,<-YH hq]
 generalize AF p.2=a
 generalize AF q.2=b
 cases p.1<;>cases q.1<;>simp[Int.neg_mul,Int.mul_neg]
def aiP{q:Bool×A3 Int}{x y:Int}(hp:Er p x)(hq:Er q y)(hl:p.2.length<=1000000)(hm:q.2.length<=1000000):Yd (λr=>Er r (x+y)/\r.2.length<=p.2.length+q.2.length+1) (ba p q):=by
 unfold ba;have sp:=YH hp;have sq:=YH hq;have a0:=(Ee hp.1.1).1;have b0:=(Ee hq.1.1).1;have aa1:∀{a b:A3 Int},FR a->FR b->AF a<=AF b->a.length<=b.length:=λha hb h=>by
  rcases Gh (List.length _) (List.length _) with h'|h'
  ·have:=c6 hb.1 ha h';omega
  ·exact h'
 refine Yd.cond (λhc=>?_)<|λhc=>?_
 ·have hc:p.1=q.1:=by simpa using hc
  refine Yd.Ak (adk hp.1.1 hq.1.1 (by omega) (by omega)) λw ⟨w1,w2,w3⟩=>Yd.Ak (Po (z:=x+y) w1 (by omega) ?_) λr hr=>Yd.mk ⟨hr.1,by omega⟩
  rw[w2,<-sp,<-sq,<-hc];cases p.1
  ·rfl
  ·show -(AF p.2+AF q.2)= -AF p.2+ -AF q.2;omega
 ·have hc:p.1= !q.1:=by
   cases h1:p.1<;>cases h2:q.1<;>rw[h1,h2] at hc<;>first|rfl|cases hc
  refine Yd.Ak (rM hp.1 hq.1 (by omega) (by omega)) λc hcmp=>Yd.cond (λhd=>?_)<|λhd=>?_
  ·have hd:=AZ hd;have KN:AF q.2<=AF p.2:=by rcases hcmp with⟨h,_⟩|⟨_,h⟩|⟨_,h⟩<;>omega
   refine Yd.Ak (sk hp.1.1 hq.1.1 (aa1 hq.1 hp.1 KN) (by omega) KN) λw ⟨w1,w2,w3⟩=>Yd.Ak (Po (z:=x+y) w1.1 (by omega) ?_) λr hr=>Yd.mk ⟨hr.1,by omega⟩
   rw[w2,<-sp,<-sq,hc];cases q.1
   ·show -(AF p.2-AF q.2)= -AF p.2+AF q.2;omega
   ·show AF p.2-AF q.2=AF p.2+ -AF q.2;omega
  ·have hd:=Ay hd;have KN:AF p.2<=AF q.2:=by rcases hcmp with⟨_,h⟩|⟨h,_⟩|⟨h,_⟩<;>omega
   refine Yd.Ak (sk hq.1.1 hp.1.1 (aa1 hp.1 hq.1 KN) (by omega) KN) λw ⟨w1,w2,w3⟩=>Yd.Ak (Po (z:=x+y) w1.1 (by omega) ?_) λr hr=>Yd.mk ⟨hr.1,by omega⟩
   rw[w2,<-sp,<-sq,hc];cases q.1
   ·show AF q.2-AF p.2= -AF p.2+AF q.2;omega
   ·show -(AF q.2-AF p.2)=AF p.2+ -AF q.2;omega
def wm{w:A3 Int}(h:FR w):(decide ((w.length:Int)=1)=true/\w.getD 0 0=1)↔AF w=1:=by
 constructor
 ·rintro⟨h1,h2⟩;have h1:=AZ h1;obtain⟨d,rfl⟩:∃d,w=[d]:=fk.1 (by omega);have h2:d=1:=by simpa using h2
  subst h2;simp[AF]
 ·intro hv;have hl:w.length<=1:=h.len (by rw[hv,JK,T8];unfold BT;omega);have hl0:w≠[]:=by intro e;subst e;simp[AF] at hv
  have:0<w.length:=Vb.2 hl0;obtain⟨d,rfl⟩:∃d,w=[d]:=fk.1 (by omega);have:d=1:=by simpa[AF] using hv
  subst this;exact⟨rfl,rfl⟩
def ajK{x g:Int}(hg:0<g)(hd:g∣x):(bif decide (x<0) then -((x.natAbs:Int)/g) else(x.natAbs:Int)/g)=x/g:=by
 cases hc:decide (x<0) with
 |true=>
  have:=AZ hc;have e:(x.natAbs:Int)= -x:=by omega
  rw[e,Int.neg_ediv_of_dvd hd];simp
 |false=>
  have:=Ay hc;have e:(x.natAbs:Int)=x:=by omega
  rw[e];rfl
def bV{q:Bool×A3 Int}{x y:Int}(hp:Er p x)(hq:Er q y)(h0:y≠0)(hl:p.2.length<=80000)(hm:q.2.length<=80000):Pe p q=some (BG<|(x:Rat)/(y:Rat)):=by
 have key:Yd (λr=>r=BG ((x:Rat)/(y:Rat))) (Pe p q):=by
  unfold Pe;have en:((x:Rat)/(y:Rat)).num=(y.sign*x)/(Int.gcd y x:Int):=by rw[<-Ny,YZ]
  have ed:(((x:Rat)/(y:Rat)).den:Int)=(y.natAbs:Int)/(Int.gcd y x:Int):=by
   rw[<-Ny,YY,if_neg h0];rfl
  have hg0:0<Int.gcd y x:=fz _ h0;refine Yd.jn (λt:(Bool×A3 Int)×(Bool×A3 Int)=>Er t.1 (y.sign*x)/\Er t.2 (y.natAbs:Int)/\t.1.2.length<=80000/\t.2.2.length<=80000) ?_<|λk hk=>Yd.cond (λhd=>?_)<|λhd=>?_
  ·rintro⟨a,b⟩ ⟨ha,hb,la,lb⟩;dsimp only at ha hb la lb⊢;have hX:(y.sign*x).natAbs=x.natAbs:=by
    rw[Kc];rcases Kh y 0 with h|h|h
    ·rw[JR h];simp
    ·exact absurd h h0
    ·rw[J0 h];simp
   have hg:Int.gcd (y.sign*x) (y.natAbs:Int)=Int.gcd y x:=by
    rw[Int.gcd_comm];unfold Int.gcd;rw[hX,Fc]
   refine Yd.Ak (uS ha.1 hb.1 (by omega) (by omega)) λg ⟨g1,g2,g3⟩=>?_
   have hgv:AF g=(Int.gcd y x:Int):=by
    rw[g2,ha.2.1,hb.2.1,<-hg];unfold Int.gcd;simp
   have gne:g≠[]:=by
    intro e;subst e;have:(0:Int)=(Int.gcd y x:Int):=hgv;omega
   refine Yd.Ak (kM ha.1 g1 gne (by omega) (by omega)) ?_;rintro⟨q1,r1⟩ ⟨⟨a1,_⟩,a2,_⟩;refine Yd.Ak (kM hb.1 g1 gne (by omega) (by omega)) ?_;rintro⟨q2,r2⟩ ⟨⟨b1,_⟩,b2,_⟩;dsimp only at a1 a2 b1 b2⊢;rw[hgv,ha.2.1] at a2;rw[hgv,hb.2.1,Fc] at b2;have asv:(0:Int)<(Int.gcd y x:Int):=by omega
   have dvX:(Int.gcd y x:Int)∣y.sign*x:=Int.dvd_trans (Int.gcd_dvd_right _ _)<|Int.dvd_mul_left _ _
   have atY:q1.length<=80000:=CX (a1.len (n:=a.2.length) (by
    rw[a2];have:=Rh (b:=(Int.gcd y x:Int)) (a:=((y.sign*x).natAbs:Int)) (by omega);have:=ha.lt;omega)) la
   have atN:q2.length<=80000:=CX (b1.len (n:=b.2.length) (by
    rw[b2];have:=Rh (b:=(Int.gcd y x:Int)) (a:=(y.natAbs:Int)) (by omega);have:=hb.lt;rw[Fc] at this;omega)) lb
   have v1:(bif a.1 then -AF q1 else AF q1)=((x:Rat)/(y:Rat)).num:=by
    rw[en,a2,ha.2.2];exact ajK asv dvX
   refine Yd.Ak (Po a1.1 (by omega) v1) λs ⟨s1,s2⟩=>Yd.bd (mY s1 (by omega)) ?_
   have v2:AF q2=(((x:Rat)/(y:Rat)).den:Int):=by rw[ed,b2]
   have SR:=wm b1;have hnl:(CU ((x:Rat)/(y:Rat)).num).length<=800000:=by
    have h1:=Xn ((x:Rat)/(y:Rat)).num;have h2:=s1.lt;rw[YJ] at h2;by_cases Lg:s.2.length=0
    ·rw[Lg] at h2;have:((x:Rat)/(y:Rat)).num.natAbs<10:=by
      have:(10:Nat)^(9*0)=1:=rfl;omega
     have:=Nr 1 _ (by omega) (show _<10^1 by omega);omega
    ·have:=Nr (9*s.2.length) ((x:Rat)/(y:Rat)).num.natAbs (by omega) (by omega);omega
   have hdl:(B5 ((x:Rat)/(y:Rat)).den).length<=800000:=by
    have h2:=(Ee b1.1).2;rw[v2,YJ] at h2;by_cases Lg:q2.length=0
    ·rw[Lg] at h2;have hp:=((x:Rat)/(y:Rat)).den_pos;have:(10:Nat)^(9*0)=1:=rfl;omega
    ·have:=Nr (9*q2.length) ((x:Rat)/(y:Rat)).den (by omega) (by omega);omega
   have at1:((x:Rat)/(y:Rat)).den=1->CU ((x:Rat)/(y:Rat)).num=BG ((x:Rat)/(y:Rat)):=λh=>by
    unfold BG;rw[Ab h];simp
   have two:((x:Rat)/(y:Rat)).den≠1->Yd (λr=>r=BG ((x:Rat)/(y:Rat))) (bd (Hl (CU ((x:Rat)/(y:Rat)).num) ([47]:A9)) λC5=>bd (KT false q2) λC7=>bd (Qx C7) λCs=>bd (Hl C5 Cs) λCt=>some Ct):=λh=>by
    refine Yd.bd (Q0 (by simp;omega)) (Yd.Ak (Po (b:=false) b1.1 (by omega) v2) λt ⟨t1,t2⟩=>Yd.bd (mY t1 (by omega)) ?_);have e:CU (((x:Rat)/(y:Rat)).den:Int)=B5 ((x:Rat)/(y:Rat)).den:=by
     unfold CU;rw[BH (by omega)];simp
    rw[e];refine Yd.bd (Q0 (by simp;omega))<|Yd.mk ?_
    unfold BG;rw[BH h];simp
   by_cases hlen:(q2.length:Int)=1
   ·have hd:=Ab hlen;have g1':gd (decide<|(q2.length:Int)=1) true=true:=by rw[hd];rfl
    rw[DC g1'];refine Yd.bd (BN (n:=0) (by omega))<|Yd.cond (λhc=>?_)<|λhc=>?_
    ·rw[BU] at hc;have h1:=SR.1 ⟨hc.1,AZ hc.2⟩;exact Yd.mk (at1 (by omega))
    ·refine two λe=>?_
     have h1:=SR.2 (by rw[v2,e];rfl);rw[h1.1,Ab h1.2] at hc;cases hc
   ·have hd:=BH hlen;have g1':gd (decide<|(q2.length:Int)=1) true=false:=by rw[hd];rfl
    rw[Ef g1'];refine Yd.cond (λhc=>by rw[hd,Q7] at hc;cases hc)<|λhc=>two λe=>?_
    have h1:=SR.2 (by rw[v2,e];rfl);exact hlen<|AZ h1.1
  ·have hn:y<0:=by
    rw[hq.2.2] at hd;exact AZ hd
   refine Yd.Ak (vK hp (by omega)) λa ⟨ha,la⟩=>Yd.Ak (vK hq (by omega)) λb ⟨hb,lb⟩=>hk _ ⟨?_,?_,by dsimp only;omega,by dsimp only;omega⟩
   ·rw[JR hn];simpa using ha
   ·rw[show(y.natAbs:Int)= -y from by omega];exact hb
  ·have hn: ¬y<0:=by
    rw[hq.2.2] at hd;exact Ay hd
   refine hk _ ⟨?_,?_,hl,hm⟩
   ·rw[J0 (by omega),G2];exact hp
   ·rw[show(y.natAbs:Int)=y from by omega];exact hq
 obtain⟨r,e,rfl⟩:=key;exact e
def bq(q:Rat)(n:Nat):Prop:=q.num.natAbs<10^n/\q.den<10^n
def ZD{x y:Int}(h0:y≠0):((x:Rat)/(y:Rat)).num.natAbs<=x.natAbs/\((x:Rat)/(y:Rat)).den<=y.natAbs:=by
 have en:((x:Rat)/(y:Rat)).num=(y.sign*x)/(Int.gcd y x:Int):=by rw[<-Ny,YZ]
 have ed:((x:Rat)/(y:Rat)).den=y.natAbs/(Int.gcd y x):=by
  rw[<-Ny,YY,if_neg h0]
 have hg0:0<Int.gcd y x:=fz _ h0;refine⟨?_,by rw[ed];exact Nat.div_le_self _ _⟩;rw[en];have hX:(y.sign*x).natAbs=x.natAbs:=by
  rw[Kc];rcases Kh y 0 with h|h|h
  ·rw[JR h];simp
  ·exact absurd h h0
  ·rw[J0 h];simp
 have dvX:(Int.gcd y x:Int)∣y.sign*x:=Int.dvd_trans (Int.gcd_dvd_right _ _)<|Int.dvd_mul_left _ _
 rw[Int.natAbs_ediv_of_dvd dvX,hX,Fc];exact Nat.div_le_self _ _
def anl(h:bq x n):bq (-x) n:=by
 refine⟨?_,?_⟩
 ·rw[YU,VM];exact h.1
 ·rw[YT];exact h.2
def pN(h:bq q n)(hn:0<n):(B5 q.num.natAbs).length<=n/\(B5 q.den).length<=n:=⟨Nr n _ hn h.1,Nr n _ hn h.2⟩
def Er.bl(h:Er p z)(hz:z.natAbs<10^n):p.2.length<=n:=by
 refine h.len ?_;rw[YJ];have:=Kl (show 0<10 by omega) (show n<=9*n by omega);omega
def RG(h:bq q n)(hn:0<n)(hm:n<=19000):Yd (λp=>(Er p.1 q.num/\Er p.2 (q.den:Int))/\p.1.2.length<=n/\p.2.2.length<=n) (Mr<|BG q):=by
 have hl:=pN h hn;refine(agr (by omega) (by omega)).imp λp ⟨⟨p1,p2⟩,_,_⟩=>⟨⟨p1,p2⟩,p1.bl h.1,p2.bl (by rw[Fc];exact h.2)⟩
def uH(z:Int)(t:A9):∃c r,CU z++t=c::r/\((c.toNat:Int)=45↔z<0)/\(c=45->r=B5 z.natAbs++t)/\(z<0->r=B5 z.natAbs++t):=by
 unfold CU;cases hc:decide (z<0) with
 |true=>
  have:=AZ hc;exact⟨45,B5 z.natAbs++t,rfl,⟨λ_=>this,λ_=>rfl⟩,λ_=>rfl,λ_=>rfl⟩
 |false=>
  have hz:=Ay hc;have hd:=(N2 z.natAbs).1;obtain⟨d,l,e⟩:∃d l,B5 z.natAbs=d::l:=by
   cases h:B5 z.natAbs with
   |nil=>exact absurd h<|ye _
   |cons d l=>exact⟨d,l,rfl⟩
  have hb:=dK (Cy.1 hd d (by rw[e];simp));refine⟨d,l++t,by show B5 z.natAbs++t=_;rw[e];rfl,⟨λh=>by omega,λh=>absurd h hz⟩,λh=>?_,λh=>absurd h hz⟩;subst h;exact absurd hb.1 (by decide)
def vj(n:Nat):∀x∈B5 n,x≠47:=λx hx e=>by
 subst e;have:=Cy.1 (N2 n).1 _ hx;simp[DW] at this
def Fq(q:Rat):A9:=bif decide (q.den=1) then [] else 47::B5 q.den
def cz(h:bq q n)(hn:0<n)(hm:n<=19000):Yd (λr=>r.2.2=false\/(r=(q.num,(q.den:Int),true)/\q.num.natAbs<1000000000/\q.den<1000000000)) (Sp<|BG q):=by
 have hl:=pN h hn;obtain⟨c,r,e,HO,hr,KK⟩:=uH q.num<|Fq q
 have et:BG q=c::r:=e;have hlr:r.length<=38002:=by
  have h1:=congrArg List.length e;have h2:=Xn q.num;have h3:(Fq q).length<=n+1:=by
   unfold Fq;cases decide (q.den=1)
   ·simp;omega
   ·simp
  simp only[ES,DF] at h1;omega
 unfold Sp;rw[et];refine Yd.cond (λ_=>Yd.mk<| .inl rfl)<|λ_=>?_
 have g1:gd (decide<|(0:Int)<((c::r).length:Int)) true=true:=by rw[Ab (by simp only[DF];omega)];rfl
 rw[DC g1];refine Yd.bd (x:=c) rfl ?_;have hb:((decide<|(0:Int)<((c::r).length:Int))&&(decide<|(c.toNat:Int)=(45:Int)))=decide (q.num<0):=by
  rw[Ab (show(0:Int)<((c::r).length:Int) by simp only[DF];omega),JO];exact GW.2 HO
 rw[hb];refine Yd.jn (λs=>s=B5 q.num.natAbs++Fq q) ?_<|λk hk=>Yd.cond (λhc=>?_)<|λhc=>?_
 ·rintro s rfl;have hsl:L5 (B5 q.num.natAbs++Fq q)=some ((B5 q.num.natAbs).length:Int):=by
   unfold Fq;cases hd:decide (q.den=1)
   ·exact dX (vj _) (by simp;omega)
   ·rw[BM,JQ];exact mT (vj _) (by omega)
  have hlen:(B5 q.num.natAbs++Fq q).length=(B5 q.num.natAbs).length+(Fq q).length:=by simp
  have JD:(Fq q).length<=n+1:=by
   unfold Fq;cases decide (q.den=1)
   ·simp;omega
   ·simp
  refine Yd.bd hsl ?_;have rest:(B5 q.num.natAbs).length<=9->(Fq q).length<=10->Yd (λr=>r.2.2=false\/(r=(q.num,(q.den:Int),true)/\q.num.natAbs<1000000000/\q.den<1000000000))
   (bd (Br (B5 q.num.natAbs++Fq q) 0 ((B5 q.num.natAbs).length:Int)) λBS=>
    bd (Mq BS) λBK=>
    jn (λ(Cv:Int)=>
     jn (λ(DJ:Int)=>
      some (DJ,Cv,true)
     ) λKD=>
     cond (decide<|q.num<0) (
      bd (AE<|(0:Int)-BK) λDw=>
      KD Dw
     ) (
      KD BK
     )
    ) λMK=>
    cond (decide<|((B5 q.num.natAbs).length:Int)<((B5 q.num.natAbs++Fq q).length:Int)) (
     bd (AE<|((B5 q.num.natAbs).length:Int)+(1:Int)) λC5=>
     bd (Br (B5 q.num.natAbs++Fq q) C5 ((B5 q.num.natAbs++Fq q).length:Int)) λC7=>
     bd (Mq C7) λCs=>
     MK Cs
    ) (
     MK (1:Int)
    )):=by
   intro h9 BJ;have hN:q.num.natAbs<1000000000:=yf h9;have es:Br (B5 q.num.natAbs++Fq q) 0 ((B5 q.num.natAbs).length:Int)=some (B5 q.num.natAbs):=by
    rw[EO (by omega) (by omega) (by omega)];simp
   have hv:=cw (N2 q.num.natAbs).1 (by omega);rw[(N2 _).2] at hv;refine Yd.bd es<|Yd.bd hv ?_
   refine Yd.jn (λd=>d=(q.den:Int)/\q.den<1000000000) ?_<|λk hk=>Yd.cond (λhc=>?_)<|λhc=>?_
   ·rintro d ⟨rfl,hD⟩;refine Yd.jn (λz=>z=q.num) (λz hz=>by subst hz;exact Yd.mk<| .inr ⟨rfl,hN,hD⟩)<|λk hk=>Yd.cond (λhc=>?_)<|λhc=>?_
    ·have hc:=AZ hc;exact Yd.bd (Ad ⟨by omega,by omega⟩) (hk _ (by omega))
    ·have hc:=Ay hc;exact hk _ (by omega)
   ·have hc:=AZ hc;have hd:decide (q.den=1)=false:=by
     cases hd:decide (q.den=1) with
     |false=>rfl
     |true=>
      unfold Fq at hlen hc;rw[hd] at hlen hc;simp at hc
    have etl:Fq q=47::B5 q.den:=by unfold Fq;rw[hd];rfl
    rw[etl,DF] at BJ;have eu:Br (B5 q.num.natAbs++Fq q) (((B5 q.num.natAbs).length:Int)+1) ((B5 q.num.natAbs++Fq q).length:Int)=some (B5 q.den):=by
     rw[EO (by omega) (by omega) (by omega),CA,CB<|Az _,show(((B5 q.num.natAbs).length:Int)+1).toNat=(B5 q.num.natAbs).length+1 by omega,<-F4,etl];simp
    have hw:=cw (N2 q.den).1 (by omega);rw[(N2 _).2] at hw;exact Yd.bd (Ad ⟨by omega,by omega⟩) (Yd.bd eu (Yd.bd hw (hk _ ⟨rfl,yf (k:=9) (by omega)⟩)))
   ·have hc:=Ay hc;have hd:q.den=1:=by
     cases hd:decide (q.den=1) with
     |true=>exact AZ hd
     |false=>
      unfold Fq at hlen hc;rw[hd] at hlen hc;simp at hc;omega
    exact hk _ ⟨by rw[hd];rfl,by omega⟩
  by_cases hx:(9:Int)<((B5 q.num.natAbs).length:Int)
  ·have hd:=Ab hx;have g2:gd (decide<|(9:Int)<((B5 q.num.natAbs).length:Int)) false=false:=by rw[hd];rfl
   rw[Ef g2];exact Yd.cond (λ_=>Yd.mk<| .inl rfl) (λh=>by rw[hd,VJ] at h;cases h)
  ·have hd:=BH hx;have g2:gd (decide<|(9:Int)<((B5 q.num.natAbs).length:Int)) false=true:=by rw[hd];rfl
   rw[DC g2];refine Yd.bd (Ad ⟨by omega,by omega⟩)<|Yd.cond (λ_=>Yd.mk<| .inl rfl)<|λh=>?_
   rw[hd,Rf] at h;have h:=Ay h;exact rest (by omega) (by omega)
 ·have hc:=AZ hc;have es:Br (c::r) (1:Int) ((c::r).length:Int)=some r:=by
   rw[EO (by omega) (by simp only[DF];omega) (by omega),CA,CB<|Az _];rfl
  exact Yd.bd es<|hk _<|KK hc
 ·have hc:=Ay hc;refine hk _ ?_;rw[<-e];unfold CU;rw[BH hc];rfl
def p8(z:Int):mx_ z (0-z)=(z.natAbs:Int):=by
 unfold mx_;cases hc:decide (z<0-z) with
 |true=>have:=AZ hc;show 0-z=_;omega
 |false=>have:=Ay hc;show z=_;omega
def yc{x g:Int}(hg:0<g)(hd:g∣x)(hx: -9000000000000000000<=x/\x<=9000000000000000000):GF x g=some (x/g):=by
 unfold GF;rw[BH (by omega),Int.tdiv_eq_ediv_of_dvd hd];obtain⟨k,rfl⟩:=hd;rw[Int.mul_ediv_cancel_left _ (by omega)];refine Ad ⟨?_,?_⟩
 ·rcases(show 0<=k\/k<0 by omega) with h|h
  ·omega
  ·have:g*k<=1*k:=Int.mul_le_mul_of_nonpos_right (by omega) (by omega);omega
 ·rcases(show 0<=k\/k<0 by omega) with h|h
  ·have:1*k<=g*k:=M8 (by omega) h;omega
  ·omega
def ab2(h:n<=9000000000000000000):MM (n:Int) 1=some (B5 n):=by
 have:=kc (k:=1) h (by omega);rw[nr<|Y8 _] at this;exact this
def zD{a b:Int}(ha: -4000000000000000000<=a/\a<=4000000000000000000)(hb:0<b/\b<=4000000000000000000):Uq a b=some (BG<|(a:Rat)/(b:Rat)):=by
 have key:Yd (λr=>r=BG ((a:Rat)/(b:Rat))) (Uq a b):=by
  unfold Uq;have h0:b≠0:=by omega
  have en:((a:Rat)/(b:Rat)).num=a/(Int.gcd b a:Int):=by
   rw[<-Ny,YZ,J0 hb.1,G2]
  have ed:(((a:Rat)/(b:Rat)).den:Int)=b/(Int.gcd b a:Int):=by
   rw[<-Ny,YY,if_neg h0];have:(b.natAbs:Int)=b:=by omega
   conv=>rhs;rw[<-this]
   rfl
  have hg0:0<Int.gcd b a:=fz _ h0;refine Yd.cond (λhc=>?_)<|λ_=>?_
  ·exfalso;rw[Kf,Kf,Kf,Ev,Ev,Ev,Ev] at hc;omega
  refine Yd.jn (λs:Int×Int=>s=(a,b)) ?_ (λk hk=>Yd.cond (λhc=>by have:=AZ hc;omega)<|λ_=>hk _ rfl);rintro s rfl;dsimp only;have arf:Uj (mx_ a<|0-a) b=some (Int.gcd b a:Int):=by
   rw[p8,akG ⟨by omega,by omega⟩ ⟨by omega,hb.2⟩]
   congr 2
   unfold Int.gcd;rw[Fc,Rb]
  have d1:(Int.gcd b a:Int)∣a:=Int.gcd_dvd_right _ _;have d2:(Int.gcd b a:Int)∣b:=Int.gcd_dvd_left _ _;refine Yd.bd (Ad ⟨by omega,by omega⟩) (Yd.bd arf (Yd.bd (yc (by omega) d1 (by omega)) (Yd.bd (yc (by omega) d2 (by omega)) ?_)));rw[<-en,<-ed];have hle:=ZD (x:=a) (y:=b) h0
  generalize hz:((a:Rat)/(b:Rat))=q at*
  have hN:q.num.natAbs<=4000000000000000000:=by omega
  have hD:q.den<=4000000000000000000:=by omega
  have hD0:=q.den_pos;have j5:MM (mx_ q.num<|0-q.num) 1=some (B5 q.num.natAbs):=by
   rw[p8,ab2 (by omega)]
  have ap6:MM (q.den:Int) 1=some (B5 q.den):=by
   exact ab2 (by omega)
  have hl1:=Nr 19 q.num.natAbs (by omega) (by omega);have hl2:=Nr 19 q.den (by omega) (by omega);refine Yd.jn (λs:A9=>s=bif decide (q.num<0) then [45] else []) ?_ (λk hk=>Yd.cond (λhc=>hk _ (by rw[hc];rfl)) (λhc=>hk _ (by rw[hc];rfl)));intro s hs;have hsl:s.length<=1:=by rw[hs];cases decide (q.num<0)<;>simp
  have est:s++B5 q.num.natAbs=CU q.num:=by
   rw[hs];unfold CU;cases decide (q.num<0)<;>rfl
  refine Yd.bd (Ad ⟨by omega,by omega⟩) (Yd.bd j5 (Yd.bd (Q0 (by omega)) ?_));rw[est];have JD:=Xn q.num;refine Yd.jn (λs=>s=BG q) (λs hs=>by subst hs;exact Yd.mk rfl)<|λk hk=>Yd.cond (λhc=>?_)<|λhc=>?_
  ·have hc:=AZ hc;refine Yd.bd (Q0 (by simp;omega)) (Yd.bd ap6 (Yd.bd (Q0 (by simp;omega))<|hk _ ?_));unfold BG;rw[BH (show¬q.den=1 by omega)];simp
  ·have hc:=Ay hc;refine hk _ ?_;unfold BG;rw[Ab (show q.den=1 by omega)];simp
 obtain⟨r,e,rfl⟩:=key;exact e
def xp(hx:bq x m)(hy:bq y n)(hm:0<m/\m<=19000)(hn:0<n/\n<=19000):Hy (BG x) (BG y)=some (BG<|x*y):=by
 have key:Yd (λr=>r=BG (x*y)) (Hy (BG x)<|BG y):=by
  unfold Hy;refine Yd.Ak (cz hx hm.1 hm.2) λr hr=>Yd.Ak (cz hy hn.1 hn.2) λs hs=>Yd.cond (λhc=>?_)<|λ_=>?_
  ·obtain⟨c1,c2⟩:=DQ hc;obtain⟨rfl,a1,a2⟩:r=(x.num,(x.den:Int),true)/\_/\_:=by rcases hr with h|h;rw[h] at c1;cases c1;exact h
   obtain⟨rfl,b1,b2⟩:s=(y.num,(y.den:Int),true)/\_/\_:=by rcases hs with h|h;rw[h] at c2;cases c2;exact h
   dsimp only;have p1:(x.num*y.num).natAbs<=999999999*999999999:=by rw[Kc];exact Gv (by omega) (by omega)
   have p2:x.den*y.den<=999999999*999999999:=Gv (by omega) (by omega);have p3:0<x.den*y.den:=Nat.mul_pos x.den_pos y.den_pos;have e:((x.den:Int)*(y.den:Int))=((x.den*y.den:Nat):Int):=by rw[M1]
   have hOf:=zD (a:=x.num*y.num) (b:=(x.den:Int)*(y.den:Int)) (by omega) (by rw[e];omega);rw[eK] at hOf;exact Yd.bd (Ad ⟨by omega,by omega⟩) (Yd.bd (Ad ⟨by rw[e];omega,by rw[e];omega⟩)<|Yd.bd hOf<|Yd.mk rfl)
  ·refine Yd.Ak (RG hx hm.1 hm.2) ?_;rintro⟨p1,p2⟩ ⟨⟨a1,a2⟩,a3,a4⟩;refine Yd.Ak (RG hy hn.1 hn.2) ?_;rintro⟨q1,q2⟩ ⟨⟨b1,b2⟩,b3,b4⟩;dsimp only at*;refine Yd.Ak (Xp a1 b1 (by omega) (by omega)) λu ⟨u1,u2⟩=>Yd.Ak (Xp a2 b2 (by omega) (by omega)) λv ⟨v1,v2⟩=>?_
   have hf:=bV u1 v1 (VP (NK x)<|NK y) (by omega) (by omega);rw[eK] at hf;exact Yd.bd hf<|Yd.mk rfl
 obtain⟨r,e,rfl⟩:=key;exact e
def xq(hx:bq x m)(hy:bq y n)(hm:0<m/\m<=19000)(hn:0<n/\n<=19000):Mv (BG x) (BG y)=some (BG<|x+y):=by
 have key:Yd (λr=>r=BG (x+y)) (Mv (BG x)<|BG y):=by
  unfold Mv;refine Yd.Ak (cz hx hm.1 hm.2) λr hr=>Yd.Ak (cz hy hn.1 hn.2) λs hs=>Yd.cond (λhc=>?_)<|λ_=>?_
  ·obtain⟨c1,c2⟩:=DQ hc;obtain⟨rfl,a1,a2⟩:r=(x.num,(x.den:Int),true)/\_/\_:=by rcases hr with h|h;rw[h] at c1;cases c1;exact h
   obtain⟨rfl,b1,b2⟩:s=(y.num,(y.den:Int),true)/\_/\_:=by rcases hs with h|h;rw[h] at c2;cases c2;exact h
   dsimp only;have p1:(x.num*y.den).natAbs<=999999999*999999999:=by rw[Kc,Fc];exact Gv (by omega) (by omega)
   have p1':(y.num*x.den).natAbs<=999999999*999999999:=by rw[Kc,Fc];exact Gv (by omega) (by omega)
   have p2:x.den*y.den<=999999999*999999999:=Gv (by omega) (by omega);have p3:0<x.den*y.den:=Nat.mul_pos x.den_pos y.den_pos;have e:((x.den:Int)*(y.den:Int))=((x.den*y.den:Nat):Int):=by rw[M1]
   have hOf:=zD (a:=x.num*y.den+y.num*x.den) (b:=(x.den:Int)*(y.den:Int)) (by omega) (by rw[e];omega);rw[eM] at hOf;exact Yd.bd (Ad ⟨by omega,by omega⟩) (Yd.bd (Ad ⟨by omega,by omega⟩) (Yd.bd (Ad ⟨by omega,by omega⟩) (Yd.bd (Ad ⟨by rw[e];omega,by rw[e];omega⟩)<|Yd.bd hOf<|Yd.mk rfl)))
  ·refine Yd.Ak (RG hx hm.1 hm.2) ?_;rintro⟨p1,p2⟩ ⟨⟨a1,a2⟩,a3,a4⟩;refine Yd.Ak (RG hy hn.1 hn.2) ?_;rintro⟨q1,q2⟩ ⟨⟨b1,b2⟩,b3,b4⟩;dsimp only at*;refine Yd.Ak (Xp a1 b2 (by omega) (by omega)) λu ⟨u1,u2⟩=>Yd.Ak (Xp b1 a2 (by omega) (by omega)) λv ⟨v1,v2⟩=>Yd.Ak (aiP u1 v1 (by omega) (by omega)) λw ⟨w1,w2⟩=>Yd.Ak (Xp a2 b2 (by omega) (by omega)) λt ⟨t1,t2⟩=>?_
   have hf:=bV w1 t1 (VP (NK x)<|NK y) (by omega) (by omega);rw[eM] at hf;exact Yd.bd hf<|Yd.mk rfl
 obtain⟨r,e,rfl⟩:=key;exact e
def afE:BG 0=[48]:=A4
def Xm(q:Rat)(hl:(BG q).length<1000000):(BG q==([48]:A9))=decide (q=0):=by
 by_cases h:q=0
 ·subst h;rw[afE];rfl
 ·rw[BH h];rw[QB];intro e;apply h;have hn:=l8 q.num;unfold BG at e;cases hd:decide (q.den=1) with
  |true=>
   rw[hd] at e;have e:CU q.num=[48]:=by simpa using e
   unfold CU at e;cases hc:decide (q.num<0) with
   |true=>rw[hc] at e;have e:45::B5 q.num.natAbs=[48]:=e;cases e
   |false=>
    rw[hc] at e;have e:B5 q.num.natAbs=[48]:=e;have hv:=(N2 q.num.natAbs).2;rw[e] at hv;have:q.num=0:=by
     have:BA [48]=0:=rfl;omega
    exact M0.1 this
  |false=>
   rw[hd] at e;have e:CU q.num++47::B5 q.den=[48]:=e;have:=congrArg List.length e;simp at this;have h2:=Y8 q.den;omega
def wJ(hl:(BG q).length<1000000):Jr (BG q)=some (bif decide (q=0) then 0 else bif decide (q.num<0) then -1 else 1):=by
 obtain⟨c,r,e,HO,_,_⟩:=uH q.num<|Fq q
 have et:BG q=c::r:=e;unfold Jr;rw[Xm q hl];cases hz:decide (q=0) with
 |true=>rfl
 |false=>
  show Aa _ _ _ _=_;rw[et];have g1:gd (decide<|(0:Int)<((c::r).length:Int)) true=true:=by rw[Ab (by simp only[DF];omega)];rfl
  rw[DC g1];show cond ((decide<|(0:Int)<((c::r).length:Int))&&(decide<|(c.toNat:Int)=(45:Int))) _ _=_;have hb:((decide<|(0:Int)<((c::r).length:Int))&&(decide<|(c.toNat:Int)=(45:Int)))=decide (q.num<0):=by
   rw[Ab (show(0:Int)<((c::r).length:Int) by simp only[DF];omega),JO];exact GW.2 HO
  rw[hb];cases decide (q.num<0)<;>rfl
def v7(h:bq q n)(hn:0<n):(BG q).length<=2*n+2:=by
 have hl:=pN h hn;have h2:=Xn q.num;unfold BG;cases decide (q.den=1)
 ·simp;omega
 ·simp;omega
def akJ(h:bq q n)(hn:0<n/\n<=19000):Su (BG q)=some (BG<| -q):=by
 have hlen:=v7 h hn.1;have hs:=wJ (q:=q) (by omega);unfold Su;rw[hs];have ed:(-q).den=q.den:=YT q;have en:(-q).num= -q.num:=YU q;cases hz:decide (q=0) with
 |true=>
  have hz:=AZ hz;subst hz
  rfl
 |false=>
  have hz:=Ay hz;have hnz:q.num≠0:=λe=>hz<|M0.1 e
  cases hc:decide (q.num<0) with
  |true=>
   have Dl:=AZ hc;have et:BG q=45::(B5 q.num.natAbs++Fq q):=by
    show CU q.num++Fq q=_;unfold CU;rw[hc];rfl
   have e2:BG (-q)=B5 q.num.natAbs++Fq q:=by
    show CU (-q).num++(bif decide ((-q).den=1) then [] else 47::B5 (-q).den)=_;rw[en,ed];unfold CU;rw[BH (by omega),VM];rfl
   show bd (Br (BG q) 1 ((BG q).length:Int)) (λx4=>some x4)=_;rw[e2,et,EO (by omega) (by simp only[DF];omega) (by omega),CA,CB<|Az _];rfl
  |false=>
   have Dl:=Ay hc;have et:BG q=B5 q.num.natAbs++Fq q:=by
    show CU q.num++Fq q=_;unfold CU;rw[hc];rfl
   have e2:BG (-q)=45::(B5 q.num.natAbs++Fq q):=by
    show CU (-q).num++(bif decide ((-q).den=1) then [] else 47::B5 (-q).den)=_;rw[en,ed];unfold CU;rw[Ab (show -q.num<0 by omega),VM];rfl
   show bd (Hl ([45]:A9)<|BG q) (λx9=>some x9)=_;rw[Q0 (by simp;omega),e2,et];rfl
def akH(hx:bq x m)(hy:bq y n)(hm:0<m/\m<=19000)(hn:0<n/\n<=19000):Lq (BG x) (BG y)=some (BG<|x-y):=by
 unfold Lq;rw[akJ hy hn];show bd (Mv (BG x)<|BG<| -y) (λx3=>some x3)=_;rw[xq hx (anl hy) hm hn,oI];rfl
def eL(x:Rat):((x.den:Int):Rat)/(x.num:Rat)=x⁻¹ :=by
 rw[Rat.inv_def,Ny]
def anm(h:bq x n)(h0:x≠0):bq x⁻¹ n:=by
 have hn:x.num≠0:=λe=>h0<|M0.1 e
 have hl:=ZD (x:=(x.den:Int)) (y:=x.num) hn;rw[eL,Fc] at hl;exact⟨oJ hl.1 h.2,oJ hl.2 h.1⟩
def xK{e:Bool}(hl:l.length<1099511627776):lp 18446744073709551616 (λ(k2:Int->A6 Bool) (s1:Int)=>
  cond (decide<|s1<(l.length:Int)) (
   bd (A8 l s1) λx4=>
   Aa (gd (decide<|(x4.toNat:Int)<(48:Int)) false) (0) (A8 l s1) λx6=>
   cond (((decide<|(x4.toNat:Int)<(48:Int))||(decide<|(57:Int)<(x6.toNat:Int)))) (
    some false
   ) (
    bd (AE<|s1+(1:Int)) λx9=>
    k2 x9
   )
  ) (
   some e
  )
 ) (0:Int)=some (l.all DW&&e):=by
 have key:Yd (λr=>r=(l.all DW&&e)) (lp 18446744073709551616 (λ(k2:Int->A6 Bool) (s1:Int)=>
  cond (decide<|s1<(l.length:Int)) (
   bd (A8 l s1) λx4=>
   Aa (gd (decide<|(x4.toNat:Int)<(48:Int)) false) (0) (A8 l s1) λx6=>
   cond (((decide<|(x4.toNat:Int)<(48:Int))||(decide<|(57:Int)<(x6.toNat:Int)))) (
    some false
   ) (
    bd (AE<|s1+(1:Int)) λx9=>
    k2 x9
   )
  ) (
   some e
  )
 ) (0:Int)):=by
  refine Yd.lp (λi:Int=>0<=i/\i<=l.length/\(l.take i.toNat).all DW=true) (λi=>l.length-i.toNat) ?_ _ _ ⟨by omega,by omega,by simp⟩ (by omega);rintro next i ⟨g1,g2,g3⟩ hn
  obtain⟨n,rfl⟩:=ER g1;rw[CA] at g3;refine Yd.cond (λhc=>?_)<|λhc=>?_
  ·have hc:=AZ hc;have hlt:n<l.length:=by omega
   have hg:A8 l (n:Int)=some l[n]:=Fe hlt;refine Yd.bd hg ?_;have bad:DW l[n]=false->(l.all DW&&e)=false:=λh=>by
    have:l.all DW=false:=by
     cases ha:l.all DW with
     |false=>rfl
     |true=>rw[Cy.1 ha _<|Kg hlt] at h;cases h
    rw[this];rfl
   by_cases L3:(l[n].toNat:Int)<48
   ·have hd:=Ab L3;have g:gd (decide<|(l[n].toNat:Int)<48) false=false:=by rw[hd];rfl
    rw[Ef g];refine Yd.cond (λ_=>Yd.mk ?_) (λh=>by rw[hd,VJ] at h;cases h);rw[bad];unfold DW;rw[show Nat.ble 48 l[n].toNat=false from by
     cases hb:Nat.ble 48 l[n].toNat with
     |false=>rfl
     |true=>have:=EP hb;omega];rfl
   ·have hd:=BH L3;have g:gd (decide<|(l[n].toNat:Int)<48) false=true:=by rw[hd];rfl
    rw[DC g];refine Yd.bd hg<|Yd.cond (λh=>?_)<|λh=>?_
    ·rw[hd,Rf] at h;have h:=AZ h;refine Yd.mk ?_;rw[bad];unfold DW;rw[show Nat.ble l[n].toNat 57=false from by
      cases hb:Nat.ble l[n].toNat 57 with
      |false=>rfl
      |true=>have:=EP hb;omega,Ya]
    ·rw[hd,Rf] at h;have h:=Ay h;refine Yd.bd (Ad ⟨by omega,by omega⟩) (hn _ ⟨by omega,by omega,?_⟩ (by omega));rw[show(((n:Nat):Int)+1).toNat=n+1 by omega,fO,Fe hlt,fS,g3];simp only[Option.toList_some,N9,List.all_nil,fI,JO];unfold DW;rw[Gx (by omega),Gx (by omega)];rfl
  ·have hc:=Ay hc;have:n=l.length:=by omega
   subst this;rw[CB<|Az _] at g3;refine Yd.mk ?_;rw[g3];rfl
 obtain⟨r,e,rfl⟩:=key;exact e
def GB(l:A9):Bool:=l.all DW&&(!(l==[])&&(l==[48]|| !(l.head?==some 48)))
def rf(hl:l.length<1099511627776):Wm l=some (GB l):=by
 have hd:ay l=some (l.all DW):=by
  unfold ay;rw[xK hl,fI]
 unfold Wm;rw[hd]
 match l,hl with
 |[],_=>rfl
 |[x],_=>
  show some ([x].all DW)=_;unfold GB;by_cases h:x=48
  ·subst h;rfl
  ·have e1:([x]==([]:A9))=false:=rfl;have e2:([x].head?==some (48:UInt8))=false:=by simpa using h
   rw[e1,e2];simp
 |x::y::r,hl=>
  have g:(gd (decide<|((x::y::r).length:Int)=(0:Int)) false&&gd (decide<|(1:Int)<((x::y::r).length:Int)) true)=true:=by
   rw[BH (by simp only[DF];omega),Ab (by simp only[DF];omega)];rfl
  rw[DC g];show cond ((decide<|((x::y::r).length:Int)=(0:Int))||((decide<|(1:Int)<((x::y::r).length:Int))&&(decide<|(x.toNat:Int)=(48:Int)))) _ _=_;rw[BH (show¬((x::y::r).length:Int)=0 by simp only[DF];omega),Ab (show(1:Int)<((x::y::r).length:Int) by simp only[DF];omega),Rf,JO];unfold GB;have e1:((x::y::r)==([]:A9))=false:=rfl;have e3:((x::y::r)==([48]:A9))=false:=by
   rw[QB];intro e;cases e
  have e2:((x::y::r).head?==some (48:UInt8))=decide ((x.toNat:Int)=48):=by
   show(some x==some (48:UInt8))=_;by_cases h:x=48
   ·subst h;rfl
   ·rw[BH (λh'=>h (fR.1 (by show _=48;omega)))];rw[QB];intro e;exact h<|Dg e
  rw[e1,e2,e3];cases decide ((x.toNat:Int)=48)
  ·show some _=some _;simp
  ·show some _=some _;simp
def tW(hl:l.length<1099511627776):Sl l=some (GB l):=by
 have hd:aq l=some (l.all DW&& !(l==[])):=by
  unfold aq;rw[xK hl]
 unfold Sl;rw[hd];show Aa _ _ _ _=_;unfold GB
 match l with
 |[]=>rfl
 |x::r=>
  have e1:((x::r)==([]:A9))=false:=rfl;have e2:((x::r).head?==some (48:UInt8))=decide ((x.toNat:Int)=48):=by
   show(some x==some (48:UInt8))=_;by_cases h:x=48
   ·subst h;rfl
   ·rw[BH (λh'=>h (fR.1 (by show _=48;omega)))];rw[QB];intro e;exact h<|Dg e
  rw[e1,e2];have i0:A8 (x::r) (0:Int)=some x:=rfl;rw[i0];cases(x::r).all DW
  ·rfl
  ·cases((x::r)==([48]:A9))<;>rfl
def nF:∀(n:Nat) (l:A9),l.length=n->GB l=true->l=B5 (BA l)
 |0,l,hl,h=>by
  have:l=[]:=JS hl;subst this;cases h
 |n+1,l,hl,h=>by
  have hne:l≠[]:=by intro e;subst e;simp at hl
  obtain⟨h1,h2⟩:=DQ h;obtain⟨h3,h4⟩:=DQ h2;have hx:=List.dropLast_concat_getLast hne
  generalize hi:l.dropLast=i at hx
  generalize l.getLast hne=d at hx
  subst hx;rw[fS] at h1;obtain⟨hi1,hd1⟩:=DQ h1;have hd:DW d=true:=by simpa using hd1
  have hdr:=dK hd;have ed:UInt8.ofNat (48+(d.toNat-48))=d:=by
   rw[show 48+(d.toNat-48)=d.toNat by omega];simp
  have ev:BA [d]=d.toNat-48:=by simp[BA]
  rw[XY,ev,LN,Nat.pow_one];by_cases h0:i=[]
  ·subst h0;rw[show BA ([]:A9)=0 from rfl,fH,Nt,Nq (by omega),ed];rfl
  ·have qW: ¬(i.head?=some 48):=λe=>by
    have e2:(i++[d]).head?=some 48:=by rw[List.head?_append,e];rfl
    rw[e2] at h4;have e3:((i++[d])==[48])=false:=by
     rw[QB];intro e;have:=congrArg List.length e;simp at this;exact h0 this
    rw[e3] at h4;cases h4
   have hid:GB i=true:=by
    unfold GB;rw[hi1];have e1:(i==([]:A9))=false:=by rw[QB];exact h0
    have e2:(i.head?==some (48:UInt8))=false:=by rw[QB];exact qW
    rw[e1,e2];simp
   have hln:i.length=n:=by simpa using hl
   have ih:=nF n i hln hid;have hpos:0<BA i:=by
    rcases LK (BA i) with e|e
    ·rw[e] at ih;rw[ih] at qW;exact absurd rfl qW
    ·exact e
   rw[RA (by omega),show(BA i*10+(d.toNat-48))/10=BA i by omega,show(BA i*10+(d.toNat-48))%10=d.toNat-48 by omega,<-ih,ed]
def sp:A9->A9×A9×Bool
 |[]=>([],[],false)
 |b::l=>bif b==47 then([],l,true) else(b::(sp l).1,(sp l).2.1,(sp l).2.2)
def nG:∀(s pre:A9),cutAt 47 pre s=(pre.reverse++(sp s).1,(sp s).2.1,(sp s).2.2)
 |[],pre=>by simp[cutAt,sp]
 |b::l,pre=>by
  unfold cutAt sp;cases h:b==47
  ·rw[B8,B8,nG l];simp
  ·simp
def gy:∀(s:A9),s=(sp s).1++(bif (sp s).2.2 then 47::(sp s).2.1 else [])/\(∀x∈(sp s).1,x≠47)/\((sp s).2.2=false->(sp s).2.1=[])
 |[]=>⟨rfl,by simp[sp],λ_=>rfl⟩
 |b::l=>by
  obtain⟨h1,h2,h3⟩:=gy l;unfold sp;cases h:b==47
  ·rw[B8];dsimp only;refine⟨by(conv=>lhs;rw[h1]);rfl,λx hx=>?_,h3⟩;rcases Ag.1 hx with e|hx
   ·subst e;simpa using h
   ·exact h2 x hx
  ·have:b=47:=by simpa using h
   subst this;exact⟨rfl,by simp,λh=>by cases h⟩
def HD(neg:Bool)(u t:A9)(fd:Bool):Int:=
 bif ((!GB u)||(neg&&(u==([48]:A9))))||(fd&&(((!GB t)||(t==([48]:A9)))||(t==([49]:A9)))) then 1
 else bif fd&& !decide (Nat.gcd (BA u) (BA t)=1) then 1 else 0
def Ux(h:GB l=true):l.all DW=true/\l≠[]:=by
 obtain⟨h1,h2⟩:=DQ h;obtain⟨h3,_⟩:=DQ h2;refine⟨h1,?_⟩;intro e;subst e;cases h3
def dR(h:l.all DW=true)(hl:l.length<1000000):J5 l=some (BA l:Int):=by
 unfold J5;split
 ·rename_i ds;have:=Cy.1 h 45 (by simp);cases this
 ·rw[h,show Nat.blt l.length 1000000=true from Gx hl];rfl
def ahZ(h:l.all DW=true)(hl:l.length<1000000):J5 (45::l)=some (-(BA l:Int)):=by
 show Dz (l.all DW&&Nat.blt l.length 1000000) (-(BA l:Int))=_;rw[h,show Nat.blt l.length 1000000=true from Gx hl];rfl
def v8(h:z.natAbs<10^14):Cl z=true:=TG h (by omega)
def xL(hl:core.length<=14):iB (bif neg then 45::core else core) [47]=some ((bif neg then 45::(sp core).1 else(sp core).1),(sp core).2.1,(sp core).2.2):=by
 cases neg
 ·show Dz (Nat.blt core.length 4294967281) (cutAt 47 [] core)=_;rw[show Nat.blt core.length 4294967281=true from Gx (by omega),nG];rfl
 ·show Dz (Nat.blt (45::core).length 4294967281) (cutAt 47 [] (45::core))=_;rw[show Nat.blt (45::core).length 4294967281=true from Gx (by simp only[DF];omega),nG];rfl
def aef:Ng (45::u) [45]=some true:=by
 have e:Br (45::u) 0 (([45]:A9).length:Int)=some [45]:=by rw[EO (by omega) (by simp) (by simp;omega)];rfl
 have hd:decide ((([45]:A9).length:Int)<=((45::u).length:Int))=true:=Ab (by simp;omega);have g:gd (decide<|(([45]:A9).length:Int)<=((45::u).length:Int)) true=true:=by rw[hd];rfl
 unfold Ng;rw[DC g,e];show some (_&&_)=_;rw[hd];rfl
def afZ:Ql (45::u) [45]=some (u,true):=by
 have e2:Br (45::u) (([45]:A9).length:Int) ((45::u).length:Int)=some u:=by
  rw[EO (by simp) (by simp;omega) (by omega)];simp
 unfold Ql Zz;rw[aef];show bd (bd (Br (45::u) (([45]:A9).length:Int) ((45::u).length:Int)) _) _=_;rw[e2];rfl
def afa(h:u.head?≠some 45):Ng u [45]=some false:=by
 unfold Ng
 match u,h with
 |[],_=>rfl
 |x::r,h=>
  have e:Br (x::r) 0 (([45]:A9).length:Int)=some [x]:=by rw[EO (by omega) (by simp) (by simp;omega)];rfl
  have hd:decide ((([45]:A9).length:Int)<=((x::r).length:Int))=true:=Ab (by simp;omega);have g:gd (decide<|(([45]:A9).length:Int)<=((x::r).length:Int)) true=true:=by rw[hd];rfl
  rw[DC g,e];show some (_&&_)=_;have:([x]==([45]:A9))=false:=by
   rw[QB];intro e;have e:x=45:=by simpa using e
   subst e;exact h rfl
  rw[this,Ya]
def afY(h:u.head?≠some 45):Ql u [45]=some (u,false):=by
 unfold Ql Zz;rw[afa h];rfl
def ED{α:Type}(x:α)(K:α->A6 ρ):bd (some x) K=K x:=rfl
def aeX(hl:core.length<=14)(HO:neg=false->core.head?≠some 45):Sm (bif neg then 45::core else core)=some (HD neg (sp core).1 (sp core).2.1 (sp core).2.2):=by
 obtain⟨q1,q2,q3⟩:=gy core;have hlen:=congrArg List.length q1;rw[ES] at hlen;unfold Sm;rw[xL hl]
 generalize hu:(sp core).1=u at*
 generalize ht:(sp core).2.1=t at*
 generalize hf:(sp core).2.2=fd at*
 have Lf:u.length<=14:=by omega
 have JD:t.length<=14:=by
  cases fd
  ·rw[q3 rfl];simp
  ·rw[BM,DF] at hlen;omega
 have hp:Ql (bif neg then 45::u else u) [45]=some (u,neg):=by
  cases neg
  ·refine afY ?_;have HO:=HO rfl;intro e;have e:u.head?=some 45:=e;apply HO;rw[q1,List.head?_append,e];rfl
  ·exact afZ
 show bd (Ql (bif neg then 45::u else u) [45]) _=_;rw[hp];show bd (Sl u) _=_;rw[tW (l:=u) (by omega)];show Aa _ _ (Sl t) _=_;rw[tW (l:=t) (by omega)];have tail:∀qn:Bool,qn=(fd&&(((!GB t)||(t==([48]:A9)))||(t==([49]:A9))))->((!GB u)||(neg&&(u==([48]:A9))))=false->qn=false->
  (cond (((decide<|(600:Int)<(u.length:Int))||(decide<|(600:Int)<(t.length:Int)))) (
   some (4:Int)
  ) (
   jn (λ(HJ:Unit)=>
    some (0:Int)
   ) λIe=>
   cond (fd) (
    bd (J5 u) λBS=>
    bd (J5 t) λBK=>
    bd (PX BS BK) λBo=>
    bd (QN Bo) λBj=>
    cond (((!Bj.2)||(!decide (Bj.1=(1:Int))))) (
     some (1:Int)
    ) (
     Ie ()
    )
   ) (
    Ie ()
   )
  ))=some (HD neg u t fd):=by
  intro qn e1 e2 e3;rw[BH (by omega),BH (by omega)];unfold HD;rw[e2,<-e1,e3];cases fd
  ·rfl
  ·have du:GB u=true:=by
    cases h:GB u with
    |true=>rfl
    |false=>rw[h] at e2;cases e2
   have dt:GB t=true:=by
    cases h:GB t with
    |true=>rfl
    |false=>rw[h] at e1;rw[e1] at e3;cases e3
   have au:=Ux du;have at':=Ux dt;have lu:=Py u au.1;have lt:=Py t at'.1;have p1:=Kl (show 0<10 by omega) Lf;have p2:=Kl (show 0<10 by omega) JD;have hg:PX (BA u:Int) (BA t:Int)=some (Nat.gcd (BA u) (BA t):Int):=by
    unfold PX;rw[v8 (by simp;omega),v8 (by simp;omega)];rfl
   have ath:Nat.gcd (BA u) (BA t)<10^14:=by
    rcases LK (BA u) with e|e
    ·rw[e,fW];omega
    ·have:=Nat.le_of_dvd e (Nat.gcd_dvd_left (BA u)<|BA t);omega
   have hs:QN (Nat.gcd (BA u) (BA t):Int)=some ((Nat.gcd (BA u) (BA t):Int),true):=by
    unfold QN Hm;rw[BH (by omega),Ab (by omega),Ab (by omega)];rfl
   show bd (J5 u) _=_;rw[dR au.1 (by omega)];show bd (J5 t) _=_;rw[dR at'.1 (by omega)];show bd (PX _ _) _=_;rw[hg];rw[ED];rw[hs];show cond (false|| !decide (((Nat.gcd (BA u) (BA t):Nat):Int)=1)) (some 1) (some 0)=some (bif false then 1 else bif true&& !decide (Nat.gcd (BA u) (BA t)=1) then 1 else 0);have e:decide (((Nat.gcd (BA u) (BA t):Nat):Int)=1)=decide (Nat.gcd (BA u) (BA t)=1):=GW.2 (by omega);rw[e];cases decide (Nat.gcd (BA u) (BA t)=1)<;>rfl
 cases hb1:((!GB u)||(neg&&(u==([48]:A9)))) with
 |true=>
  show Aa (gd true false&&gd fd true) false _ _=_;rw[Ef (by rfl)];show cond (true||_) _ _=_;rw[VJ,BM];unfold HD;rw[hb1];rfl
 |false=>
  cases fd with
  |false=>
   show Aa (gd false false&&gd false true) false _ _=_;rw[Ef (by rfl)];exact tail false rfl hb1 rfl
  |true=>
   show Aa (gd false false&&gd true true) false _ _=_;rw[DC (by rfl)];show cond (false||(true&&_)) _ _=_;cases hb2:(((!GB t)||(t==([48]:A9)))||(t==([49]:A9))) with
   |true=>
    show some 1=_;unfold HD;rw[hb1,hb2];rfl
   |false=>exact tail false (by rw[hb2];rfl) hb1 rfl
def aeh{t:A9}(hu:GB u=true)(ht:GB t=true)(IJ:∀x∈u,x≠47)(lu:u.length<=1000)(lt:t.length<=1000):Yd (λp=>Er p.1 (BA u:Int)/\Er p.2 (BA t:Int)/\p.1.2.length<=u.length/\p.2.2.length<=t.length) (Mr (u++47::t)):=by
 have au:=Ux hu;have at':=Ux ht;have hlt:(u++47::t).length=u.length+1+t.length:=by simp;omega
 unfold Mr;refine Yd.bd (dX IJ (by omega)) (Yd.cond (λh=>by have:=AZ h;omega)<|λ_=>?_);have es:Br (u++47::t) 0 (u.length:Int)=some u:=by
  rw[EO (by omega) (by omega) (by omega)];simp
 have et:Br (u++47::t) ((u.length:Int)+1) ((u++47::t).length:Int)=some t:=by
  rw[EO (by omega) (by omega) (by omega),CA,CB<|Az _,show((u.length:Int)+1).toNat=u.length+1 by omega,<-F4];simp
 refine Yd.bd es (Yd.Ak (lf false au.1 au.2 (by omega)) λp hp=>Yd.bd (Ad ⟨by omega,by omega⟩) (Yd.bd et (Yd.Ak (lf false at'.1 at'.2 (by omega)) λr hr=>Yd.mk ⟨hp.1,hr.1,hp.2,hr.2⟩)))
def agt(hl:core.length<=14)(HO:neg=false->core.head?≠some 45):Qv (bif neg then 45::core else core)=some (HD neg (sp core).1 (sp core).2.1 (sp core).2.2):=by
 have key:Yd (λr=>r=HD neg (sp core).1 (sp core).2.1 (sp core).2.2) (Qv (bif neg then 45::core else core)):=by
  obtain⟨q1,q2,q3⟩:=gy core;have hlen:=congrArg List.length q1;rw[ES] at hlen;by_cases hF0:(bif neg then 45::core else core)=[]
  ·have hn:neg=false:=by cases neg;rfl;cases hF0
   subst hn;have hc:core=[]:=hF0;subst hc;exact Yd.mk rfl
  obtain⟨c,r,e⟩:∃c r,(bif neg then 45::core else core)=c::r:=by
   cases h:(bif neg then 45::core else core) with
   |nil=>exact absurd h hF0
   |cons c r=>exact⟨c,r,rfl⟩
  have hc:decide ((c.toNat:Int)=45)=neg:=by
   cases neg with
   |true=>
    have:c=45:=by cases e;rfl
    subst this;rfl
   |false=>
    have e:core=c::r:=e;refine BH λh=>HO rfl ?_
    have:c=45:=fR.1 (by show _=45;omega);rw[e,this];rfl
  have hs1:neg=true->r=core:=by rintro rfl;cases e;rfl
  have Lg:neg=false->c::r=core:=by rintro rfl;exact e.symm
  generalize hu:(sp core).1=u at*
  generalize ht:(sp core).2.1=t at*
  generalize hf:(sp core).2.2=fd at*
  have Lf:u.length<=14:=by omega
  have JD:t.length<=14:=by
   cases fd
   ·rw[q3 rfl];simp
   ·rw[BM,DF] at hlen;omega
  unfold Qv;rw[e];have g1:gd (decide<|(0:Int)<((c::r).length:Int)) true=true:=by rw[Ab (by simp only[DF];omega)];rfl
  rw[DC g1];refine Yd.bd (x:=c) rfl ?_;have hb:((decide<|(0:Int)<((c::r).length:Int))&&(decide<|(c.toNat:Int)=(45:Int)))=neg:=by
   rw[Ab (show(0:Int)<((c::r).length:Int) by simp only[DF];omega),JO,hc]
  rw[hb];refine Yd.jn (λs=>s=core) ?_<|λk hk=>Yd.cond (λhn=>?_)<|λhn=>?_
  rotate_left
  ·have es:Br (c::r) (1:Int) ((c::r).length:Int)=some core:=by
    rw[EO (by omega) (by simp only[DF];omega) (by omega),<-hs1 hn];simp
   exact Yd.bd es<|hk _ rfl
  ·exact hk _<|Lg hn
  ·intro s hs;rw[hs];clear hs s;have hsl:L5 core=some (u.length:Int):=by
    rw[q1];cases fd
    ·rw[B8,JQ];exact mT q2 (by omega)
    ·rw[BM];exact dX q2 (by simp;omega)
   have hsu:Br core 0 (u.length:Int)=some u:=by
    rw[EO (by omega) (by omega) (by omega),q1];simp
   have hlt:decide ((u.length:Int)<(core.length:Int))=fd:=by
    cases fd
    ·exact BH (by rw[B8] at hlen;simp at hlen;omega)
    ·exact Ab (by rw[BM] at hlen;simp only[DF] at hlen;omega)
   refine Yd.bd hsl (Yd.bd hsu (Yd.bd (rf (l:=u) (by omega)) ?_));rw[hlt];cases hdu:GB u with
   |false=>
    rw[Ef (by rfl),Ef (by rfl)];refine Yd.mk ?_;unfold HD;rw[hdu];rfl
   |true=>
    rw[DC (by rfl)];refine Yd.bd (x:=c) rfl ?_;rw[hc];have arF:∀K:A9->A6 Int,((neg&&(u==([48]:A9)))=true->Yd (λr=>r=HD neg u t fd) (K u))->((neg&&(u==([48]:A9)))=false->∀w,(neg&&(w==([48]:A9)))=false->Yd (λr=>r=HD neg u t fd) (K w))->Yd (λr=>r=HD neg u t fd) (Aa (gd (!true) false&&gd neg true) ([]) (Br core 0 (u.length:Int)) K):=by
     intro K h1 h2;cases neg with
     |false=>rw[Ef (by rfl)];exact h2 rfl _ rfl
     |true=>
      rw[DC (by rfl)];refine Yd.bd hsu ?_;cases hb:(true&&(u==([48]:A9))) with
      |true=>exact h1 hb
      |false=>exact h2 hb _ hb
    refine arF _ (λhb1=>?_)<|λhb1 w hw=>?_
    ·rw[hb1];refine Yd.mk ?_;unfold HD;rw[hb1,hdu];rfl
    ·rw[hw];refine Yd.cond (λh=>by cases h)<|λ_=>?_
     have small:∀K:Int->Int->A6 Int,Yd (λr=>r=HD neg u t fd) (K ((core.length:Int)-(u.length:Int))<|(core.length:Int)-(u.length:Int)-1)->Yd (λr=>r=HD neg u t fd) (Aa (gd (decide<|(600:Int)<(u.length:Int)) false) (0) (AE<|(core.length:Int)-(u.length:Int)) λG6=>Aa (gd (decide<|(600:Int)<(u.length:Int)) false) (0) (AE<|G6-(1:Int)) λEG=>K G6 EG):=by
      intro K h;rw[BH (show¬(600:Int)<(u.length:Int) by omega),DC (by rfl)];refine Yd.bd (Ad ⟨by omega,by omega⟩) ?_;rw[DC (by rfl)];exact Yd.bd (Ad ⟨by omega,by omega⟩) h
     cases fd with
     |false=>
      rw[Ef (by rfl),Ef (by rfl),Ef (by rfl),Ef (by rfl),Ef (by rfl),Ef (by rfl),Ef (by rfl)];refine Yd.cond (λh=>by cases h)<|λ_=>?_
      refine small (λG6 EG=>_) ?_;rw[BH (show¬(600:Int)<(u.length:Int) by omega),BH (show¬(600:Int)<((core.length:Int)-(u.length:Int)-1) by omega)];refine Yd.mk ?_;unfold HD;rw[hdu,hb1];rfl
     |true=>
      rw[BM] at q1 hlen;rw[DF] at hlen;have f1:AE ((u.length:Int)+1)=some ((u.length:Int)+1):=Ad ⟨by omega,by omega⟩;have et:Br core ((u.length:Int)+1) (core.length:Int)=some t:=by
       rw[EO (by omega) (by omega) (by omega),CA,CB<|Az _,show((u.length:Int)+1).toNat=u.length+1 by omega,q1,<-F4];simp
      rw[DC (by rfl)];refine Yd.bd f1 ?_;rw[DC (by rfl)];refine Yd.bd et ?_;rw[DC (by rfl)];refine Yd.bd (rf (l:=t) (by omega)) ?_;cases hdt:GB t with
      |false=>
       rw[Ef (by rfl),Ef (by rfl),Ef (by rfl),Ef (by rfl)];refine Yd.mk ?_;unfold HD;rw[hdu,hb1,hdt];rfl
      |true=>
       rw[DC (by rfl)];refine Yd.bd f1 ?_;rw[DC (by rfl)];refine Yd.bd et ?_;cases h0:(t==([48]:A9)) with
       |true=>
        rw[Ef (by rfl),Ef (by rfl)];refine Yd.mk ?_;unfold HD;rw[hdu,hb1,hdt,h0];rfl
       |false=>
        rw[DC (by rfl)];refine Yd.bd f1 ?_;rw[DC (by rfl)];refine Yd.bd et ?_;cases h1:(t==([49]:A9)) with
        |true=>
         refine Yd.mk ?_;unfold HD;rw[hdu,hb1,hdt,h0,h1];rfl
        |false=>
         refine Yd.cond (λh=>by cases h)<|λ_=>?_
         refine small (λG6 EG=>_) ?_;rw[BH (show¬(600:Int)<(u.length:Int) by omega),BH (show¬(600:Int)<((core.length:Int)-(u.length:Int)-1) by omega)];refine Yd.cond (λh=>by cases h)<|λ_=>?_
         refine Yd.jn (λ_=>Nat.gcd (BA u) (BA t)=1) (λ_ h=>Yd.mk ?_) (λk hk=>Yd.cond (λ_=>?_) (λh=>by cases h))
         ·unfold HD;rw[hdu,hb1,hdt,h0,h1,Ab h];rfl
         ·have pp:=aeh hdu hdt q2 (by omega) (by omega);rw[<-q1] at pp;refine Yd.Ak pp λp ⟨p1,p2,p3,p4⟩=>Yd.Ak (uS p1.1 p2.1 (by omega) (by omega)) λw ⟨w1,w2,w3⟩=>?_
          have hv:AF w=(Nat.gcd (BA u) (BA t):Int):=by
           rw[w2,p1.2.1,p2.2.1];simp[Int.gcd]
          have SR:=wm w1;rw[hv] at SR;have bad:Nat.gcd (BA u) (BA t)≠1->Yd (λr=>r=HD neg u t true) (some (1:Int)):=λh=>Yd.mk (by
           unfold HD;rw[hdu,hb1,hdt,h0,h1,BH h];rfl)
          refine Yd.Aa (λhg=>?_)<|λhg=>?_
          ·have hlw:decide ((w.length:Int)=1)=true:=by
            cases h:decide ((w.length:Int)=1) with
            |true=>rfl
            |false=>rw[h] at hg;cases hg
           obtain⟨d,rfl⟩:∃d,w=[d]:=fk.1 (by have:=AZ hlw;omega);refine⟨d,rfl,?_⟩;refine Yd.cond (λh=>?_)<|λh=>?_
           ·refine bad λh'=>?_
            have:=(SR.2 (by omega)).2;have:d=1:=by simpa using this
            subst this;cases h
           ·refine hk () ?_;have:d=1:=by
             by_cases hd:d=1
             ·exact hd
             ·rw[BH hd] at h;rw[fM,Bool.or_true] at h;cases h
            subst this;have:=SR.1 ⟨rfl,rfl⟩;omega
          ·have hlw:decide ((w.length:Int)=1)=false:=by
            cases h:decide ((w.length:Int)=1) with
            |false=>rfl
            |true=>rw[h] at hg;cases hg
           rw[hlw];refine bad λh'=>?_
           have:=(SR.2 (by omega)).1;rw[hlw] at this;cases this
 obtain⟨r,h1,h2⟩:=key;rw[h1,h2]
def isNum(s:A9)(q:Rat):Prop:=s=BG q/\bq q 14/\Ol s=some q
def zY:B5 0=[48]:=A4
def an7:B5 1=[49]:=A4
def amV{a:Int}(h0:d≠0)(hg:Nat.gcd a.natAbs d=1):∃q,mkq a (d:Int)=some q/\q.num=a/\q.den=d:=by
 obtain⟨k,rfl⟩:=Nat.exists_eq_succ_of_ne_zero h0;have h:mkq a ((k+1:Nat):Int)=some (mkRat a<|k+1):=by
  show Dz (Nat.beq (Nat.gcd a.natAbs<|k+1) 1) (mkRat a<|k+1)=_;rw[show Nat.beq (Nat.gcd a.natAbs<|k+1) 1=true from by rw[hg];rfl];rfl
 obtain⟨h1,h2⟩:=wg h;exact⟨_,h,h1,by omega⟩
def aja(hl:(bif neg then 45::core else core).length<=14)(hc:HD neg (sp core).1 (sp core).2.1 (sp core).2.2=0):∃q,isNum (bif neg then 45::core else core) q:=by
 have hl:core.length<=14:=by cases neg<;>simp at hl<;>omega
 obtain⟨q1,q2,q3⟩:=gy core;have hlen:=congrArg List.length q1;rw[ES] at hlen;unfold isNum Ol;rw[xL hl]
 generalize hu:(sp core).1=u at*
 generalize ht:(sp core).2.1=t at*
 generalize hf:(sp core).2.2=fd at*
 have Lf:u.length<=14:=by omega
 unfold HD at hc;cases qc:((!GB u)||(neg&&(u==([48]:A9))))||(fd&&(((!GB t)||(t==([48]:A9)))||(t==([49]:A9)))) with
 |true=>rw[qc] at hc;cases hc
 |false=>
 rw[qc,B8] at hc;obtain⟨b1,b2⟩:=LL.1 qc;obtain⟨b3,b4⟩:=LL.1 b1;have du:GB u=true:=by simpa using b3
 have au:=Ux du;have lu:=Py u au.1;have p1:=Kl (show 0<10 by omega) Lf;have eu:=nF _ u rfl du;obtain⟨z,hz,hzn,hzr⟩:∃z:Int,(bif neg then 45::u else u)=CU z/\z.natAbs=BA u/\J5 (bif neg then 45::u else u)=some z:=by
  cases neg with
  |false=>
   refine⟨(BA u:Int),?_,by simp,dR (l:=u) au.1 (by omega)⟩;unfold CU;rw[BH (by omega)];simp[<-eu]
  |true=>
   have h0:BA u≠0:=λh=>by
    rw[h,zY] at eu;rw[eu] at b4;cases b4
   refine⟨-(BA u:Int),?_,by simp,ahZ (l:=u) au.1 (by omega)⟩;unfold CU;rw[Ab (by omega)];simp[<-eu]
 cases fd with
 |false=>
  rw[B8,JQ] at q1;refine⟨(z:Rat),?_,⟨by rw[VQ];omega,by rw[Ye];omega⟩,?_⟩
  ·rw[q1,hz];unfold BG;rw[VQ,Ye];simp
  ·show bd (J5 (bif neg then 45::u else u)) _=_;rw[hzr];rfl
 |true=>
  rw[BM] at q1 hlen;rw[DF] at hlen;rw[JO] at b2 hc;obtain⟨c1,c2⟩:=LL.1 b2;obtain⟨c3,c4⟩:=LL.1 c1;have dt:GB t=true:=by simpa using c3
  have at':=Ux dt;have lt:=Py t at'.1;have p2:=Kl (show 0<10 by omega) (show t.length<=14 by omega);have et:=nF _ t rfl dt;have h0:BA t≠0:=λh=>by
   rw[h,zY] at et;rw[et] at c4;cases c4
  have h1:BA t≠1:=λh=>by
   rw[h,an7] at et;rw[et] at c2;cases c2
  have hg:Nat.gcd (BA u) (BA t)=1:=by
   cases h:decide (Nat.gcd (BA u) (BA t)=1) with
   |true=>exact AZ h
   |false=>rw[h] at hc;cases hc
  obtain⟨q,m1,m2,m3⟩:=amV (a:=z) h0 (by rw[hzn];exact hg);refine⟨q,?_,⟨by omega,by omega⟩,?_⟩
  ·unfold BG;rw[m2,m3,BH h1,B8,<-hz,<-et,q1];cases neg<;>rfl
  ·show bd (J5 (bif neg then 45::u else u)) _=_;rw[hzr];show bd (J5 t) _=_;rw[dR at'.1 (by omega)];show bd (mkq z (BA t:Int)) _=_;rw[m1];rfl
def ur(hl:s.length<=14):∃c,Sm s=some c/\Qv s=some c/\(c=0->∃q,isNum s q):=by
 obtain⟨neg,core,rfl,HO⟩:∃(neg:Bool) (core:A9),s=(bif neg then 45::core else core)/\(neg=false->core.head?≠some 45):=by
  match s with
  |[]=>exact⟨false,[],rfl,λ_ h=>by cases h⟩
  |x::r=>
   by_cases hx:x=45
   ·exact⟨true,r,by rw[hx];rfl,λh=>by cases h⟩
   ·exact⟨false,x::r,rfl,λ_ h=>hx<|Dg h⟩
 have hlc:core.length<=14:=by cases neg<;>simp at hl<;>omega
 exact⟨_,aeX hlc HO,agt hlc HO,aja hl⟩
def short(v:A9×A9×A9):Prop:=v.1.length<=14/\v.2.1.length<=14/\v.2.2.length<=14
def f3(a b c:Int):Int:=bif !decide (a=0) then a else bif !decide (b=0) then b else c
def bc(q:Rat)(c n:Nat):Prop:=q.num.natAbs<=c*10^n/\q.den<=10^n
def ape(h:bq q n):bc q 1 n:=⟨by rw[Ly];exact VI h.1,VI h.2⟩
def p9(c d m n:Nat):(c*10^m)*(d*10^n)=(c*d)*10^(m+n):=by
 rw[Lx];grind
def MB(hx:bc x c m)(hy:bc y d n):bc (x*y) (c*d) (m+n):=by
 have h:=ZD (x:=x.num*y.num) (y:=(x.den:Int)*(y.den:Int))<|VP (NK x)<|NK y
 rw[eK] at h;rw[Kc,Kc,Fc,Fc] at h;refine⟨CX h.1 ?_,CX h.2 ?_⟩
 ·rw[<-p9];exact Gv hx.1 hy.1
 ·rw[Lx];exact Gv hx.2 hy.2
def Rz(hx:bc x c m)(hy:bc y d n):bc (x+y) (c+d) (m+n):=by
 have h:=ZD (x:=x.num*y.den+y.num*x.den) (y:=(x.den:Int)*(y.den:Int))<|VP (NK x)<|NK y
 rw[eM] at h;rw[Kc,Fc,Fc] at h;have a1:=Gv hx.1 hy.2;have a2:=Gv hy.1 hx.2;have t:=Int.natAbs_add_le (x.num*y.den)<|y.num*x.den
 rw[Kc,Kc,Fc,Fc] at t;have e1:=p9 c 1 m n;have e2:=p9 d 1 n m;rw[Ly,Nat.mul_one] at e1 e2;rw[P2 n m] at e2;refine⟨?_,CX h.2 ?_⟩
 ·rw[Iv];omega
 ·rw[Lx];exact Gv hx.2 hy.2
def zg(h:bc x c n):bc (-x) c n:=by
 refine⟨?_,?_⟩
 ·rw[YU,VM];exact h.1
 ·rw[YT];exact h.2
def pO(hx:bc x c m)(hy:bc y d n):bc (x-y) (c+d) (m+n):=by
 rw[oI];exact Rz hx<|zg hy
abbrev T3:=A9×A9×A9
def vc(v:Q3)(c n:Nat):Prop:=bc v.1 c n/\bc v.2.1 c n/\bc v.2.2 c n
def Bt(v:Q3):T3:=(BG v.1,BG v.2.1,BG v.2.2)
def iq(v:Q3):Bool:=decide (v.1=0)&&(decide (v.2.1=0)&&decide (v.2.2=0))
def sign_zero(x:Rat):decide (x.num.sign=0)=decide (x=0):=by
 refine GW.2 ⟨λh=>M0.1<|Int.sign_eq_zero_iff_zero.1 h,λh=>by subst h;rfl⟩
def Yz(h:bc q c m)(hc:c<=d)(hm:m<=n):bc q d n:=by
 have hp:=Kl (show 0<10 by omega) hm;exact⟨CX h.1<|Gv hc hp,CX h.2 hp⟩
def pP{e:Nat}(hx:bc x c n)(h0:x≠0)(he:c<=10^e):bc x⁻¹ 1 (n+e):=by
 have hn:x.num≠0:=λe=>h0<|M0.1 e
 have e1:=(eL x).symm;have h:=ZD (x:=(x.den:Int)) (y:=x.num) hn;rw[<-e1] at h;rw[Fc] at h;refine⟨?_,?_⟩
 ·rw[Ly,Lx];exact CX h.1 (CX hx.2 (Nat.le_mul_of_pos_right _ (Nat.pow_pos (by omega))))
 ·rw[Lx,Jw];exact CX h.2<|CX hx.1<|Hg _ he
def bc3(p:Q3)(c n:Nat):Prop:=bc p.1 c n/\bc p.2.1 c n/\bc p.2.2 c n
def dM{b:Q3}(ha:bc3 a c m)(hb:bc3 b d n):bc3 (AS a b) (2*(c*d)) (2*(m+n)):=by
 obtain⟨a1,a2,a3⟩:=ha;obtain⟨b1,b2,b3⟩:=hb;have k:∀{w x y z:Rat},bc w c m->bc x d n->bc y c m->bc z d n->bc (w*x-y*z) (2*(c*d)) (2*(m+n)):=λh1 h2 h3 h4=>by
  have:=pO (MB h1 h2)<|MB h3 h4
  rwa [<-Nat.two_mul,<-Nat.two_mul] at this
 exact⟨k a2 b3 a3 b2,k a3 b1 a1 b3,k a1 b2 a2 b1⟩
def ann{b:Q3}(ha:bc3 a c m)(hb:bc3 b d n):bc (AG a b) (3*(c*d)) (3*(m+n)):=by
 obtain⟨a1,a2,a3⟩:=ha;obtain⟨b1,b2,b3⟩:=hb;have:=Rz (Rz (MB a1 b1)<|MB a2 b2)<|MB a3 b3
 exact Yz this (by omega) (by omega)
def yl{b:Q3}(ha:bc3 a c m)(hb:bc3 b d n):bc3 (CF a b) (c+d) (m+n):=⟨Rz ha.1 hb.1,Rz ha.2.1 hb.2.1,Rz ha.2.2 hb.2.2⟩
def gp{t:Rat}(ha:bc3 a c m)(ht:bc t d n):bc3 (Aj a t) (c*d) (m+n):=⟨MB ha.1 ht,MB ha.2.1 ht,MB ha.2.2 ht⟩
def als{M:A3 H3}{p:Q3}(hM:∀h∈M,bc3 h.1 1 k/\bc h.2 1 k)(hv:Ba M p):bc3 p 6 (35*k+1):=by
 obtain⟨_,a,ma,b,mb,c,mc,hd,rfl⟩:=Xw.1 hv;obtain⟨a1,a2⟩:=hM a ma;obtain⟨b1,b2⟩:=hM b mb;obtain⟨c1,c2⟩:=hM c mc;have d:=pP (e:=1) (ann (dM a1 b1) c1) hd (by omega);have s:=yl (yl (gp (dM b1 c1) a2)<|gp (dM c1 a1) b2)<|gp (dM a1 b1) c2
 have r:=gp s d;exact⟨Yz r.1 (by omega) (by omega),Yz r.2.1 (by omega) (by omega),Yz r.2.2 (by omega) (by omega)⟩
def lv(n:Nat)(q:Rat):Prop:=bc q 1 n
def Cj(n:Nat)(p:Q3):Prop:=lv n p.1/\lv n p.2.1/\lv n p.2.2
def FK(h:lv m q)(hm:m<=n):lv n q:=Yz h (by omega) hm
def S7(h:bc q c m)(hc:c<=10)(hm:m+1<=n):lv n q:=by
 refine⟨?_,CX h.2 (Kl (by omega) (by omega))⟩;rw[Ly];refine CX h.1<|CX (Hg _ hc) ?_
 rw[Jw,<-RZ];exact Kl (by omega) hm
def M5(h:lv n q)(hn:n<=10000000000):Ej q=true:=by
 have one:∀k:Nat,k<=10^n->Nat.blt (Nat.log2 k) 68719476736=true:=by
  intro k hk;refine Gx ?_;rcases LK k with h0|h0
  ·rw[h0];exact EP rfl
  ·have h1:(10:Nat)^n<=(2^4)^n:=Nat.pow_le_pow_left (by omega) n;rw[<-Nat.pow_mul] at h1;have h2:(2:Nat)^(4*n)<2^(4*n+1):=Nat.pow_lt_pow_right (by omega) (by omega);have:Nat.log2 k<4*n+1:=(Q6 (by omega)).2 (by omega);omega
 unfold Ej;have h1:=h.1;rw[Ly] at h1;rw[one _ h1,one _ h.2];rfl
end
section
variable{x y:Rat}{n:Nat}(hx:lv n x)(hy:lv n y)(h1:1<=n)(hn:n<=10000000000)
include hx hy h1 hn
theorem I3:Fs x y=some (x*y)/\lv (4*n) (x*y):=
 ⟨by unfold Fs;rw[M5 hx hn,M5 hy hn];rfl,S7 (MB hx hy) (by omega) (by omega)⟩
theorem ZJ:LV x y=some (x+y)/\lv (4*n) (x+y):=
 ⟨by unfold LV;rw[M5 hx hn,M5 hy hn];rfl,S7 (Rz hx hy) (by omega) (by omega)⟩
theorem Rw:NX x y=some (x-y)/\lv (4*n) (x-y):=
 ⟨by unfold NX;rw[M5 hx hn,M5 hy hn];rfl,S7 (pO hx hy) (by omega) (by omega)⟩
theorem amW(h0:y≠0):SM x y=some (x/y)/\lv (4*n) (x/y):=
 ⟨by unfold SM;rw[M5 hx hn,M5 hy hn,BH h0];rfl,by
  rw[P0];exact S7 (MB hx (pP (e:=0) hy h0 (by omega))) (by omega) (by omega)⟩
end
section
variable{a b:Q3}{n:Nat}(ha:Cj n a)(hb:Cj n b)(h1:1<=n)(hn:n<=10000000000)
include ha hb h1 hn
theorem nP:MN a b=some (As a b)/\Cj (4*n) (As a b):=by
 obtain⟨e1,k1⟩:=Rw ha.1 hb.1 h1 hn;obtain⟨e2,k2⟩:=Rw ha.2.1 hb.2.1 h1 hn;obtain⟨e3,k3⟩:=Rw ha.2.2 hb.2.2 h1 hn;exact⟨by unfold MN;rw[e1,e2,e3];rfl,k1,k2,k3⟩
theorem ajr:Lm a b=some (CF a b)/\Cj (4*n) (CF a b):=by
 obtain⟨e1,k1⟩:=ZJ ha.1 hb.1 h1 hn;obtain⟨e2,k2⟩:=ZJ ha.2.1 hb.2.1 h1 hn;obtain⟨e3,k3⟩:=ZJ ha.2.2 hb.2.2 h1 hn;exact⟨by unfold Lm;rw[e1,e2,e3];rfl,k1,k2,k3⟩
end
section
variable{n:Nat}{α:Type}{a:Q3}{ρ:Type}
def agI{t:Rat}(ha:Cj n a)(ht:lv n t)(h1:1<=n)(hn:n<=10000000000):OW a t=some (Aj a t)/\Cj (4*n) (Aj a t):=by
 obtain⟨e1,k1⟩:=I3 ha.1 ht h1 hn;obtain⟨e2,k2⟩:=I3 ha.2.1 ht h1 hn;obtain⟨e3,k3⟩:=I3 ha.2.2 ht h1 hn;exact⟨by unfold OW;rw[e1,e2,e3];rfl,k1,k2,k3⟩
def xd{b:Q3}(ha:Cj n a)(hb:Cj n b)(h1:1<=n)(hn:n<=100000000):Sk a b=some (AG a b)/\lv (64*n) (AG a b):=by
 obtain⟨e1,k1⟩:=I3 ha.1 hb.1 h1 (by omega);obtain⟨e2,k2⟩:=I3 ha.2.1 hb.2.1 h1 (by omega);obtain⟨e3,k3⟩:=I3 ha.2.2 hb.2.2 h1 (by omega);obtain⟨e4,k4⟩:=ZJ k1 k2 (by omega) (by omega);obtain⟨e5,k5⟩:=ZJ k4 (FK k3 (show 4*n<=4*(4*n) by omega)) (by omega) (by omega);refine⟨?_,FK k5 (by omega)⟩;unfold Sk;rw[e1,e2];simp only[bd];rw[e4];simp only[bd];rw[e3];simp only[bd];rw[e5];rfl
def agJ{b:Q3}(ha:Cj n a)(hb:Cj n b)(h1:1<=n)(hn:n<=100000000):Sf a b=some (AS a b)/\Cj (16*n) (AS a b):=by
 obtain⟨e1,k1⟩:=I3 ha.2.1 hb.2.2 h1 (by omega);obtain⟨e2,k2⟩:=I3 ha.2.2 hb.2.1 h1 (by omega);obtain⟨e3,k3⟩:=Rw k1 k2 (by omega) (by omega);obtain⟨e4,k4⟩:=I3 ha.2.2 hb.1 h1 (by omega);obtain⟨e5,k5⟩:=I3 ha.1 hb.2.2 h1 (by omega);obtain⟨e6,k6⟩:=Rw k4 k5 (by omega) (by omega);obtain⟨e7,k7⟩:=I3 ha.1 hb.2.1 h1 (by omega);obtain⟨e8,k8⟩:=I3 ha.2.1 hb.1 h1 (by omega);obtain⟨e9,k9⟩:=Rw k7 k8 (by omega) (by omega);refine⟨?_,FK k3 (by omega),FK k6 (by omega),FK k9 (by omega)⟩;unfold Sf;rw[e1,e2];simp only[bd];rw[e3];simp only[bd];rw[e4,e5];simp only[bd];rw[e6];simp only[bd];rw[e7,e8];simp only[bd];rw[e9];rfl
def cg{h:H3}{p:Q3}(hh:Cj n h.1/\lv n h.2)(hp:Cj n p)(h1:1<=n)(hn:n<=100000000):Pd h p=some (val h p)/\lv (256*n) (val h p):=by
 obtain⟨e1,k1⟩:=xd hh.1 hp h1 hn;obtain⟨e2,k2⟩:=Rw k1 (FK hh.2 (show n<=64*n by omega)) (by omega) (by omega);refine⟨?_,FK k2 (by omega)⟩;unfold Pd;rw[e1];simp only[bd];rw[e2];rfl
def bj:∀l:A3 Q3,RP l=IV l
 |[]=>rfl
 |a::l=>by
  have go:∀(f a:Q3) (l:A3 Q3),(a::l).zip (l++[f])=IM f (a::l):=by
   intro f a l
   induction l generalizing a with
   |nil=>rfl
   |cons b l ih=>simp only[Q9,List.zip_cons_cons,IM];rw[ih]
  exact go a a l
def nB{α β ρ:Type}{K:A3 β->A6 ρ}{B:(A3 β->A6 ρ)->α->A3 β->A6 ρ}(f:α->A3 β)(w:Nat):∀(L:A3 α) (s:A3 β),(∀x∈L,(f x).length<=w/\∀(s:A3 β) (next:A3 β->A6 ρ),s.length<=100000000->B next x s=next (s++f x))->s.length+w*L.length<=100000000->Il L B s K=K (s++L.flatMap f)
 |[],s,_,_=>by simp[Il]
 |x::L,s,h,hl=>by
  obtain⟨h1,h2⟩:=h x Dm;rw[DF,Nat.mul_add] at hl;unfold Il;rw[h2 s _ (by omega),nB f w L _ (λy hy=>h y<|Bi _ hy) (by rw[ES];omega),P7,Gw]
def zh{b:Nat}{s:A3 α}{x:α}(hb:b<=1000)(hs:s.length<=100000001):BC b s [x]=some (s++[x]):=by
 unfold BC;have h1:(s.length+[x].length)*b<=140737488355328:=CX (Gv (show s.length+[x].length<=100000002 by simp;omega) hb) (by omega);rw[Ab h1,Ab (show s.length+[x].length<=9223372036854775807 by simp;omega)];rfl
def app_1{b:Nat}{s:A3 α}{x:α}(hb:b<=1000)(hs:s.length<=100000000):BC b s [x]=some (s++[x]):=zh hb (by omega)
def dx{x:Rat}:x.num<0↔x<0:=by
 rw[<-Int.not_le,Rat.num_nonneg,Rat.not_le]
theorem Y3{x:Rat}:0<x.num↔0<x:=by
 constructor
 ·intro h;have h1:0<=x:=Rat.num_nonneg.1 (by omega);have h2:x≠0:=λe=>by rw[M0.2 e] at h;omega
  grind
 ·intro h;have h1:0<=x.num:=Rat.num_nonneg.2 (by grind);have h2:x.num≠0:=λe=>by rw[M0.1 e] at h;grind
  omega
def xn(x:Rat):decide (x.num.sign<=0)=decide (x<=0):=by
 rw[GW,<-Int.not_lt,<-YS,Int.sign_pos_iff,Y3]
theorem aiF(x y:Rat):decide (x.num.sign*y.num.sign<0)=Fw x y:=by
 rw[Yb,Jt,Ev];have hx:x.num.sign=1/\0<x\/x.num.sign=0/\x=0\/x.num.sign= -1/\x<0:=by
  rcases Kh x.num 0 with h|h|h
  ·exact .inr<| .inr ⟨JR h,dx.1 h⟩
  ·exact .inr (.inl ⟨by rw[h];rfl,M0.1 h⟩)
  ·exact .inl ⟨J0 h,Y3.1 h⟩
 have hy:y.num.sign=1/\0<y\/y.num.sign=0/\y=0\/y.num.sign= -1/\y<0:=by
  rcases Kh y.num 0 with h|h|h
  ·exact .inr<| .inr ⟨JR h,dx.1 h⟩
  ·exact .inr (.inl ⟨by rw[h];rfl,M0.1 h⟩)
  ·exact .inl ⟨J0 h,Y3.1 h⟩
 rcases hx with⟨e,h⟩|⟨e,h⟩|⟨e,h⟩<;>rcases hy with⟨e',h'⟩|⟨e',h'⟩|⟨e',h'⟩<;>rw[e,e']<;>constructor<;>intro k<;>first|(exfalso;revert k;decide)|grind
def ajF(x y:Rat):AE (x.num.sign*y.num.sign)=some (x.num.sign*y.num.sign):=by
 have h:∀z:Int,z.sign=1\/z.sign=0\/z.sign= -1:=λz=>by
  rcases Kh z 0 with h|h|h
  ·exact .inr<| .inr<|JR h
  ·exact .inr (.inl (by rw[h];rfl))
  ·exact .inl<|J0 h
 rcases h x.num with e|e|e<;>rcases h y.num with e'|e'|e'<;>rw[e,e']<;>rfl
theorem ahT{l:A3 Q3}{h:H3}(hl:l.length<=1000000)(hh:Cj n h.1/\lv n h.2)(hp:∀p∈l,Cj n p)(h1:1<=n)(hn:n<=10000):Wi l h=some (F8 h l):=by
 unfold Wi XG;have e:Uz l=some (IV l):=by
  unfold Uz;rw[Gx (show l.length+1<=1000000000 by omega)|>(λh=>(h:Nat.blt l.length 1000000000=true)),bj];rfl
 rw[e];simp only[bd];have hs:(IV l).length=l.length:=by rw[<-bj,dD]
 have hm:∀x∈IV l,x.1∈l/\x.2∈l:=λx hx=>by
  rw[<-bj] at hx;obtain⟨i,hi⟩:=Ym.1 hx;obtain⟨a,b,_⟩:=wN hi;exact⟨Km a,Km b⟩
 refine nB (LQ h) 2 (IV l) [] (λx hx=>⟨?_,λs next hs=>?_⟩) (by simp[hs];omega)
 ·unfold LQ;cases decide (val h x.1<=0)<;>cases Fw (val h x.1) (val h x.2)<;>simp
 ·obtain⟨m1,m2⟩:=hm x hx;obtain⟨v1,w1⟩:=cg hh (hp _ m1) h1 (by omega);obtain⟨v2,w2⟩:=cg hh (hp _ m2) h1 (by omega);have tail:∀s:A3 Q3,s.length<=100000001->(bd (IW<|val h x.1) λBj=>bd (IW<|val h x.2) λDN=>bd (AE<|Bj*DN) λDc=>cond (decide<|Dc<0) (bd (NX (val h x.1)<|val h x.2) λCt=>bd (SM (val h x.1) Ct) λFT=>bd (MN x.2 x.1) λFD=>bd (OW FD FT) λFU=>bd (Lm x.1 FU) λFE=>bd (BC 192 s ([FE]:A3 V3)) λEz=>next Ez)<|next s)=next (s++(bif Fw (val h x.1) (val h x.2) then [FC h x.1 x.2] else [])):=by
   intro s hs;unfold IW;simp only[bd];rw[ajF];simp only[bd];rw[aiF];cases ho:Fw (val h x.1) (val h x.2)
   ·simp
   ·have h0:val h x.1-val h x.2≠0:=by have:=Jt.1 ho;grind
    obtain⟨a1,b1⟩:=Rw w1 w2 (by omega) (by omega);obtain⟨a2,b2⟩:=amW (FK w1 (show 256*n<=4*(256*n) by omega)) b1 (by omega) (by omega) h0;obtain⟨a3,b3⟩:=nP (hp _ m2) (hp _ m1) h1 (by omega);obtain⟨a4,b4⟩:=agI (n:=4096*n) ⟨FK b3.1 (by omega),FK b3.2.1 (by omega),FK b3.2.2 (by omega)⟩ (FK b2 (by omega)) (by omega) (by omega);obtain⟨a5,b5⟩:=ajr (n:=4*(4096*n)) ⟨FK (hp _ m1).1 (by omega),FK (hp _ m1).2.1 (by omega),FK (hp _ m1).2.2 (by omega)⟩ b4 (by omega) (by omega);simp only[BM];rw[a1];simp only[bd];rw[a2];simp only[bd];rw[a3];simp only[bd];rw[a4];simp only[bd];rw[a5];simp only[bd];have:BC 192 s [CF x.1<|Aj (As x.2 x.1)<|val h x.1/(val h x.1-val h x.2)]=some (s++[CF x.1<|Aj (As x.2 x.1)<|val h x.1/(val h x.1-val h x.2)]):=zh (by omega) hs;rw[this];rfl
  show bd (Pd h x.1) _=_;rw[v1];simp only[bd];rw[v2];simp only[bd];unfold jn;unfold LQ;cases hc:decide (val h x.1<=0)
  ·have hd:decide ((val h x.1).num.sign<=0)=false:=by rw[xn];exact hc
   simp only[IW,hd,B8,I4];exact tail s (by omega)
  ·have hd:decide ((val h x.1).num.sign<=0)=true:=by rw[xn];exact hc
   simp only[IW,hd,BM];rw[app_1 (by omega) hs];rw[<-Gw];exact tail (s++[x.1]) (by simp;omega)
def Yd.from{σ S:Type}{R:ρ->Prop}(L:A3 α)(e:σ->Int->S)(P:A3 α->σ->Prop){B:(S->A6 ρ)->S->A6 ρ}{N:Nat}
 (hs:∀(A:A3 α) (x:α) (C:A3 α) (s:σ) (k:S->A6 ρ),L=A++x::C->P A s->(∀s',P (A++[x]) s'->Yd R (k<|e s' ((A.length+1:Nat):Int)))->Yd R (B k<|e s (A.length:Int)))
 (he:∀(s:σ) (k:S->A6 ρ),P L s->Yd R (B k<|e s (L.length:Int)))(A0 C0:A3 α){s0:σ}(hA:L=A0++C0)(h0:P A0 s0)(hl:L.length<N):Yd R (Trn.lp N B<|e s0 (A0.length:Int)):=by
 have main:∀(C A:A3 α) (F:Nat) (s:σ),L=A++C->P A s->C.length<F->Yd R (Trn.lp F B<|e s (A.length:Int)):=by
  intro C
  induction C with
  |nil=>
   intro A F s hL hp hF;obtain⟨F,rfl⟩:∃G,F=G+1:=⟨F-1,by omega⟩;rw[JQ] at hL;subst hL;exact he s _ hp
  |cons x C ih=>
   intro A F s hL hp hF;obtain⟨F,rfl⟩:∃G,F=G+1:=⟨F-1,by omega⟩;rw[DF] at hF;refine hs A x C s _ hL hp λs' hp'=>?_
   have:=ih (A++[x]) F s' (by rw[hL,Gw];rfl) hp' (by omega);rwa [ES] at this
 exact main C0 A0 N s0 hA h0 (by rw[hA] at hl;simp at hl;omega)
def Yd.each{σ S:Type}{R:ρ->Prop}(L:A3 α)(e:σ->Int->S)(P:A3 α->σ->Prop){B:(S->A6 ρ)->S->A6 ρ}{N:Nat}
 (hs:∀(A:A3 α) (x:α) (C:A3 α) (s:σ) (k:S->A6 ρ),L=A++x::C->P A s->(∀s',P (A++[x]) s'->Yd R (k<|e s' ((A.length+1:Nat):Int)))->Yd R (B k<|e s (A.length:Int)))
 (he:∀(s:σ) (k:S->A6 ρ),P L s->Yd R (B k<|e s (L.length:Int))){s0:σ}(h0:P [] s0)(hl:L.length<N):Yd R (Trn.lp N B<|e s0 0):=Yd.from L e P hs he [] L rfl h0 hl
end
section
variable{α:Type}{L A C:List α}{x:α}(h:L=A++x::C)
include h
theorem Cg:decide ((A.length:Int)<(L.length:Int))=true:=by rw[h];simp<;>omega
theorem Bq:A8 L (A.length:Int)=some x:=by rw[K9,h];simp
theorem at_mem:x∈L:=by rw[h];simp
theorem Dn:A.length+1<=L.length:=by rw[h];simp<;>omega
theorem CP(hl:L.length<=100000000):AE ((A.length:Int)+1)=some ((A.length+1:Nat):Int):=by
 have:=Dn h;rw[Ad ⟨by omega,by omega⟩];rfl
end
section
variable{n k:Nat}{l:A3 Q3}{M:A3 H3}{S:A3 D7}
def Ce{α:Type}(L:A3 α):decide ((L.length:Int)<(L.length:Int))=false:=BH (by omega)
def gz{x y:Rat}(hx:lv n x)(hy:lv n y)(hn:n<=10000000000):OP x y=some (bif decide (x<y) then -1 else bif decide (y<x) then 1 else 0):=by
 unfold OP;rw[M5 hx hn,M5 hy hn];rfl
def or3(a b c:Int):Ug [a,b,c]=some (bif !decide (a=0) then a else bif !decide (b=0) then b else c):=by
 obtain⟨F,hF⟩:∃F,18446744073709551616=F+4:=⟨18446744073709551612,rfl⟩;unfold Ug;rw[hF];show cond (!decide (a=0)) (some a) (cond (!decide (b=0)) (some b)<|cond (!decide (c=0)) (some c)<|some 0)=_;cases ha:decide (a=0)
 ·rfl
 ·cases hb:decide (b=0)
  ·rfl
  ·cases hc:decide (c=0)
   ·rfl
   ·rw[AZ hc];rfl
theorem nQ{a b:Q3}(ha:Cj n a)(hb:Cj n b)(hn:n<=10000000000):∃v,Sc a b=some v/\(v<0↔Hq a b)/\(v=0↔a=b):=by
 unfold Sc;rw[gz ha.1 hb.1 hn,gz ha.2.1 hb.2.1 hn,gz ha.2.2 hb.2.2 hn];simp only[bd];rw[or3];refine⟨_,rfl,?_⟩;obtain⟨a1,a2,a3⟩:=a;obtain⟨b1,b2,b3⟩:=b;have Lc:∀x y:Rat,(x<y/\ ¬y<x/\x≠y)\/(¬x<y/\ ¬y<x/\x=y)\/(¬x<y/\y<x/\x≠y):=λx y=>by grind
 unfold Hq;simp only[LC];rcases Lc a1 b1 with⟨h1,h2,h3⟩|⟨h1,h2,h3⟩|⟨h1,h2,h3⟩<;>rcases Lc a2 b2 with⟨g1,g2,g3⟩|⟨g1,g2,g3⟩|⟨g1,g2,g3⟩<;>rcases Lc a3 b3 with⟨k1,k2,k3⟩|⟨k1,k2,k3⟩|⟨k1,k2,k3⟩<;>simp[h1,h2,h3,g1,g2,g3,k1,k2,k3]
def agD(hl:l.length<=100000000):Zy [] (some l)=some l:=by
 have fl:l.flatMap (λx=>[x])=l:=by
  clear hl
  induction l with
  |nil=>rfl
  |cons a l ih=>rw[P7,ih];rfl
 unfold Zy;show Il l _ [] _=_;refine(nB (λx=>[x]) 1 l [] (λx _=>⟨by simp,λs next hs=>by rw[app_1 (by omega) hs];rfl⟩) (by simp;omega)).trans ?_;rw[fl];rfl
def af3(hp:∀p∈l,Cj n p)(hn:n<=10000000000)(hl:l.length<=100000000):∃r,UF l=some r/\r.Pairwise Hq/\∀z,z∈r↔z∈l:=by
 have hO:MJ (λx:Q3×Q3=>Sc x.1 x.2) Hq l:=ais λx mx y my=>by
  obtain⟨v,h1,h2,_⟩:=nQ (hp x mx) (hp y my) hn;exact⟨v,h1,h2⟩
 obtain⟨s,s1,s2,s3⟩:=xk hO (by omega);have hs:∀p∈s,Cj n p:=λp mp=>hp p<|s2.mem_iff.1 mp
 obtain⟨r,r1,r2,r3⟩:=afx (e:=λx:Q3×Q3=>Ph x.1 x.2) (λa ma b mb=>by
  obtain⟨v,h1,_,h2⟩:=nQ (hs a ma) (hs b mb) hn;show bd (Sc a b) _=_;rw[h1];show some (decide<|v=0)=_
  congr 1
  exact GW.2 h2) s3<|hO.perm s2
 refine⟨r,?_,r2,λz=>by rw[r3,s2.mem_iff]⟩;unfold UF a7 jG jI;have e:Uu l=some l:=by
  unfold Uu;rw[show Nat.blt l.length 4000000000=true from Gx (by omega)];rfl
 rw[e];simp only[bd];rw[agD hl];simp only[bd];rw[s1];simp only;rw[r1]
def zN{a b:Q3}(h:Hq a b):a≠b:=λe=>fF a (by rw[<-e] at h;exact h)
theorem wI{L:A3 H3}{f:H3}(hf:f.1≠o3)(hl:∀p∈l,Ba L p/\val f p=0/\Cj n p)(hn:Cj n f.1)(h1:1<=n)(Io:n<=10000)(hlen:l.length<=100000000)(arL:∀r:A3 Q3,(∀z∈l,z∈r)->2<=r.length):
  ∃r,Qr l f.1=some r/\HX f.1 r/\∀z,z∈r↔z∈l:=by
 obtain⟨d,d1,d2,d3⟩:=af3 (λp mp=>(hl p mp).2.2) (by omega) hlen;have h2:=arL d λz mz=>(d3 z).2 mz
 cases d with
 |nil=>simp at h2
 |cons p t=>
  obtain⟨g1,g2⟩:=Ki.1 d2;obtain⟨vp,tp,np⟩:=hl p<|(d3 p).1 Dm
  have ht:0<t.length:=by rw[DF] at h2;omega
  have hlt:t.length<4611686018427387904:=by
   have:=MR (l:=p::t) (T:=l) (d2.imp λh=>zN h) λx mx=>(d3 x).1 mx
   rw[DF] at this;omega
  have hO:MJ (λx:Q3×Q3=>UJ x.1 x.2 f.1 p) (λx y=>0<C2 f.1 p x y) t:=ajg hf vp tp (λx mx=>by
   obtain⟨a,b,_⟩:=hl x<|(d3 x).1<|Bi _ mx
   exact⟨a,b,g1 x mx⟩) λx mx y my=>by
   obtain⟨_,_,nx⟩:=hl x<|(d3 x).1<|Bi _ mx
   obtain⟨_,_,ny⟩:=hl y<|(d3 y).1<|Bi _ my
   obtain⟨e1,k1⟩:=nP ny np h1 (by omega);obtain⟨e2,k2⟩:=nP nx np h1 (by omega);obtain⟨e3,k3⟩:=agJ k1 k2 (by omega) (by omega);obtain⟨e4,k4⟩:=xd (n:=16*(4*n)) ⟨FK hn.1 (by omega),FK hn.2.1 (by omega),FK hn.2.2 (by omega)⟩ k3 (by omega) (by omega);refine⟨_,by show UJ x y f.1 p=_;unfold UJ;rw[e1];simp only[bd];rw[e2];simp only[bd];rw[e3];simp only[bd];rw[e4];simp only[bd,IW];rfl,?_⟩;rw[Int.sign_neg_iff,dx];have:C2 f.1 p x y= -AG f.1 (AS (As y p)<|As x p):=by unfold C2 AG AS As;grind
   rw[this];grind
  obtain⟨s,s1,s2,s3⟩:=xk hO hlt;have hm:∀z,z∈p::s↔z∈l:=λz=>by rw[<-d3,Ag,Ag,s2.mem_iff]
  have hn:s.Nodup:=s2.nodup_iff.2<|g2.imp λh=>zN h
  refine⟨p::s,?_,agp hf (L:=L) (λx mx=>⟨(hl x<|(hm x).1 mx).1,(hl x<|(hm x).1 mx).2.1⟩) ?_,hm⟩
  ·unfold Qr;rw[d1];have e1:((t.length+1:Nat):Int)-1=(t.length:Int):=by omega
   simp only[bd,A8,List.getElem?_cons_zero,DF,e1,CA,List.take_length,List.drop_succ_cons,P4,show((1:Int)).toNat=1 from rfl];rw[show decide ((0:Nat)<=1)=true from rfl,Ab (show(1:Int)<((t.length+1:Nat):Int) by omega),Ab (show((t.length+1:Nat):Int)<=((t.length+1:Nat):Int) by omega)];simp only[Bool.and_self,gC];rw[s1];dsimp only;have l1:s.length=t.length:=s2.length_eq;rw[show Nat.blt 0 t.length=true from Gx ht,show Nat.ble (1+t.length) (t.length+1)=true from Gx (by omega),show Nat.beq s.length t.length=true from by rw[l1];exact Nat.beq_refl _];simp[P2]
  ·exact Ve (λ{a b} ma mb h=>h.1.resolve_left h.2)<|s3.and hn
def Jb(k:Nat)(L:A3 H3):Prop:=∀g∈L,Cj k g.1/\lv k g.2
def gH(h:Jb k M){p:Q3}(hp:Ba M p):Cj (35*k+2) p:=by
 have b:=als (k:=k) (λg mg=>h g mg) hp;exact⟨S7 b.1 (by omega) (by omega),S7 b.2.1 (by omega) (by omega),S7 b.2.2 (by omega) (by omega)⟩
def Pv{m:Nat}{v:Q3}(h:Cj m v)(hm:m<=n):Cj n v:=⟨FK h.1 hm,FK h.2.1 hm,FK h.2.2 hm⟩
def ahU(h:H3)(l:A3 Q3):(F8 h l).length<=2*l.length:=by
 have:∀s:A3 (Q3×Q3),(s.flatMap<|LQ h).length<=2*s.length:=λs=>by
  induction s with
  |nil=>simp
  |cons x s ih=>
   have hx:(LQ h x).length<=2:=by
    unfold LQ;cases decide (val h x.1<=0)<;>cases Fw (val h x.1) (val h x.2)<;>simp
   rw[P7,ES,DF];omega
 have k:=this<|IV l
 have e:(IV l).length=l.length:=by rw[<-bj,dD]
 unfold F8;omega
def sign_neg(x:Rat):decide (x.num.sign<0)=decide (x<0):=GW.2 (by rw[Int.sign_neg_iff,dx])
def Xz(x:Rat):decide (0<x.num.sign)=decide (0<x):=GW.2 (by rw[Int.sign_pos_iff,Y3])
def tR(h:H3)(A:A3 D7)(f:D7):NS h (A++[f])=NS h A++(bif decide (2<(F8 h f.2).length) then [(f.1,F8 h f.2)] else []):=by
 unfold NS;rw[List.filterMap_append];cases hd:decide (2<(F8 h f.2).length)<;>simp[hd]
def ajJ(I:C9 S M)(hl:M.length<=60){f:D7}(mf:f∈S):f.2.length<=216000:=by
 obtain⟨_,g2,g3,g4⟩:=I.Ea f mf;have:=nO (g2.nodup g3) λp mp=>((g4 p).1 mp).1
 have:=Gv hl<|Gv hl hl
 omega
theorem Yd.uN{h:H3}(I:C9 S M)(hM:Jb k (h::M))(hk:k<=280)(hlen:M.length<=60)(hz:h.1≠o3)(hn:∀a∈h::M,∀b∈h::M,QW a b->a=b):
  Yd (λr:A3 D7×Bool=>(r.2=true/\C9 r.1 (h::M))\/(r.2=false/\ ¬ ∃o,∀k∈h::M,val k o<0)) (Qm S h):=by
 have hM':Jb k M:=λg mg=>hM g<|Bi _ mg
 have np:∀f∈S,∀p∈f.2,Cj (35*k+2) p:=λf mf p mp=>gH hM' (((I.Ea f mf).2.2.2 p).1 mp).1
 have nc:∀f∈S,∀p∈F8 h f.2,Cj (35*k+2) p:=λf mf p mp=>gH hM ((I.VC h f mf p).1 mp).1
 have hh:Cj (35*k+2) h.1/\lv (35*k+2) h.2:=⟨Pv (hM h Dm).1 (by omega),FK (hM h Dm).2 (by omega)⟩;have hS:=I.len;have fl:∀f∈S,f.2.length<=216000:=λf mf=>ajJ I hlen mf
 unfold Qm;refine Yd.each S (λ(s:Bool×Bool) i=>(s.1,s.2,i)) (λA s=>(s.1=true↔∃f∈A,∃p∈f.2,val h p<0)/\(s.2=true↔∃f∈A,∃p∈f.2,0<val h p)) (λA f C s k1 hL hP next=>?_) (λs k1 hP=>?_) (s0:=(false,false)) (by simp) (by omega)
 ·dsimp only;rw[Cg hL,BM];refine Yd.bd (Bq hL) ?_;have mf:=at_mem hL;refine Yd.each f.2 (λ(s:Bool×Bool) i=>(s.1,s.2,i)) (λB t=>(t.1=true↔(∃f∈A,∃p∈f.2,val h p<0)\/∃p∈B,val h p<0)/\(t.2=true↔(∃f∈A,∃p∈f.2,0<val h p)\/∃p∈B,0<val h p)) (λB p D t k2 hL' hP' next'=>?_) (λt k2 hP'=>?_) (s0:=s) (by simpa using hP) (by have:=fl f mf;omega)
  ·dsimp only;rw[Cg hL',BM];refine Yd.jn (λt:Bool×Bool=>(t.1=true↔(∃f∈A,∃p∈f.2,val h p<0)\/∃q∈B++[p],val h q<0)/\(t.2=true↔(∃f∈A,∃p∈f.2,0<val h p)\/∃q∈B++[p],0<val h q)) (λt ht=>Yd.bd (CP hL' (by have:=fl f mf;omega))<|next' t ht) λk3 hk3=>?_
   refine Yd.bd (Bq hL') (Yd.bd (cg hh (np f mf p<|at_mem hL') (by omega) (by omega)).1<|Yd.bd (x:=(val h p).num.sign) rfl ?_);rw[sign_neg,Xz];simp only[BR,Be,YV,exists_or,exists_eq_left] at hk3;refine Yd.cond (λhc=>hk3 _ ?_) λhc=>Yd.cond (λFm=>hk3 _ ?_) λFm=>hk3 _ ?_
   ·have hc:=AZ hc;have Dy: ¬0<val h p:=by grind
    simp only[hc,Dy,or_true,or_false,true_iff];exact⟨trivial,hP'.2⟩
   ·have hc:=Ay hc;have Fm:=AZ Fm;simp only[hc,Fm,or_true,or_false];exact⟨hP'.1,by simp⟩
   ·have hc:=Ay hc;have Fm:=Ay Fm;simp only[hc,Fm,or_false];exact hP'
  ·dsimp only;rw[Ce,B8];refine Yd.bd (CP hL (by omega))<|next t ?_
   simpa[BR,YV,exists_or] using hP'
 ·dsimp only;rw[Ce,B8];refine Yd.cond (λhc=>Yd.mk<| .inr ⟨rfl,I.empty λf mf p mp=>?_⟩) λhc=>Yd.cond (λFm=>Yd.mk<| .inl ⟨rfl,I.out hz hn λf mf p mp=>?_⟩) λFm=>?_
  ·refine CC λg=>?_
   rw[hP.1.2 ⟨f,mf,p,mp,by grind⟩] at hc;cases hc
  ·refine CC λg=>?_
   rw[hP.2.2 ⟨f,mf,p,mp,by grind⟩] at Fm;cases Fm
  ·obtain⟨f0,m0,p0,q0,h0⟩:=hP.1.1 (by simpa using hc);obtain⟨f1,m1,p1,q1,h1⟩:=hP.2.1 (by simpa using Fm);obtain⟨_,c1,c2⟩:=I.cut hz m0 q0 h0 m1 q1 h1;refine Yd.each S (λ(s:A3 Q3×A3 D7) i=>(s.1,s.2,i)) (λA s=>s.2=NS h A/\(∀p,p∈s.1↔(∃f∈A,p∈F8 h f.2)/\val h p=0)/\s.1.length<=A.length*432000) (λA f C s k1 hL hP next=>?_) (λs k1 hP=>?_) (s0:=([],[])) (by simp[NS]) (by omega)
   ·dsimp only;have mf:=at_mem hL;have cl:=ahU h f.2;have fl':=fl f mf;have al:=Dn hL;have fal:(NS h A).length<=A.length:=List.length_filterMap_le _ _;rw[Cg hL,BM];refine Yd.jn (λt:A3 Q3×A3 D7=>t.2=NS h (A++[f])/\(∀p,p∈t.1↔(∃g∈A++[f],p∈F8 h g.2)/\val h p=0)/\t.1.length<=(A++[f]).length*432000) (λt ht=>Yd.bd (CP hL (by omega))<|next t ht) λk3 hk3=>?_
    refine Yd.bd (Bq hL) (Yd.bd (ahT (by omega) hh (np f mf) (by omega) (by omega)) ?_);have mc:=nc f mf;refine Yd.each (F8 h f.2) (λ(t:A3 Q3) i=>(t,i)) (λB t=>(∀p,p∈t↔((∃f∈A,p∈F8 h f.2)\/p∈B)/\val h p=0)/\t.length<=A.length*432000+B.length) (λB p D t k2 hL' hP' next'=>?_) (λt k2 hP'=>?_) (s0:=s.1) (by simpa using hP.2) (by omega)
    ·dsimp only;have bl:=Dn hL';rw[Cg hL',BM];refine Yd.jn (λt:A3 Q3=>(∀q,q∈t↔((∃f∈A,q∈F8 h f.2)\/q∈B++[p])/\val h q=0)/\t.length<=A.length*432000+(B++[p]).length) (λt ht=>Yd.bd (CP hL' (by omega))<|next' t ht) λk4 hk4=>?_
     refine Yd.bd (Bq hL') (Yd.bd (cg hh (mc p<|at_mem hL') (by omega) (by omega)).1<|Yd.bd (x:=(val h p).num.sign) rfl ?_);rw[sign_zero];refine Yd.cond (λhc=>Yd.bd (app_1 (by omega) (by omega)) (hk4 _ ⟨λq=>?_,by have:=hP'.2;simp;omega⟩)) λhc=>hk4 _ ⟨λq=>?_,by have:=hP'.2;simp;omega⟩
     ·have hc:=AZ hc;rw[BR,BR,hP'.1,Be];constructor
      ·rintro(⟨a,b⟩|rfl)
       ·exact⟨a.imp id .inl,b⟩
       ·exact⟨.inr<| .inr rfl,hc⟩
      ·rintro⟨a|a|a,b⟩
       ·exact .inl ⟨.inl a,b⟩
       ·exact .inl ⟨.inr a,b⟩
       ·exact .inr a
     ·have hc:=Ay hc;rw[BR,hP'.1,Be];constructor
      ·rintro⟨a,b⟩;exact⟨a.imp id .inl,b⟩
      ·rintro⟨a|a|rfl,b⟩
       ·exact⟨.inl a,b⟩
       ·exact⟨.inr a,b⟩
       ·exact absurd b hc
    ·dsimp only;rw[Ce,B8];have g1:∀p,p∈t↔(∃g∈A++[f],p∈F8 h g.2)/\val h p=0:=λp=>by
      rw[hP'.1];simp[BR,YV,exists_or]
     have g2:t.length<=(A++[f]).length*432000:=by have:=hP'.2;simp;omega
     have hd:decide (2<((F8 h f.2).length:Int))=decide (2<(F8 h f.2).length):=GW.2 (by omega);rw[hd];refine Yd.cond (λhc=>?_) λhc=>hk3 _ ⟨?_,g1,g2⟩
     ·rw[hP.1];exact Yd.bd (app_1 (by omega) (by omega)) (hk3 _ ⟨by rw[tR,hc];rfl,g1,g2⟩)
     ·rw[tR,hc,hP.1];simp
   ·dsimp only;rw[Ce,B8];obtain⟨r,r1,r2,r3⟩:=wI (L:=h::M) hz (l:=s.1) (n:=35*k+2) (λp mp=>by
     obtain⟨⟨f,mf,mp'⟩,hv⟩:=(hP.2.1 p).1 mp;exact⟨((I.VC h f mf p).1 mp').1,hv,nc f mf p mp'⟩) hh.1 (by omega) (by omega) (by have:=hP.2.2;omega) λl hl=>by
      have:=c2 l λp vp tp=>hl p<|(hP.2.1 p).2<|(c1 p).2 ⟨vp,tp⟩
      omega
    have fsl:(NS h S).length<=S.length:=List.length_filterMap_le _ _;rw[hP.1];refine Yd.bd r1 (Yd.bd (app_1 (by omega) (by omega))<|Yd.mk<| .inl ⟨rfl,?_⟩);exact I.clip hz hn m0 q0 h0 m1 q1 h1 r2 λp=>by rw[r3,hP.2.1]
def Yd.si{L:A3 H3}(I:C9 S M)(hM:Jb k (L++M))(hk:k<=280)(hlen:L.length+M.length<=60)(hz:∀h∈L,h.1≠o3)(hn:∀a∈L++M,∀b∈L++M,QW a b->a=b):
  Yd (λr:A3 D7×Bool=>(r.2=true/\∃N,(∀h,h∈N↔h∈L\/h∈M)/\N.length=L.length+M.length/\C9 r.1 N)\/(r.2=false/\ ¬ ∃o,∀k∈L++M,val k o<0)) (Qk S L):=by
 unfold Qk;refine Yd.each L (λ(s:A3 D7) i=>(s,i)) (λA s=>∃N,(∀h,h∈N↔h∈A\/h∈M)/\N.length=A.length+M.length/\C9 s N) (λA h C s k1 hL hP next=>?_) (λs k1 hP=>?_) (s0:=S) ⟨M,by simp,by simp,I⟩ (by omega)
 ·obtain⟨N,n1,n2,n3⟩:=hP;have al:=Dn hL;dsimp only;rw[Cg hL,BM];refine Yd.bd (Bq hL) ?_;have sub:∀g∈h::N,g∈L++M:=λg mg=>by
   rcases Ag.1 mg with e|mg
   ·rw[e];exact G3 _<|at_mem hL
   ·rcases(n1 g).1 mg with m|m
    ·exact G3 _ (by rw[hL];exact G3 _ m)
    ·exact PA _ m
  refine Yd.Ak (Yd.uN (k:=k) n3 (λg mg=>hM g<|sub g mg) hk (by omega) (hz h<|at_mem hL) λa ma b mb=>hn a (sub a ma) b<|sub b mb) λr hr=>?_
  rcases hr with⟨e,hr⟩|⟨e,hr⟩
  ·rw[e,Bool.not_true,B8];refine Yd.bd (CP hL (by omega)) (next _ ⟨h::N,λg=>?_,by simp;omega,hr⟩);rw[Ag,n1];simp only[BR,Be];constructor
   ·rintro(a|a|a)
    ·exact .inl<| .inr a
    ·exact .inl<| .inl a
    ·exact .inr a
   ·rintro((a|a)|a)
    ·exact .inr<| .inl a
    ·exact .inl a
    ·exact .inr<| .inr a
  ·rw[e,fM,BM];exact Yd.mk<| .inr ⟨rfl,λ⟨o,ho⟩=>hr ⟨o,λg mg=>ho g<|sub g mg⟩⟩
 ·dsimp only;rw[Ce,B8];exact Yd.mk<| .inl ⟨rfl,hP⟩
def NH{d:Int}(h:d=1\/d= -1):qF d=some (d:Rat):=by rcases h with rfl|rfl<;>rfl
def Jy{d:Int}(h:d=1\/d= -1)(n:Nat):lv n (d:Rat):=by
 have e:(10:Nat)^0<=10^n:=Kl (by omega) (by omega);have:1<=10^n:=e;rcases h with rfl|rfl<;>exact⟨by show 1<=1*10^n;omega,by show 1<=10^n;omega⟩
def im:Mz 0 0 0=some ((0:Rat),(0:Rat),(0:Rat)):=A4
def Uy{a:Rat}(ha:0<a)(hk:Jb k (D5 a))(hk2:k<=280){N:Q3}(hN:(N,a)∈D5 a)(hz:N≠o3){f:Rat->Rat->Q3}
 (hf:∀p,(∃x y,(x=a\/x= -a)/\(y=a\/y= -a)/\p=f x y)↔Ba (D5 a) p/\val (N,a) p=0)(hne:f a a≠f (-a) (-a))(hl:l=NW a f):
  ∃r,Qr l N=some r/\HX N r/\∀p,p∈r↔Ba (D5 a) p/\val (N,a) p=0:=by
 subst hl;have hm:∀p,p∈NW a f↔Ba (D5 a) p/\val (N,a) p=0:=λp=>by rw[wK,hf]
 obtain⟨r,r1,r2,r3⟩:=wI (L:=D5 a) (f:=(N,a)) hz (l:=NW a f) (n:=35*k+2) (λp mp=>⟨((hm p).1 mp).1,((hm p).1 mp).2,gH hk ((hm p).1 mp).1⟩) (Pv (hk _ hN).1 (by omega)) (by omega) (by omega) (by unfold NW;simp) λr hr=>by
  have:=MR (l:=[f a a,f (-a)<| -a]) (T:=r) (by simp[hne]) (by
   intro x mx;refine hr x<|wK.2 ?_
   rcases Ag.1 mx with e|mx
   ·exact⟨a,a,.inl rfl,.inl rfl,e⟩
   ·exact⟨-a,-a,.inr rfl,.inr rfl,Be.1 mx⟩)
  exact this
 exact⟨r,r1,r2,λp=>by rw[r3,hm]⟩
def cpt(a:Rat)(m:Nat)(s:Int)(d:Int×Int):Q3:=match m with
 |0=>((s:Rat)*a,(d.1:Rat)*a,(d.2:Rat)*a)
 |1=>((d.2:Rat)*a,(s:Rat)*a,(d.1:Rat)*a)
 |_=>((d.1:Rat)*a,(d.2:Rat)*a,(s:Rat)*a)
abbrev four:A3 (Int×Int):=[((-1),(-1)),((-1),1),(1,(-1)),(1,1)]
def alY{d:Int×Int}(h:d∈four):(d.1=1\/d.1= -1)/\(d.2=1\/d.2= -1):=by
 simp[four] at h;rcases h with rfl|rfl|rfl|rfl<;>simp
theorem Vx(a:Rat):((1:Int):Rat)*a=a:=by rw[show((1:Int):Rat)=1 from rfl];grind
theorem Vw(a:Rat):((-1:Int):Rat)*a= -a:=by rw[show((-1:Int):Rat)= -1 from by kernel_rfl];grind
theorem alc{a:Rat}(ha:0<a)(h1:1<=k)(hk:lv k a)(hk2:k<=280):Yd (λS=>C9 S<|D5 a) (XV a):=by
 have JI:Jb k (D5 a):=by
  have o:=Jy (.inl rfl:(1:Int)=1\/(1:Int)= -1) k;have m:=Jy (.inr rfl:(-1:Int)=1\/(-1:Int)= -1) k;have z:lv k (0:Rat):=⟨F2 _,o.2⟩;exact Lv.2 ⟨⟨⟨m,z,z⟩,hk⟩,⟨⟨o,z,z⟩,hk⟩,⟨⟨z,m,z⟩,hk⟩,⟨⟨z,o,z⟩,hk⟩,⟨⟨z,z,m⟩,hk⟩,⟨z,z,o⟩,hk⟩
 unfold XV;refine Yd.each ([0,1,2]:A3 Nat) (λ(s:A3 D7) i=>(s,i)) (λA s=>s.map Prod.fst=(D5 a).take (2*A.length)/\∀f∈s,HX f.1.1 f.2/\∀p,p∈f.2↔Ba (D5 a) p/\val f.1 p=0) (λA i C s k1 hL hP next=>?_) (λs k1 hP=>?_) (s0:=[]) ⟨rfl,by simp⟩ (by simp)
 ·have hm:=Dn hL;rw[show([0,1,2]:A3 Nat).length=3 from rfl] at hm;rw[ES] at next
  generalize A.length=m at*
  clear hL;dsimp only;rw[Ab (show(m:Int)<3 by omega),BM];refine Yd.each ([(-1),1]:A3 Int) (λ(t:A3 D7) j=>(t,j)) (λB t=>t.map Prod.fst=(D5 a).take (2*m+B.length)/\∀f∈t,HX f.1.1 f.2/\∀p,p∈f.2↔Ba (D5 a) p/\val f.1 p=0) (λB sg C t k2 hL hP FN=>?_) (λt k2 hP=>?_) (s0:=s) (by simpa using hP) (by simp)
  ·dsimp only;rw[Cg hL,BM];have hsg:sg=1\/sg= -1:=by have:=at_mem hL;simp at this;omega
   have hb:=Dn hL;rw[show([(-1),1]:A3 Int).length=2 from rfl] at hb;have hbs:sg=2*(B.length:Int)-1:=by
    rcases B with _|⟨b0,_|⟨b1,B⟩⟩
    ·simp at hL;simp;omega
    ·simp at hL;simp;omega
    ·simp at hb
   have tl:t.length<=6:=by
    rw[<-Bw Prod.fst,hP.1];simp[D5];omega
   refine Yd.bd (Bq hL)<|Yd.bd im<|Yd.bd (NH hsg) ?_
   have fin:∀(N:Q3) (l:A3 Q3),(∃r,Qr l N=some r/\HX N r/\∀p,p∈r↔Ba (D5 a) p/\val (N,a) p=0)->(D5 a)[2*m+B.length]? =some (N,a)->Yd (λS=>C9 S<|D5 a) (bd (Qr l N) λG7=>bd (BC 280 t ([((N,a),G7)]:A3 D7)) λHI=>bd (AE<|(B.length:Int)+1) λJ9=>k2 (HI,J9)):=by
    rintro N l ⟨r,r1,r2,r3⟩ hix;refine Yd.bd r1 (Yd.bd (app_1 (by omega) (by omega)) (Yd.bd (CP hL (by simp))<|FN _ ⟨?_,λf mf=>?_⟩))
    ·rw[LJ,hP.1,ES,<-KY];show _=List.take (2*m+B.length+1) _;rw[List.take_add_one,hix];rfl
    ·rcases BR.1 mf with mf|mf
     ·exact hP.2 f mf
     ·rw[Be.1 mf];exact⟨r2,r3⟩
   have hm:m=0\/m=1\/m=2:=by omega
   refine Yd.bd (x:=(0:Rat)) (by rcases hm with rfl|rfl|rfl<;>rfl) ?_;refine Yd.each four (λ(u:A3 Q3) j=>(u,j)) (λD u=>u=D.map (cpt a m sg)) (λD d E u k3 hL3 hP3 NO=>?_) (λu k3 hP3=>?_) (s0:=[]) rfl (by simp[four])
   ·dsimp only;rw[Cg hL3,BM];obtain⟨d1,d2⟩:=alY<|at_mem hL3
    have ul:u.length<=100000000:=by rw[hP3,Bw];have:=Dn hL3;simp at this;omega
    rcases hm with rfl|rfl|rfl
    ·exact Yd.bd (Bq hL3) (Yd.bd (im) (Yd.bd ((rfl)) (Yd.bd ((rfl)) (Yd.bd ((rfl)) (Yd.bd ((rfl)) (Yd.bd (NH hsg) (Yd.bd ((I3 (Jy hsg k) hk h1 (by omega)).1) (Yd.bd (NH d1) (Yd.bd ((I3 (Jy d1 k) hk h1 (by omega)).1) (Yd.bd (NH d2) (Yd.bd ((I3 (Jy d2 k) hk h1 (by omega)).1) (Yd.bd ((rfl)) (Yd.bd ((rfl)) (Yd.bd ((rfl)) (Yd.bd (app_1 (by omega) ul) (Yd.bd (CP hL3 (by simp)) (NO _ (by rw[hP3,LJ];rfl))))))))))))))))))
    ·exact Yd.bd (Bq hL3) (Yd.bd (im) (Yd.bd ((rfl)) (Yd.bd ((rfl)) (Yd.bd ((rfl)) (Yd.bd ((rfl)) (Yd.bd (NH hsg) (Yd.bd ((I3 (Jy hsg k) hk h1 (by omega)).1) (Yd.bd (NH d1) (Yd.bd ((I3 (Jy d1 k) hk h1 (by omega)).1) (Yd.bd (NH d2) (Yd.bd ((I3 (Jy d2 k) hk h1 (by omega)).1) (Yd.bd ((rfl)) (Yd.bd ((rfl)) (Yd.bd ((rfl)) (Yd.bd (app_1 (by omega) ul) (Yd.bd (CP hL3 (by simp)) (NO _ (by rw[hP3,LJ];rfl))))))))))))))))))
    ·exact Yd.bd (Bq hL3) (Yd.bd (im) (Yd.bd ((rfl)) (Yd.bd ((rfl)) (Yd.bd ((rfl)) (Yd.bd ((rfl)) (Yd.bd (NH hsg) (Yd.bd ((I3 (Jy hsg k) hk h1 (by omega)).1) (Yd.bd (NH d1) (Yd.bd ((I3 (Jy d1 k) hk h1 (by omega)).1) (Yd.bd (NH d2) (Yd.bd ((I3 (Jy d2 k) hk h1 (by omega)).1) (Yd.bd ((rfl)) (Yd.bd ((rfl)) (Yd.bd ((rfl)) (Yd.bd (app_1 (by omega) ul) (Yd.bd (CP hL3 (by simp)) (NO _ (by rw[hP3,LJ];rfl))))))))))))))))))
   ·dsimp only;rw[Ce,B8,hP3];have ne:a≠ -a:=by grind
    rcases hm with rfl|rfl|rfl<;>rcases hsg with rfl|rfl
    ·exact fin _ _ (Uy (N:=(1,0,0)) (f:=λx y=>(a,x,y)) ha JI hk2 (by simp[D5]) (λe=>by simp only[o3,LC] at e;grind) (λp=>by rw[T4 ha,O8];exact⟨λ⟨x,y,hx,hy,e⟩=>by subst e;grind,λh=>⟨p.2.1,p.2.2,by grind,by grind,Prod.ext (by dsimp only<;>grind) (Prod.ext (by dsimp only<;>grind) (by dsimp only<;>grind))⟩⟩) (λe=>by simp[Prod.ext_iff] at e;grind) (by simp[cpt,NW,Vx,Vw]<;>grind)) (by rw[show B.length=1 by omega];rfl)
    ·exact fin _ _ (Uy (N:=(-1,0,0)) (f:=λx y=>(-a,x,y)) ha JI hk2 (by simp[D5]) (λe=>by simp only[o3,LC] at e;grind) (λp=>by rw[T4 ha,O9];exact⟨λ⟨x,y,hx,hy,e⟩=>by subst e;grind,λh=>⟨p.2.1,p.2.2,by grind,by grind,Prod.ext (by dsimp only<;>grind) (Prod.ext (by dsimp only<;>grind) (by dsimp only<;>grind))⟩⟩) (λe=>by simp[Prod.ext_iff] at e;grind) (by simp[cpt,NW,Vx,Vw]<;>grind)) (by rw[show B.length=0 by omega];rfl)
    ·exact fin _ _ (Uy (N:=(0,1,0)) (f:=λx y=>(y,a,x)) ha JI hk2 (by simp[D5]) (λe=>by simp only[o3,LC] at e;grind) (λp=>by rw[T4 ha,O6];exact⟨λ⟨x,y,hx,hy,e⟩=>by subst e;grind,λh=>⟨p.2.2,p.1,by grind,by grind,Prod.ext (by dsimp only<;>grind) (Prod.ext (by dsimp only<;>grind) (by dsimp only<;>grind))⟩⟩) (λe=>by simp[Prod.ext_iff] at e;grind) (by simp[cpt,NW,Vx,Vw]<;>grind)) (by rw[show B.length=1 by omega];rfl)
    ·exact fin _ _ (Uy (N:=(0,-1,0)) (f:=λx y=>(y,-a,x)) ha JI hk2 (by simp[D5]) (λe=>by simp only[o3,LC] at e;grind) (λp=>by rw[T4 ha,O7];exact⟨λ⟨x,y,hx,hy,e⟩=>by subst e;grind,λh=>⟨p.2.2,p.1,by grind,by grind,Prod.ext (by dsimp only<;>grind) (Prod.ext (by dsimp only<;>grind) (by dsimp only<;>grind))⟩⟩) (λe=>by simp[Prod.ext_iff] at e;grind) (by simp[cpt,NW,Vx,Vw]<;>grind)) (by rw[show B.length=0 by omega];rfl)
    ·exact fin _ _ (Uy (N:=(0,0,1)) (f:=λx y=>(x,y,a)) ha JI hk2 (by simp[D5]) (λe=>by simp only[o3,LC] at e;grind) (λp=>by rw[T4 ha,O4];exact⟨λ⟨x,y,hx,hy,e⟩=>by subst e;grind,λh=>⟨p.1,p.2.1,by grind,by grind,Prod.ext (by dsimp only<;>grind) (Prod.ext (by dsimp only<;>grind) (by dsimp only<;>grind))⟩⟩) (λe=>by simp[Prod.ext_iff] at e;grind) (by simp[cpt,NW,Vx,Vw]<;>grind)) (by rw[show B.length=1 by omega];rfl)
    ·exact fin _ _ (Uy (N:=(0,0,-1)) (f:=λx y=>(x,y,-a)) ha JI hk2 (by simp[D5]) (λe=>by simp only[o3,LC] at e;grind) (λp=>by rw[T4 ha,O5];exact⟨λ⟨x,y,hx,hy,e⟩=>by subst e;grind,λh=>⟨p.1,p.2.1,by grind,by grind,Prod.ext (by dsimp only<;>grind) (Prod.ext (by dsimp only<;>grind) (by dsimp only<;>grind))⟩⟩) (λe=>by simp[Prod.ext_iff] at e;grind) (by simp[cpt,NW,Vx,Vw]<;>grind)) (by rw[show B.length=0 by omega];rfl)
  ·dsimp only;rw[Ce,B8];refine Yd.bd (x:=((m+1:Nat):Int)) (by rw[Ad ⟨by omega,by omega⟩];rfl)<|next t ?_
   have:2*(m+[i].length)=2*m+([(-1),1]:A3 Int).length:=by simp;omega
   rw[this];exact hP
 ·dsimp only;rw[show decide (((([0,1,2]:A3 Nat).length:Nat):Int)<3)=false from rfl,B8];exact Yd.mk<|ahQ ha hP.1 hP.2
def IZ(n:Q3):Prop:=∃x y z:Int,n=((x:Rat),(y:Rat),(z:Rat))/\Nat.gcd (Nat.gcd x.natAbs y.natAbs) z.natAbs=1
def IZ.II{n:Q3}:IZ n->NY n|⟨x,y,z,h,_⟩=>by rw[h];exact⟨⟨x,rfl⟩,⟨y,rfl⟩,⟨z,rfl⟩⟩
def pL{x:Int}(h:(x:Rat)=0):x=0:=by
 have:=congrArg Rat.num h;rwa [VQ] at this
def IZ.nz{n:Q3}(p:IZ n):n≠o3:=λe=>by
 obtain⟨x,y,z,h,g⟩:=p;rw[h] at e;simp only[o3,LC] at e;rw[pL e.1,pL e.2.1,pL e.2.2] at g;cases g
end
end Trn
