/- Part of SolidCuts. -/
import Derived.Test.YtieipfegkfhllaaGreatDoorLa
set_option maxRecDepth 100000
set_option maxHeartbeats 20000000
set_option linter.all false
open Go Go.RowKit Go.Proofs Go.Proofs.Tryz
namespace Trn
section
variable{n m:Nat}{q:Rat}{c d:Nat}{z:Int}{x:Rat}{k:Nat}{p:Bool×A3 Int}{l u:AD}{y:Rat}{neg:Bool}{core:AD}{a:Q3}{s:AD}{b:Q3}
theorem akB{ρ:Type}{R:ρ->Prop}{u v:A3 Int}{j:Nat}{K:A3 Int×Int->AA ρ}(hu:Cc u)(hv:Cc v)(La:v.length=k+2)(hj:j+(k+3)<=u.length)(hlen:u.length<439804651)(X4:BT<=2*v.getD (k+1) 0)(hlt:AK (u.drop<|j+1)<AK v)
 (h:∀l t,Cc l->l.length=u.length->l.take j=u.take j->0<=t->t<BT->AK (l.drop j)=AK (u.drop j)-t*AK v->AK (l.drop j)<AK v->Yd R (K (l,t))):Yd R (bd (Xv u v (j:Int)) λHe=>lp 18446744073709551616 (λ(k46:(A3 Int×Int×Int)->AA ρ) (DA:A3 Int×Int×Int)=>cond (decide<|DA.2.2<(v.length:Int)) (bd (AB v DA.2.2) λIt=>bd (AH<|He*It) λHu=>bd (AH<|Hu+DA.2.1) λGY=>bd (AH<|DA.2.2+(j:Int)) λHv=>bd (AB DA.1 Hv) λJs=>bd (AB DA.1 Hv) λJR=>bd (Fs GY (1000000000:Int)) λKq=>bd (AH<|JR-Kq) λIT=>bd (Gh GY (1000000000:Int)) λMe=>jn (λ(s66:Int×Int)=>bd (AH<|DA.2.2+(j:Int)) λJr=>bd (AB DA.1 Jr) λx75=>bd (AB DA.1 Jr) λO3=>bd (AH<|DA.2.2+(1:Int)) λx79=>k46 ((DA.1.set (Jr).toNat s66.2),s66.1,x79)) λk67=>cond (decide<|IT<(0:Int)) (bd (AH<|IT+(1000000000:Int)) λx69=>bd (AH<|Me+(1:Int)) λx71=>k67 (x71,x69)) (k67 (Me,IT))) (bd (AH<|(j:Int)+(v.length:Int)) λKp=>bd (AH<|(j:Int)+(v.length:Int)) λx83=>bd (AB DA.1 x83) λx85=>bd (AB DA.1 x83) λx87=>bd (AH<|x87-DA.2.1) λKJ=>bd (AB DA.1 Kp) λx91=>bd (AB DA.1 Kp) λx93=>bd (AH<|(j:Int)+(v.length:Int)) λx95=>bd (AB (DA.1.set (Kp).toNat KJ) x95) λx97=>bd (AB (DA.1.set (Kp).toNat KJ) x95) λx99=>jn (λ(Sk:A3 Int×Int)=>K Sk) λWw=>cond (decide<|x99<(0:Int)) (bd (AH<|He-(1:Int)) λji=>lp 18446744073709551616 (λ(ar:(A3 Int×Int×Int)->AA ρ) (DW:A3 Int×Int×Int)=>cond (decide<|DW.2.2<(v.length:Int)) (bd (AH<|DW.2.2+(j:Int)) λIJ=>bd (AB DW.1 IJ) λLR=>bd (AB DW.1 IJ) λKh=>bd (AB v DW.2.2) λN4=>bd (AH<|Kh+N4) λNr=>bd (AH<|Nr+DW.2.1) λN6=>bd (AH<|DW.2.2+(j:Int)) λLz=>bd (Fs N6 (1000000000:Int)) λQz=>bd (AB DW.1 Lz) λX1=>bd (AB DW.1 Lz) λX0=>bd (Gh N6 (1000000000:Int)) λWz=>bd (AH<|DW.2.2+(1:Int)) λWy=>ar ((DW.1.set (Lz).toNat Qz),Wz,Wy)) (bd (AH<|(j:Int)+(v.length:Int)) λSe=>bd (AH<|(j:Int)+(v.length:Int)) λWx=>bd (AB DW.1 Wx) λac9=>bd (AB DW.1 Wx) λjh=>bd (AH<|jh+DW.2.1) λjg=>bd (AB DW.1 Se) λac8=>bd (AB DW.1 Se) λac7=>Ww ((DW.1.set (Se).toNat jg),ji))) ((DA.1.set (Kp).toNat KJ),(0:Int),(0:Int))) (Ww ((DA.1.set (Kp).toNat KJ),He)))) (u,(0:Int),(0:Int))):=by
 have hVb:=Ey hv;rw[La] at hVb;have hP:=NT<|k+2
 have eW:AK (u.drop j)=u.getD j 0+BT*AK (u.drop<|j+1):=by rw[OE A4,Mk]
 have hj0:=HR hu j;have hW0:0<=AK (u.drop j):=(Ey<|Tg hu j).1;have au3:AK (u.drop j)<BT*AK v:=AL;have hzero:AK ((u.drop j).drop<|k+3)=0:=wN (Tg hu j) (by rw[Ih];omega) (by
  rw[K3];have:BT*AK v<BT*BJ (k+2):=by unfold BT;omega
  omega)
 have eWw:AK (u.drop j)=AK ((u.drop j).take<|k+3):=by have:=Ra (u.drop j) (k+3) (by rw[Ih];omega);rw[hzero] at this;omega
 have hz:∀m,j+(k+3)<=m->u.getD m 0=0:=λm hm=>by have:=aeR (l:=u.drop j) hzero (Tg hu j) (m:=m-j) A4;rwa [Wp,show j+(m-j)=m by omega] at this
 have avi:AK ((u.drop j).take<|k+3)=AK ((u.drop j).take<|k+2)+BJ (k+2)*u.getD (j+(k+2)) 0:=by rw[IZ,Wp]
 refine Ap (aik (k:=k) (j:=j) hu hv La hj A4 X4 rfl (by rw[<-eWw];exact au3)) ?_;rintro t ⟨⟨ht0,ht1⟩,Fi,hup⟩;rw[<-eWw] at Fi hup;refine ah6 (j:=j) (n:=k+2) hu hv La A4 A4 ⟨ht0,ht1⟩ ?_;intro u2 b g1 g2 g3 g4 g5 g6;dsimp;have en:((j:Int)+(v.length:Int))=((j+(k+2):Nat):Int):=A4;rw[en];have gt:u2.getD (j+(k+2)) 0=u.getD (j+(k+2)) 0:=g4 _<|BK _
 have hb2:=HR hu<|j+(k+2)
 have i2:AB u2 ((j+(k+2):Nat):Int)=some (u.getD (j+(k+2)) 0):=by rw[<-gt];exact Bh A4
 have hS:=Ey<|MF (Tg g1 j)<|k+2
 rw[E1,Ih,EU A4] at hS;refine A6 B9 (A6 B9 (A6 i2 (A6 i2 (A6 (EW ⟨by unfold BT at*;omega,by unfold BT at*;omega⟩)<|A6 i2<|A6 i2<|A6 B9 ?_))));rw[Cg];have i3:AB (u2.set (j+(k+2))<|u.getD (j+(k+2)) 0-b) ((j+(k+2):Nat):Int)=some (u.getD (j+(k+2)) 0-b):=by rw[Bh (by rw[LH];omega),J9 A4]
 refine A6 i3<|A6 i3 ?_
 have eD:AK (u.drop j)-t*AK v=AK ((u2.drop j).take<|k+2)+BJ (k+2)*(u.getD (j+(k+2)) 0-b):=AL;rw[ZD,JD] at Fi;rw[IA,JD] at hup
 generalize u.getD (j+(k+2)) 0-b=y at*
 have hy1: -1<=y:=by
  rcases(show -1<=y\/y<= -2 by omega) with h|h
  .exact h
  .have:=Eu h (ET hP);omega
 have hy2:y<=0:=by
  rcases(show y<=0\/1<=y by omega) with h|h
  .exact h
  .have:=Eu h (ET hP);omega
 have fin:∀(l:A3 Int) (t':Int),l.length=u.length->l.take j=u.take j->(∀m,j+(k+2)<m->l.getD m 0=u.getD m 0)->(∀m,m≠j+(k+2)->0<=l.getD m 0/\l.getD m 0<BT)->0<=t'->t'<BT->AK ((l.drop j).take<|k+2)=AK (u.drop j)-t'*AK v->AK ((l.drop j).take<|k+2)<AK v->∀l2,l2=l.set (j+(k+2)) 0->Yd R (K (l2,t')):=by
  intro l t' q1 q2 q3 q4 q5 q6 q7 q8 l2 hl2;have ok2:Cc l2:=aav λm=>by
   by_cases e:m=j+(k+2)
   .grind
   .rw[hl2,getD_set_ne e];exact q4 m e
  have ev:AK (l2.drop j)=AK ((l.drop j).take<|k+2):=by
   have e1:=Ra (l2.drop j) (k+2) (by rw[Ih,hl2,LH];omega);have e2:(l2.drop j).take (k+2)=(l.drop j).take (k+2):=by rw[hl2,kG,HB<|BK _]
   have e3:AK ((l2.drop j).drop<|k+2)=0:=vk λm=>by
    rw[Wp,Wp,hl2];by_cases e:m=0
    .grind
    .rw[<-LD,getD_set_ne A4,q3 _ A4];exact hz _ A4
   rw[e1,e2,e3];omega
  exact h l2 t' ok2 (by rw[hl2,LH];exact q1) (by rw[hl2,HB A4];exact q2) q5 q6 (by rw[ev];exact q7) (by rw[ev];exact q8)
 refine DI (λs:A3 Int×Int=>∃l:A3 Int,(l.length=u.length/\l.take j=u.take j/\(∀m,j+(k+2)<m->l.getD m 0=u.getD m 0)/\(∀m,m≠j+(k+2)->0<=l.getD m 0/\l.getD m 0<BT))/\(0<=s.2/\s.2<BT)/\AK ((l.drop j).take<|k+2)=AK (u.drop j)-s.2*AK v/\AK ((l.drop j).take<|k+2)<AK v/\s.1=l.set (j+(k+2)) 0) ?_ ?_
 .grind
 intro Ww hk;refine Ac (λhc=>?_)<|λhc=>?_
 .have hc:=Ar hc;have hy:y= -1:=A4;subst hy;have ht2:1<=t:=AL;refine A6 (EW ⟨A4,by unfold BT at*;omega⟩) ?_;refine agG (j:=j) (n:=k+2) ?_ hv La (by rw[LH];omega) (by rw[LH];omega) ?_
  .intro m hm;rw[getD_set_ne hm];exact HR g1 m
  intro u4 c r1 r2 r3 r4 r5 r6;dsimp only;rw[LH] at r1;rw[HB A4] at r2;have e6:((u2.set (j+(k+2))<| -1).drop j).take (k+2)=(u2.drop j).take (k+2):=by rw[kG,HB<|BK _]
  rw[e6] at r6;have r4':u4.getD (j+(k+2)) 0= -1:=AL;have i4:AB u4 ((j+(k+2):Nat):Int)=some (-1):=by rw[<-r4'];exact Bh A4
  have Hz:0<=AK ((u4.drop j).take<|k+2)/\AK ((u4.drop j).take<|k+2)<BJ (k+2):=by
   have ok:Cc ((u4.drop j).take<|k+2):=aav λm=>by
    by_cases e:m<k+2
    .rw[ajX e];exact r4 _ A4
    .grind
   have:=Ey ok;rwa [E1,Ih,EU A4] at this
  have hc1:c=1:=AL;subst hc1;refine A6 B9 (A6 B9 (A6 i4 (A6 i4 (A6 B9 (A6 i4 (A6 i4 (hk _ ⟨u4,⟨A4,by rw[r2,g3],?_,r4⟩,⟨by dsimp;omega,by dsimp;omega⟩,?_,?_,?_⟩)))))))
  .grind
  .grind
  .omega
  .grind
 .have hc:=Bg hc;have hy:y=0:=A4;subst hy;refine hk _ ⟨u2,⟨g2,g3,λm hm=>g4 m A4,λm _=>HR g1 m⟩,⟨ht0,ht1⟩,?_,?_,rfl⟩
  .dsimp;omega
  .omega
theorem aaW{l:A3 Int}(h:l.length<1099511627776):BG 8 ([]:A3 Int) l=some l:=by grind [BG]
theorem ln{a b:A3 Int}(ha:Fv a)(hb:Fv b)(h0:b≠[])(hla:a.length<43980465)(hlb:b.length<43980465):Yd (λp=>(Fv p.1/\Fv p.2)/\AK p.1=AK a/AK b/\AK p.2=AK a%AK b) (Ur a b):=by
 unfold Ur;have hbp:=hb.pos h0;have ha0:=(Ey ha.1).1;refine Ap (tJ ha hb A4 A4) λc hcmp=>Ac (λhc=>?_)<|λhc=>Ac (λh1=>?_)<|λh1=>?_
 .have hc:=Ar hc;have hlt:AK a<AK b:=AL;exact AU ⟨⟨Fv.nil,ha⟩,by rw[Int.ediv_eq_zero_of_lt ha0 hlt];rfl,(U5 ha0 hlt).symm⟩
 .have h1:=Ar h1;obtain⟨d,rfl⟩:∃d,b=[d]:=iR.1 A4;have hd:AK [d]=d:=by simp[AK]
  rw[hd] at hbp⊢;have hd2:=hb.1 d AX;refine A6 (x:=d) rfl (Ap (uz ha.1 ⟨hbp,by unfold BT at hd2;omega⟩ A4) ?_);rintro⟨w,r⟩ ⟨g1,g2,g3,g4⟩;dsimp only at g1 g2 g3⊢;have Kt:=Lu (AK a) (show d≠0 by omega);have hr1:=LI (AK a) hbp;have okr:Cc [r]:=λx hx=>by rw[Cn] at hx;subst hx;omega
  refine Ap (Te okr AX) λz ⟨q1,q2,_⟩=>AU ⟨⟨g1,q1⟩,g2,?_⟩
  rw[q2,<-g3];simp[AK]
 .have h1:=Bg h1;have hc:=Bg hc;have Lb:AK b<=AK a:=AL;have avd:0<b.length:=WI.2 h0;obtain⟨k,hk⟩:∃k,b.length=k+2:=⟨b.length-2,A4⟩;have hal:k+2<=a.length:=by
   rcases Hj a.length (k+2) with h|h
   .have:=eM ha.1 hb A4;omega
   .exact h
  have e1:((b.length:Int)-1)=((k+1:Nat):Int):=A4;rw[e1];have hbt:=HR hb.1<|k+1
  generalize hf:1000000000/(b.getD (k+1) 0+1)=f
  have hdv:Gh 1000000000 (b.getD (k+1) 0+1)=some f:=by rw[<-hf];exact div_pos A4 A4 A4
  have hf0:0<=f/\f<=1000000000:=by rw[<-hf];exact⟨LG A4 A4,S7 _ A4⟩
  refine A6 B9 (A6 (Bh A4) (A6 (EW ⟨A4,by unfold BT at*;omega⟩)<|A6 hdv ?_));have hf1:1<=f/\f<=500000000:=by
   have hb1:b.getD (k+1) 0≠0:=λe=>by have l1:=TX hb.1 h0 hb.2;have l2:=V4 (l:=b) (n:=k+1) A4;rw[D5 A4,e] at l2;have l3:=(Ey<|MF hb.1<|k+1).2;rw[E1,EU A4] at l3;rw[hk,show k+2-1=k+1 by omega] at l1;omega
   have:=zN (t:=b.getD (k+1) 0) A4 (by unfold BT at hbt;omega) hf.symm;exact⟨this.1,this.2.1⟩
  have okf:Cc [f]:=λx hx=>by rw[Cn] at hx;subst hx;unfold BT;omega
  have vf:AK [f]=f:=by simp[AK]
  refine Ap (lg hb.1 okf A4 AX) λv ⟨v1,v2,v3⟩=>?_
  rw[vf] at v2;let⟨n1,n2,n3,_,_⟩:=aoI hb hk hf.symm v1 v2;refine Ap (lg ha.1 okf A4 AX) λu0 ⟨w1,w2,w3⟩=>?_
  rw[vf] at w2;rw[JG] at w3;refine A6 (aaW A4)<|am4 w1.1 w3 A4 ?_
  intro u hu hul huv;rw[w2] at huv;obtain⟨m,hm⟩:∃m,m+1+(k+2)=a.length+1:=⟨a.length-(k+2),A4⟩;have em:((u.length:Int)-(v.length:Int))=((m+1:Nat):Int):=A4;rw[em];refine A6 B9<|A6 (Pt A4 A4 A4)<|A6 B9<|A6 B9 ?_
  rw[Cg];have hAp:AK a<BJ a.length:=(Ey ha.1).2;have KP:=top_lt hu hul hm huv hAp hf1.1 n3;refine EO (λs:A3 Int×A3 Int×Int=>Cc s.1/\s.1.length=u.length/\Cc s.2.1/\s.2.1.length=m+1/\ -1<=s.2.2/\s.2.2<(m+1:Nat)/\AK (s.1.drop (s.2.2+1).toNat)<AK v/\
    AK u=AK s.1+AK v*(BJ (s.2.2+1).toNat*AK (s.2.1.drop (s.2.2+1).toNat))) (λs=>(s.2.2+1).toNat) ?_ _ _
   ⟨hu,rfl,lq _,AX,BY,BY,?_,?_⟩ BY
  rotate_left
  .grind
  .dsimp only;have e:(((m+1:Nat):Int)-1+1).toNat=m+1:=A4;rw[e,Mx AX];simp[AK]
  rintro next ⟨u',q,z⟩ ⟨s1,s2,s3,s4,s5,s6,s7,s8⟩ hn
  dsimp only at s1 s2 s3 s4 s5 s6 s7 s8 hn⊢;refine Ac (λhz=>?_)<|λhz=>?_
  .have hz:=Ar hz;obtain⟨j,rfl⟩:=Ez hz;have ej:(((j:Nat):Int)+1).toNat=j+1:=A4;rw[ej] at s7 s8;refine akB (k:=k) (j:=j) s1 v1.1 n1 A4 A4 n2 s7 ?_;intro l t r1 r2 r3 r4 r5 r6 r7;refine A6 (Bh A4) (A6 (Bh A4) (A6 B9 (hn _ ⟨r1,BY,Z9 s3 _ ⟨r4,r5⟩,by simpa using s4,BY,BY,?_,?_⟩ ?_)))
   .grind
   .dsimp only;have e:(((j:Nat):Int)-1+1).toNat=j:=A4;rw[e,Cg,dc A4,Mk,s8,Ra u' j A4,Ra l j A4,r3,r6,K3];have x1:BJ j*(AK (u'.drop j)-t*AK v)=BJ j*AK (u'.drop j)-AK v*(BJ j*t):=AL;have x2:AK v*(BJ j*(t+BT*AK (q.drop<|j+1)))=AK v*(BJ j*t)+AK v*(BT*BJ j*AK (q.drop<|j+1)):=AL;rw[x1,x2];omega
   .dsimp only;omega
  .have hz:=Bg hz;have:z= -1:=A4;subst this;have s7:AK u'<AK v:=s7;have s8:AK u=AK u'+AK v*(BJ 0*AK q):=s8;rw[Tf,JD] at s8;have u'0:=(Ey s1).1;have hVb:=(Ey v1.1).2;have htk:AK (u'.take v.length)=AK u':=by have:=Ra u' v.length A4;rw[wN s1 A4 A4] at this;omega
   refine A6 (E5 A4 A4 A4) ?_;have et:((u'.take ((v.length:Nat):Int).toNat).drop (0:Int).toNat)=u'.take v.length:=AX;rw[et];refine Ap (Te (MF s1 _) (by rw[E1];omega)) λy ⟨y1,y2,y3⟩=>A6 (x:=f) rfl ?_
   rw[E1] at y3;refine Ap (uz y1.1 ⟨A4,A4⟩ A4) ?_;rintro⟨w,r⟩ ⟨g1,g2,g3,g4⟩;dsimp only at g1 g2 g3⊢;refine Ap (Te s3 A4) λx ⟨x1,x2,_⟩=>AU ⟨⟨x1,g1⟩,?_⟩
   dsimp only;rw[x2,g2,y2,htk];have hR:AK u'=f*(AK a-AK b*AK q):=AL;have hRd:AK u'/f=AK a-AK b*AK q:=by rw[hR,Int.mul_ediv_cancel_left _ A4]
   rw[hRd];have hR0:0<=AK a-AK b*AK q:=by rw[<-hRd];exact LG u'0 A4
   have hR1:AK a-AK b*AK q<AK b:=by refine iV (a:=f) ?_ A4;rw[<-hR,FB f];omega
   have:=YL (A:=AK a) (B:=AK b) (q:=AK q) (r:=AK a-AK b*AK q) (by rw[FB<|AK q];omega) hR0 hR1;exact this
def Z3:∀n:Nat,BJ n=((10^(9*n):Nat):Int)
 |0=>rfl
 |n+1=>by rw[K3,Z3 n,show 9*(n+1)=9*n+9 by omega,Mp,S6];unfold BT;omega
def abb{a:A3 Int}(ha:Cc a)(hl:a.length<=100000):Nat.log2 (AK a).toNat<1099511627776:=by
 have h:=Ey ha;rw[Z3] at h;have h1:=K8 (show 0<10 by omega) (show 9*a.length<=900000 by omega);have:D9 ((AK a).toNat:Int)=true:=PO (n:=900000) (by
  rw[G6]
  generalize 10^(9*a.length)=P at*
  generalize 10^900000=Q at*
  omega) A4
 have:=FT this;rw[G6] at this;omega
def yl{x y:Int}(hx:0<=x)(hy:0<y):Int.gcd y (x%y)=Int.gcd x y:=by
 obtain⟨m,rfl⟩:=Ez hx;obtain⟨n,rfl⟩:=Ez<|ET hy
 show Nat.gcd n (((m%n:Nat):Int)).natAbs=Nat.gcd m n;rw[G6,S3 n,<-Nat.gcd_rec,S3]
theorem w9{a b:A3 Int}(ha:Fv a)(hb:Fv b)(hla:a.length<=100000)(hlb:b.length<=100000):Yd (λw=>Fv w/\AK w=(Int.gcd (AK a) (AK b):Int)/\w.length<=100000) (Xj a b):=by
 unfold Xj;refine EO (λs:A3 Int×A3 Int=>Fv s.1/\Fv s.2/\s.1.length<=100000/\s.2.length<=100000/\Int.gcd (AK s.1) (AK s.2)=Int.gcd (AK a) (AK b)) (λs=>muG (AK s.1).toNat (AK s.2).toNat) ?_ _ _ ⟨ha,hb,hla,hlb,rfl⟩<|qa (abb ha.1 hla)<|abb hb.1 hlb
 rintro next ⟨x,y⟩ ⟨h1,h2,h3,h4,h5⟩ hn
 dsimp only at h1 h2 h3 h4 h5 hn⊢;refine Ac (λhc=>?_)<|λhc=>?_
 .have hc:=Ar hc;have hy0:y≠[]:=AL;have hyp:=h2.pos hy0;have hx0:=(Ey h1.1).1;refine Ap (ln h1 h2 hy0 A4 A4) ?_;rintro⟨q,r⟩ ⟨⟨g1,g2⟩,g3,g4⟩;dsimp only at g1 g2 g3 g4⊢;have hr:=LI (AK x) hyp;have hrl:r.length<=y.length:=g2.len (by rw[g4];have:=(Ey h2.1).2;omega);refine hn _ ⟨h2,g2,h4,BY,?_⟩ ?_
  .dsimp only;rw[g4,<-h5,yl hx0 hyp]
  .dsimp only;rw[g4];have e:(AK x%AK y).toNat=(AK x).toNat%(AK y).toNat:=AL;rw[e];exact oU A4
 .have hc:=Bg hc;have hy0:y=[]:=LN A4;subst hy0;refine AU ⟨h1,?_,h3⟩;have hx0:=(Ey h1.1).1;rw[<-h5];show AK x=((Int.gcd (AK x) 0:Nat):Int);rw[Int.gcd_zero_right];omega
def am5{a b:Int}(ha:0<=a/\a<=4000000000000000000)(hb:0<=b/\b<=4000000000000000000):YH a b=some (Int.gcd a b:Int):=by
 refine Fz ?_;unfold YH;have X6:∀x:Int,0<=x/\x<=4000000000000000000->Nat.log2 x.toNat<1099511627776:=λx hx=>by have:=PO (z:=x) (n:=19) DD A4;have:=FT this;rw[show x.natAbs=x.toNat by omega] at this;omega
 refine EO (λs:Int×Int=>(0<=s.1/\s.1<=4000000000000000000)/\(0<=s.2/\s.2<=4000000000000000000)/\Int.gcd s.1 s.2=Int.gcd a b) (λs=>muG s.1.toNat s.2.toNat) ?_ _ _ ⟨ha,hb,rfl⟩<|qa (X6 a ha)<|X6 b hb
 rintro next ⟨x,y⟩ ⟨h1,h2,h5⟩ hn
 dsimp only at h1 h2 h5 hn⊢;refine Ac (λhc=>?_)<|λhc=>?_
 .have hc:=Ar hc;have hr:=LI x hc;have Kt:=Lu x (show y≠0 by omega);refine A6 (QR h1.1 hc)<|hn _ ⟨h2,⟨Kt,BY⟩,?_⟩ ?_
  .dsimp only;rw[<-h5,yl h1.1 hc]
  .dsimp only;rw[Int.toNat_emod h1.1<|ET hc];exact oU A4
 .have hc:=Bg hc;have:y=0:=A4;subst this;refine AU ?_;rw[<-h5,Int.gcd_zero_right];omega
def Yt(n:Nat):0<(B2 n).length:=by
 by_cases h:n<10
 .rw[OJ h];simp
 .rw[Rh h];simp
theorem pS{r:Nat}(h:k<=(B2 r).length):IL k r=B2 r:=by simp_all [B2,IL]
def ait(h:0<m/10\/1<k):IL k m=IL (k-1) (m/10)++[UInt8.ofNat<|48+m%10]:=by
 by_cases hm:m<10
 .have hk:1<k:=A4;obtain⟨j,rfl⟩:∃j,k=j+2:=⟨k-2,A4⟩;unfold IL;rw[show m/10=0 by omega,OJ hm,OJ (show 0<10 by omega),show m%10=m by omega];simp only[JG];rw[show j+2-1=j+1 by omega,show j+1-1=j by omega,List.replicate_succ'];rfl
 .unfold IL;rw[Rh hm,E7,JG,show k-((B2<|m/10).length+1)=k-1-(B2<|m/10).length by omega,HY]
def akK(h1:m/10=0)(h2:k<=1):IL k m=[UInt8.ofNat<|48+m%10]:=by rw[pS (by have:=Yt m;omega),OJ A4,show m%10=m by omega]
def aoj(h:d<10):(([48,49,50,51,52,53,54,55,56,57]:AD).take<|d+1).drop d=[UInt8.ofNat<|48+d]:=by match d,h with|0,_=>rfl|1,_=>rfl|2,_=>rfl|3,_=>rfl|4,_=>rfl|5,_=>rfl|6,_=>rfl|7,_=>rfl|8,_=>rfl|9,_=>rfl
theorem OK{m:AD}(h:l.length+m.length<=9223372036854775807):IK l m=some (l++m):=by grind [IK]
theorem mN(hn:n<=9000000000000000000)(hk:1<=k/\k<=20):ND (n:Int) (k:Int)=some (IL k n):=by
 refine Fz ?_;unfold ND;refine EO (λs:Int×AD=>∃m:Nat,s.1=m/\m<=n/\m+s.2.length<=n+20/\IL k n=(if 0<m\/s.2.length<k then IL (k-s.2.length) m++s.2 else s.2)) (λs=>s.1.toNat+(k-s.2.length)) ?_ _ _ ⟨n,rfl,BK _,AX,?_⟩ BY
 .rintro next ⟨z,s⟩ ⟨m,rfl,h0,h1,h2⟩ HJ
  dsimp only at h1 h2 HJ⊢;refine Ac (λhc=>?_)<|λhc=>?_
  .have hg:0<m\/s.length<k:=by rw[Qb,Hl,Hl] at hc;omega
   rw[if_pos hg] at h2;have hr:((m:Int)%10)=((m%10:Nat):Int):=A4;have hq:((m:Int)/10)=((m/10:Nat):Int):=A4;have hd:m%10<10:=OL _ A4;have acM:Fs (m:Int) 10=some ((m%10:Nat):Int):=by rw[QR A4 A4,hr]
   have hdiv:Gh (m:Int) 10=some ((m/10:Nat):Int):=by rw[div_pos A4 A4 A4,hq]
   have BC:C6 ([48,49,50,51,52,53,54,55,56,57]:AD) ((m%10:Nat):Int) (((m%10:Nat):Int)+1)=some [UInt8.ofNat<|48+m%10]:=by rw[E5 A4 A4 DD,Cg,show(((m%10:Nat):Int)+1).toNat=m%10+1 by omega,aoj hd]
   refine A6 acM<|A6 acM<|A6 B9<|A6 BC<|A6 (OK DD)<|A6 hdiv<|HJ _ ⟨m/10,rfl,A4,?_,?_⟩ ?_
   .grind
   .dsimp only;simp only[List.singleton_append,E6];rw[h2];by_cases hg2:0<m/10\/s.length+1<k
    .rw[if_pos hg2,ait A4,HY,show k-s.length-1=k-(s.length+1) by omega];rfl
    .rw[if_neg hg2,akK A4 A4];rfl
   .grind
  .have hg: ¬(0<m\/s.length<k):=by rw[MS,Ij,Ij] at hc;omega
   rw[if_neg hg] at h2;exact AU h2.symm
 .grind
def akJ{r:Nat}(hk:0<k)(h:r<10^k):(IL k r).length=k:=by have:=MG k r hk h;unfold IL;rw[E7,Nd];omega
theorem oQ(h:F3 p z)(hl:p.2.length<=100000):TP p=some (Cf z):=by
 refine Fz ?_;let⟨h1,h2,h3⟩:=h;let⟨neg,w⟩:=p;dsimp only at h1 h2 h3 hl;unfold TP;dsimp;refine Ac (λhc=>?_)<|λhc=>?_
 .have hc:=Ar hc;have hw:w=[]:=LN A4;subst hw;have hz:z=0:=by have:(0:Int)=(z.natAbs:Int):=h2;omega
  subst hz;exact AU rfl
 .have hc:=Bg hc;obtain⟨n,hn⟩:∃n,w.length=n+1:=⟨w.length-1,A4⟩;have hw0:w≠[]:=AL;have e1:((w.length:Int)-1)=(n:Int):=A4;rw[e1];have ht:=HR h1.1 n;have X4:0<w.getD n 0:=by
   have l1:=TX h1.1 hw0 h1.2;have l2:=V4 (l:=w) (n:=n) A4;rw[D5 A4] at l2;have l3:=(Ey<|MF h1.1 n).2;rw[E1,EU A4] at l3;rw[hn,Nat.add_sub_cancel] at l1;rcases(show 0<w.getD n 0\/w.getD n 0=0 by omega) with h|h
   .exact h
   .grind
  let⟨t,htt⟩:=Ez ht.1;have hdt:ND (w.getD n 0) 1=some (IL 1 t):=by rw[htt];exact mN (k:=1) (by unfold BT at*;omega) A4
  refine A6 B9<|A6 (Bh A4)<|A6 hdt<|A6 B9 ?_
  rw[pS<|Yt t];have KP:(B2 t).length<=9:=MG 9 t A4 (by unfold BT at*;omega);refine EO (λs:AD×Int=> -1<=s.2/\s.2<n/\s.1=B2 (AK<|w.drop (s.2+1).toNat).toNat/\0<AK (w.drop (s.2+1).toNat)/\s.1.length+9*(s.2+1).toNat<=1000000) (λs=>(s.2+1).toNat) ?_ _ _ ⟨by dsimp;omega,by dsimp;omega,?_,?_,?_⟩ (by dsimp;omega)
  .rintro next ⟨s,i⟩ ⟨g1,g2,g3,g4,g5⟩ hnx
   dsimp only at g1 g2 g3 g4 g5 hnx⊢;refine Ac (λhd=>?_)<|λhd=>?_
   .have hd:=Ar hd;obtain⟨j,rfl⟩:=Ez hd;have ej:(((j:Nat):Int)+1).toNat=j+1:=A4;have ej':(((j:Nat):Int)-1+1).toNat=j:=A4;rw[ej] at g3 g4 g5;have hx:=HR h1.1 j;let⟨r,hr⟩:=Ez hx.1;have hr9:r<1000000000:=AL;have hdr:ND (w.getD j 0) 9=some (IL 9 r):=by rw[hr];exact mN (k:=9) A4 A4
    have KR:(IL 9 r).length=9:=akJ A4 A4;have KD:AK (w.drop j)=r+BT*AK (w.drop<|j+1):=by rw[OE A4,Mk,hr]
    refine A6 (Bh A4) (A6 hdr (A6 (OK A4) (A6 B9 (hnx _ ⟨by dsimp;omega,by dsimp;omega,?_,?_,?_⟩ (by dsimp;omega)))))
    .dsimp;rw[ej',g3,KD];have e:(((r:Nat):Int)+BT*AK (w.drop<|j+1)).toNat=(AK<|w.drop<|j+1).toNat*10^9+r:=by unfold BT;omega
     rw[e,nQ 9 _ r A4 A4 A4]
    .grind
    .grind
   .have hd:=Bg hd;have:i= -1:=A4;subst this;have g3:s=B2 (AK w).toNat:=g3;have e2:(AK w).toNat=z.natAbs:=by rw[h2];omega
    rw[e2] at g3;have g5:s.length+0<=1000000:=g5;refine Ac (λIq=>?_)<|λIq=>?_
    .refine A6 (OK (by simp[JG];omega)) (AU ?_);rw[Iq] at h3;unfold Cf;rw[<-h3,g3];rfl
    .rw[Iq] at h3;refine AU ?_;unfold Cf;rw[<-h3,g3];rfl
  .dsimp;have e:(((w.length:Int)-2)+1).toNat=n:=A4;rw[e,OE A4,Mx A4];simp only[AK,htt];simp
  .dsimp;have e:(((w.length:Int)-2)+1).toNat=n:=A4;rw[e,OE A4,Mx A4];simp only[AK];omega
  .dsimp;omega
def acL{b:UInt8}(h:l[n]? =some b):AB l (n:Int)=some b:=h
theorem fJ{b:UInt8}(h:Ds b=true):48<=b.toNat/\b.toNat<=57:=by simp_all [Ds]
def fC(hd:s.all Ds=true)(hl:s.length<=18):O8 s=some (BR s:Int):=by
 refine Fz ?_;unfold O8;refine EO (λt:Int×Int=>0<=t.2/\t.2<=s.length/\t.1=(BR (s.take t.2.toNat):Int)) (λt=>s.length-t.2.toNat) ?_ _ _ ⟨by dsimp;omega,by dsimp;omega,by simp[BR]⟩ (by dsimp;omega);rintro next ⟨v,i⟩ ⟨h1,h2,h3⟩ hn
 dsimp only at h1 h2 h3 hn⊢;obtain⟨n,rfl⟩:=Ez h1;rw[Cg] at h3;refine Ac (λhc=>?_)<|λhc=>?_
 .have hc:=Ar hc;have hlt:n<s.length:=A4;have hdt:(s.take n).all Ds=true:=Dj.2 λx hx=>Dj.1 hd x<|Qe hx
  have hv:=QQ _ hdt;rw[E1,EU A4] at hv;have hp:(10:Nat)^n<=10^17:=K8 A4 A4;have hb:=fJ<|Dj.1 hd _<|Lv hlt
  have hw:wr .i64 ((s[n].toNat:Nat):Int)=(s[n].toNat:Int):=by show IntKind.wrap .i64 _=_;rw[IntKind.wrap_i64];omega
  refine A6 B9 (A6 (acL<|Gf hlt) (A6 (EW ⟨by rw[hw];omega,by rw[hw];omega⟩) (A6 (EW ⟨by rw[hw];omega,by rw[hw];omega⟩) (A6 B9 (hn _ ⟨by dsimp;omega,by dsimp;omega,?_⟩ (by dsimp;omega))))));rw[hw,show(((n:Nat):Int)+1).toNat=n+1 by omega,List.take_succ,Gf hlt,YC,h3];have e:BR [s[n]]=s[n].toNat-48:=by simp[BR]
  simp[Option.toList_some,JG,e];omega
 .have hc:=Bg hc;have:n=s.length:=A4;subst this;refine AU ?_;rw[h3,D5<|BK _]
theorem na{ds:AD}(neg:Bool)(hd:ds.all Ds=true)(h0:ds≠[])(hl:ds.length<=800000):Yd (λp=>F3 p (bif neg then -(BR ds:Int) else(BR ds:Int))/\p.2.length<=ds.length) (RN (bif neg then 45::ds else ds)):=by
 unfold RN;have core:Yd (λp=>F3 p (bif neg then -(BR ds:Int) else(BR ds:Int))/\p.2.length<=ds.length)
  (lp 18446744073709551616 (λ(k9:(AD×A3 Int)->AA _) (s8:AD×A3 Int)=>cond (decide<|(9:Int)<(s8.1.length:Int)) (bd (AH<|(s8.1.length:Int)-(9:Int)) λB5=>bd (C6 s8.1 B5 (s8.1.length:Int)) λBm=>bd (O8 Bm) λBc=>bd (BG 8 s8.2 ([Bc]:A3 Int)) λBf=>bd (AH<|(s8.1.length:Int)-(9:Int)) λBq=>bd (C6 s8.1 0 Bq) λCC=>k9 (CC,Bf)) (bd (O8 s8.1) λCJ=>bd (BG 8 s8.2 ([CJ]:A3 Int)) λCp=>bd (L2 neg Cp) λDN=>some DN)) (ds,[])):=by
  refine EO (λt:AD×A3 Int=>t.1.all Ds=true/\t.1≠[]/\t.1.length<=800000/\Cc t.2/\t.1.length+t.2.length<=ds.length/\(BR ds:Int)=BR t.1*BJ t.2.length+AK t.2) (λt=>t.1.length) ?_ _ _ ⟨hd,h0,hl,gX,AX,by simp[Tf,AK]⟩ (by dsimp;omega);rintro next ⟨s,w⟩ ⟨g1,g2,g3,g4,g5,g6⟩ hn
  dsimp only at g1 g2 g3 g4 g5 g6 hn⊢;have okv:∀x:AD,x.all Ds=true->x.length<=9->0<=(BR x:Int)/\(BR x:Int)<BT:=λx hx GN=>by have h1:=QQ x hx;have h2:(10:Nat)^x.length<=10^9:=K8 A4 GN;unfold BT;omega
  have ext:∀v:Int,0<=v/\v<BT->Cc (w++[v]):=λv hv=>by rw[eP];exact⟨g4,λy hy=>by rw[Cn] at hy;subst hy;exact hv⟩
  refine Ac (λhc=>?_)<|λhc=>?_
  .have hc:=Ar hc;obtain⟨n,HJ⟩:∃n,s.length=n+9:=⟨s.length-9,A4⟩;have e1:((s.length:Int)-9)=(n:Int):=A4;rw[e1];have hda:(s.take n).all Ds=true:=Dj.2 λx hx=>Dj.1 g1 x<|Qe hx
   have hdb:(s.drop n).all Ds=true:=Dj.2 λx hx=>Dj.1 g1 x<|U8 hx
   have hlb:(s.drop n).length=9:=AL;have es:C6 s (n:Int) (s.length:Int)=some (s.drop n):=by rw[E5 A4 A4 A4];simp
   have et:C6 s 0 (n:Int)=some (s.take n):=by rw[E5 A4 A4 A4];simp
   have hv:=okv _ hdb A4;refine A6 B9<|A6 es<|A6 (fC hdb A4)<|A6 (bJ A4)<|A6 B9<|A6 et<|hn _ ⟨hda,?_,?_,ext _ hv,?_,?_⟩ ?_
   .grind
   .grind
   .grind
   .dsimp;have hs:BR s=BR (s.take n)*10^9+BR (s.drop n):=by
     conv=>lhs;rw[<-Oc n s]
     rw[YC,hlb]
    rw[g6,hs,E7,JG,K3,RT];have e:AK [(BR (s.drop n):Int)]=BR (s.drop n):=by simp[AK]
    rw[e,Int.natCast_add,S6,IA,FG];have:((10^9:Nat):Int)=BT:=rfl;rw[this,FB (BR (s.drop n):Int)];omega
   .grind
  .have hc:=Bg hc;have hv:=okv s g1 A4;have hs0:0<s.length:=WI.2 g2;refine A6 (fC g1 A4) (A6 (bJ A4) (Ap (w7 (ext _ hv) (by rw[E7,JG];omega)) λp ⟨p1,p2⟩=>AU ?_));have e:AK (w++[(BR s:Int)])=(BR ds:Int):=by
    rw[RT,g6];have e:AK [(BR s:Int)]=BR s:=by simp[AK]
    rw[e,FB];omega
   rw[e] at p1;rw[E7,JG] at p2;exact⟨p1,A4⟩
 cases neg with
 |true=>
  simp only[BI] at core⊢;refine GJ (λ_=>⟨45,rfl,?_⟩) (λh=>by simp[gd] at h);have hb:((decide<|(0:Int)<((45::ds).length:Int))&&(decide<|((45:UInt8).toNat:Int)=(45:Int)))=true:=AL;rw[hb];have es:C6 (45::ds) (1:Int) ((45::ds).length:Int)=some ds:=by rw[E5 A4 (by simp[E6];omega) A4,Cg,D5<|BK _];rfl
  exact DI (λs=>s=ds) (λs hs=>by subst hs;exact core) λk hk=>Ac (λ_=>A6 es<|hk _ rfl) (λh=>by cases h)
 |false=>
  obtain⟨d,r,rfl⟩:∃d r,ds=d::r:=by cases ds with|nil=>exact absurd rfl h0|cons d r=>exact⟨d,r,rfl⟩
  have hdd:=fJ<|Dj.1 hd d AX
  simp only[As] at core⊢;refine GJ (λ_=>⟨d,rfl,?_⟩) (λh=>by simp[gd] at h);have hb:((decide<|(0:Int)<((d::r).length:Int))&&(decide<|(d.toNat:Int)=(45:Int)))=false:=AL;rw[hb];exact DI (λs=>s=d::r) (λs hs=>by subst hs;exact core) λk hk=>Ac (λh=>by cases h)<|λ_=>hk _ rfl
theorem xG(hk:k<=s.length)(h1:∀i,i<k->s[i]? ≠some 47)(h2:k<s.length->s[k]? =some 47)(hl:s.length<1099511627776):L3 s=some (k:Int):=by
 refine Fz ?_;unfold L3;refine EO (λi:Int=>0<=i/\i<=k) (λi=>s.length-i.toNat) ?_ _ _ ⟨A4,A4⟩ A4;rintro next i ⟨g1,g2⟩ hn
 obtain⟨n,rfl⟩:=Ez g1;refine Ac (λhc=>?_)<|λhc=>?_
 .have hc:=Ar hc;have hlt:n<s.length:=A4;have hg:=Gf hlt;refine A6 (acL hg)<|Ac (λhd=>?_)<|λhd=>?_
  .have hd:=Ar hd;refine AU ?_;have hb:s[n]=47:=iC.1 (by show _=47;omega);rcases Hj n k with h|h
   .grind
   .omega
  .have hd:=Bg hd;rcases Hj n k with h|h
   .exact A6 B9<|hn _ ⟨A4,A4⟩ A4
   .have e:n=k:=A4;subst e;have:=h2 hlt;rw[hg] at this;have:=E8 this;rw[this] at hd;exact absurd rfl hd
 .have hc:=Bg hc;exact AU A4
def BV(q:Rat):AD:=Cf q.num++(bif decide (q.den=1) then [] else 47::B2 q.den)
def Li(n:Nat):(B2 n).all Ds=true/\BR (B2 n)=n:=by
 induction n using Nat.strongRecOn with
 |ind n ih=>
  have one:∀d,d<10->Ds (UInt8.ofNat<|48+d)=true/\BR [UInt8.ofNat<|48+d]=d:=by
   intro d hd
   match d,hd with|0,_=>decide|1,_=>decide|2,_=>decide|3,_=>decide|4,_=>decide|5,_=>decide|6,_=>decide|7,_=>decide|8,_=>decide|9,_=>decide
  by_cases h:n<10
  .rw[OJ h];have:=one n h;exact⟨by rw[OM,this.1];rfl,this.2⟩
  .rw[Rh h];let⟨i1,i2⟩:=ih (n/10) A4;have:=one (n%10) A4;refine⟨by rw[iD,i1,OM,this.1];rfl,?_⟩;rw[YC,i2,this.2,JG];omega
def aaN(n:Nat):B2 n≠[]:=λe=>by have:=Yt n;rw[e] at this;simp at this
def aaO(h:(B2 n).length<=k):n<10^k:=by have:=QQ _ (Li n).1;rw[(Li n).2] at this;have h2:(10:Nat)^(B2 n).length<=10^k:=K8 A4 h;omega
def ajt(z:Int):Cf z=bif decide (z<0) then 45::B2 z.natAbs else B2 z.natAbs:=rfl
def me(z:Int):∀x∈Cf z,x≠47:=by
 intro x hx e;subst e;have hd:(47:UInt8)∉B2 z.natAbs:=λh=>by have:=Dj.1 (Li z.natAbs).1 _ h;simp[Ds] at this
 unfold Cf at hx;cases hc:decide (z<0) with
 |true=>
  rw[hc] at hx;have hx:(47:UInt8)∈45::B2 z.natAbs:=hx;rcases Aq.1 hx with h|h
  .cases h
  .exact hd h
 |false=>rw[hc] at hx;exact hd hx
def fO{t:AD}(hu:∀x∈u,x≠47)(hl:(u++47::t).length<1099511627776):L3 (u++47::t)=some (u.length:Int):=by refine xG AX (λi hi=>?_) (λ_=>by simp) hl;rw[MT hi,Gf hi];intro e;exact hu _ (Lv hi)<|E8 e
def oJ(hu:∀x∈u,x≠47)(hl:u.length<1099511627776):L3 u=some (u.length:Int):=by refine xG (BK _) (λi hi=>?_) (λh=>absurd h<|Nat.lt_irrefl _) hl;rw[Gf hi];intro e;exact hu _ (Lv hi)<|E8 e
theorem Vb(z:Int):(Cf z).length<=(B2 z.natAbs).length+1:=by grind [Cf,B2]
theorem nm(hl:(B2 z.natAbs).length<=800000):Yd (λp=>F3 p z/\p.2.length<=800000) (RN<|Cf z):=by
 have h:=na (decide<|z<0) (Li z.natAbs).1 (aaN _) hl;rw[(Li _).2] at h;rw[<-ajt] at h;refine h.imp λp hp=>⟨?_,A4⟩
 have e:(bif decide (z<0) then -(z.natAbs:Int) else(z.natAbs:Int))=z:=AL;rw[e] at hp;exact hp.1
def air(hl:(B2 n).length<=800000):Yd (λp=>F3 p (n:Int)/\p.2.length<=800000) (RN<|B2 n):=by
 have h:=nm (z:=(n:Int)) (by simpa using hl);have e:Cf (n:Int)=B2 n:=by unfold Cf;rw[Bo A4];simp
 rwa [e] at h
def aht:RL 1=some (false,[1]):=A7
def aij(h1:(B2 q.num.natAbs).length<=800000)(h2:(B2 q.den).length<=800000):Yd (λp=>(F3 p.1 q.num/\F3 p.2 (q.den:Int))/\p.1.2.length<=800000/\p.2.2.length<=800000) (NH<|BV q):=by
 have hlen:=Vb q.num;unfold NH BV;cases hd:decide (q.den=1) with
 |true=>
  have hd:=Ar hd;simp[BI,Ig];refine A6 (oJ (me _) A4)<|Ac (λ_=>?_)<|λh=>absurd rfl<|Bg h
  refine Ap (nm h1) λp hp=>A6 aht<|AU ⟨⟨hp.1,?_⟩,hp.2,AX⟩
  rw[hd];refine⟨⟨λx hx=>?_,AX⟩,rfl,rfl⟩;rw[Cn] at hx;subst hx;unfold BT;omega
 |false=>
  have hd:=Bg hd;simp only[As];have hlt:(Cf q.num++47::B2 q.den).length=(Cf q.num).length+1+(B2 q.den).length:=by simp;omega
  refine A6 (fO (me _) A4) (Ac (λh=>by have:=Ar h;omega)<|λ_=>?_);have es:C6 (Cf q.num++47::B2 q.den) 0 ((Cf q.num).length:Int)=some (Cf q.num):=by rw[E5 A4 A4 A4];simp
  have et:C6 (Cf q.num++47::B2 q.den) (((Cf q.num).length:Int)+1) ((Cf q.num++47::B2 q.den).length:Int)=some (B2 q.den):=by rw[E5 A4 A4 A4,Cg,D5<|BK _,show(((Cf q.num).length:Int)+1).toNat=(Cf q.num).length+1 by omega,<-FR];simp
  refine A6 es<|Ap (nm h1) λp hp=>A6 B9<|A6 et<|Ap (air h2) λr hr=>AU ⟨⟨hp.1,hr.1⟩,hp.2,hr.2⟩
def F3.len{p:Bool×A3 Int}{z:Int}(h:F3 p z){n:Nat}(hz:(z.natAbs:Int)<BJ n):p.2.length<=n:=h.1.len (by rw[h.2.1];exact hz)
def F3.lt(h:F3 p z):(z.natAbs:Int)<BJ p.2.length:=by rw[<-h.2.1];exact(Ey h.1.1).2
def QF{b:Bool}{w:A3 Int}(hw:Cc w)(hl:w.length<=4000000)(hz:(bif b then -AK w else AK w)=z):Yd (λp=>F3 p z/\p.2.length<=w.length) (L2 b w):=by rw[<-hz];exact w7 hw A4
theorem Z1(h:F3 p z):(bif p.1 then -AK p.2 else AK p.2)=z:=by grind [F3,AK]
theorem xH(h:F3 p z)(hl:p.2.length<=4000000):Yd (λq=>F3 q (-z)/\q.2.length<=p.2.length) (Xu p):=by
 unfold Xu;refine Ap (QF (z:= -z) h.1.1 hl ?_) λq hq=>AU hq
 have:=Z1 h;cases hp:p.1
 .grind
 .grind
def YV{q:Bool×A3 Int}{x y:Int}(hp:F3 p x)(hq:F3 q y)(hl:p.2.length<=1000000)(hm:q.2.length<=1000000):Yd (λr=>F3 r (x*y)/\r.2.length<=p.2.length+q.2.length) (RM p q):=by
 unfold RM;refine Ap (lg hp.1.1 hq.1.1 A4 A4) λw ⟨w1,w2,w3⟩=>Ap (QF (z:=x*y) w1.1 A4 ?_) λr hr=>AU ⟨hr.1,A4⟩
 rw[w2,<-Z1 hp,<-Z1 hq]
 generalize AK p.2=a
 generalize AK q.2=b
 cases p.1<;>cases q.1<;>simp[Int.neg_mul,Int.mul_neg]
theorem akC{q:Bool×A3 Int}{x y:Int}(hp:F3 p x)(hq:F3 q y)(hl:p.2.length<=1000000)(hm:q.2.length<=1000000):Yd (λr=>F3 r (x+y)/\r.2.length<=p.2.length+q.2.length+1) (dq p q):=by
 unfold dq;have sp:=Z1 hp;have sq:=Z1 hq;have a0:=(Ey hp.1.1).1;have b0:=(Ey hq.1.1).1;have abc:∀{a b:A3 Int},Fv a->Fv b->AK a<=AK b->a.length<=b.length:=λha hb h=>by
  rcases Hj (List.length _) (List.length _) with h'|h'
  .have:=eM hb.1 ha h';omega
  .exact h'
 refine Ac (λhc=>?_)<|λhc=>?_
 .have hc:p.1=q.1:=by simpa using hc
  refine Ap (aet hp.1.1 hq.1.1 A4 A4) λw ⟨w1,w2,w3⟩=>Ap (QF (z:=x+y) w1 A4 ?_) λr hr=>AU ⟨hr.1,A4⟩
  rw[w2,<-sp,<-sq,<-hc];cases p.1
  .rfl
  .grind
 .have hc:p.1= !q.1:=by cases h1:p.1<;>cases h2:q.1<;>rw[h1,h2] at hc<;>first|rfl|cases hc
  refine Ap (tJ hp.1 hq.1 A4 A4) λc hcmp=>Ac (λhd=>?_)<|λhd=>?_
  .have hd:=Ar hd;have Lb:AK q.2<=AK p.2:=AL;refine Ap (ue hp.1.1 hq.1.1 (abc hq.1 hp.1 Lb) A4 Lb) λw ⟨w1,w2,w3⟩=>Ap (QF (z:=x+y) w1.1 A4 ?_) λr hr=>AU ⟨hr.1,A4⟩
   rw[w2,<-sp,<-sq,hc];cases q.1
   .grind
   .grind
  .have hd:=Bg hd;have Lb:AK p.2<=AK q.2:=AL;refine Ap (ue hq.1.1 hp.1.1 (abc hp.1 hq.1 Lb) A4 Lb) λw ⟨w1,w2,w3⟩=>Ap (QF (z:=x+y) w1.1 A4 ?_) λr hr=>AU ⟨hr.1,A4⟩
   rw[w2,<-sp,<-sq,hc];cases q.1
   .grind
   .grind
def yZ{w:A3 Int}(h:Fv w):(decide ((w.length:Int)=1)=true/\w.getD 0 0=1)↔AK w=1:=by
 constructor
 .rintro⟨h1,h2⟩;have h1:=Ar h1;obtain⟨d,rfl⟩:∃d,w=[d]:=iR.1 A4;have h2:d=1:=by simpa using h2
  subst h2;simp[AK]
 .intro hv;have hl:w.length<=1:=h.len (by rw[hv,K3,Tf];unfold BT;omega);have hl0:w≠[]:=by intro e;subst e;simp[AK] at hv
  have:0<w.length:=WI.2 hl0;obtain⟨d,rfl⟩:∃d,w=[d]:=iR.1 A4;have:d=1:=by simpa[AK] using hv
  subst this;exact⟨rfl,rfl⟩
def alB{x g:Int}(hg:0<g)(hd:g∣x):(bif decide (x<0) then -((x.natAbs:Int)/g) else(x.natAbs:Int)/g)=x/g:=by
 cases hc:decide (x<0) with
 |true=>have:=Ar hc;have e:(x.natAbs:Int)= -x:=A4;rw[e,Int.neg_ediv_of_dvd hd];simp
 |false=>have:=Bg hc;have e:(x.natAbs:Int)=x:=A4;rw[e];rfl
theorem dh{q:Bool×A3 Int}{x y:Int}(hp:F3 p x)(hq:F3 q y)(h0:y≠0)(hl:p.2.length<=80000)(hm:q.2.length<=80000):RE p q=some (BV<|(x:Rat)/(y:Rat)):=by
 refine Fz ?_;unfold RE;have en:((x:Rat)/(y:Rat)).num=(y.sign*x)/(Int.gcd y x:Int):=by rw[<-OP,gy]
 have ed:(((x:Rat)/(y:Rat)).den:Int)=(y.natAbs:Int)/(Int.gcd y x:Int):=by rw[<-OP,gw,if_neg h0];rfl
 have hg0:0<Int.gcd y x:=iZ _ h0;refine DI (λt:(Bool×A3 Int)×(Bool×A3 Int)=>F3 t.1 (y.sign*x)/\F3 t.2 (y.natAbs:Int)/\t.1.2.length<=80000/\t.2.2.length<=80000) ?_<|λk hk=>Ac (λhd=>?_)<|λhd=>?_
 .rintro⟨a,b⟩ ⟨ha,hb,la,lb⟩;dsimp only at ha hb la lb⊢;have hX:(y.sign*x).natAbs=x.natAbs:=AL;have hg:Int.gcd (y.sign*x) (y.natAbs:Int)=Int.gcd y x:=by rw[Int.gcd_comm];unfold Int.gcd;rw[hX,G6]
  refine Ap (w9 ha.1 hb.1 A4 A4) λg ⟨g1,g2,g3⟩=>?_
  have hgv:AK g=(Int.gcd y x:Int):=by rw[g2,ha.2.1,hb.2.1,<-hg];unfold Int.gcd;simp
  have gne:g≠[]:=by intro e;subst e;have:(0:Int)=(Int.gcd y x:Int):=hgv;omega
  refine Ap (ln ha.1 g1 gne A4 A4) ?_;rintro⟨q1,r1⟩ ⟨⟨a1,_⟩,a2,_⟩;refine Ap (ln hb.1 g1 gne A4 A4) ?_;rintro⟨q2,r2⟩ ⟨⟨b1,_⟩,b2,_⟩;dsimp only at a1 a2 b1 b2⊢;rw[hgv,ha.2.1] at a2;rw[hgv,hb.2.1,G6] at b2;have aui:(0:Int)<(Int.gcd y x:Int):=A4;have dvX:(Int.gcd y x:Int)∣y.sign*x:=Int.dvd_trans (Int.gcd_dvd_right _ _)<|Int.dvd_mul_left _ _
  have avT:q1.length<=80000:=Ct (a1.len (n:=a.2.length) (by rw[a2];have:=S7 (b:=(Int.gcd y x:Int)) (a:=((y.sign*x).natAbs:Int)) A4;have:=ha.lt;omega)) la
  have avS:q2.length<=80000:=Ct (b1.len (n:=b.2.length) (by rw[b2];have:=S7 (b:=(Int.gcd y x:Int)) (a:=(y.natAbs:Int)) A4;have:=hb.lt;rw[G6] at this;omega)) lb
  have v1:(bif a.1 then -AK q1 else AK q1)=((x:Rat)/(y:Rat)).num:=by rw[en,a2,ha.2.2];exact alB aui dvX
  refine Ap (QF a1.1 A4 v1) λs ⟨s1,s2⟩=>A6 (oQ s1 A4) ?_
  have v2:AK q2=(((x:Rat)/(y:Rat)).den:Int):=by rw[ed,b2]
  have bD:=yZ b1;have hnl:(Cf ((x:Rat)/(y:Rat)).num).length<=800000:=by
   have h1:=Vb ((x:Rat)/(y:Rat)).num;have h2:=s1.lt;rw[Z3] at h2;by_cases hs0:s.2.length=0
   .rw[hs0] at h2;have:((x:Rat)/(y:Rat)).num.natAbs<10:=AL;have:=MG 1 _ A4 (show _<10^1 by omega);omega
   .have:=MG (9*s.2.length) ((x:Rat)/(y:Rat)).num.natAbs A4 A4;omega
  have hdl:(B2 ((x:Rat)/(y:Rat)).den).length<=800000:=by
   have h2:=(Ey b1.1).2;rw[v2,Z3] at h2;by_cases hs0:q2.length=0
   .rw[hs0] at h2;have hp:=((x:Rat)/(y:Rat)).den_pos;have:(10:Nat)^(9*0)=1:=rfl;omega
   .have:=MG (9*q2.length) ((x:Rat)/(y:Rat)).den A4 A4;omega
  have aup:((x:Rat)/(y:Rat)).den=1->Cf ((x:Rat)/(y:Rat)).num=BV ((x:Rat)/(y:Rat)):=λh=>by unfold BV;rw[B4 h];simp
  have two:((x:Rat)/(y:Rat)).den≠1->Yd (λr=>r=BV ((x:Rat)/(y:Rat))) (bd (IK (Cf ((x:Rat)/(y:Rat)).num) ([47]:AD)) λCC=>bd (L2 false q2) λCJ=>bd (TP CJ) λCp=>bd (IK CC Cp) λDN=>some DN):=λh=>by
   refine A6 (OK DD)<|Ap (QF (b:=false) b1.1 A4 v2) λt ⟨t1,t2⟩=>A6 (oQ t1 A4) ?_
   have e:Cf (((x:Rat)/(y:Rat)).den:Int)=B2 ((x:Rat)/(y:Rat)).den:=by unfold Cf;rw[Bo A4];simp
   rw[e];refine A6 (OK DD)<|AU ?_
   unfold BV;rw[Bo h];simp
  by_cases hlen:(q2.length:Int)=1
  .have hd:=B4 hlen;have g1':gd (decide<|(q2.length:Int)=1) true=true:=by rw[hd];rfl
   rw[Cs g1'];refine A6 (Bh (n:=0) A4)<|Ac (λhc=>?_)<|λhc=>?_
   .rw[C4] at hc;have h1:=bD.1 ⟨hc.1,Ar hc.2⟩;exact AU<|aup A4
   .grind
  .have hd:=Bo hlen;have g1':gd (decide<|(q2.length:Int)=1) true=false:=by rw[hd];rfl
   rw[Ep g1'];refine Ac (λhc=>by rw[hd,QY] at hc;cases hc)<|λhc=>two λe=>?_
   have h1:=bD.2 (by rw[v2,e];rfl);exact hlen<|Ar h1.1
 .have hn:y<0:=by rw[hq.2.2] at hd;exact Ar hd
  refine Ap (xH hp A4) λa ⟨ha,la⟩=>Ap (xH hq A4) λb ⟨hb,lb⟩=>hk _ ⟨?_,?_,by dsimp;omega,by dsimp;omega⟩
  .grind
  .grind
 .have hn: ¬y<0:=by rw[hq.2.2] at hd;exact Bg hd
  refine hk _ ⟨?_,?_,hl,hm⟩
  .grind
  .grind
def bq(q:Rat)(n:Nat):Prop:=q.num.natAbs<10^n/\q.den<10^n
theorem j8{x y:Int}(h0:y≠0):((x:Rat)/(y:Rat)).num.natAbs<=x.natAbs/\((x:Rat)/(y:Rat)).den<=y.natAbs:=by
 have en:((x:Rat)/(y:Rat)).num=(y.sign*x)/(Int.gcd y x:Int):=by rw[<-OP,gy]
 have ed:((x:Rat)/(y:Rat)).den=y.natAbs/(Int.gcd y x):=by rw[<-OP,gw,if_neg h0]
 have hg0:0<Int.gcd y x:=iZ _ h0;refine⟨?_,by rw[ed];exact Nat.div_le_self _ _⟩;rw[en];have hX:(y.sign*x).natAbs=x.natAbs:=AL;have dvX:(Int.gcd y x:Int)∣y.sign*x:=Int.dvd_trans (Int.gcd_dvd_right _ _)<|Int.dvd_mul_left _ _
 rw[Int.natAbs_ediv_of_dvd dvX,hX,G6];exact Nat.div_le_self _ _
theorem qm(h:bq x n):bq (-x) n:=by simp_all [bq]
def jH(h:bq q n)(hn:0<n):(B2 q.num.natAbs).length<=n/\(B2 q.den).length<=n:=⟨MG n _ hn h.1,MG n _ hn h.2⟩
def F3.bl(h:F3 p z)(hz:z.natAbs<10^n):p.2.length<=n:=by refine h.len ?_;rw[Z3];have:=K8 (show 0<10 by omega) (show n<=9*n by omega);omega
def Rm(h:bq q n)(hn:0<n)(hm:n<=19000):Yd (λp=>(F3 p.1 q.num/\F3 p.2 (q.den:Int))/\p.1.2.length<=n/\p.2.2.length<=n) (NH<|BV q):=by have hl:=jH h hn;refine(aij A4 A4).imp λp ⟨⟨p1,p2⟩,_,_⟩=>⟨⟨p1,p2⟩,p1.bl h.1,p2.bl (by rw[G6];exact h.2)⟩
def vn(z:Int)(t:AD):∃c r,Cf z++t=c::r/\((c.toNat:Int)=45↔z<0)/\(c=45->r=B2 z.natAbs++t)/\(z<0->r=B2 z.natAbs++t):=by
 unfold Cf;cases hc:decide (z<0) with
 |true=>have:=Ar hc;exact⟨45,B2 z.natAbs++t,rfl,⟨λ_=>this,λ_=>rfl⟩,λ_=>rfl,λ_=>rfl⟩
 |false=>
  have hz:=Bg hc;have hd:=(Li z.natAbs).1;obtain⟨d,l,e⟩:∃d l,B2 z.natAbs=d::l:=by cases h:B2 z.natAbs with|nil=>exact absurd h<|aaN _|cons d l=>exact⟨d,l,rfl⟩
  have hb:=fJ (Dj.1 hd d (by rw[e];simp));refine⟨d,l++t,by show B2 z.natAbs++t=_;rw[e];rfl,⟨λh=>by omega,λh=>absurd h hz⟩,λh=>?_,λh=>absurd h hz⟩;subst h;exact absurd hb.1 Le
def o5(n:Nat):∀x∈B2 n,x≠47:=λx hx e=>by subst e;have:=Dj.1 (Li n).1 _ hx;simp[Ds] at this
def F0(q:Rat):AD:=bif decide (q.den=1) then [] else 47::B2 q.den
theorem fD(h:bq q n)(hn:0<n)(hm:n<=19000):Yd (λr=>r.2.2=false\/(r=(q.num,(q.den:Int),true)/\q.num.natAbs<1000000000/\q.den<1000000000)) (TG<|BV q):=by
 have hl:=jH h hn;let⟨c,r,e,J6,hr,Ku⟩:=vn q.num<|F0 q
 have et:BV q=c::r:=e;have hlr:r.length<=38002:=by
  have h1:=congrArg List.length e;have h2:=Vb q.num;have h3:(F0 q).length<=n+1:=by
   unfold F0;cases decide (q.den=1)
   .simp;omega
   .simp
  simp[E7,E6] at h1;omega
 unfold TG;rw[et];refine Ac (λ_=>AU<| .inl rfl)<|λ_=>?_
 have g1:gd (decide<|(0:Int)<((c::r).length:Int)) true=true:=by rw[B4 (by simp only[E6];omega)];rfl
 rw[Cs g1];refine A6 (x:=c) rfl ?_;have hb:((decide<|(0:Int)<((c::r).length:Int))&&(decide<|(c.toNat:Int)=(45:Int)))=decide (q.num<0):=AL;rw[hb];refine DI (λs=>s=B2 q.num.natAbs++F0 q) ?_<|λk hk=>Ac (λhc=>?_)<|λhc=>?_
 .rintro s rfl;have hsl:L3 (B2 q.num.natAbs++F0 q)=some ((B2 q.num.natAbs).length:Int):=by
   unfold F0;cases hd:decide (q.den=1)
   .exact fO (o5 _) DD
   .rw[BI,Ig];exact oJ (o5 _) A4
  have hlen:(B2 q.num.natAbs++F0 q).length=(B2 q.num.natAbs).length+(F0 q).length:=AX;have KP:(F0 q).length<=n+1:=by
   unfold F0;cases decide (q.den=1)
   .simp;omega
   .simp
  refine A6 hsl ?_;have rest:(B2 q.num.natAbs).length<=9->(F0 q).length<=10->Yd (λr=>r.2.2=false\/(r=(q.num,(q.den:Int),true)/\q.num.natAbs<1000000000/\q.den<1000000000))
   (bd (C6 (B2 q.num.natAbs++F0 q) 0 ((B2 q.num.natAbs).length:Int)) λBi=>bd (O8 Bi) λBS=>jn (λ(DQ:Int)=>jn (λ(Dg:Int)=>some (Dg,DQ,true)) λKo=>cond (decide<|q.num<0) (bd (AH<|(0:Int)-BS) λDx=>Ko Dx) (Ko BS)) λMd=>cond (decide<|((B2 q.num.natAbs).length:Int)<((B2 q.num.natAbs++F0 q).length:Int)) (bd (AH<|((B2 q.num.natAbs).length:Int)+(1:Int)) λCC=>bd (C6 (B2 q.num.natAbs++F0 q) CC ((B2 q.num.natAbs++F0 q).length:Int)) λCJ=>bd (O8 CJ) λCp=>Md Cp) (Md (1:Int))):=by
   intro h9 BO;have hN:q.num.natAbs<1000000000:=aaO h9;have es:C6 (B2 q.num.natAbs++F0 q) 0 ((B2 q.num.natAbs).length:Int)=some (B2 q.num.natAbs):=by rw[E5 A4 A4 A4];simp
   have hv:=fC (Li q.num.natAbs).1 A4;rw[(Li _).2] at hv;refine A6 es<|A6 hv ?_
   refine DI (λd=>d=(q.den:Int)/\q.den<1000000000) ?_<|λk hk=>Ac (λhc=>?_)<|λhc=>?_
   .rintro d ⟨rfl,hD⟩;refine DI (λz=>z=q.num) (λz hz=>by subst hz;exact AU<| .inr ⟨rfl,hN,hD⟩)<|λk hk=>Ac (λhc=>?_)<|λhc=>?_
    .have hc:=Ar hc;exact A6 B9<|hk _ A4
    .grind
   .have hc:=Ar hc;have hd:decide (q.den=1)=false:=by
     cases hd:decide (q.den=1) with
     |false=>rfl
     |true=>unfold F0 at hlen hc;rw[hd] at hlen hc;simp at hc
    have etl:F0 q=47::B2 q.den:=by unfold F0;rw[hd];rfl
    rw[etl,E6] at BO;have eu:C6 (B2 q.num.natAbs++F0 q) (((B2 q.num.natAbs).length:Int)+1) ((B2 q.num.natAbs++F0 q).length:Int)=some (B2 q.den):=by rw[E5 A4 A4 A4,Cg,D5<|BK _,show(((B2 q.num.natAbs).length:Int)+1).toNat=(B2 q.num.natAbs).length+1 by omega,<-FR,etl];simp
    have hw:=fC (Li q.den).1 A4;rw[(Li _).2] at hw;exact A6 B9<|A6 eu<|A6 hw<|hk _ ⟨rfl,aaO (k:=9) A4⟩
   .have hc:=Bg hc;have hd:q.den=1:=by
     cases hd:decide (q.den=1) with
     |true=>exact Ar hd
     |false=>unfold F0 at hlen hc;rw[hd] at hlen hc;simp at hc;omega
    exact hk _ ⟨by rw[hd];rfl,A4⟩
  by_cases hx:(9:Int)<((B2 q.num.natAbs).length:Int)
  .have hd:=B4 hx;have g2:gd (decide<|(9:Int)<((B2 q.num.natAbs).length:Int)) false=false:=by rw[hd];rfl
   rw[Ep g2];exact Ac (λ_=>AU<| .inl rfl) (λh=>by rw[hd,ZG] at h;cases h)
  .have hd:=Bo hx;have g2:gd (decide<|(9:Int)<((B2 q.num.natAbs).length:Int)) false=true:=by rw[hd];rfl
   rw[Cs g2];refine A6 B9<|Ac (λ_=>AU<| .inl rfl)<|λh=>?_
   rw[hd,Tx] at h;have h:=Bg h;exact rest A4 A4
 .have hc:=Ar hc;have es:C6 (c::r) (1:Int) ((c::r).length:Int)=some r:=by rw[E5 A4 (by simp[E6];omega) A4,Cg,D5<|BK _];rfl
  exact A6 es<|hk _<|Ku hc
 .have hc:=Bg hc;refine hk _ ?_;rw[<-e];unfold Cf;rw[Bo hc];rfl
theorem qY(z:Int):mx_ z (0-z)=(z.natAbs:Int):=by grind [mx_]
def aaJ{x g:Int}(hg:0<g)(hd:g∣x)(hx: -9000000000000000000<=x/\x<=9000000000000000000):Gh x g=some (x/g):=by
 unfold Gh;rw[Bo A4,Int.tdiv_eq_ediv_of_dvd hd];obtain⟨k,rfl⟩:=hd;rw[Int.mul_ediv_cancel_left _ A4];refine EW ⟨?_,?_⟩
 .rcases(show 0<=k\/k<0 by omega) with h|h
  .omega
  .have:g*k<=1*k:=Int.mul_le_mul_of_nonpos_right A4 A4;omega
 .rcases(show 0<=k\/k<0 by omega) with h|h
  .have:1*k<=g*k:=Mz A4 h;omega
  .omega
def acd(h:n<=9000000000000000000):ND (n:Int) 1=some (B2 n):=by have:=mN (k:=1) h A4;rw[pS<|Yt _] at this;exact this
theorem aao{a b:Int}(ha: -4000000000000000000<=a/\a<=4000000000000000000)(hb:0<b/\b<=4000000000000000000):YQ a b=some (BV<|(a:Rat)/(b:Rat)):=by
 refine Fz ?_;unfold YQ;have h0:b≠0:=A4;have en:((a:Rat)/(b:Rat)).num=a/(Int.gcd b a:Int):=by rw[<-OP,gy,WJ hb.1,JD]
 have ed:(((a:Rat)/(b:Rat)).den:Int)=b/(Int.gcd b a:Int):=by
  rw[<-OP,gw,if_neg h0];have:(b.natAbs:Int)=b:=A4
  conv=>rhs;rw[<-this]
  rfl
 have hg0:0<Int.gcd b a:=iZ _ h0;refine Ac (λhc=>?_)<|λ_=>?_
 .grind
 refine DI (λs:Int×Int=>s=(a,b)) ?_ (λk hk=>Ac (λhc=>by have:=Ar hc;omega)<|λ_=>hk _ rfl);rintro s rfl;have atQ:YH (mx_ a<|0-a) b=some (Int.gcd b a:Int):=by
  rw[qY,am5 ⟨A4,A4⟩ ⟨A4,hb.2⟩]
  congr 2
  unfold Int.gcd;rw[G6,S3]
 have d1:(Int.gcd b a:Int)∣a:=Int.gcd_dvd_right _ _;have d2:(Int.gcd b a:Int)∣b:=Int.gcd_dvd_left _ _;refine A6 B9<|A6 atQ<|A6 (aaJ A4 d1 A4)<|A6 (aaJ A4 d2 A4) ?_
 rw[<-en,<-ed];have hle:=j8 (x:=a) (y:=b) h0
 generalize hz:((a:Rat)/(b:Rat))=q at*
 have hN:q.num.natAbs<=4000000000000000000:=A4;have hD:q.den<=4000000000000000000:=A4;have hD0:=q.den_pos;have acW:ND (mx_ q.num<|0-q.num) 1=some (B2 q.num.natAbs):=by rw[qY,acd A4]
 have aqw:ND (q.den:Int) 1=some (B2 q.den):=by exact acd A4
 have hl1:=MG 19 q.num.natAbs A4 A4;have hl2:=MG 19 q.den A4 A4;refine DI (λs:AD=>s=bif decide (q.num<0) then [45] else []) ?_ (λk hk=>Ac (λhc=>hk _ (by rw[hc];rfl)) (λhc=>hk _ (by rw[hc];rfl)));intro s hs;have hsl:s.length<=1:=AL;have est:s++B2 q.num.natAbs=Cf q.num:=by rw[hs];unfold Cf;cases decide (q.num<0)<;>rfl
 refine A6 B9<|A6 acW<|A6 (OK A4) ?_
 rw[est];have KP:=Vb q.num;refine DI (λs=>s=BV q) (λs hs=>by subst hs;exact AU rfl)<|λk hk=>Ac (λhc=>?_)<|λhc=>?_
 .have hc:=Ar hc;refine A6 (OK DD)<|A6 aqw<|A6 (OK DD)<|hk _ ?_
  unfold BV;rw[Bo (show¬q.den=1 by omega)];simp
 .have hc:=Bg hc;refine hk _ ?_;unfold BV;rw[B4 (show q.den=1 by omega)];simp
theorem zU(hx:bq x m)(hy:bq y n)(hm:0<m/\m<=19000)(hn:0<n/\n<=19000):J8 (BV x) (BV y)=some (BV<|x*y):=by
 refine Fz ?_;unfold J8;refine Ap (fD hx hm.1 hm.2) λr hr=>Ap (fD hy hn.1 hn.2) λs hs=>Ac (λhc=>?_)<|λ_=>?_
 .let⟨c1,c2⟩:=EA hc;obtain⟨rfl,a1,a2⟩:r=(x.num,(x.den:Int),true)/\_/\_:=by rcases hr with h|h;rw[h] at c1;cases c1;exact h
  obtain⟨rfl,b1,b2⟩:s=(y.num,(y.den:Int),true)/\_/\_:=by rcases hs with h|h;rw[h] at c2;cases c2;exact h
  dsimp;have p1:(x.num*y.num).natAbs<=999999999*999999999:=by rw[Mr];exact HD A4 A4
  have p2:x.den*y.den<=999999999*999999999:=HD A4 A4;have p3:0<x.den*y.den:=Nat.mul_pos x.den_pos y.den_pos;have e:((x.den:Int)*(y.den:Int))=((x.den*y.den:Nat):Int):=AL;have hOf:=aao (a:=x.num*y.num) (b:=(x.den:Int)*(y.den:Int)) A4 (by rw[e];omega);rw[gG] at hOf;exact A6 B9 (A6 (EW ⟨by rw[e];omega,by rw[e];omega⟩)<|A6 hOf<|AU rfl)
 .refine Ap (Rm hx hm.1 hm.2) ?_;rintro⟨p1,p2⟩ ⟨⟨a1,a2⟩,a3,a4⟩;refine Ap (Rm hy hn.1 hn.2) ?_;rintro⟨q1,q2⟩ ⟨⟨b1,b2⟩,b3,b4⟩;dsimp only at*;refine Ap (YV a1 b1 A4 A4) λu ⟨u1,u2⟩=>Ap (YV a2 b2 A4 A4) λv ⟨v1,v2⟩=>?_
  have hf:=dh u1 v1 (W6 (Nf x)<|Nf y) A4 A4;rw[gG] at hf;exact A6 hf<|AU rfl
theorem zV(hx:bq x m)(hy:bq y n)(hm:0<m/\m<=19000)(hn:0<n/\n<=19000):OB (BV x) (BV y)=some (BV<|x+y):=by
 refine Fz ?_;unfold OB;refine Ap (fD hx hm.1 hm.2) λr hr=>Ap (fD hy hn.1 hn.2) λs hs=>Ac (λhc=>?_)<|λ_=>?_
 .let⟨c1,c2⟩:=EA hc;obtain⟨rfl,a1,a2⟩:r=(x.num,(x.den:Int),true)/\_/\_:=by rcases hr with h|h;rw[h] at c1;cases c1;exact h
  obtain⟨rfl,b1,b2⟩:s=(y.num,(y.den:Int),true)/\_/\_:=by rcases hs with h|h;rw[h] at c2;cases c2;exact h
  dsimp;have p1:(x.num*y.den).natAbs<=999999999*999999999:=by rw[Mr,G6];exact HD A4 A4
  have p1':(y.num*x.den).natAbs<=999999999*999999999:=by rw[Mr,G6];exact HD A4 A4
  have p2:x.den*y.den<=999999999*999999999:=HD A4 A4;have p3:0<x.den*y.den:=Nat.mul_pos x.den_pos y.den_pos;have e:((x.den:Int)*(y.den:Int))=((x.den*y.den:Nat):Int):=AL;have hOf:=aao (a:=x.num*y.den+y.num*x.den) (b:=(x.den:Int)*(y.den:Int)) A4 (by rw[e];omega);rw[gH] at hOf;exact A6 B9 (A6 B9 (A6 B9 (A6 (EW ⟨by rw[e];omega,by rw[e];omega⟩)<|A6 hOf<|AU rfl)))
 .refine Ap (Rm hx hm.1 hm.2) ?_;rintro⟨p1,p2⟩ ⟨⟨a1,a2⟩,a3,a4⟩;refine Ap (Rm hy hn.1 hn.2) ?_;rintro⟨q1,q2⟩ ⟨⟨b1,b2⟩,b3,b4⟩;dsimp only at*;refine Ap (YV a1 b2 A4 A4) λu ⟨u1,u2⟩=>Ap (YV b1 a2 A4 A4) λv ⟨v1,v2⟩=>Ap (akC u1 v1 A4 A4) λw ⟨w1,w2⟩=>Ap (YV a2 b2 A4 A4) λt ⟨t1,t2⟩=>?_
  have hf:=dh w1 t1 (W6 (Nf x)<|Nf y) A4 A4;rw[gH] at hf;exact A6 hf<|AU rfl
def agr:BV 0=[48]:=A7
def YT(q:Rat)(hl:(BV q).length<1000000):(BV q==([48]:AD))=decide (q=0):=by
 by_cases h:q=0
 .subst h;rw[agr];rfl
 .rw[Bo h];rw[ZY];intro e;apply h;have hn:=me q.num;unfold BV at e;cases hd:decide (q.den=1) with
  |true=>
   rw[hd] at e;have e:Cf q.num=[48]:=by simpa using e
   unfold Cf at e;cases hc:decide (q.num<0) with
   |true=>rw[hc] at e;have e:45::B2 q.num.natAbs=[48]:=e;cases e
   |false=>
    rw[hc] at e;have e:B2 q.num.natAbs=[48]:=e;have hv:=(Li q.num.natAbs).2;rw[e] at hv;have:q.num=0:=by have:BR [48]=0:=rfl;omega
    exact NW.1 this
  |false=>rw[hd] at e;have e:Cf q.num++47::B2 q.den=[48]:=e;have:=congrArg List.length e;simp at this;have h2:=Yt q.den;omega
theorem yE(hl:(BV q).length<1000000):Jd (BV q)=some (bif decide (q=0) then 0 else bif decide (q.num<0) then -1 else 1):=by
 let⟨c,r,e,J6,_,_⟩:=vn q.num<|F0 q
 have et:BV q=c::r:=e;unfold Jd;rw[YT q hl];cases hz:decide (q=0) with
 |true=>rfl
 |false=>
  show B1 _ _ _ _=_;rw[et];have g1:gd (decide<|(0:Int)<((c::r).length:Int)) true=true:=by rw[B4 (by simp only[E6];omega)];rfl
  rw[Cs g1];show cond ((decide<|(0:Int)<((c::r).length:Int))&&(decide<|(c.toNat:Int)=(45:Int))) _ _=_;have hb:((decide<|(0:Int)<((c::r).length:Int))&&(decide<|(c.toNat:Int)=(45:Int)))=decide (q.num<0):=AL;rw[hb];cases decide (q.num<0)<;>rfl
def nV(h:bq q n)(hn:0<n):(BV q).length<=2*n+2:=by
 have hl:=jH h hn;have h2:=Vb q.num;unfold BV;cases decide (q.den=1)
 .simp;omega
 .simp;omega
def zT(h:bq q n)(hn:0<n/\n<=19000):RV (BV q)=some (BV<| -q):=by
 have hlen:=nV h hn.1;have hs:=yE (q:=q) A4;unfold RV;rw[hs];have ed:(-q).den=q.den:=Rat.neg_den q;have en:(-q).num= -q.num:=Rat.neg_num q;cases hz:decide (q=0) with
 |true=>
  have hz:=Ar hz;subst hz
  rfl
 |false=>
  have hz:=Bg hz;have hnz:q.num≠0:=λe=>hz<|NW.1 e
  cases hc:decide (q.num<0) with
  |true=>
   have FC:=Ar hc;have et:BV q=45::(B2 q.num.natAbs++F0 q):=by show Cf q.num++F0 q=_;unfold Cf;rw[hc];rfl
   have e2:BV (-q)=B2 q.num.natAbs++F0 q:=by show Cf (-q).num++(bif decide ((-q).den=1) then [] else 47::B2 (-q).den)=_;rw[en,ed];unfold Cf;rw[Bo A4,W0];rfl
   show bd (C6 (BV q) 1 ((BV q).length:Int)) (λx4=>some x4)=_;rw[e2,et,E5 A4 (by simp[E6];omega) A4,Cg,D5<|BK _];rfl
  |false=>
   have FC:=Bg hc;have et:BV q=B2 q.num.natAbs++F0 q:=by show Cf q.num++F0 q=_;unfold Cf;rw[hc];rfl
   have e2:BV (-q)=45::(B2 q.num.natAbs++F0 q):=by show Cf (-q).num++(bif decide ((-q).den=1) then [] else 47::B2 (-q).den)=_;rw[en,ed];unfold Cf;rw[B4 (show -q.num<0 by omega),W0];rfl
   show bd (IK ([45]:AD)<|BV q) (λx9=>some x9)=_;rw[OK DD,e2,et];rfl
def am6(hx:bq x m)(hy:bq y n)(hm:0<m/\m<=19000)(hn:0<n/\n<=19000):MB (BV x) (BV y)=some (BV<|x-y):=by unfold MB;rw[zT hy hn];show bd (OB (BV x)<|BV<| -y) (λx3=>some x3)=_;rw[zV hx (qm hy) hm hn,pt];rfl
def pP(x:Rat):((x.den:Int):Rat)/(x.num:Rat)=x⁻¹ :=by rw[Rat.inv_def,OP]
theorem apY(h:bq x n)(h0:x≠0):bq x⁻¹ n:=by(simp_all [bq]<;>grind)
theorem yt{e:Bool}(hl:l.length<1099511627776):lp 18446744073709551616 (λ(k2:Int->AA Bool) (s1:Int)=>cond (decide<|s1<(l.length:Int)) (bd (AB l s1) λx4=>B1 (gd (decide<|(x4.toNat:Int)<(48:Int)) false) (0) (AB l s1) λx6=>cond (((decide<|(x4.toNat:Int)<(48:Int))||(decide<|(57:Int)<(x6.toNat:Int)))) (some false) (bd (AH<|s1+(1:Int)) λx9=>k2 x9)) (some e)) (0:Int)=some (l.all Ds&&e):=by
 have key:Yd (λr=>r=(l.all Ds&&e)) (lp 18446744073709551616 (λ(k2:Int->AA Bool) (s1:Int)=>cond (decide<|s1<(l.length:Int)) (bd (AB l s1) λx4=>B1 (gd (decide<|(x4.toNat:Int)<(48:Int)) false) (0) (AB l s1) λx6=>cond (((decide<|(x4.toNat:Int)<(48:Int))||(decide<|(57:Int)<(x6.toNat:Int)))) (some false) (bd (AH<|s1+(1:Int)) λx9=>k2 x9)) (some e)) (0:Int)):=by
  refine EO (λi:Int=>0<=i/\i<=l.length/\(l.take i.toNat).all Ds=true) (λi=>l.length-i.toNat) ?_ _ _ ⟨A4,A4,AX⟩ A4;rintro next i ⟨g1,g2,g3⟩ hn
  obtain⟨n,rfl⟩:=Ez g1;rw[Cg] at g3;refine Ac (λhc=>?_)<|λhc=>?_
  .have hc:=Ar hc;have hlt:n<l.length:=A4;have hg:AB l (n:Int)=some l[n]:=Gf hlt;refine A6 hg ?_;have bad:Ds l[n]=false->(l.all Ds&&e)=false:=λh=>by have:l.all Ds=false:=AL;rw[this];rfl
   by_cases Lc:(l[n].toNat:Int)<48
   .have hd:=B4 Lc;have g:gd (decide<|(l[n].toNat:Int)<48) false=false:=by rw[hd];rfl
    rw[Ep g];refine Ac (λ_=>AU ?_) (λh=>by rw[hd,ZG] at h;cases h);rw[bad];unfold Ds;rw[show Nat.ble 48 l[n].toNat=false from by cases hb:Nat.ble 48 l[n].toNat with|false=>rfl|true=>have:=FT hb;omega];rfl
   .have hd:=Bo Lc;have g:gd (decide<|(l[n].toNat:Int)<48) false=true:=by rw[hd];rfl
    rw[Cs g];refine A6 hg<|Ac (λh=>?_)<|λh=>?_
    .rw[hd,Tx] at h;have h:=Ar h;refine AU ?_;rw[bad];unfold Ds;rw[show Nat.ble l[n].toNat 57=false from by cases hb:Nat.ble l[n].toNat 57 with|false=>rfl|true=>have:=FT hb;omega,gz]
    .rw[hd,Tx] at h;have h:=Bg h;refine A6 B9<|hn _ ⟨A4,A4,?_⟩ A4
     rw[show(((n:Nat):Int)+1).toNat=n+1 by omega,List.take_succ,Gf hlt,iD,g3];simp only[Option.toList_some,OM,List.all_nil,gq,Lq];unfold Ds;rw[Ii A4,Ii A4];rfl
  .have hc:=Bg hc;have:n=l.length:=A4;subst this;rw[D5<|BK _] at g3;refine AU ?_;rw[g3];rfl
 obtain⟨r,e,rfl⟩:=key;exact e
def Gg(l:AD):Bool:=l.all Ds&&(!(l==[])&&(l==[48]|| !(l.head?==some 48)))
theorem te(hl:l.length<1099511627776):XL l=some (Gg l):=by
 have hd:cw l=some (l.all Ds):=by unfold cw;rw[yt hl,gq]
 unfold XL;rw[hd]
 match l,hl with
 |[],_=>rfl
 |[x],_=>
  show some ([x].all Ds)=_;unfold Gg;by_cases h:x=48
  .subst h;rfl
  .have e1:([x]==([]:AD))=false:=rfl;have e2:([x].head?==some (48:UInt8))=false:=by simpa using h
   rw[e1,e2];simp
 |x::y::r,hl=>
  have g:(gd (decide<|((x::y::r).length:Int)=(0:Int)) false&&gd (decide<|(1:Int)<((x::y::r).length:Int)) true)=true:=by rw[Bo (by simp only[E6];omega),B4 (by simp only[E6];omega)];rfl
  rw[Cs g];show cond ((decide<|((x::y::r).length:Int)=(0:Int))||((decide<|(1:Int)<((x::y::r).length:Int))&&(decide<|(x.toNat:Int)=(48:Int)))) _ _=_;rw[Bo (show¬((x::y::r).length:Int)=0 by simp only[E6];omega),B4 (show(1:Int)<((x::y::r).length:Int) by simp only[E6];omega),Tx,Lq];unfold Gg;have e1:((x::y::r)==([]:AD))=false:=rfl;have e3:((x::y::r)==([48]:AD))=false:=AL;have e2:((x::y::r).head?==some (48:UInt8))=decide ((x.toNat:Int)=48):=by
   show(some x==some (48:UInt8))=_;by_cases h:x=48
   .subst h;rfl
   .rw[Bo (λh'=>h (iC.1 (by show _=48;omega)))];rw[ZY];intro e;exact h<|E8 e
  rw[e1,e2,e3];cases decide ((x.toNat:Int)=48)
  .show some _=some _;simp
  .grind
def vN(hl:l.length<1099511627776):TC l=some (Gg l):=by
 have hd:cg l=some (l.all Ds&& !(l==[])):=by unfold cg;rw[yt hl]
 unfold TC;rw[hd];show B1 _ _ _ _=_;unfold Gg
 match l with
 |[]=>rfl
 |x::r=>
  have e1:((x::r)==([]:AD))=false:=rfl;have e2:((x::r).head?==some (48:UInt8))=decide ((x.toNat:Int)=48):=by
   show(some x==some (48:UInt8))=_;by_cases h:x=48
   .subst h;rfl
   .rw[Bo (λh'=>h (iC.1 (by show _=48;omega)))];rw[ZY];intro e;exact h<|E8 e
  rw[e1,e2];have i0:AB (x::r) (0:Int)=some x:=rfl;rw[i0];cases(x::r).all Ds
  .rfl
  .cases((x::r)==([48]:AD))<;>rfl
theorem og:∀(n:Nat) (l:AD),l.length=n->Gg l=true->l=B2 (BR l)
 |0,l,hl,h=>by have:l=[]:=LN hl;subst this;cases h
 |n+1,l,hl,h=>by
  have hne:l≠[]:=AL;let⟨h1,h2⟩:=EA h;let⟨h3,h4⟩:=EA h2;have hx:=List.dropLast_concat_getLast hne
  generalize hi:l.dropLast=i at hx
  generalize l.getLast hne=d at hx
  subst hx;rw[iD] at h1;let⟨hi1,hd1⟩:=EA h1;have hd:Ds d=true:=by simpa using hd1
  have hdr:=fJ hd;have ed:UInt8.ofNat (48+(d.toNat-48))=d:=by rw[show 48+(d.toNat-48)=d.toNat by omega];simp
  have ev:BR [d]=d.toNat-48:=by simp[BR]
  rw[YC,ev,JG,Nat.pow_one];by_cases h0:i=[]
  .subst h0;rw[show BR ([]:AD)=0 from rfl,gn,PX,OJ A4,ed];rfl
  .have acO: ¬(i.head?=some 48):=λe=>by have e2:(i++[d]).head?=some 48:=AL;rw[e2] at h4;have e3:((i++[d])==[48])=false:=AL;rw[e3] at h4;cases h4
   have hid:Gg i=true:=by unfold Gg;rw[hi1];have e1:(i==([]:AD))=false:=AL;have e2:(i.head?==some (48:UInt8))=false:=AL;rw[e1,e2];simp
   have hln:i.length=n:=by simpa using hl
   have ih:=og n i hln hid;have hpos:0<BR i:=by
    rcases LJ (BR i) with e|e
    .rw[e] at ih;rw[ih] at acO;exact absurd rfl acO
    .exact e
   rw[Rh A4,show(BR i*10+(d.toNat-48))/10=BR i by omega,show(BR i*10+(d.toNat-48))%10=d.toNat-48 by omega,<-ih,ed]
def sp:AD->AD×AD×Bool
 |[]=>([],[],false)|b::l=>bif b==47 then([],l,true) else(b::(sp l).1,(sp l).2.1,(sp l).2.2)
def oj:∀(s pre:AD),cutAt 47 pre s=(pre.reverse++(sp s).1,(sp s).2.1,(sp s).2.2)
 |[],pre=>by simp[cutAt,sp]
 |b::l,pre=>by
  unfold cutAt sp;cases h:b==47
  .rw[As,As,oj l];simp
  .simp
theorem jM:∀(s:AD),s=(sp s).1++(bif (sp s).2.2 then 47::(sp s).2.1 else [])/\(∀x∈(sp s).1,x≠47)/\((sp s).2.2=false->(sp s).2.1=[])
 |[]=>⟨rfl,by simp[sp],λ_=>rfl⟩
 |b::l=>by
  let⟨h1,h2,h3⟩:=jM l;unfold sp;cases h:b==47
  .grind
  .grind
def Ho(neg:Bool)(u t:AD)(fd:Bool):Int:=
 bif ((!Gg u)||(neg&&(u==([48]:AD))))||(fd&&(((!Gg t)||(t==([48]:AD)))||(t==([49]:AD)))) then 1
 else bif fd&& !decide (Nat.gcd (BR u) (BR t)=1) then 1 else 0
theorem Vg(h:Gg l=true):l.all Ds=true/\l≠[]:=by grind [Gg,Ds]
def Vi(h:l.all Ds=true)(hl:l.length<1000000):Hq l=some (BR l:Int):=by
 unfold Hq;split
 .rename_i ds;have:=Dj.1 h 45 AX;cases this
 .rw[h,show Nat.blt l.length 1000000=true from Ii hl];rfl
def xn(h:l.all Ds=true)(hl:l.length<1000000):Hq (45::l)=some (-(BR l:Int)):=by show EL (l.all Ds&&Nat.blt l.length 1000000) (-(BR l:Int))=_;rw[h,show Nat.blt l.length 1000000=true from Ii hl];rfl
def wu(h:z.natAbs<10^14):D9 z=true:=PO h A4
def oi(hl:core.length<=1000):jO (bif neg then 45::core else core) [47]=some ((bif neg then 45::(sp core).1 else(sp core).1),(sp core).2.1,(sp core).2.2):=by
 cases neg
 .show EL (Nat.blt core.length 4294967281) (cutAt 47 [] core)=_;rw[show Nat.blt core.length 4294967281=true from Ii A4,oj];rfl
 .show EL (Nat.blt (45::core).length 4294967281) (cutAt 47 [] (45::core))=_;rw[show Nat.blt (45::core).length 4294967281=true from Ii (by simp[E6];omega),oj];rfl
def vU:O5 (45::u) [45]=some true:=by
 have e:C6 (45::u) 0 (([45]:AD).length:Int)=some [45]:=by rw[E5 A4 AX DD];rfl
 have hd:decide ((([45]:AD).length:Int)<=((45::u).length:Int))=true:=B4 DD;have g:gd (decide<|(([45]:AD).length:Int)<=((45::u).length:Int)) true=true:=by rw[hd];rfl
 unfold O5;rw[Cs g,e];show some (_&&_)=_;rw[hd];rfl
def ah8:RC (45::u) [45]=some (u,true):=by
 have e2:C6 (45::u) (([45]:AD).length:Int) ((45::u).length:Int)=some u:=by rw[E5 AX DD A4];simp
 unfold RC bR;rw[vU];show bd (bd (C6 (45::u) (([45]:AD).length:Int) ((45::u).length:Int)) _) _=_;rw[e2];rfl
theorem wB(h:u.head?≠some 45):O5 u [45]=some false:=by
 unfold O5
 match u,h with
 |[],_=>rfl
 |x::r,h=>
  have e:C6 (x::r) 0 (([45]:AD).length:Int)=some [x]:=by rw[E5 A4 AX DD];rfl
  have hd:decide ((([45]:AD).length:Int)<=((x::r).length:Int))=true:=B4 DD;have g:gd (decide<|(([45]:AD).length:Int)<=((x::r).length:Int)) true=true:=by rw[hd];rfl
  rw[Cs g,e];show some (_&&_)=_;have:([x]==([45]:AD))=false:=AL;rw[this,gz]
def ah7(h:u.head?≠some 45):RC u [45]=some (u,false):=by unfold RC bR;rw[wB h];rfl
def Ck{α ρ:Type}(x:α)(K:α->AA ρ):bd (some x) K=K x:=rfl
theorem ag8(hl:core.length<=14)(J6:neg=false->core.head?≠some 45):TD (bif neg then 45::core else core)=some (Ho neg (sp core).1 (sp core).2.1 (sp core).2.2):=by
 let⟨q1,q2,q3⟩:=jM core;have hlen:=congrArg List.length q1;rw[E7] at hlen;unfold TD;rw[oi A4]
 generalize hu:(sp core).1=u at*
 generalize ht:(sp core).2.1=t at*
 generalize hf:(sp core).2.2=fd at*
 have hul:u.length<=14:=A4;have KP:t.length<=14:=AL;have hp:RC (bif neg then 45::u else u) [45]=some (u,neg):=by
  cases neg
  .refine ah7 ?_;have J6:=J6 rfl;intro e;have e:u.head?=some 45:=e;apply J6;rw[q1,List.head?_append,e];rfl
  .exact ah8
 show bd (RC (bif neg then 45::u else u) [45]) _=_;rw[hp];show bd (TC u) _=_;rw[vN (l:=u) A4];show B1 _ _ (TC t) _=_;rw[vN (l:=t) A4];have tail:∀sW:Bool,sW=(fd&&(((!Gg t)||(t==([48]:AD)))||(t==([49]:AD))))->((!Gg u)||(neg&&(u==([48]:AD))))=false->sW=false->(cond (((decide<|(600:Int)<(u.length:Int))||(decide<|(600:Int)<(t.length:Int)))) (some (4:Int)) (jn (λ(Hw:Unit)=>some (0:Int)) λIQ=>cond (fd) (bd (Hq u) λBi=>bd (Hq t) λBS=>bd (Ou Bi BS) λC5=>bd (Pn C5) λBz=>cond (((!Bz.2)||(!decide (Bz.1=(1:Int))))) (some (1:Int)) (IQ ())) (IQ ())))=some (Ho neg u t fd):=by
  intro sW e1 e2 e3;rw[Bo A4,Bo A4];unfold Ho;rw[e2,<-e1,e3];cases fd
  .rfl
  .have du:Gg u=true:=by cases h:Gg u with|true=>rfl|false=>rw[h] at e2;cases e2
   have dt:Gg t=true:=AL;have au:=Vg du;have at':=Vg dt;have lu:=QQ u au.1;have lt:=QQ t at'.1;have p1:=K8 (show 0<10 by omega) hul;have p2:=K8 (show 0<10 by omega) KP;have hg:Ou (BR u:Int) (BR t:Int)=some (Nat.gcd (BR u) (BR t):Int):=by unfold Ou;rw[wu DD,wu DD];rfl
   have ava:Nat.gcd (BR u) (BR t)<10^14:=by
    rcases LJ (BR u) with e|e
    .grind
    .have:=Nat.le_of_dvd e (Nat.gcd_dvd_left (BR u)<|BR t);omega
   have hs:Pn (Nat.gcd (BR u) (BR t):Int)=some ((Nat.gcd (BR u) (BR t):Int),true):=by unfold Pn Hb;rw[Bo A4,B4 A4,B4 A4];rfl
   show bd (Hq u) _=_;rw[Vi au.1 A4];show bd (Hq t) _=_;rw[Vi at'.1 A4];show bd (Ou _ _) _=_;rw[hg];rw[Ck];rw[hs];show cond (false|| !decide (((Nat.gcd (BR u) (BR t):Nat):Int)=1)) (some 1) (some 0)=some (bif false then 1 else bif true&& !decide (Nat.gcd (BR u) (BR t)=1) then 1 else 0);have e:decide (((Nat.gcd (BR u) (BR t):Nat):Int)=1)=decide (Nat.gcd (BR u) (BR t)=1):=HX.2 A4;rw[e];cases decide (Nat.gcd (BR u) (BR t)=1)<;>rfl
 cases hb1:((!Gg u)||(neg&&(u==([48]:AD)))) with
 |true=>show B1 (gd true false&&gd fd true) false _ _=_;rw[Ep FN];show cond (true||_) _ _=_;rw[ZG,BI];unfold Ho;rw[hb1];rfl
 |false=>
  cases fd with
  |false=>show B1 (gd false false&&gd false true) false _ _=_;rw[Ep FN];exact tail false rfl hb1 rfl
  |true=>
   show B1 (gd false false&&gd true true) false _ _=_;rw[Cs FN];show cond (false||(true&&_)) _ _=_;cases hb2:(((!Gg t)||(t==([48]:AD)))||(t==([49]:AD))) with
   |true=>show some 1=_;unfold Ho;rw[hb1,hb2];rfl
   |false=>exact tail false (by rw[hb2];rfl) hb1 rfl
def agJ{t:AD}(hu:Gg u=true)(ht:Gg t=true)(J5:∀x∈u,x≠47)(lu:u.length<=1000)(lt:t.length<=1000):Yd (λp=>F3 p.1 (BR u:Int)/\F3 p.2 (BR t:Int)/\p.1.2.length<=u.length/\p.2.2.length<=t.length) (NH (u++47::t)):=by
 have au:=Vg hu;have at':=Vg ht;have hlt:(u++47::t).length=u.length+1+t.length:=by simp;omega
 unfold NH;refine A6 (fO J5 A4) (Ac (λh=>by have:=Ar h;omega)<|λ_=>?_);have es:C6 (u++47::t) 0 (u.length:Int)=some u:=by rw[E5 A4 A4 A4];simp
 have et:C6 (u++47::t) ((u.length:Int)+1) ((u++47::t).length:Int)=some t:=by rw[E5 A4 A4 A4,Cg,D5<|BK _,show((u.length:Int)+1).toNat=u.length+1 by omega,<-FR];simp
 refine A6 es<|Ap (na false au.1 au.2 A4) λp hp=>A6 B9<|A6 et<|Ap (na false at'.1 at'.2 A4) λr hr=>AU ⟨hp.1,hr.1,hp.2,hr.2⟩
theorem ail(hl:core.length<=14)(J6:neg=false->core.head?≠some 45):RO (bif neg then 45::core else core)=some (Ho neg (sp core).1 (sp core).2.1 (sp core).2.2):=by
 have key:Yd (λr=>r=Ho neg (sp core).1 (sp core).2.1 (sp core).2.2) (RO (bif neg then 45::core else core)):=by
  let⟨q1,q2,q3⟩:=jM core;have hlen:=congrArg List.length q1;rw[E7] at hlen;by_cases hF0:(bif neg then 45::core else core)=[]
  .have hn:neg=false:=by cases neg;rfl;cases hF0
   subst hn;have hc:core=[]:=hF0;subst hc;exact AU rfl
  obtain⟨c,r,e⟩:∃c r,(bif neg then 45::core else core)=c::r:=by cases h:(bif neg then 45::core else core) with|nil=>exact absurd h hF0|cons c r=>exact⟨c,r,rfl⟩
  have hc:decide ((c.toNat:Int)=45)=neg:=by
   cases neg with
   |true=>
    have:c=45:=by cases e;rfl
    subst this;rfl
   |false=>
    have e:core=c::r:=e;refine Bo λh=>J6 rfl ?_
    have:c=45:=iC.1 (by show _=45;omega);rw[e,this];rfl
  have hs1:neg=true->r=core:=AL;have hs0:neg=false->c::r=core:=AL
  generalize hu:(sp core).1=u at*
  generalize ht:(sp core).2.1=t at*
  generalize hf:(sp core).2.2=fd at*
  have hul:u.length<=14:=A4;have KP:t.length<=14:=AL;unfold RO;rw[e];have g1:gd (decide<|(0:Int)<((c::r).length:Int)) true=true:=by rw[B4 (by simp only[E6];omega)];rfl
  rw[Cs g1];refine A6 (x:=c) rfl ?_;have hb:((decide<|(0:Int)<((c::r).length:Int))&&(decide<|(c.toNat:Int)=(45:Int)))=neg:=AL;rw[hb];refine DI (λs=>s=core) ?_<|λk hk=>Ac (λhn=>?_)<|λhn=>?_
  rotate_left
  .have es:C6 (c::r) (1:Int) ((c::r).length:Int)=some core:=by rw[E5 A4 (by simp[E6];omega) A4,<-hs1 hn];simp
   exact A6 es<|hk _ rfl
  .grind
  .intro s hs;rw[hs];clear hs s;have hsl:L3 core=some (u.length:Int):=by
    rw[q1];cases fd
    .rw[As,Ig];exact oJ q2 A4
    .rw[BI];exact fO q2 DD
   have hsu:C6 core 0 (u.length:Int)=some u:=by rw[E5 A4 A4 A4,q1];simp
   have hlt:decide ((u.length:Int)<(core.length:Int))=fd:=AL;refine A6 hsl<|A6 hsu<|A6 (te (l:=u) A4) ?_
   rw[hlt];cases hdu:Gg u with
   |false=>rw[Ep FN,Ep FN];refine AU ?_;unfold Ho;rw[hdu];rfl
   |true=>
    rw[Cs FN];refine A6 (x:=c) rfl ?_;rw[hc];have at5:∀K:AD->AA Int,((neg&&(u==([48]:AD)))=true->Yd (λr=>r=Ho neg u t fd) (K u))->((neg&&(u==([48]:AD)))=false->∀w,(neg&&(w==([48]:AD)))=false->Yd (λr=>r=Ho neg u t fd) (K w))->Yd (λr=>r=Ho neg u t fd) (B1 (gd (!true) false&&gd neg true) ([]) (C6 core 0 (u.length:Int)) K):=by
     intro K h1 h2;cases neg with
     |false=>rw[Ep FN];exact h2 rfl _ rfl
     |true=>rw[Cs FN];refine A6 hsu ?_;cases hb:(true&&(u==([48]:AD))) with|true=>exact h1 hb|false=>exact h2 hb _ hb
    refine at5 _ (λhb1=>?_)<|λhb1 w hw=>?_
    .rw[hb1];refine AU ?_;unfold Ho;rw[hb1,hdu];rfl
    .rw[hw];refine Ac (λh=>by cases h)<|λ_=>?_
     have small:∀K:Int->Int->AA Int,Yd (λr=>r=Ho neg u t fd) (K ((core.length:Int)-(u.length:Int))<|(core.length:Int)-(u.length:Int)-1)->Yd (λr=>r=Ho neg u t fd) (B1 (gd (decide<|(600:Int)<(u.length:Int)) false) (0) (AH<|(core.length:Int)-(u.length:Int)) λFL=>B1 (gd (decide<|(600:Int)<(u.length:Int)) false) (0) (AH<|FL-(1:Int)) λED=>K FL ED):=by intro K h;rw[Bo (show¬(600:Int)<(u.length:Int) by omega),Cs FN];refine A6 B9 ?_;rw[Cs FN];exact A6 B9 h
     cases fd with
     |false=>
      rw[Ep FN,Ep FN,Ep FN,Ep FN,Ep FN,Ep FN,Ep FN];refine Ac (λh=>by cases h)<|λ_=>?_
      refine small (λFL ED=>_) ?_;rw[Bo (show¬(600:Int)<(u.length:Int) by omega),Bo (show¬(600:Int)<((core.length:Int)-(u.length:Int)-1) by omega)];refine AU ?_;unfold Ho;rw[hdu,hb1];rfl
     |true=>
      rw[BI] at q1 hlen;rw[E6] at hlen;have f1:AH ((u.length:Int)+1)=some ((u.length:Int)+1):=EW ⟨A4,A4⟩;have et:C6 core ((u.length:Int)+1) (core.length:Int)=some t:=by rw[E5 A4 A4 A4,Cg,D5<|BK _,show((u.length:Int)+1).toNat=u.length+1 by omega,q1,<-FR];simp
      rw[Cs FN];refine A6 f1 ?_;rw[Cs FN];refine A6 et ?_;rw[Cs FN];refine A6 (te (l:=t) A4) ?_;cases hdt:Gg t with
      |false=>rw[Ep FN,Ep FN,Ep FN,Ep FN];refine AU ?_;unfold Ho;rw[hdu,hb1,hdt];rfl
      |true=>
       rw[Cs FN];refine A6 f1 ?_;rw[Cs FN];refine A6 et ?_;cases h0:(t==([48]:AD)) with
       |true=>rw[Ep FN,Ep FN];refine AU ?_;unfold Ho;rw[hdu,hb1,hdt,h0];rfl
       |false=>
        rw[Cs FN];refine A6 f1 ?_;rw[Cs FN];refine A6 et ?_;cases h1:(t==([49]:AD)) with
        |true=>refine AU ?_;unfold Ho;rw[hdu,hb1,hdt,h0,h1];rfl
        |false=>
         refine Ac (λh=>by cases h)<|λ_=>?_
         refine small (λFL ED=>_) ?_;rw[Bo (show¬(600:Int)<(u.length:Int) by omega),Bo (show¬(600:Int)<((core.length:Int)-(u.length:Int)-1) by omega)];refine Ac (λh=>by cases h)<|λ_=>?_
         refine DI (λ_=>Nat.gcd (BR u) (BR t)=1) (λ_ h=>AU ?_) (λk hk=>Ac (λ_=>?_) (λh=>by cases h))
         .unfold Ho;rw[hdu,hb1,hdt,h0,h1,B4 h];rfl
         .have pp:=agJ hdu hdt q2 A4 A4;rw[<-q1] at pp;refine Ap pp λp ⟨p1,p2,p3,p4⟩=>Ap (w9 p1.1 p2.1 A4 A4) λw ⟨w1,w2,w3⟩=>?_
          have hv:AK w=(Nat.gcd (BR u) (BR t):Int):=by rw[w2,p1.2.1,p2.2.1];simp[Int.gcd]
          have bD:=yZ w1;rw[hv] at bD;have bad:Nat.gcd (BR u) (BR t)≠1->Yd (λr=>r=Ho neg u t true) (some (1:Int)):=λh=>AU (by unfold Ho;rw[hdu,hb1,hdt,h0,h1,Bo h];rfl)
          refine GJ (λhg=>?_)<|λhg=>?_
          .have hlw:decide ((w.length:Int)=1)=true:=by cases h:decide ((w.length:Int)=1) with|true=>rfl|false=>rw[h] at hg;cases hg
           obtain⟨d,rfl⟩:∃d,w=[d]:=iR.1 (by have:=Ar hlw;omega);refine⟨d,rfl,?_⟩;refine Ac (λh=>?_)<|λh=>?_
           .grind
           .grind
          .have hlw:decide ((w.length:Int)=1)=false:=by cases h:decide ((w.length:Int)=1) with|false=>rfl|true=>rw[h] at hg;cases hg
           rw[hlw];refine bad λh'=>?_
           have:=(bD.2 A4).1;rw[hlw] at this;cases this
 let⟨r,h1,h2⟩:=key;rw[h1,h2]
def isNum(s:AD)(q:Rat):Prop:=s=BV q/\bq q 14/\MD s=some q
def abF:B2 0=[48]:=A7
def aok:B2 1=[49]:=A7
def aax{a:Int}(h0:d≠0)(hg:Nat.gcd a.natAbs d=1):∃q,mkq a (d:Int)=some q/\q.num=a/\q.den=d:=by
 obtain⟨k,rfl⟩:=Nat.exists_eq_succ_of_ne_zero h0;have h:mkq a ((k+1:Nat):Int)=some (mkRat a<|k+1):=by show EL (Nat.beq (Nat.gcd a.natAbs<|k+1) 1) (mkRat a<|k+1)=_;rw[show Nat.beq (Nat.gcd a.natAbs<|k+1) 1=true from by rw[hg];rfl];rfl
 let⟨h1,h2⟩:=yW h;exact⟨_,h,h1,A4⟩
def alL(hl:(bif neg then 45::core else core).length<=14)(hc:Ho neg (sp core).1 (sp core).2.1 (sp core).2.2=0):∃q,isNum (bif neg then 45::core else core) q:=by
 have hl:core.length<=14:=by cases neg<;>simp at hl<;>omega
 let⟨q1,q2,q3⟩:=jM core;have hlen:=congrArg List.length q1;rw[E7] at hlen;unfold isNum MD;rw[oi A4]
 generalize hu:(sp core).1=u at*
 generalize ht:(sp core).2.1=t at*
 generalize hf:(sp core).2.2=fd at*
 have hul:u.length<=14:=A4;unfold Ho at hc;cases sJ:((!Gg u)||(neg&&(u==([48]:AD))))||(fd&&(((!Gg t)||(t==([48]:AD)))||(t==([49]:AD)))) with
 |true=>rw[sJ] at hc;cases hc
 |false=>
 rw[sJ,As] at hc;let⟨b1,b2⟩:=MS.1 sJ;let⟨b3,b4⟩:=MS.1 b1;have du:Gg u=true:=by simpa using b3
 have au:=Vg du;have lu:=QQ u au.1;have p1:=K8 (show 0<10 by omega) hul;have eu:=og _ u rfl du;obtain⟨z,hz,hzn,hzr⟩:∃z:Int,(bif neg then 45::u else u)=Cf z/\z.natAbs=BR u/\Hq (bif neg then 45::u else u)=some z:=by
  cases neg with
  |false=>refine⟨(BR u:Int),?_,AX,Vi (l:=u) au.1 A4⟩;unfold Cf;rw[Bo A4];simp[<-eu]
  |true=>
   have h0:BR u≠0:=λh=>by rw[h,abF] at eu;rw[eu] at b4;cases b4
   refine⟨-(BR u:Int),?_,AX,xn (l:=u) au.1 A4⟩;unfold Cf;rw[B4 A4];simp[<-eu]
 cases fd with
 |false=>
  rw[As,Ig] at q1;refine⟨(z:Rat),?_,⟨by rw[S5];omega,by rw[Tz];omega⟩,?_⟩
  .rw[q1,hz];unfold BV;rw[S5,Tz];simp
  .show bd (Hq (bif neg then 45::u else u)) _=_;rw[hzr];rfl
 |true=>
  rw[BI] at q1 hlen;rw[E6] at hlen;rw[Lq] at b2 hc;let⟨c1,c2⟩:=MS.1 b2;let⟨c3,c4⟩:=MS.1 c1;have dt:Gg t=true:=by simpa using c3
  have at':=Vg dt;have lt:=QQ t at'.1;have p2:=K8 (show 0<10 by omega) (show t.length<=14 by omega);have et:=og _ t rfl dt;have h0:BR t≠0:=λh=>by rw[h,abF] at et;rw[et] at c4;cases c4
  have h1:BR t≠1:=λh=>by rw[h,aok] at et;rw[et] at c2;cases c2
  have hg:Nat.gcd (BR u) (BR t)=1:=by cases h:decide (Nat.gcd (BR u) (BR t)=1) with|true=>exact Ar h|false=>rw[h] at hc;cases hc
  let⟨q,m1,m2,m3⟩:=aax (a:=z) h0 (by rw[hzn];exact hg);refine⟨q,?_,⟨A4,A4⟩,?_⟩
  .unfold BV;rw[m2,m3,Bo h1,As,<-hz,<-et,q1];cases neg<;>rfl
  .show bd (Hq (bif neg then 45::u else u)) _=_;rw[hzr];show bd (Hq t) _=_;rw[Vi at'.1 A4];show bd (mkq z (BR t:Int)) _=_;rw[m1];rfl
def wW(hl:s.length<=14):∃c,TD s=some c/\RO s=some c/\(c=0->∃q,isNum s q):=by
 obtain⟨neg,core,rfl,J6⟩:∃(neg:Bool) (core:AD),s=(bif neg then 45::core else core)/\(neg=false->core.head?≠some 45):=by
  match s with
  |[]=>exact⟨false,[],rfl,λ_ h=>by cases h⟩
  |x::r=>
   by_cases hx:x=45
   .exact⟨true,r,by rw[hx];rfl,λh=>by cases h⟩
   .exact⟨false,x::r,rfl,λ_ h=>hx<|E8 h⟩
 have hlc:core.length<=14:=by cases neg<;>simp at hl<;>omega
 exact⟨_,ag8 hlc J6,ail hlc J6,alL hl⟩
def short(v:AD×AD×AD):Prop:=v.1.length<=14/\v.2.1.length<=14/\v.2.2.length<=14
def f3(a b c:Int):Int:=bif !decide (a=0) then a else bif !decide (b=0) then b else c
def bc(q:Rat)(c n:Nat):Prop:=q.num.natAbs<=c*10^n/\q.den<=10^n
def arJ(h:bq q n):bc q 1 n:=⟨by rw[Mq];exact Vz h.1,Vz h.2⟩
theorem qZ(c d m n:Nat):(c*10^m)*(d*10^n)=(c*d)*10^(m+n):=by rw[Mp];grind
def MW(hx:bc x c m)(hy:bc y d n):bc (x*y) (c*d) (m+n):=by
 have h:=j8 (x:=x.num*y.num) (y:=(x.den:Int)*(y.den:Int))<|W6 (Nf x)<|Nf y
 rw[gG] at h;rw[Mr,Mr,G6,G6] at h;refine⟨Ct h.1 ?_,Ct h.2 ?_⟩
 .rw[<-qZ];exact HD hx.1 hy.1
 .rw[Mp];exact HD hx.2 hy.2
theorem SN(hx:bc x c m)(hy:bc y d n):bc (x+y) (c+d) (m+n):=by
 have h:=j8 (x:=x.num*y.den+y.num*x.den) (y:=(x.den:Int)*(y.den:Int))<|W6 (Nf x)<|Nf y
 rw[gH] at h;rw[Mr,G6,G6] at h;have a1:=HD hx.1 hy.2;have a2:=HD hy.1 hx.2;have t:=Int.natAbs_add_le (x.num*y.den)<|y.num*x.den
 rw[Mr,Mr,G6,G6] at t;have e1:=qZ c 1 m n;have e2:=qZ d 1 n m;rw[Mq,Nat.mul_one] at e1 e2;rw[PW n m] at e2;refine⟨?_,Ct h.2 ?_⟩
 .grind
 .rw[Mp];exact HD hx.2 hy.2
def abM(h:bc x c n):bc (-x) c n:=by
 refine⟨?_,?_⟩
 .rw[Rat.neg_num,W0];exact h.1
 .rw[Rat.neg_den];exact h.2
def qn(hx:bc x c m)(hy:bc y d n):bc (x-y) (c+d) (m+n):=by rw[pt];exact SN hx<|abM hy
abbrev T3:=AD×AD×AD
def vc(v:Q3)(c n:Nat):Prop:=bc v.1 c n/\bc v.2.1 c n/\bc v.2.2 c n
def Bx(v:Q3):T3:=(BV v.1,BV v.2.1,BV v.2.2)
def zy(h:z.natAbs<10^600):VY z=some false:=by
 have key:Yd (λb=>b=false) (VY z):=by
  have hs:=PO h A4;have hd:=MG 600 _ A4 h;unfold VY rM;rw[hs];refine A6 (x:=(bif decide (z=0) then 0 else(Nat.log2 z.natAbs:Int)+1)) rfl ?_
  generalize (bif decide (z=0) then 0 else(Nat.log2 z.natAbs:Int)+1)=n
  cases decide ((1800:Int)<n)
  .exact AU rfl
  .rw[Cs FN];refine A6 (x:=Cf z) (by unfold Pf;rw[hs];rfl) ?_;rw[Cs FN];have atr:Sw (Cf z) [45]=some (B2 z.natAbs):=by
    unfold Cf;cases hc:decide (z<0)
    .rw[As];have hh:(B2 z.natAbs).head?≠some 45:=λe=>by
      have:=Dj.1 (Li z.natAbs).1 45<|List.mem_of_mem_head? e
      cases this
     unfold Sw XE;rw[wB hh];rfl
    .rw[BI];unfold Sw XE;rw[vU];show bd (bd (C6 (45::B2 z.natAbs) (([45]:AD).length:Int) ((45::B2 z.natAbs).length:Int)) _) _=_;rw[E5 AX DD A4];simp;rfl
   refine A6 atr<|AU ?_
   rw[Bo A4];rfl
 obtain⟨r,e,rfl⟩:=key;exact e
def akm(h1:q.num.natAbs<10^600)(h2:q.den<10^600):RF q=some false:=by unfold RF;rw[zy h1,Ck,Cs FN,zy (z:=(q.den:Int)) (by rw[G6];exact h2)];rfl
def ajF(h1:q.num.natAbs<10^600)(h2:q.den<10^600):RH q=some (BV q):=by
 have s1:Pf q.num=some (Cf q.num):=by unfold Pf;rw[PO h1 A4];rfl
 have s2:Pf (q.den:Int)=some (B2 q.den):=by unfold Pf;rw[PO (z:=(q.den:Int)) (by rw[G6];exact h2) A4];show some (Cf (q.den:Int))=_;unfold Cf;rw[Bo A4];simp
 have l1:=Vb q.num;have l2:=MG 600 _ A4 h1;have l3:=MG 600 _ A4 h2;unfold RH Lj BV;rw[Ck,s1,s2];cases decide (q.den=1)
 .rw[As,Ck,OK DD,Ck,Ck,OK DD];simp[Trn.bd]
 .rw[BI,BI,Ck,Ig]
def kC(v:Q3):Bool:=decide (v.1=0)&&(decide (v.2.1=0)&&decide (v.2.2=0))
def sign_zero(x:Rat):decide (x.num.sign=0)=decide (x=0):=by refine HX.2 ⟨λh=>NW.1<|Int.sign_eq_zero_iff_zero.1 h,λh=>by subst h;rfl⟩
def Zj(h:bc q c m)(hc:c<=d)(hm:m<=n):bc q d n:=by have hp:=K8 (show 0<10 by omega) hm;exact⟨Ct h.1<|HD hc hp,Ct h.2 hp⟩
def qo{e:Nat}(hx:bc x c n)(h0:x≠0)(he:c<=10^e):bc x⁻¹ 1 (n+e):=by
 have hn:x.num≠0:=λe=>h0<|NW.1 e
 have e1:=(pP x).symm;have h:=j8 (x:=(x.den:Int)) (y:=x.num) hn;rw[<-e1] at h;rw[G6] at h;refine⟨?_,?_⟩
 .rw[Mq,Mp];exact Ct h.1<|Ct hx.2<|Nat.le_mul_of_pos_right _<|Nat.pow_pos A4
 .rw[Mp,MJ];exact Ct h.2<|Ct hx.1<|LL _ he
def bc3(p:Q3)(c n:Nat):Prop:=bc p.1 c n/\bc p.2.1 c n/\bc p.2.2 c n
def fL(ha:bc3 a c m)(hb:bc3 b d n):bc3 (Ah a b) (2*(c*d)) (2*(m+n)):=by
 let⟨a1,a2,a3⟩:=ha;let⟨b1,b2,b3⟩:=hb
 have k:∀{w x y z:Rat},bc w c m->bc x d n->bc y c m->bc z d n->bc (w*x-y*z) (2*(c*d)) (2*(m+n)):=λh1 h2 h3 h4=>by
  have:=qn (MW h1 h2)<|MW h3 h4
  rwa [<-Nat.two_mul,<-Nat.two_mul] at this
 exact⟨k a2 b3 a3 b2,k a3 b1 a1 b3,k a1 b2 a2 b1⟩
def apZ(ha:bc3 a c m)(hb:bc3 b d n):bc (AM a b) (3*(c*d)) (3*(m+n)):=by
 let⟨a1,a2,a3⟩:=ha;let⟨b1,b2,b3⟩:=hb
 have:=SN (SN (MW a1 b1)<|MW a2 b2)<|MW a3 b3
 exact Zj this A4 A4
def aaT(ha:bc3 a c m)(hb:bc3 b d n):bc3 (Da a b) (c+d) (m+n):=⟨SN ha.1 hb.1,SN ha.2.1 hb.2.1,SN ha.2.2 hb.2.2⟩
def jI{t:Rat}(ha:bc3 a c m)(ht:bc t d n):bc3 (BX a t) (c*d) (m+n):=⟨MW ha.1 ht,MW ha.2.1 ht,MW ha.2.2 ht⟩
def anl{M:A3 H3}{p:Q3}(hM:∀h∈M,bc3 h.1 1 k/\bc h.2 1 k)(hv:Br M p):bc3 p 6 (35*k+1):=by
 obtain⟨_,a,ma,b,mb,c,mc,hd,rfl⟩:=Yf.1 hv;let⟨a1,a2⟩:=hM a ma;let⟨b1,b2⟩:=hM b mb;let⟨c1,c2⟩:=hM c mc
 have d:=qo (e:=1) (apZ (fL a1 b1) c1) hd A4;have s:=aaT (aaT (jI (fL b1 c1) a2)<|jI (fL c1 a1) b2)<|jI (fL a1 b1) c2
 have r:=jI s d;exact⟨Zj r.1 A4 A4,Zj r.2.1 A4 A4,Zj r.2.2 A4 A4⟩
def lv(n:Nat)(q:Rat):Prop:=bc q 1 n
def D6(n:Nat)(p:Q3):Prop:=lv n p.1/\lv n p.2.1/\lv n p.2.2
def Fo(h:lv m q)(hm:m<=n):lv n q:=Zj h A4 hm
def SX(h:bc q c m)(hc:c<=10)(hm:m+1<=n):lv n q:=by
 refine⟨?_,Ct h.2<|K8 A4 A4⟩;rw[Mq];refine Ct h.1<|Ct (LL _ hc) ?_
 rw[MJ,<-QX];exact K8 A4 hm
def MN(h:lv n q)(hn:n<=10000000000):F4 q=true:=by
 have one:∀k:Nat,k<=10^n->Nat.blt (Nat.log2 k) 68719476736=true:=by
  intro k hk;refine Ii ?_;rcases LJ k with h0|h0
  .rw[h0];exact FT rfl
  .have h1:(10:Nat)^n<=(2^4)^n:=Nat.pow_le_pow_left A4 n;rw[<-Nat.pow_mul] at h1;have h2:(2:Nat)^(4*n)<2^(4*n+1):=Nat.pow_lt_pow_right A4 A4;have:Nat.log2 k<4*n+1:=(QV A4).2 A4;omega
 unfold F4;have h1:=h.1;rw[Mq] at h1;rw[one _ h1,one _ h.2];rfl
end
section
variable{x y:Rat}{n:Nat}(hx:lv n x)(hy:lv n y)(h1:1<=n)(hn:n<=10000000000)
include hx hy h1 hn
theorem Ie:GB x y=some (x*y)/\lv (4*n) (x*y):=⟨by unfold GB;rw[MN hx hn,MN hy hn];rfl,SX (MW hx hy) A4 A4⟩
theorem aK:M0 x y=some (x+y)/\lv (4*n) (x+y):=⟨by unfold M0;rw[MN hx hn,MN hy hn];rfl,SX (SN hx hy) A4 A4⟩
theorem SI:Nv x y=some (x-y)/\lv (4*n) (x-y):=⟨by unfold Nv;rw[MN hx hn,MN hy hn];rfl,SX (qn hx hy) A4 A4⟩
theorem ab0(h0:y≠0):Sm x y=some (x/y)/\lv (4*n) (x/y):=
 ⟨by unfold Sm;rw[MN hx hn,MN hy hn,Bo h0];rfl,by rw[PV];exact SX (MW hx<|qo (e:=0) hy h0 A4) A4 A4⟩
end
section
variable{a b:Q3}{n:Nat}(ha:D6 n a)(hb:D6 n b)(h1:1<=n)(hn:n<=10000000000)
include ha hb h1 hn
theorem pA:Mg a b=some (BE a b)/\D6 (4*n) (BE a b):=by let⟨e1,k1⟩:=SI ha.1 hb.1 h1 hn;let⟨e2,k2⟩:=SI ha.2.1 hb.2.1 h1 hn;let⟨e3,k3⟩:=SI ha.2.2 hb.2.2 h1 hn;exact⟨by unfold Mg;rw[e1,e2,e3];rfl,k1,k2,k3⟩
theorem ala:M9 a b=some (Da a b)/\D6 (4*n) (Da a b):=by let⟨e1,k1⟩:=aK ha.1 hb.1 h1 hn;let⟨e2,k2⟩:=aK ha.2.1 hb.2.1 h1 hn;let⟨e3,k3⟩:=aK ha.2.2 hb.2.2 h1 hn;exact⟨by unfold M9;rw[e1,e2,e3];rfl,k1,k2,k3⟩
end
section
variable{n:Nat}{α:Type}{a:Q3}{ρ:Type}
def wm{t:Rat}(ha:D6 n a)(ht:lv n t)(h1:1<=n)(hn:n<=10000000000):P1 a t=some (BX a t)/\D6 (4*n) (BX a t):=by let⟨e1,k1⟩:=Ie ha.1 ht h1 hn;let⟨e2,k2⟩:=Ie ha.2.1 ht h1 hn;let⟨e3,k3⟩:=Ie ha.2.2 ht h1 hn;exact⟨by unfold P1;rw[e1,e2,e3];rfl,k1,k2,k3⟩
def zJ{b:Q3}(ha:D6 n a)(hb:D6 n b)(h1:1<=n)(hn:n<=100000000):TB a b=some (AM a b)/\lv (64*n) (AM a b):=by let⟨e1,k1⟩:=Ie ha.1 hb.1 h1 A4;let⟨e2,k2⟩:=Ie ha.2.1 hb.2.1 h1 A4;let⟨e3,k3⟩:=Ie ha.2.2 hb.2.2 h1 A4;let⟨e4,k4⟩:=aK k1 k2 A4 A4;let⟨e5,k5⟩:=aK k4 (Fo k3 (show 4*n<=4*(4*n) by omega)) A4 A4;refine⟨?_,Fo k5 A4⟩;unfold TB;rw[e1,e2];simp only[bd];rw[e4];simp only[bd];rw[e3];simp only[bd];rw[e5];rfl
def ahz{b:Q3}(ha:D6 n a)(hb:D6 n b)(h1:1<=n)(hn:n<=100000000):T5 a b=some (Ah a b)/\D6 (16*n) (Ah a b):=by let⟨e1,k1⟩:=Ie ha.2.1 hb.2.2 h1 A4;let⟨e2,k2⟩:=Ie ha.2.2 hb.2.1 h1 A4;let⟨e3,k3⟩:=SI k1 k2 A4 A4;let⟨e4,k4⟩:=Ie ha.2.2 hb.1 h1 A4;let⟨e5,k5⟩:=Ie ha.1 hb.2.2 h1 A4;let⟨e6,k6⟩:=SI k4 k5 A4 A4;let⟨e7,k7⟩:=Ie ha.1 hb.2.1 h1 A4;let⟨e8,k8⟩:=Ie ha.2.1 hb.1 h1 A4;let⟨e9,k9⟩:=SI k7 k8 A4 A4;refine⟨?_,Fo k3 A4,Fo k6 A4,Fo k9 A4⟩;unfold T5;rw[e1,e2];simp only[bd];rw[e3];simp only[bd];rw[e4,e5];simp only[bd];rw[e6];simp only[bd];rw[e7,e8];simp only[bd];rw[e9];rfl
def eh{h:H3}{p:Q3}(hh:D6 n h.1/\lv n h.2)(hp:D6 n p)(h1:1<=n)(hn:n<=100000000):Q4 h p=some (val h p)/\lv (256*n) (val h p):=by let⟨e1,k1⟩:=zJ hh.1 hp h1 hn;let⟨e2,k2⟩:=SI k1 (Fo hh.2 (show n<=64*n by omega)) A4 A4;refine⟨?_,Fo k2 A4⟩;unfold Q4;rw[e1];simp only[bd];rw[e2];rfl
def dz:∀l:A3 Q3,Rv l=JJ l
 |[]=>rfl
 |a::l=>by
  have go:∀(f a:Q3) (l:A3 Q3),(a::l).zip (l++[f])=JA f (a::l):=by
   intro f a l
   induction l generalizing a with|nil=>rfl|cons b l ih=>simp[SA,List.zip_cons_cons,JA];rw[ih]
  exact go a a l
def oW{α β ρ:Type}{K:A3 β->AA ρ}{B:(A3 β->AA ρ)->α->A3 β->AA ρ}(f:α->A3 β)(w:Nat):∀(L:A3 α) (s:A3 β),(∀x∈L,(f x).length<=w/\∀(s:A3 β) (next:A3 β->AA ρ),s.length<=100000000->B next x s=next (s++f x))->s.length+w*L.length<=100000000->JX L B s K=K (s++L.flatMap f)
 |[],s,_,_=>by simp[JX]
 |x::L,s,h,hl=>by let⟨h1,h2⟩:=h x Dc;rw[E6,Nat.mul_add] at hl;unfold JX;rw[h2 s _ A4,oW f w L _ (λy hy=>h y<|By _ hy) (by rw[E7];omega),Pc,HY]
def abO{b:Nat}{s:A3 α}{x:α}(hb:b<=1000)(hs:s.length<=1000000001):BG b s [x]=some (s++[x]):=by unfold BG;have h1:(s.length+[x].length)*b<=140737488355328:=Ct (HD (show s.length+[x].length<=1000000002 by simp;omega) hb) A4;rw[B4 h1,B4 (show s.length+[x].length<=9223372036854775807 by simp;omega)];rfl
def app_1{b:Nat}{s:A3 α}{x:α}(hb:b<=1000)(hs:s.length<=1000000000):BG b s [x]=some (s++[x]):=abO hb A4
def fg{x:Rat}:x.num<0↔x<0:=by rw[<-Int.not_le,Rat.num_nonneg,Rat.not_le]
theorem Ym{x:Rat}:0<x.num↔0<x:=by
 constructor
 .intro h;have h1:0<=x:=Rat.num_nonneg.1 A4;have h2:x≠0:=λe=>by rw[NW.2 e] at h;omega
  grind
 .intro h;have h1:0<=x.num:=Rat.num_nonneg.2 AL;have h2:x.num≠0:=λe=>by rw[NW.1 e] at h;grind
  omega
def zR(x:Rat):decide (x.num.sign<=0)=decide (x<=0):=by rw[HX,<-Int.not_lt,<-Rat.not_lt,Int.sign_pos_iff,Ym]
theorem ajx(x y:Rat):decide (x.num.sign*y.num.sign<0)=GF x y:=by
 rw[ZM,KX,Hl];have hx:x.num.sign=1/\0<x\/x.num.sign=0/\x=0\/x.num.sign= -1/\x<0:=by
  rcases WB x.num 0 with h|h|h
  .exact .inr<| .inr ⟨iX h,fg.1 h⟩
  .exact .inr (.inl ⟨by rw[h];rfl,NW.1 h⟩)
  .exact .inl ⟨WJ h,Ym.1 h⟩
 have hy:y.num.sign=1/\0<y\/y.num.sign=0/\y=0\/y.num.sign= -1/\y<0:=by
  rcases WB y.num 0 with h|h|h
  .exact .inr<| .inr ⟨iX h,fg.1 h⟩
  .exact .inr (.inl ⟨by rw[h];rfl,NW.1 h⟩)
  .exact .inl ⟨WJ h,Ym.1 h⟩
 rcases hx with⟨e,h⟩|⟨e,h⟩|⟨e,h⟩<;>rcases hy with⟨e',h'⟩|⟨e',h'⟩|⟨e',h'⟩<;>rw[e,e']<;>constructor<;>intro k<;>first|(exfalso;revert k;decide)|grind
def al5(x y:Rat):AH (x.num.sign*y.num.sign)=some (x.num.sign*y.num.sign):=by
 have h:∀z:Int,z.sign=1\/z.sign=0\/z.sign= -1:=λz=>by
  rcases WB z 0 with h|h|h
  .exact .inr<| .inr<|iX h
  .exact .inr (.inl (by rw[h];rfl))
  .exact .inl<|WJ h
 rcases h x.num with e|e|e<;>rcases h y.num with e'|e'|e'<;>rw[e,e']<;>rfl
theorem ajN{l:A3 Q3}{h:H3}(hl:l.length<=1000000)(hh:D6 n h.1/\lv n h.2)(hp:∀p∈l,D6 n p)(h1:1<=n)(hn:n<=10000):XJ l h=some (FV h l):=by
 unfold XJ Xq;have e:Vj l=some (JJ l):=by unfold Vj;rw[Ii (show l.length+1<=1000000000 by omega)|>(λh=>(h:Nat.blt l.length 1000000000=true)),dz];rfl
 rw[e];simp[bd];have hs:(JJ l).length=l.length:=by rw[<-dz,fE]
 have hm:∀x∈JJ l,x.1∈l/\x.2∈l:=λx hx=>by rw[<-dz] at hx;let⟨i,hi⟩:=Za.1 hx;let⟨a,b,_⟩:=yI hi;exact⟨LM a,LM b⟩
 refine oW (Lx h) 2 (JJ l) [] (λx hx=>⟨?_,λs next hs=>?_⟩) (by simp[hs];omega)
 .unfold Lx;cases decide (val h x.1<=0)<;>cases GF (val h x.1) (val h x.2)<;>simp
 .let⟨m1,m2⟩:=hm x hx;let⟨v1,w1⟩:=eh hh (hp _ m1) h1 A4;let⟨v2,w2⟩:=eh hh (hp _ m2) h1 A4;have tail:∀s:A3 Q3,s.length<=100000001->(bd (JK<|val h x.1) λBz=>bd (JK<|val h x.2) λDd=>bd (AH<|Bz*Dd) λDy=>cond (decide<|Dy<0) (bd (Nv (val h x.1)<|val h x.2) λDN=>bd (Sm (val h x.1) DN) λFw=>bd (Mg x.2 x.1) λFf=>bd (P1 Ff Fw) λFx=>bd (M9 x.1 Fx) λFg=>bd (BG 192 s ([Fg]:A3 V3)) λFK=>next FK)<|next s)=next (s++(bif GF (val h x.1) (val h x.2) then [Fe h x.1 x.2] else [])):=by
   intro s hs;unfold JK;simp[bd];rw[al5];simp[bd];rw[ajx];cases ho:GF (val h x.1) (val h x.2)
   .simp
   .have h0:val h x.1-val h x.2≠0:=by have:=KX.1 ho;grind
    let⟨a1,b1⟩:=SI w1 w2 A4 A4;let⟨a2,b2⟩:=ab0 (Fo w1 (show 256*n<=4*(256*n) by omega)) b1 A4 A4 h0;let⟨a3,b3⟩:=pA (hp _ m2) (hp _ m1) h1 A4;let⟨a4,b4⟩:=wm (n:=4096*n) ⟨Fo b3.1 A4,Fo b3.2.1 A4,Fo b3.2.2 A4⟩ (Fo b2 A4) A4 A4;let⟨a5,b5⟩:=ala (n:=4*(4096*n)) ⟨Fo (hp _ m1).1 A4,Fo (hp _ m1).2.1 A4,Fo (hp _ m1).2.2 A4⟩ b4 A4 A4;simp[BI];rw[a1];simp[bd];rw[a2];simp[bd];rw[a3];simp[bd];rw[a4];simp[bd];rw[a5];simp[bd];have:BG 192 s [Da x.1<|BX (BE x.2 x.1)<|val h x.1/(val h x.1-val h x.2)]=some (s++[Da x.1<|BX (BE x.2 x.1)<|val h x.1/(val h x.1-val h x.2)]):=abO A4 A4;rw[this];rfl
  show bd (Q4 h x.1) _=_;rw[v1];simp[bd];rw[v2];simp[bd];unfold jn;unfold Lx;cases hc:decide (val h x.1<=0)
  .have hd:decide ((val h x.1).num.sign<=0)=false:=by rw[zR];exact hc
   simp only[JK,hd,As,K7];exact tail s A4
  .have hd:decide ((val h x.1).num.sign<=0)=true:=by rw[zR];exact hc
   simp only[JK,hd,BI];rw[app_1 A4 A4];rw[<-HY];exact tail (s++[x.1]) DD
def iu{σ S:Type}{R:ρ->Prop}(L:A3 α)(e:σ->Int->S)(P:A3 α->σ->Prop){B:(S->AA ρ)->S->AA ρ}{N:Nat}
 (hs:∀(A:A3 α) (x:α) (C:A3 α) (s:σ) (k:S->AA ρ),L=A++x::C->P A s->(∀s',P (A++[x]) s'->Yd R (k<|e s' ((A.length+1:Nat):Int)))->Yd R (B k<|e s (A.length:Int)))
 (he:∀(s:σ) (k:S->AA ρ),P L s->Yd R (B k<|e s (L.length:Int)))(A0 C0:A3 α){s0:σ}(hA:L=A0++C0)(h0:P A0 s0)(hl:L.length<N):Yd R (Trn.lp N B<|e s0 (A0.length:Int)):=by
 have main:∀(C A:A3 α) (F:Nat) (s:σ),L=A++C->P A s->C.length<F->Yd R (Trn.lp F B<|e s (A.length:Int)):=by
  intro C
  induction C with
  |nil=>intro A F s hL hp hF;obtain⟨F,rfl⟩:∃G,F=G+1:=⟨F-1,A4⟩;rw[Ig] at hL;subst hL;exact he s _ hp
  |cons x C ih=>
   intro A F s hL hp hF;obtain⟨F,rfl⟩:∃G,F=G+1:=⟨F-1,A4⟩;rw[E6] at hF;refine hs A x C s _ hL hp λs' hp'=>?_
   have:=ih (A++[x]) F s' (by rw[hL,HY];rfl) hp' A4;rwa [E7] at this
 exact main C0 A0 N s0 hA h0 (by rw[hA] at hl;simp at hl;omega)
def CB{σ S:Type}{R:ρ->Prop}(L:A3 α)(e:σ->Int->S)(P:A3 α->σ->Prop){B:(S->AA ρ)->S->AA ρ}{N:Nat}
 (hs:∀(A:A3 α) (x:α) (C:A3 α) (s:σ) (k:S->AA ρ),L=A++x::C->P A s->(∀s',P (A++[x]) s'->Yd R (k<|e s' ((A.length+1:Nat):Int)))->Yd R (B k<|e s (A.length:Int)))
 (he:∀(s:σ) (k:S->AA ρ),P L s->Yd R (B k<|e s (L.length:Int))){s0:σ}(h0:P [] s0)(hl:L.length<N):Yd R (Trn.lp N B<|e s0 0):=iu L e P hs he [] L rfl h0 hl
end
section
variable{α:Type}{L A C:List α}{x:α}(h:L=A++x::C)
include h
theorem CE:decide ((A.length:Int)<(L.length:Int))=true:=by rw[h];simp<;>omega
theorem Bn:AB L (A.length:Int)=some x:=by rw[JO,h];simp
theorem at_mem:x∈L:=by rw[h];simp
theorem Cz:A.length+1<=L.length:=by rw[h];simp<;>omega
theorem C7(hl:L.length<=1000000000):AH ((A.length:Int)+1)=some ((A.length+1:Nat):Int):=by have:=Cz h;rw[EW ⟨A4,A4⟩];rfl
end
section
variable{n:Nat}{x:Rat}{k:Nat}{L:A3 H3}{y:Rat}{l:A3 Q3}{m:Nat}{a:Rat}{M:A3 H3}{f:H3}{S:A3 CQ}
def CP{α:Type}(L:A3 α):decide ((L.length:Int)<(L.length:Int))=false:=Bo A4
def jN(hx:lv n x)(hy:lv n y)(hn:n<=10000000000):On x y=some (bif decide (x<y) then -1 else bif decide (y<x) then 1 else 0):=by unfold On;rw[MN hx hn,MN hy hn];rfl
def or3(a b c:Int):VN [a,b,c]=some (bif !decide (a=0) then a else bif !decide (b=0) then b else c):=by
 obtain⟨F,hF⟩:∃F,18446744073709551616=F+4:=⟨18446744073709551612,rfl⟩;unfold VN;rw[hF];show cond (!decide (a=0)) (some a) (cond (!decide (b=0)) (some b)<|cond (!decide (c=0)) (some c)<|some 0)=_;cases ha:decide (a=0)
 .rfl
 .cases hb:decide (b=0)
  .rfl
  .cases hc:decide (c=0)
   .rfl
   .rw[Ar hc];rfl
theorem pB{a b:Q3}(ha:D6 n a)(hb:D6 n b)(hn:n<=10000000000):∃v,Sz a b=some v/\(v<0↔HI a b)/\(v=0↔a=b):=by
 unfold Sz;rw[jN ha.1 hb.1 hn,jN ha.2.1 hb.2.1 hn,jN ha.2.2 hb.2.2 hn];simp[bd];rw[or3];refine⟨_,rfl,?_⟩;let⟨a1,a2,a3⟩:=a;let⟨b1,b2,b3⟩:=b;have M8:∀x y:Rat,(x<y/\ ¬y<x/\x≠y)\/(¬x<y/\ ¬y<x/\x=y)\/(¬x<y/\y<x/\x≠y):=λx y=>by grind
 unfold HI;simp[Lp];rcases M8 a1 b1 with⟨h1,h2,h3⟩|⟨h1,h2,h3⟩|⟨h1,h2,h3⟩<;>rcases M8 a2 b2 with⟨g1,g2,g3⟩|⟨g1,g2,g3⟩|⟨g1,g2,g3⟩<;>rcases M8 a3 b3 with⟨k1,k2,k3⟩|⟨k1,k2,k3⟩|⟨k1,k2,k3⟩<;>simp[h1,h2,h3,g1,g2,g3,k1,k2,k3]
def ahq(hl:l.length<=100000000):bQ [] (some l)=some l:=by
 have fl:l.flatMap (λx=>[x])=l:=by
  clear hl
  induction l with|nil=>rfl|cons a l ih=>rw[Pc,ih];rfl
 unfold bQ;show JX l _ [] _=_;refine(oW (λx=>[x]) 1 l [] (λx _=>⟨AX,λs next hs=>by rw[app_1 A4 A4];rfl⟩) DD).trans ?_;rw[fl];rfl
def agi(hp:∀p∈l,D6 n p)(hn:n<=10000000000)(hl:l.length<=100000000):∃r,Uu l=some r/\r.Pairwise HI/\∀z,z∈r↔z∈l:=by
 have hO:M4 (λx:Q3×Q3=>Sz x.1 x.2) HI l:=aki λx mx y my=>by let⟨v,h1,h2,_⟩:=pB (hp x mx) (hp y my) hn;exact⟨v,h1,h2⟩
 let⟨s,s1,s2,s3⟩:=pK hO A4;have hs:∀p∈s,D6 n p:=λp mp=>hp p<|s2.mem_iff.1 mp
 let⟨r,r1,r2,r3⟩:=ahb (e:=λx:Q3×Q3=>Q7 x.1 x.2) (λa ma b mb=>by
  let⟨v,h1,_,h2⟩:=pB (hs a ma) (hs b mb) hn;show bd (Sz a b) _=_;rw[h1];show some (decide<|v=0)=_
  congr 1
  exact HX.2 h2) s3<|hO.perm s2
 refine⟨r,?_,r2,λz=>by rw[r3,s2.mem_iff]⟩;unfold Uu bT kO kP;have e:Vc l=some l:=by unfold Vc;rw[show Nat.blt l.length 4000000000=true from Ii A4];rfl
 rw[e];simp[bd];rw[ahq hl];simp[bd];rw[s1];simp only;rw[r1]
def ab1{a b:Q3}(h:HI a b):a≠b:=λe=>gj a (by rw[<-e] at h;exact h)
theorem agF(hf:f.1≠o3)(hl:∀p∈l,Br L p/\val f p=0/\D6 n p)(hn:D6 n f.1)(h1:1<=n)(IW:n<=10000)(hlen:l.length<=100000000)(rp:∀r:A3 Q3,(∀z∈l,z∈r)->2<=r.length):∃p s,QA l f.1=some (p::s)/\Hi f.1 (p::s)/\(∀z,z∈p::s↔z∈l)/\(∀x∈s,HI p x)/\s.Pairwise λx y=>0<CU f.1 p x y:=by
 let⟨d,d1,d2,d3⟩:=agi (λp mp=>(hl p mp).2.2) A4 hlen;have h2:=rp d λz mz=>(d3 z).2 mz
 cases d with
 |nil=>simp at h2
 |cons p t=>
  let⟨g1,g2⟩:=JF.1 d2;let⟨vp,tp,np⟩:=hl p<|(d3 p).1 Dc
  have ht:0<t.length:=by rw[E6] at h2;omega
  have hlt:t.length<4611686018427387904:=by
   have:=Ml (l:=p::t) (T:=l) (d2.imp λh=>ab1 h) λx mx=>(d3 x).1 mx
   rw[E6] at this;omega
  have hO:M4 (λx:Q3×Q3=>Ux x.1 x.2 f.1 p) (λx y=>0<CU f.1 p x y) t:=alV hf vp tp (λx mx=>by
   let⟨a,b,_⟩:=hl x<|(d3 x).1<|By _ mx
   exact⟨a,b,g1 x mx⟩) λx mx y my=>by
   let⟨_,_,nx⟩:=hl x<|(d3 x).1<|By _ mx
   let⟨_,_,ny⟩:=hl y<|(d3 y).1<|By _ my
   let⟨e1,k1⟩:=pA ny np h1 A4;let⟨e2,k2⟩:=pA nx np h1 A4;let⟨e3,k3⟩:=ahz k1 k2 A4 A4;let⟨e4,k4⟩:=zJ (n:=16*(4*n)) ⟨Fo hn.1 A4,Fo hn.2.1 A4,Fo hn.2.2 A4⟩ k3 A4 A4;refine⟨_,by show Ux x y f.1 p=_;unfold Ux;rw[e1];simp[bd];rw[e2];simp[bd];rw[e3];simp[bd];rw[e4];simp[bd,JK];rfl,?_⟩;rw[Int.sign_neg_iff,fg];have:CU f.1 p x y= -AM f.1 (Ah (BE y p)<|BE x p):=by unfold CU AM Ah BE;grind
   rw[this];grind
  let⟨s,s1,s2,s3⟩:=pK hO hlt;have hm:∀z,z∈p::s↔z∈l:=λz=>by rw[<-d3,Aq,Aq,s2.mem_iff]
  have hn:s.Nodup:=s2.nodup_iff.2<|g2.imp λh=>ab1 h
  have pw:s.Pairwise λx y=>0<CU f.1 p x y:=UB (λ{a b} ma mb h=>h.1.resolve_left h.2)<|s3.and hn
  refine⟨p,s,?_,aif hf (L:=L) (λx mx=>⟨(hl x<|(hm x).1 mx).1,(hl x<|(hm x).1 mx).2.1⟩) pw,hm,λx mx=>g1 x<|s2.mem_iff.1 mx,pw⟩
  .unfold QA;rw[d1];have e1:((t.length+1:Nat):Int)-1=(t.length:Int):=A4;simp only[bd,AB,List.getElem?_cons_zero,E6,e1,Cg,List.take_length,List.drop_succ_cons,Pa,show((1:Int)).toNat=1 from rfl];rw[show decide ((0:Nat)<=1)=true from rfl,B4 (show(1:Int)<((t.length+1:Nat):Int) by omega),B4 (show((t.length+1:Nat):Int)<=((t.length+1:Nat):Int) by omega)];simp[Bool.and_self,gC];rw[s1];dsimp;have l1:s.length=t.length:=s2.length_eq;rw[show Nat.blt 0 t.length=true from Ii ht,show Nat.ble (1+t.length) (t.length+1)=true from Ii A4,show Nat.beq s.length t.length=true from by rw[l1];exact Nat.beq_refl _];simp[PW]
def yD(hf:f.1≠o3)(hl:∀p∈l,Br L p/\val f p=0/\D6 n p)(hn:D6 n f.1)(h1:1<=n)(IW:n<=10000)(hlen:l.length<=100000000)(rp:∀r:A3 Q3,(∀z∈l,z∈r)->2<=r.length):∃r,QA l f.1=some r/\Hi f.1 r/\∀z,z∈r↔z∈l:=by let⟨p,s,h1,h2,h3,_⟩:=agF hf hl hn h1 IW hlen rp;exact⟨_,h1,h2,h3⟩
def JQ(k:Nat)(L:A3 H3):Prop:=∀g∈L,D6 k g.1/\lv k g.2
def ij(h:JQ k M){p:Q3}(hp:Br M p):D6 (35*k+2) p:=by have b:=anl (k:=k) (λg mg=>h g mg) hp;exact⟨SX b.1 A4 A4,SX b.2.1 A4 A4,SX b.2.2 A4 A4⟩
def QN{v:Q3}(h:D6 m v)(hm:m<=n):D6 n v:=⟨Fo h.1 hm,Fo h.2.1 hm,Fo h.2.2 hm⟩
def ajO(h:H3)(l:A3 Q3):(FV h l).length<=2*l.length:=by
 have:∀s:A3 (Q3×Q3),(s.flatMap<|Lx h).length<=2*s.length:=λs=>by
  induction s with
  |nil=>simp
  |cons x s ih=>
   have hx:(Lx h x).length<=2:=by unfold Lx;cases decide (val h x.1<=0)<;>cases GF (val h x.1) (val h x.2)<;>simp
   rw[Pc,E7,E6];omega
 have k:=this<|JJ l
 have e:(JJ l).length=l.length:=by rw[<-dz,fE]
 unfold FV;omega
def sign_neg(x:Rat):decide (x.num.sign<0)=decide (x<0):=HX.2 (by rw[Int.sign_neg_iff,fg])
def Yi(x:Rat):decide (0<x.num.sign)=decide (0<x):=HX.2 (by rw[Int.sign_pos_iff,Ym])
def vE(h:H3)(A:A3 CQ)(f:CQ):No h (A++[f])=No h A++(bif decide (2<(FV h f.2).length) then [(f.1,FV h f.2)] else []):=by unfold No;rw[List.filterMap_append];cases hd:decide (2<(FV h f.2).length)<;>simp[hd]
def alA(I:CH S M)(hl:M.length<=60){f:CQ}(mf:f∈S):f.2.length<=216000:=by
 let⟨_,g2,g3,g4⟩:=I.Eg f mf;have:=p9 (g2.nodup g3) λp mp=>((g4 p).1 mp).1
 have:=HD hl<|HD hl hl
 omega
theorem Yd.nB{h:H3}(I:CH S M)(hM:JQ k (h::M))(hk:k<=280)(hlen:M.length<=60)(hz:h.1≠o3)(hn:∀a∈h::M,∀b∈h::M,Qw a b->a=b):Yd (λr:A3 CQ×Bool=>(r.2=true/\CH r.1 (h::M))\/(r.2=false/\ ¬ ∃o,∀k∈h::M,val k o<0)) (Mf S h):=by
 have hM':JQ k M:=λg mg=>hM g<|By _ mg
 have np:∀f∈S,∀p∈f.2,D6 (35*k+2) p:=λf mf p mp=>ij hM' (((I.Eg f mf).2.2.2 p).1 mp).1
 have nc:∀f∈S,∀p∈FV h f.2,D6 (35*k+2) p:=λf mf p mp=>ij hM ((I.Vt h f mf p).1 mp).1
 have hh:D6 (35*k+2) h.1/\lv (35*k+2) h.2:=⟨QN (hM h Dc).1 A4,Fo (hM h Dc).2 A4⟩;have hS:=I.len;have fl:∀f∈S,f.2.length<=216000:=λf mf=>alA I hlen mf
 unfold Mf;refine CB S (λ(s:Bool×Bool) i=>(s.1,s.2,i)) (λA s=>(s.1=true↔∃f∈A,∃p∈f.2,val h p<0)/\(s.2=true↔∃f∈A,∃p∈f.2,0<val h p)) (λA f C s k1 hL hP next=>?_) (λs k1 hP=>?_) (s0:=(false,false)) AX A4
 .dsimp;rw[CE hL,BI];refine A6 (Bn hL) ?_;have mf:=at_mem hL;refine CB f.2 (λ(s:Bool×Bool) i=>(s.1,s.2,i)) (λB t=>(t.1=true↔(∃f∈A,∃p∈f.2,val h p<0)\/∃p∈B,val h p<0)/\(t.2=true↔(∃f∈A,∃p∈f.2,0<val h p)\/∃p∈B,0<val h p)) (λB p D t k2 hL' hP' next'=>?_) (λt k2 hP'=>?_) (s0:=s) (by simpa using hP) (by have:=fl f mf;omega)
  .dsimp;rw[CE hL',BI];refine DI (λt:Bool×Bool=>(t.1=true↔(∃f∈A,∃p∈f.2,val h p<0)\/∃q∈B++[p],val h q<0)/\(t.2=true↔(∃f∈A,∃p∈f.2,0<val h p)\/∃q∈B++[p],0<val h q)) (λt ht=>A6 (C7 hL' (by have:=fl f mf;omega))<|next' t ht) λk3 hk3=>?_
   refine A6 (Bn hL')<|A6 (eh hh (np f mf p<|at_mem hL') A4 A4).1<|A6 (x:=(val h p).num.sign) rfl ?_
   rw[sign_neg,Yi];simp only[C3,Cn,ZE,exists_or,exists_eq_left] at hk3;refine Ac (λhc=>hk3 _ ?_) λhc=>Ac (λH8=>hk3 _ ?_) λH8=>hk3 _ ?_
   .have hc:=Ar hc;have F6: ¬0<val h p:=AL;simp only[hc,F6,or_true,or_false,true_iff];exact⟨trivial,hP'.2⟩
   .have hc:=Bg hc;have H8:=Ar H8;simp only[hc,H8,or_true,or_false];exact⟨hP'.1,AX⟩
   .have hc:=Bg hc;have H8:=Bg H8;simp only[hc,H8,or_false];exact hP'
  .dsimp;rw[CP,As];refine A6 (C7 hL A4)<|next t ?_
   simpa[C3,ZE,exists_or] using hP'
 .dsimp;rw[CP,As];refine Ac (λhc=>AU<| .inr ⟨rfl,I.empty λf mf p mp=>?_⟩) λhc=>Ac (λH8=>AU<| .inl ⟨rfl,I.out hz hn λf mf p mp=>?_⟩) λH8=>?_
  .grind
  .grind
  .let⟨f0,m0,p0,q0,h0⟩:=hP.1.1 (by simpa using hc);let⟨f1,m1,p1,q1,h1⟩:=hP.2.1 (by simpa using H8);let⟨_,c1,c2⟩:=I.cut hz m0 q0 h0 m1 q1 h1;refine CB S (λ(s:A3 Q3×A3 CQ) i=>(s.1,s.2,i)) (λA s=>s.2=No h A/\(∀p,p∈s.1↔(∃f∈A,p∈FV h f.2)/\val h p=0)/\s.1.length<=A.length*432000) (λA f C s k1 hL hP next=>?_) (λs k1 hP=>?_) (s0:=([],[])) (by simp[No]) A4
   .dsimp;have mf:=at_mem hL;have cl:=ajO h f.2;have fl':=fl f mf;have al:=Cz hL;have fal:(No h A).length<=A.length:=List.length_filterMap_le _ _;rw[CE hL,BI];refine DI (λt:A3 Q3×A3 CQ=>t.2=No h (A++[f])/\(∀p,p∈t.1↔(∃g∈A++[f],p∈FV h g.2)/\val h p=0)/\t.1.length<=(A++[f]).length*432000) (λt ht=>A6 (C7 hL A4)<|next t ht) λk3 hk3=>?_
    refine A6 (Bn hL)<|A6 (ajN A4 hh (np f mf) A4 A4) ?_
    have mc:=nc f mf;refine CB (FV h f.2) (λ(t:A3 Q3) i=>(t,i)) (λB t=>(∀p,p∈t↔((∃f∈A,p∈FV h f.2)\/p∈B)/\val h p=0)/\t.length<=A.length*432000+B.length) (λB p D t k2 hL' hP' next'=>?_) (λt k2 hP'=>?_) (s0:=s.1) (by simpa using hP.2) A4
    .dsimp;have bl:=Cz hL';rw[CE hL',BI];refine DI (λt:A3 Q3=>(∀q,q∈t↔((∃f∈A,q∈FV h f.2)\/q∈B++[p])/\val h q=0)/\t.length<=A.length*432000+(B++[p]).length) (λt ht=>A6 (C7 hL' A4)<|next' t ht) λk4 hk4=>?_
     refine A6 (Bn hL')<|A6 (eh hh (mc p<|at_mem hL') A4 A4).1<|A6 (x:=(val h p).num.sign) rfl ?_
     rw[sign_zero];refine Ac (λhc=>A6 (app_1 A4 A4) (hk4 _ ⟨λq=>?_,by have:=hP'.2;simp;omega⟩)) λhc=>hk4 _ ⟨λq=>?_,by have:=hP'.2;simp;omega⟩
     .grind
     .grind
    .dsimp;rw[CP,As];have g1:∀p,p∈t↔(∃g∈A++[f],p∈FV h g.2)/\val h p=0:=λp=>by rw[hP'.1];simp[C3,ZE,exists_or]
     have g2:t.length<=(A++[f]).length*432000:=AL;have hd:decide (2<((FV h f.2).length:Int))=decide (2<(FV h f.2).length):=HX.2 A4;rw[hd];refine Ac (λhc=>?_) λhc=>hk3 _ ⟨?_,g1,g2⟩
     .rw[hP.1];exact A6 (app_1 A4 A4) (hk3 _ ⟨by rw[vE,hc];rfl,g1,g2⟩)
     .rw[vE,hc,hP.1];simp
   .dsimp;rw[CP,As];let⟨r,r1,r2,r3⟩:=yD (L:=h::M) hz (l:=s.1) (n:=35*k+2) (λp mp=>by
     let⟨⟨f,mf,mp'⟩,hv⟩:=(hP.2.1 p).1 mp;exact⟨((I.Vt h f mf p).1 mp').1,hv,nc f mf p mp'⟩) hh.1 A4 A4 (by have:=hP.2.2;omega) λl hl=>by
      have:=c2 l λp vp tp=>hl p<|(hP.2.1 p).2<|(c1 p).2 ⟨vp,tp⟩
      omega
    have fsl:(No h S).length<=S.length:=List.length_filterMap_le _ _;rw[hP.1];refine A6 r1<|A6 (app_1 A4 A4)<|AU<| .inl ⟨rfl,?_⟩
    exact I.clip hz hn m0 q0 h0 m1 q1 h1 r2 λp=>by rw[r3,hP.2.1]
theorem Yd.lf(I:CH S M)(hM:JQ k (L++M))(hk:k<=280)(hlen:L.length+M.length<=60)(hz:∀h∈L,h.1≠o3)(hn:∀a∈L++M,∀b∈L++M,Qw a b->a=b):Yd (λr:A3 CQ×Bool=>(r.2=true/\∃N,(∀h,h∈N↔h∈L\/h∈M)/\N.length=L.length+M.length/\CH r.1 N)\/(r.2=false/\ ¬ ∃o,∀k∈L++M,val k o<0)) (Oy S L):=by
 unfold Oy;refine CB L (λ(s:A3 CQ) i=>(s,i)) (λA s=>∃N,(∀h,h∈N↔h∈A\/h∈M)/\N.length=A.length+M.length/\CH s N) (λA h C s k1 hL hP next=>?_) (λs k1 hP=>?_) (s0:=S) ⟨M,AX,AX,I⟩ A4
 .let⟨N,n1,n2,n3⟩:=hP;have al:=Cz hL;rw[CE hL,BI];refine A6 (Bn hL) ?_;have sub:∀g∈h::N,g∈L++M:=λg mg=>by
   rcases Aq.1 mg with e|mg
   .grind
   .grind
  refine Ap (Yd.nB (k:=k) n3 (λg mg=>hM g<|sub g mg) hk A4 (hz h<|at_mem hL) λa ma b mb=>hn a (sub a ma) b<|sub b mb) λr hr=>?_
  rcases hr with⟨e,hr⟩|⟨e,hr⟩
  .rw[e,PY,As];refine A6 (C7 hL A4)<|next _ ⟨h::N,λg=>?_,DD,hr⟩
   rw[Aq,n1];simp[C3,Cn];constructor
   .grind
   .grind
  .rw[e,Bool.not_false,BI];exact AU<| .inr ⟨rfl,λ⟨o,ho⟩=>hr ⟨o,λg mg=>ho g<|sub g mg⟩⟩
 .dsimp;rw[CP,As];exact AU<| .inl ⟨rfl,hP⟩
def NZ{d:Int}(h:d=1\/d= -1):qF d=some (d:Rat):=by rcases h with rfl|rfl<;>rfl
def Ji{d:Int}(h:d=1\/d= -1)(n:Nat):lv n (d:Rat):=by have e:(10:Nat)^0<=10^n:=K8 A4 A4;have:1<=10^n:=e;rcases h with rfl|rfl<;>exact⟨by show 1<=1*10^n;omega,by show 1<=10^n;omega⟩
def kA:NP 0 0 0=some ((0:Rat),(0:Rat),(0:Rat)):=A7
def Vh(ha:0<a)(hk:JQ k (DV a))(hk2:k<=280){N:Q3}(hN:(N,a)∈DV a)(hz:N≠o3){f:Rat->Rat->Q3}
 (hf:∀p,(∃x y,(x=a\/x= -a)/\(y=a\/y= -a)/\p=f x y)↔Br (DV a) p/\val (N,a) p=0)(hne:f a a≠f (-a) (-a))(hl:l=Nu a f):∃r,QA l N=some r/\Hi N r/\∀p,p∈r↔Br (DV a) p/\val (N,a) p=0:=by
 subst hl;have hm:∀p,p∈Nu a f↔Br (DV a) p/\val (N,a) p=0:=λp=>by rw[yF,hf]
 let⟨r,r1,r2,r3⟩:=yD (L:=DV a) (f:=(N,a)) hz (l:=Nu a f) (n:=35*k+2) (λp mp=>⟨((hm p).1 mp).1,((hm p).1 mp).2,ij hk ((hm p).1 mp).1⟩) (QN (hk _ hN).1 A4) A4 A4 (by unfold Nu;simp) λr hr=>by
  have:=Ml (l:=[f a a,f (-a)<| -a]) (T:=r) (by simp[hne]) (by
   intro x mx;refine hr x<|yF.2 ?_
   rcases Aq.1 mx with e|mx
   .exact⟨a,a,.inl rfl,.inl rfl,e⟩
   .exact⟨-a,-a,.inr rfl,.inr rfl,Cn.1 mx⟩)
  exact this
 exact⟨r,r1,r2,λp=>by rw[r3,hm]⟩
def cpt(a:Rat)(m:Nat)(s:Int)(d:Int×Int):Q3:=match m with|0=>((s:Rat)*a,(d.1:Rat)*a,(d.2:Rat)*a)|1=>((d.2:Rat)*a,(s:Rat)*a,(d.1:Rat)*a)|_=>((d.1:Rat)*a,(d.2:Rat)*a,(s:Rat)*a)
abbrev four:A3 (Int×Int):=[((-1),(-1)),((-1),1),(1,(-1)),(1,1)]
theorem anM{d:Int×Int}(h:d∈four):(d.1=1\/d.1= -1)/\(d.2=1\/d.2= -1):=by grind
theorem WZ(a:Rat):((1:Int):Rat)*a=a:=by grind
theorem WY(a:Rat):((-1:Int):Rat)*a= -a:=by grind
theorem anR(ha:0<a)(h1:1<=k)(hk:lv k a)(hk2:k<=280):Yd (λS=>CH S<|DV a) (Y8 a):=by
 have Gb:JQ k (DV a):=by have o:=Ji (.inl rfl:(1:Int)=1\/(1:Int)= -1) k;have m:=Ji (.inr rfl:(-1:Int)=1\/(-1:Int)= -1) k;have z:lv k (0:Rat):=⟨FQ _,o.2⟩;exact MH.2 ⟨⟨⟨m,z,z⟩,hk⟩,⟨⟨o,z,z⟩,hk⟩,⟨⟨z,m,z⟩,hk⟩,⟨⟨z,o,z⟩,hk⟩,⟨⟨z,z,m⟩,hk⟩,⟨z,z,o⟩,hk⟩
 unfold Y8;refine CB ([0,1,2]:A3 Nat) (λ(s:A3 CQ) i=>(s,i)) (λA s=>s.map Prod.fst=(DV a).take (2*A.length)/\∀f∈s,Hi f.1.1 f.2/\∀p,p∈f.2↔Br (DV a) p/\val f.1 p=0) (λA i C s k1 hL hP next=>?_) (λs k1 hP=>?_) (s0:=[]) ⟨rfl,AX⟩ AX
 .have hm:=Cz hL;rw[show([0,1,2]:A3 Nat).length=3 from rfl] at hm;rw[E7] at next
  generalize A.length=m at*
  clear hL;rw[B4 (show(m:Int)<3 by omega),BI];refine CB ([(-1),1]:A3 Int) (λ(t:A3 CQ) j=>(t,j)) (λB t=>t.map Prod.fst=(DV a).take (2*m+B.length)/\∀f∈t,Hi f.1.1 f.2/\∀p,p∈f.2↔Br (DV a) p/\val f.1 p=0) (λB sg C t k2 hL hP Fp=>?_) (λt k2 hP=>?_) (s0:=s) (by simpa using hP) AX
  .dsimp only;rw[CE hL,BI];have hsg:sg=1\/sg= -1:=by have:=at_mem hL;simp at this;omega
   have hb:=Cz hL;rw[show([(-1),1]:A3 Int).length=2 from rfl] at hb;have hbs:sg=2*(B.length:Int)-1:=by
    rcases B with _|⟨b0,_|⟨b1,B⟩⟩
    .grind
    .grind
    .simp at hb
   have tl:t.length<=6:=by rw[<-Be Prod.fst,hP.1];simp[DV];omega
   refine A6 (Bn hL)<|A6 kA<|A6 (NZ hsg) ?_
   have fin:∀(N:Q3) (l:A3 Q3),(∃r,QA l N=some r/\Hi N r/\∀p,p∈r↔Br (DV a) p/\val (N,a) p=0)->(DV a)[2*m+B.length]? =some (N,a)->Yd (λS=>CH S<|DV a) (bd (QA l N) λGY=>bd (BG 280 t ([((N,a),GY)]:A3 CQ)) λHv=>bd (AH<|(B.length:Int)+1) λJs=>k2 (Hv,Js)):=by
    rintro N l ⟨r,r1,r2,r3⟩ hix;refine A6 r1<|A6 (app_1 A4 A4)<|A6 (C7 hL AX)<|Fp _ ⟨?_,λf mf=>?_⟩
    .rw[Ge,hP.1,E7,<-LD];show _=List.take (2*m+B.length+1) _;rw[List.take_add_one,hix];rfl
    .grind
   have hm:m=0\/m=1\/m=2:=A4;refine A6 (x:=(0:Rat)) (by rcases hm with rfl|rfl|rfl<;>rfl) ?_;refine CB four (λ(u:A3 Q3) j=>(u,j)) (λD u=>u=D.map (cpt a m sg)) (λD d E u k3 hL3 hP3 Nk=>?_) (λu k3 hP3=>?_) (s0:=[]) rfl (by simp[four])
   .dsimp only;rw[CE hL3,BI];let⟨d1,d2⟩:=anM<|at_mem hL3
    have ul:u.length<=100000000:=by rw[hP3,Be];have:=Cz hL3;simp at this;omega
    rcases hm with rfl|rfl|rfl
    .exact A6 (Bn hL3) (A6 (kA) (A6 ((rfl)) (A6 ((rfl)) (A6 ((rfl)) (A6 ((rfl)) (A6 (NZ hsg) (A6 ((Ie (Ji hsg k) hk h1 A4).1) (A6 (NZ d1) (A6 ((Ie (Ji d1 k) hk h1 A4).1) (A6 (NZ d2) (A6 ((Ie (Ji d2 k) hk h1 A4).1) (A6 ((rfl)) (A6 ((rfl)) (A6 ((rfl)) (A6 (app_1 A4 A4) (A6 (C7 hL3 AX) (Nk _ (by rw[hP3,Ge];rfl))))))))))))))))))
    .exact A6 (Bn hL3) (A6 (kA) (A6 ((rfl)) (A6 ((rfl)) (A6 ((rfl)) (A6 ((rfl)) (A6 (NZ hsg) (A6 ((Ie (Ji hsg k) hk h1 A4).1) (A6 (NZ d1) (A6 ((Ie (Ji d1 k) hk h1 A4).1) (A6 (NZ d2) (A6 ((Ie (Ji d2 k) hk h1 A4).1) (A6 ((rfl)) (A6 ((rfl)) (A6 ((rfl)) (A6 (app_1 A4 A4) (A6 (C7 hL3 AX) (Nk _ (by rw[hP3,Ge];rfl))))))))))))))))))
    .exact A6 (Bn hL3) (A6 (kA) (A6 ((rfl)) (A6 ((rfl)) (A6 ((rfl)) (A6 ((rfl)) (A6 (NZ hsg) (A6 ((Ie (Ji hsg k) hk h1 A4).1) (A6 (NZ d1) (A6 ((Ie (Ji d1 k) hk h1 A4).1) (A6 (NZ d2) (A6 ((Ie (Ji d2 k) hk h1 A4).1) (A6 ((rfl)) (A6 ((rfl)) (A6 ((rfl)) (A6 (app_1 A4 A4) (A6 (C7 hL3 AX) (Nk _ (by rw[hP3,Ge];rfl))))))))))))))))))
   .dsimp only;rw[CP,As,hP3];have ne:a≠ -a:=AL;rcases hm with rfl|rfl|rfl<;>rcases hsg with rfl|rfl
    .exact fin _ _ (Vh (N:=(1,0,0)) (f:=λx y=>(a,x,y)) ha Gb hk2 (by simp[DV]) (λe=>by simp only[o3,Lp] at e;grind) (λp=>by rw[Tb ha,OZ];exact⟨λ⟨x,y,hx,hy,e⟩=>by subst e;grind,λh=>⟨p.2.1,p.2.2,AL,AL,Prod.ext (by dsimp<;>grind) (Prod.ext (by dsimp<;>grind) (by dsimp<;>grind))⟩⟩) (λe=>by simp[Prod.ext_iff] at e;grind) (by simp[cpt,Nu,WZ,WY]<;>grind)) (by rw[show B.length=1 by omega];rfl)
    .exact fin _ _ (Vh (N:=(-1,0,0)) (f:=λx y=>(-a,x,y)) ha Gb hk2 (by simp[DV]) (λe=>by simp[o3,Lp] at e;grind) (λp=>by rw[Tb ha,Oa];exact⟨λ⟨x,y,hx,hy,e⟩=>by subst e;grind,λh=>⟨p.2.1,p.2.2,AL,AL,Prod.ext (by dsimp<;>grind) (Prod.ext (by dsimp<;>grind) (by dsimp<;>grind))⟩⟩) (λe=>by simp[Prod.ext_iff] at e;grind) (by simp[cpt,Nu,WZ,WY]<;>grind)) (by rw[show B.length=0 by omega];rfl)
    .exact fin _ _ (Vh (N:=(0,1,0)) (f:=λx y=>(y,a,x)) ha Gb hk2 (by simp[DV]) (λe=>by simp only[o3,Lp] at e;grind) (λp=>by rw[Tb ha,OX];exact⟨λ⟨x,y,hx,hy,e⟩=>by subst e;grind,λh=>⟨p.2.2,p.1,AL,AL,Prod.ext (by dsimp<;>grind) (Prod.ext (by dsimp<;>grind) (by dsimp<;>grind))⟩⟩) (λe=>by simp[Prod.ext_iff] at e;grind) (by simp[cpt,Nu,WZ,WY]<;>grind)) (by rw[show B.length=1 by omega];rfl)
    .exact fin _ _ (Vh (N:=(0,-1,0)) (f:=λx y=>(y,-a,x)) ha Gb hk2 (by simp[DV]) (λe=>by simp[o3,Lp] at e;grind) (λp=>by rw[Tb ha,OY];exact⟨λ⟨x,y,hx,hy,e⟩=>by subst e;grind,λh=>⟨p.2.2,p.1,AL,AL,Prod.ext (by dsimp<;>grind) (Prod.ext (by dsimp<;>grind) (by dsimp<;>grind))⟩⟩) (λe=>by simp[Prod.ext_iff] at e;grind) (by simp[cpt,Nu,WZ,WY]<;>grind)) (by rw[show B.length=0 by omega];rfl)
    .exact fin _ _ (Vh (N:=(0,0,1)) (f:=λx y=>(x,y,a)) ha Gb hk2 (by simp[DV]) (λe=>by simp only[o3,Lp] at e;grind) (λp=>by rw[Tb ha,OV];exact⟨λ⟨x,y,hx,hy,e⟩=>by subst e;grind,λh=>⟨p.1,p.2.1,AL,AL,Prod.ext (by dsimp<;>grind) (Prod.ext (by dsimp<;>grind) (by dsimp<;>grind))⟩⟩) (λe=>by simp[Prod.ext_iff] at e;grind) (by simp[cpt,Nu,WZ,WY]<;>grind)) (by rw[show B.length=1 by omega];rfl)
    .exact fin _ _ (Vh (N:=(0,0,-1)) (f:=λx y=>(x,y,-a)) ha Gb hk2 (by simp[DV]) (λe=>by simp[o3,Lp] at e;grind) (λp=>by rw[Tb ha,OW];exact⟨λ⟨x,y,hx,hy,e⟩=>by subst e;grind,λh=>⟨p.1,p.2.1,AL,AL,Prod.ext (by dsimp<;>grind) (Prod.ext (by dsimp<;>grind) (by dsimp<;>grind))⟩⟩) (λe=>by simp[Prod.ext_iff] at e;grind) (by simp[cpt,Nu,WZ,WY]<;>grind)) (by rw[show B.length=0 by omega];rfl)
  .dsimp only;rw[CP,As];refine A6 (x:=((m+1:Nat):Int)) (by rw[EW ⟨A4,A4⟩];rfl)<|next t ?_
   have:2*(m+[i].length)=2*m+([(-1),1]:A3 Int).length:=by simp;omega
   rw[this];exact hP
 .dsimp only;rw[show decide (((([0,1,2]:A3 Nat).length:Nat):Int)<3)=false from rfl,As];exact AU<|ajK ha hP.1 hP.2
def IG(n:Q3):Prop:=∃x y z:Int,n=((x:Rat),(y:Rat),(z:Rat))/\Nat.gcd (Nat.gcd x.natAbs y.natAbs) z.natAbs=1
def IG.J3{n:Q3}:IG n->Nw n|⟨x,y,z,h,_⟩=>by rw[h];exact⟨⟨x,rfl⟩,⟨y,rfl⟩,⟨z,rfl⟩⟩
theorem qk{x:Int}(h:(x:Rat)=0):x=0:=by simp_all
def IG.nz{n:Q3}(p:IG n):n≠o3:=λe=>by let⟨x,y,z,h,g⟩:=p;rw[h] at e;simp only[o3,Lp] at e;rw[qk e.1,qk e.2.1,qk e.2.2] at g;cases g
def qJ{s:Rat}{x y:Int}(h:(x:Rat)*s=(y:Rat)):s.den∣x.natAbs/\s.num.natAbs∣y.natAbs:=by
 have e:x*s.num=y*(s.den:Int):=by
  have hd:(s.den:Rat)≠0:=by have:=s.den_nz;intro c;exact this<|Rat.natCast_eq_zero_iff.1 c
  have h2:(x:Rat)*(s.num:Rat)=(y:Rat)*(s.den:Rat):=by
   have h3:(s.num:Rat)=s*(s.den:Rat):=by have:=Rat.num_divInt_den s;rw[OP,Rat.intCast_natCast] at this;have t:=Nc (a:=(s.num:Rat)) hd;rw[this] at t;exact t.symm
   rw[h3,<-h,Rat.mul_assoc]
  have h4:((x*s.num:Int):Rat)=((y*(s.den:Int):Int):Rat):=by rw[Rat.intCast_mul,Rat.intCast_mul];exact h2
  exact iB.1 h4
 have n:=congrArg Int.natAbs e;rw[Mr,Mr,G6] at n;have c:=s.reduced;exact⟨(Nat.Coprime.dvd_of_dvd_mul_right c.symm ⟨y.natAbs,by rw[n,MJ]⟩),(Nat.Coprime.dvd_of_dvd_mul_right c ⟨x.natAbs,by rw[<-n,MJ]⟩)⟩
theorem Vf{h k:H3}(a:IG h.1)(b:IG k.1):Qw h k->h=k:=λ⟨s,s0,e⟩=>by
 let⟨x,y,z,e1,g1⟩:=a;let⟨x',y',z',e2,g2⟩:=b;have e3:BX h.1 s=k.1:=by rw[e]
 rw[e1,e2] at e3;simp[BX,Lp] at e3;let⟨c1,c2⟩:=qJ e3.1;let⟨d1,d2⟩:=qJ e3.2.1;let⟨f1,f2⟩:=qJ e3.2.2;have u:=Nat.dvd_gcd (Nat.dvd_gcd c1 d1) f1;have v:=Nat.dvd_gcd (Nat.dvd_gcd c2 d2) f2;rw[g1] at u;rw[g2] at v;have u:=Nat.dvd_one.1 u;have v:=Nat.dvd_one.1 v;have:0<s.num:=Ym.2 s0;have s1:s=1:=Rat.ext (by show s.num=1;omega) (by show s.den=1;omega);rw[e,s1];exact Prod.ext (J0) (by simp only;grind)
def ajM:∀h∈DV a,IG h.1:=MH.2 ⟨⟨-1,0,0,A7,rfl⟩,⟨1,0,0,A7,rfl⟩,⟨0,-1,0,A7,rfl⟩,⟨0,1,0,A7,rfl⟩,⟨0,0,-1,A7,rfl⟩,⟨0,0,1,A7,rfl⟩⟩
def Ot(x:Rat):Rat:=bif decide (x<0) then -x else x
theorem iq{m:Rat}(h:Ot x<=m):wi x m:=by grind [Ot,wi]
def ir(h:lv n x):lv n (Ot x):=by
 unfold Ot;cases decide (x<0)
 .exact h
 .exact abM h
def zQ(x:Rat):Y6 x=some (Ot x):=by unfold Y6 JK Ot Sl;rw[Ck,sign_neg];cases decide (x<0)<;>rfl
theorem vZ{l:A3 Rat}(h:∀x∈l,lv n x)(hn:n<=10000000000)(hl:l.length<=10000000):Yd (λr=>1<=r/\lv n r/\∀x∈l,x<=r) (XV l):=by
 have hL:∀x∈l++[1],lv n x:=λx mx=>by
  rcases C3.1 mx with m|m
  .exact h x m
  .rw[Cn.1 m];exact Ji (d:=1) (.inl rfl) n
 have fin:∀r,r∈l++[1]->(∀x∈l++[1],x<=r)->1<=r/\lv n r/\∀x∈l,x<=r:=λr mr hr=>⟨hr 1 AX,hL r mr,λx mx=>hr x (by simp[mx])⟩
 have len:(l++[1]).length=l.length+1:=AX;unfold XV;refine A6 (NZ<| .inl rfl)<|A6 (app_1 A4 A4) ?_
 rw[show((1:Int):Rat)=1 from rfl]
 generalize l++[1]=L at*
 unfold kL;cases L with
 |nil=>simp at len
 |cons y T=>
  rw[Bo (show¬(((y::T).length:Nat):Int)<1 by simp;omega),As];refine Ap (S:=λr=>r∈y::T/\∀x∈y::T,x<=r) (A6 (x:=y) rfl ?_) λr hr=>AU<|fin r hr.1 hr.2
  refine iu (y::T) (λ(m:Rat) i=>(m,i)) (λA m=>m∈y::T/\∀x∈A,x<=m) (λA x C m k hA hP next=>?_) (λm k hP=>?_) [y] T (s0:=y) rfl ⟨AX,by simp[GR]⟩ A4
  .dsimp only;rw[CE hA,BI];have mx:=at_mem hA;refine DI (λm':Rat=>m'∈y::T/\∀z∈A++[x],z<=m') (λm' KS=>A6 (C7 hA A4)<|next m' KS) λk8 h8=>?_
   refine A6 (Bn hA)<|A6 (jN (hL x mx) (hL m hP.1) hn)<|Ac (λhc=>A6 (Bn hA)<|h8 x ⟨mx,λz mz=>?_⟩) λhc=>h8 m ⟨hP.1,λz mz=>?_⟩
   .have hm:m<=x:=by
     refine Co λg=>?_
     rw[B4 (show x<m by grind)] at hc;cases hc
    rcases C3.1 mz with mz|mz
    .grind
    .grind
   .have hm:x<=m:=by
     refine Co λg=>?_
     rw[Bo (show¬x<m by grind),B4 (show m<x by grind)] at hc;cases hc
    rcases C3.1 mz with mz|mz
    .exact hP.2 z mz
    .grind
  .dsimp only;rw[CP,As];exact AU hP
def yv(hk:lv k a):JQ k (DV a):=by have o:=Ji (.inl rfl:(1:Int)=1\/(1:Int)= -1) k;have m:=Ji (.inr rfl:(-1:Int)=1\/(-1:Int)= -1) k;have z:lv k (0:Rat):=⟨FQ _,o.2⟩;exact MH.2 ⟨⟨⟨m,z,z⟩,hk⟩,⟨⟨o,z,z⟩,hk⟩,⟨⟨z,m,z⟩,hk⟩,⟨⟨z,o,z⟩,hk⟩,⟨⟨z,z,m⟩,hk⟩,⟨z,z,o⟩,hk⟩
def ZB(hx:lv m x)(hy:lv n y)(hm:m<=1000)(hn:n<=1000):GB x y=some (x*y):=by unfold GB;rw[MN hx A4,MN hy A4];rfl
def Ua(L:A3 H3)(k:Nat)(r:A3 CQ×Bool):Prop:=
 ∃a m D:Rat,a=7*(m*m*D)/\0<m/\0<D/\lv (3*k+1) a/\(∀h∈L,wi3 h.1 m/\wi h.2 D)/\
  ((r.2=true/\∃N,(∀h,h∈N↔h∈L\/h∈DV a)/\CH r.1 N)\/(r.2=false/\ ¬ ∃o,∀k∈L++DV a,val k o<0))
theorem yz(hL:JQ k L)(h1:1<=k)(hk:k<=90)(hlen:L.length<=50)(hp:∀h∈L,IG h.1):Yd (Ua L k) (TE L):=by
 unfold TE;refine CB L (λ(s:A3 Rat×A3 Rat) i=>(s.1,s.2,i)) (λA s=>((∀x∈s.1,lv k x)/\∀x∈s.2,lv k x)/\(∀h∈A,Ot h.1.1∈s.1/\Ot h.1.2.1∈s.1/\Ot h.1.2.2∈s.1/\Ot h.2∈s.2)/\s.1.length=3*A.length/\s.2.length=A.length) (λA h C s k1 hA hP next=>?_) (λs k1 hP=>?_) (s0:=([],[])) AX A4
 .dsimp;rw[CE hA,BI];refine A6 (Bn hA) ?_;let⟨g1,g2⟩:=hL h<|at_mem hA
  have al:=Cz hA;refine CB [h.1.1,h.1.2.1,h.1.2.2] (λ(t:A3 Rat) i=>(t,i)) (λB t=>t=s.1++B.map Ot) (λB x D t k2 hB hQ Fp=>?_) (λt k2 hQ=>?_) (s0:=s.1) AX AX
  .dsimp;have bl:=Cz hB;rw[show [h.1.1,h.1.2.1,h.1.2.2].length=3 from rfl] at bl;rw[B4 (show(B.length:Int)<3 by omega),BI];refine A6 (Bn hB) (A6 (zQ x) (A6 (app_1 A4 (by rw[hQ];simp;omega))<|A6 (C7 hB AX)<|Fp _ ?_));rw[hQ,Ge,HY];rfl
  .dsimp only;rw[show decide ((([h.1.1,h.1.2.1,h.1.2.2].length:Nat):Int)<3)=false from rfl,As];refine A6 (zQ h.2)<|A6 (app_1 A4 A4)<|A6 (C7 hA A4)<|next (_,_) ⟨⟨?_,?_⟩,?_,?_,?_⟩
   .intro x mx;rw[hQ] at mx;simp[MK,ZH,C3,Aq,iG,or_false] at mx;rcases mx with m|rfl|rfl|rfl
    .exact hP.1.1 x m
    .exact ir g1.1
    .exact ir g1.2.1
    .exact ir g1.2.2
   .intro x mx;rcases C3.1 mx with m|m
    .exact hP.1.2 x m
    .rw[Cn.1 m];exact ir g2
   .grind
   .grind
   .simp;omega
 .dsimp;rw[CP,As];let⟨⟨p1,p2⟩,p3,p4,p5⟩:=hP;refine Ap (vZ p1 A4 A4) λm ⟨m1,m2,m3⟩=>?_
  have s7:lv 1 (7:Rat):=⟨FT A7,FT A7⟩;have a1:=MW s7 m2;have a2:=MW a1 m2;refine A6 (x:=(7:Rat)) A7<|A6 (ZB s7 m2 A4 A4)<|A6 (ZB a1 m2 A4 A4) ?_
  refine Ap (vZ p2 A4 A4) λD ⟨D1,D2,D3⟩=>?_
  have a3:lv (3*k+1) (7*m*m*D):=Fo (MW a2 D2) A4;have e:7*m*m*D=7*(m*m*D):=AL;have m0:0<m:=AL;have D0:0<D:=AL;have pos:0<7*m*m*D:=by have:=GQ (GQ m0 m0) D0;rw[e];grind
  refine A6 (ZB a2 D2 A4 A4)<|Ap (anR pos A4 a3 A4) λS IS=>?_
  have pr:∀g∈L++DV (7*m*m*D),IG g.1:=λg mg=>(C3.1 mg).elim (hp g)<|ajM g
  have fw:JQ (3*k+1) (L++DV (7*m*m*D)):=λg mg=>(C3.1 mg).elim (λh=>⟨QN (hL g h).1 A4,Fo (hL g h).2 A4⟩)<|yv a3 g
  refine Ap (Yd.lf IS fw A4 (by simp[DV];omega) (λh mh=>(hp h mh).nz) λa ma b mb=>Vf (pr a ma)<|pr b mb) λr hr=>AU ⟨_,m,D,e,m0,D0,a3,λh mh=>?_,?_⟩
  .let⟨a,b,c,d⟩:=p3 h mh;exact⟨⟨iq<|m3 _ a,iq<|m3 _ b,iq<|m3 _ c⟩,iq<|D3 _ d⟩
  .rcases hr with⟨e1,N,n1,_,n3⟩|⟨e1,n⟩
   .grind
   .exact .inr ⟨e1,n⟩
def Ua.sU(hp:∀h∈L,IG h.1)(hb:Ee L){m D:Rat}(e:a=7*(m*m*D))(m0:0<m)(D0:0<D)(hw:∀h∈L,wi3 h.1 m/\wi h.2 D){p:Q3}(mp:Mem L p):∀h∈DV a,val h p<0:=by rw[e];exact an3 hb m0 D0 (λh mh=>⟨(hp h mh).J3,hw h mh⟩) mp
def Ua.O0{r:A3 CQ×Bool}(h:Ua L k r)(hp:∀h∈L,IG h.1)(hb:Ee L):(r.2=true/\CH r.1 L)\/(r.2=false/\ ¬ ∃o,∀k∈L,val k o<0):=by
 let⟨a,m,D,e,m0,D0,_,hw,hr⟩:=h;rcases hr with⟨e1,N,n1,n2⟩|⟨e1,n⟩
 .exact .inl ⟨e1,(n2.drop n1 hb λp mp=>Ua.sU hp hb e m0 D0 hw mp).1⟩
 .refine .inr ⟨e1,λ⟨o,ho⟩=>n ⟨o,λg mg=>?_⟩⟩;rcases C3.1 mg with mg|mg
  .exact ho g mg
  .exact Ua.sU hp hb e m0 D0 hw (λg mg=>GS<|ho g mg) g mg
def ako{g:H3->AA Bool}{p:H3->Bool}(hg:∀x∈L,g x=some (p x))(hl:L.length<=100000000):bO L g=some (L.any p):=by
 have key:Yd (λi=>decide (0<=i)=L.any p) (bP L g):=by
  unfold bP;refine CB L (λ(_:Unit) i=>i) (λA _=>A.any p=false) (λA x C s k hA hP next=>?_) (λs k hP=>?_) (s0:=()) rfl A4
  .rw[CE hA,BI];refine A6 (Bn hA)<|A6 (hg x<|at_mem hA)<|Ac (λhc=>AU ?_) λhc=>A6 (C7 hA A4)<|next () ?_
   .rw[B4 A4,hA,ZK,List.any_cons,hc];simp
   .rw[ZK,hP,List.any_cons,hc];rfl
  .rw[CP,As];exact AU (by rw[hP];rfl)
 let⟨r,r1,r2⟩:=key;unfold bO;rw[r1,<-r2];rfl
def aiU{x:H3}(hx:D6 n x.1/\lv n x.2)(hf:D6 n f.1/\lv n f.2)(hn:n<=10000000000):XP x (f,l)=some (decide<|x=f):=by
 let⟨v,v1,_,v2⟩:=pB hx.1 hf.1 hn;have s:Q7 x.1 f.1=some (decide<|x.1=f.1):=by
  unfold Q7;rw[v1];show some (decide<|v=0)=_
  congr 1;exact HX.2 v2
 have q:SV x.2 f.2=some (decide<|x.2=f.2):=by unfold SV;rw[MN hx.2 hn,MN hf.2 hn];rfl
 have e:decide (x=f)=(decide (x.1=f.1)&&decide (x.2=f.2)):=by rw[ZM];simp[Qd]
 unfold XP;rw[s,Ck,e];cases decide (x.1=f.1)
 .rfl
 .show bd (SV x.2 f.2) _=_;rw[q];rfl
theorem aho(hL:JQ k L)(h1:1<=k)(hk:k<=90)(hlen:L.length<=50)(hp:∀h∈L,IG h.1):Yd (λb=>b=true↔Ee L) (c8 L):=by
 unfold c8;refine CB L (λ(s:A3 H3) i=>(s,i)) (λA s=>s=A.map λh=>(h.1,(1:Rat))) (λA h C s k1 hA hP next=>?_) (λs k1 hP=>?_) (s0:=[]) rfl A4
 .dsimp;rw[CE hA,BI];have al:=Cz hA;refine A6 (Bn hA) (A6 (NZ<| .inl rfl) (A6 (app_1 A4 (by rw[hP];simp;omega))<|A6 (C7 hA A4)<|next _ ?_));rw[hP,Ge];rfl
 .dsimp;rw[CP,As];have hO:∀h∈s,∃g∈L,h=(g.1,(1:Rat)):=λh mh=>by rw[hP] at mh;let⟨g,mg,e⟩:=BU.1 mh;exact⟨g,mg,e.symm⟩
  have hI:∀g∈L,(g.1,(1:Rat))∈s:=λg mg=>by rw[hP];exact BU.2 ⟨g,mg,rfl⟩
  have sl:s.length=L.length:=by rw[hP,Be]
  have sp:∀h∈s,IG h.1:=λh mh=>by let⟨g,mg,e⟩:=hO h mh;rw[e];exact hp g mg
  have sf:JQ k s:=λh mh=>by let⟨g,mg,e⟩:=hO h mh;rw[e];exact⟨(hL g mg).1,Ji (d:=1) (.inl rfl) k⟩
  have sb:Ee s↔Ee L:=by
   constructor
   .intro hb d hd;let⟨h,mh,k⟩:=hb d hd;let⟨g,mg,e⟩:=hO h mh;rw[e] at k;exact⟨g,mg,k⟩
   .intro hb d hd;let⟨g,mg,k⟩:=hb d hd;exact⟨_,hI g mg,k⟩
  refine Ap (yz sf h1 hk A4 sp) λr hr=>?_
  let⟨a,m,D,e,m0,D0,la,hw,hr⟩:=hr;have a0:0<a:=by rw[e];have:=GQ (GQ m0 m0) D0;grind
  have s1:∀h∈s,0<h.2:=λh mh=>by let⟨g,mg,e⟩:=hO h mh;rw[e];show(0:Rat)<1;grind
  rcases hr with⟨e1,N,n1,n2⟩|⟨e1,n⟩
  .have nf:JQ (3*k+1) N:=λg mg=>(n1 g).1 mg|>.elim (λh=>⟨QN (sf g h).1 A4,Fo (sf g h).2 A4⟩) (yv la g)
   have bf:=alU n2 n1 a0 s1 λhb p mp=>Ua.sU sp hb e m0 D0 hw mp
   rw[<-sb,bf]
   generalize r.1=S at*
   have SL:S.length<=100000000:=by
    have:=Ml (l:=S.map (·.1)) (T:=s++DV a) (Nb.2<|n2.RA.imp λh=>h) λx mx=>by obtain⟨f,mf,rfl⟩:=BU.1 mx;exact C3.2<|(n1 _).1 (n2.Eg f mf).1
    simp[DV] at this;omega
   refine CB S (λ(_:Unit) i=>i) (λA _=>∀f∈A,f.1∈s) (λA f C u k2 hA hQ next=>?_) (λu k2 hQ=>?_) (s0:=()) AX A4
   .rw[CE hA,BI];have mf:=at_mem hA;have ff:=nf f.1 (n2.Eg f mf).1;refine A6 (Bn hA) (A6 (ako (p:=λx=>decide<|x=f.1) (λx mx=>aiU (l:=f.2) ⟨QN (sf x mx).1 (show k<=3*k+1 by omega),Fo (sf x mx).2 A4⟩ ff A4) A4) ?_);refine Ac (λhc=>AU ?_) λhc=>A6 (C7 hA A4)<|next () λg mg=>?_
    .constructor
     .intro c;cases c
     .intro c;have:=c f mf;rw[G5,ZV] at hc;exact absurd (B4 rfl)<|hc f.1 this
    .rcases C3.1 mg with m|m
     .exact hQ g m
     .rw[Cn.1 m];rw[WE,iF] at hc;let⟨x,mx,e⟩:=hc;rw[<-Ar e];exact mx
   .rw[CP,As];exact AU ⟨λ_=>hQ,λ_=>rfl⟩
  .refine absurd ⟨o3,λg mg=>?_⟩ n;have v:val g o3= -g.2:=by unfold val;rw[Wo];grind
   rw[v];rcases C3.1 mg with mg|mg
   .have:=s1 g mg;grind
   .have ca:∀h∈DV a,h.2=a:=by rw[MH];exact⟨rfl,rfl,rfl,rfl,rfl,rfl⟩
    rw[ca g mg];grind
def am7(hx:bq x m)(hy:bq y n)(h0:y≠0)(hm:0<m/\m<=19000)(hn:0<n/\n<=19000):YI (BV x) (BV y)=some (BV<|x/y):=by
 have key:RD (BV y)=some (BV y⁻¹):=by
  have:Yd (λr=>r=BV y⁻¹) (RD<|BV y):=by unfold RD;refine Ap (Rm hy hn.1 hn.2) ?_;rintro⟨q1,q2⟩ ⟨⟨b1,b2⟩,b3,b4⟩;dsimp only at*;have hf:=dh b2 b1 (λe=>h0<|NW.1 e) A4 A4;rw[pP] at hf;exact A6 hf<|AU rfl
  obtain⟨r,e,rfl⟩:=this;exact e
 unfold YI;rw[key];show bd (J8 (BV x)<|BV y⁻¹) (λx3=>some x3)=_;rw[zU hx (apY hy h0) hm hn,PV];rfl
abbrev Q12:=Q3×Q3×Q3×Q3
def fc(f:Q12):Prop:=vc f.1 1 14/\vc f.2.1 1 14/\vc f.2.2.1 1 14/\vc f.2.2.2 1 14
def aiE(hx:bq x n)(hy:bq y n)(h0:0<n)(hn:n<=19000)(h:BV x=BV y):x=y:=by
 let⟨p,e1,⟨p1,p2⟩,_⟩:=Rm hx h0 hn;let⟨r,e2,⟨r1,r2⟩,_⟩:=Rm hy h0 hn;rw[h,e2] at e1;have e:=E8 e1;subst e;have key:∀{q:Bool×A3 Int} {a b:Int},F3 q a->F3 q b->a=b:=by rintro q a b ⟨_,h2,h3⟩ ⟨_,k2,k3⟩;rw[h2] at k2;rw[h3] at k3;have:=HX.1 k3;omega
 have d:=key r2 p2;exact(Rat.ext (key r1 p1) A4).symm
def c4(a b c d e:Int):Int:=bif !decide (a=0) then a else bif !decide (b=0) then b else bif !decide (c=0) then c else bif !decide (d=0) then d else e
def N2(h:lv n x):bq x (n+1):=by have h1:=h.1;rw[Mq] at h1;have e:(10:Nat)^n<10^(n+1):=Nat.pow_lt_pow_right A4 A4;exact⟨A4,by have:=h.2;omega⟩
def LZ(hx:lv m x)(hy:lv n y):lv (m+n) (x*y):=MW hx hy
def aaz(h:bc x (1+1) n):lv (n+1) x:=SX h A4 A4
def lva(hx:lv m x)(hy:lv n y):lv (m+n+1) (x+y):=aaz<|SN hx hy
def lvs(hx:lv m x)(hy:lv n y):lv (m+n+1) (x-y):=aaz<|qn hx hy
def lvi(hx:lv n x)(h0:x≠0):lv n x⁻¹ :=qo (e:=0) hx h0 A4
end
section
variable{m n:Nat}{x y:Rat}(hx:lv m x)(hy:lv n y)(hm:m<=18000)(hn:n<=18000)
include hx hy hm hn
theorem Sc:J8 (BV x) (BV y)=some (BV<|x*y):=zU (N2 hx) (N2 hy) ⟨A4,A4⟩ ⟨A4,A4⟩
theorem aX:OB (BV x) (BV y)=some (BV<|x+y):=zV (N2 hx) (N2 hy) ⟨A4,A4⟩ ⟨A4,A4⟩
theorem UY:MB (BV x) (BV y)=some (BV<|x-y):=am6 (N2 hx) (N2 hy) ⟨A4,A4⟩ ⟨A4,A4⟩
theorem arA(h0:y≠0):YI (BV x) (BV y)=some (BV<|x/y):=am7 (N2 hx) (N2 hy) h0 ⟨A4,A4⟩ ⟨A4,A4⟩
end
section
variable{n:Nat}{x:Rat}
def aH(h:lv n x)(hn:n<=18000):(BV x).length<1000000:=by have:=nV (N2 h) A4;omega
def WX(h:lv n x)(hn:n<=18000):Jd (BV x)=some x.num.sign:=by
 rw[yE<|aH h hn]
 congr 1
 by_cases h0:x=0
 .subst h0;rfl
 .rw[Bo h0,As];have hn:x.num≠0:=λe=>h0<|NW.1 e
  by_cases h1:x.num<0
  .rw[B4 h1,BI,iX h1]
  .rw[Bo h1,As,WJ A4]
def rB{m:Nat}{y:Rat}(hx:lv m x)(hy:lv n y)(hm:m<=18000)(hn:n<=18000)(h:BV x=BV y):x=y:=aiE (N2<|Fo hx hm) (N2<|Fo hy hn) A4 A4 h
end
section
variable{m n:Nat}{v w:Q3}(hv:D6 m v)(hw:D6 n w)
include hv hw
theorem zw:D6 (m+n+1) (BE v w):=⟨lvs hv.1 hw.1,lvs hv.2.1 hw.2.1,lvs hv.2.2 hw.2.2⟩
theorem gh:D6 (m+n+1) (Da v w):=⟨lva hv.1 hw.1,lva hv.2.1 hw.2.1,lva hv.2.2 hw.2.2⟩
theorem PM:D6 (2*(m+n)+1) (Ah v w):=by
 have k:∀{a b c d:Rat},lv m a->lv n b->lv m c->lv n d->lv (2*(m+n)+1) (a*b-c*d):=λh1 h2 h3 h4=>Fo (lvs (LZ h1 h2)<|LZ h3 h4) A4
 exact⟨k hv.2.1 hw.2.2 hv.2.2 hw.2.1,k hv.2.2 hw.1 hv.1 hw.2.2,k hv.1 hw.2.1 hv.2.1 hw.1⟩
theorem aJ:lv (3*(m+n)+2) (AM v w):=Fo (lva (lva (LZ hv.1 hw.1)<|LZ hv.2.1 hw.2.1)<|LZ hv.2.2 hw.2.2) A4
theorem abD(h:m+n<=18000):Xk (Bx v) (Bx w)=some (Bx<|BE v w):=by unfold Xk Bx;dsimp only;rw[UY hv.1 hw.1 A4 A4,Ck,UY hv.2.1 hw.2.1 A4 A4,Ck,UY hv.2.2 hw.2.2 A4 A4];rfl
theorem qh(h:m+n<=18000):VA (Bx v) (Bx w)=some (Bx<|Da v w):=by unfold VA Bx;dsimp only;rw[aX hv.1 hw.1 A4 A4,Ck,aX hv.2.1 hw.2.1 A4 A4,Ck,aX hv.2.2 hw.2.2 A4 A4];rfl
theorem jY(h:2*(m+n)+1<=18000):RX (Bx v) (Bx w)=some (BV<|AM v w):=by unfold RX Bx;dsimp only;rw[Sc hv.1 hw.1 A4 A4,Ck,Sc hv.2.1 hw.2.1 A4 A4,Ck,aX (LZ hv.1 hw.1) (LZ hv.2.1 hw.2.1) A4 A4,Ck,Sc hv.2.2 hw.2.2 A4 A4,Ck,aX (lva (LZ hv.1 hw.1)<|LZ hv.2.1 hw.2.1) (LZ hv.2.2 hw.2.2) A4 A4];rfl
theorem WO(h:m+n<=18000):NI (Bx v) (Bx w)=some (Bx<|Ah v w):=by
 have k:∀{a b c d:Rat},lv m a->lv n b->lv m c->lv n d->∀{ρ:Type} (K:AD->AA ρ),(bd (J8 (BV a)<|BV b) λx=>bd (J8 (BV c)<|BV d) λy=>bd (MB x y) K)=K (BV<|a*b-c*d):=λh1 h2 h3 h4 ρ K=>by rw[Sc h1 h2 A4 A4,Ck,Sc h3 h4 A4 A4,Ck,UY (LZ h1 h2) (LZ h3 h4) A4 A4,Ck]
 unfold NI Bx;dsimp only;rw[k hv.2.1 hw.2.2 hv.2.2 hw.2.1,k hv.2.2 hw.1 hv.1 hw.2.2,k hv.1 hw.2.1 hv.2.1 hw.1];rfl
end
section
variable{h:BZ}{n:Nat}{v:Q3}{m:Nat}
def SJ{a:Rat}(hv:D6 m v)(ha:lv n a):D6 (m+n) (BX v a):=⟨LZ hv.1 ha,LZ hv.2.1 ha,LZ hv.2.2 ha⟩
def WN{a:Rat}(hv:D6 m v)(ha:lv n a)(h:m+n<=18000):P4 (BV a) (Bx v)=some (Bx<|BX v a):=by unfold P4 Bx;dsimp only;rw[Sc ha hv.1 A4 A4,Ck,Sc ha hv.2.1 A4 A4,Ck,Sc ha hv.2.2 A4 A4,Rat.mul_comm a,Rat.mul_comm a,Rat.mul_comm a];rfl
def aoh{w:Q3}(hv:D6 m v)(hw:D6 n w)(hm:m<=18000)(hn:m+n<=18000)(h:Bx v=Bx w):v=w:=by have a:=congrArg (·.1) h;have b:=congrArg (·.2.1) h;have c:=congrArg (·.2.2) h;exact LC (rB hv.1 hw.1 A4 A4 a) (rB hv.2.1 hw.2.1 A4 A4 b)<|rB hv.2.2 hw.2.2 A4 A4 c
theorem akn:kC v=true↔v=o3:=by grind [kC,o3]
def qf(h:D6 n v)(hn:n<=18000):XY (Bx v)=some (decide<|v=o3):=by
 have t1:=YT v.1<|aH h.1 hn
 have t2:=YT v.2.1<|aH h.2.1 hn
 have t3:=YT v.2.2<|aH h.2.2 hn
 have e:decide (v=o3)=kC v:=by rw[ZM,akn,Hl]
 show some (decide<|Bx v=(([48]:AD),([48]:AD),([48]:AD)))=_;rw[e];unfold kC;rw[<-t1,<-t2,<-t3]
 congr 1
 rw[ZM];unfold Bx;simp[Qd]
abbrev N3:=Int×Int×Int
def rq(s:AD):Rat:=(MD s).getD 0
def rn(n:N3):Q3:=((n.1:Rat),(n.2.1:Rat),(n.2.2:Rat))
def rh(h:BZ):H3:=(rn h.1,rq h.2)
def Hs(n:N3):Nat:=Nat.gcd (Nat.gcd n.1.natAbs n.2.1.natAbs) n.2.2.natAbs
def EY(x:Int):Bool:=decide (999999999<x)||decide (x< -999999999)
structure Bs(h:BZ):Prop where
 num:isNum h.2 (rq h.2)
 x:EY h.1.1=false
 y:EY h.1.2.1=false
 z:EY h.1.2.2=false
 g:Hs h.1=1
theorem Mt{x:Int}(h:EY x=false): -999999999<=x/\x<=999999999:=by grind [EY]
def Bs.jy(o:Bs h):IG (rh h).1:=⟨_,_,_,rfl,o.g⟩
def jC{x:Int}(h:EY x=false)(hn:9<=n):lv n (x:Rat):=by
 have:=Mt h;have e:(10:Nat)^9<=10^n:=K8 A4 hn;refine⟨?_,?_⟩
 .rw[S5];omega
 .rw[Tz];omega
def Bs.lvn(o:Bs h)(hn:9<=n):D6 n (rh h).1:=⟨jC o.x hn,jC o.y hn,jC o.z hn⟩
def Bs.JW(o:Bs h):lv 14 (rh h).2:=arJ o.num.2.1
def Bs.Gb{L:A3 BZ}(o:∀h∈L,Bs h):JQ 14 (L.map rh):=λg mg=>by obtain⟨h,mh,rfl⟩:=BU.1 mg;exact⟨(o h mh).lvn A4,(o h mh).JW⟩
def Bs.Qr{L:A3 BZ}(o:∀h∈L,Bs h):∀g∈L.map rh,IG g.1:=λg mg=>by obtain⟨h,mh,rfl⟩:=BU.1 mg;exact(o h mh).jy
def Bs.txt(o:Bs h):h.2=BV (rh h).2:=o.num.1
def Ph{k:BZ}(a:Bs h)(b:Bs k)(e:rh h=rh k):h=k:=by have e1:=congrArg (·.1.1) e;have e2:=congrArg (·.1.2.1) e;have e3:=congrArg (·.1.2.2) e;have e4:=congrArg (·.2) e;exact Prod.ext (Prod.ext (iB.1 e1)<|Prod.ext (iB.1 e2)<|iB.1 e3) (by rw[a.txt,b.txt,e])
def ae(n:N3)(c:Int):Int:=bif decide (Hs n=0) then 6 else bif EY n.1||(EY n.2.1||EY n.2.2) then 3 else bif !decide (Hs n=1) then 1 else c
def p8(b:Bool)(n:Int):Y5 b n=some (bif b then n else 0):=by cases b<;>rfl
theorem aof(a b c d:Int):dX [a,b,c,d]=some (bif !decide (a=0) then a else bif !decide (b=0) then b else bif !decide (c=0) then c else d):=by
 obtain⟨F,hF⟩:∃F,18446744073709551616=F+5:=⟨18446744073709551611,rfl⟩;unfold dX;rw[hF];show cond (!decide (a=0)) (some a) (cond (!decide (b=0)) (some b)<|cond (!decide (c=0)) (some c)<|cond (!decide (d=0)) (some d)<|some 0)=_;cases ha:decide (a=0)
 .rfl
 .grind
def fk{z:Int}(h:z.natAbs<=9223372036854775808):D9 z=true:=PO (n:=20) A4 A4
def in3(n:N3):Prop:=Cb n.1/\Cb n.2.1/\Cb n.2.2
theorem adu(hi:in3 h.1){c:Int}(hc:TD h.2=some c):O7 h=some (ae h.1 c):=by
 refine Fz ?_;unfold O7;refine A6 (x:=0) rfl ?_;refine CB [h.1.1,h.1.2.1,h.1.2.2] (λ(s:Int×Bool) i=>(s.1,s.2,i)) (λA s=>s.1=((A.foldl (λg x=>Nat.gcd g x.natAbs) 0:Nat):Int)/\s.2=A.any EY) (λA x C s k hA hP next=>?_) (λs k hP=>?_) (s0:=(0,false)) ⟨rfl,rfl⟩ AX
 .dsimp;have al:=Cz hA;rw[show [h.1.1,h.1.2.1,h.1.2.2].length=3 from rfl] at al;rw[B4 (show(A.length:Int)<3 by omega),BI];have ix:Cb x:=by have:=at_mem hA;simp at this;rcases this with rfl|rfl|rfl;exact hi.1;exact hi.2.1;exact hi.2.2
  have gl:(A.foldl (λg x=>Nat.gcd g x.natAbs) 0)<=9223372036854775808:=by
   have hA':∀y∈A,y.natAbs<=9223372036854775808:=λy my=>by
    have:y∈[h.1.1,h.1.2.1,h.1.2.2]:=by rw[hA];simp[my]
    have b1:=hi.1;have b2:=hi.2.1;have b3:=hi.2.2;unfold Cb at b1 b2 b3;simp at this;omega
   have:∀(l:A3 Int) (g:Nat),g<=9223372036854775808->(∀y∈l,y.natAbs<=9223372036854775808)->l.foldl (λg x=>Nat.gcd g x.natAbs) g<=9223372036854775808:=by
    intro l
    induction l with
    |nil=>intro g hg _;exact hg
    |cons y l ih=>
     intro g hg hl;refine ih _ ?_ λz mz=>hl z<|By _ mz
     have:=hl y Dc;rcases LJ g with e|e
     .grind
     .exact Ct (Nat.gcd_le_left _ e) hg
   exact this A 0 A4 hA'
  unfold Cb at ix;refine A6 (Bn hA)<|A6 (EW ix)<|A6 (x:=(x.natAbs:Int)) rfl<|A6 (x:=((Nat.gcd (A.foldl (λg x=>Nat.gcd g x.natAbs) 0) x.natAbs:Nat):Int)) ?_<|A6 (C7 hA AX)<|next (_,_) ⟨?_,?_⟩
  .unfold Ou;rw[hP.1,fk (by rw[G6];exact gl),fk (by rw[G6];omega)];rfl
  .grind
  .rw[ZK,hP.2];show((A.any EY||_)||_)=(_||(EY x||false));rw[ZI,Bool.or_assoc];rfl
 .dsimp only;rw[show decide ((([h.1.1,h.1.2.1,h.1.2.2].length:Nat):Int)<3)=false from rfl,As];have e1:s.1=((Hs h.1:Nat):Int):=by rw[hP.1];show((Nat.gcd (Nat.gcd (Nat.gcd 0 _) _) _:Nat):Int)=_;rw[Nat.gcd_zero_left];rfl
  have e2:s.2=(EY h.1.1||(EY h.1.2.1||EY h.1.2.2)):=AL;rw[e1,e2];have sm:Pn ((Hs h.1:Nat):Int)=some (bif Hb ((Hs h.1:Nat):Int) then(((Hs h.1:Nat):Int),true) else(((Hs h.1:Nat):Int).sign,false)):=by unfold Pn;rw[Bo A4];rfl
  refine A6 sm<|A6 (x:=((Hs h.1:Nat):Int).sign) rfl<|A6 (p8 _ _)<|A6 (p8 _ _)<|A6 (p8 _ _)<|A6 hc<|A6 (aof _ _ _ _)<|AU ?_
  unfold ae
  generalize (EY h.1.1||(EY h.1.2.1||EY h.1.2.2))=f at*
  have hs:decide (((Hs h.1:Nat):Int).sign=0)=decide (Hs h.1=0):=HX.2 (by rw[Int.sign_eq_zero_iff_zero];omega);rw[hs];cases h0:decide (Hs h.1=0)
  .cases f
   .by_cases hb:Hb ((Hs h.1:Nat):Int)=true
    .grind
    .rw[Bool.not_eq_true] at hb;have h1:decide (Hs h.1=1)=false:=by
      refine Bo λe=>?_
      rw[e] at hb;cases hb
     rw[hb,h1];rfl
   .rfl
  .rfl
def w8{a b:Int}(ha: -999999999<=a/\a<=999999999)(hb: -999999999<=b/\b<=999999999):Xi a b=some ((Nat.gcd a.natAbs b.natAbs:Nat):Int):=by
 refine Fz ?_;unfold Xi;refine EO (λs:Int×Int=>Nat.gcd s.1.natAbs s.2.natAbs=Nat.gcd a.natAbs b.natAbs/\(-999999999<=s.1/\s.1<=999999999)/\(-999999999<=s.2/\s.2<=999999999)) (λs=>s.2.natAbs) (λnext s hs hn=>?_) _ _ ⟨rfl,ha,hb⟩ (by show b.natAbs<_;omega);let⟨h1,h2,h3⟩:=hs;refine Ac (λhc=>?_) λhc=>?_
 .have h0:s.2≠0:=by simpa using hc
  have t:=Int.natAbs_tmod s.1 s.2;have lt:=OL s.1.natAbs (show 0<s.2.natAbs by omega);refine A6 (x:=s.1.tmod s.2) (by unfold Fs;rw[Bo h0];rfl) (hn (_,_) ⟨?_,h3,by dsimp;omega⟩ (by dsimp;omega));rw[t,S3,<-Nat.gcd_rec,S3,h1]
 .have h0:s.2=0:=by simpa using hc
  refine A6 (x:=0-s.1) B9<|AU ?_
  rw[qY,<-h1,h0];simp
theorem aeu{c:Int}(hc:RO h.2=some c):Oz h=some (ae h.1 c):=by
 refine Fz ?_;unfold Oz ae;have z:decide (h.1=((0:Int),(0:Int),(0:Int)))=decide (Hs h.1=0):=HX.2 (by unfold Hs;rw[Nat.gcd_eq_zero_iff,Nat.gcd_eq_zero_iff,Qd,Qd];simp[Int.natAbs_eq_zero,and_assoc])
 rw[z];refine Ac (λhz=>by rw[hz];exact AU rfl) λhz=>?_
 rw[hz,As];refine CB [h.1.1,h.1.2.1,h.1.2.2] (λ(_:Unit) i=>i) (λA _=>A.any EY=false) (λA x C s k hA hP next=>?_) (λs k hP=>?_) (s0:=()) rfl AX
 .have al:=Cz hA;rw[show [h.1.1,h.1.2.1,h.1.2.2].length=3 from rfl] at al;rw[B4 (show(A.length:Int)<3 by omega),BI];refine A6 (Bn hA) ?_;have fin:∀y,y=x\/decide (x< -999999999)=true->Yd (λr=>r=(bif EY h.1.1||(EY h.1.2.1||EY h.1.2.2) then 3 else bif !decide (Hs h.1=1) then 1 else c)) (cond (decide (x< -999999999)||decide (999999999<y)) (some 3)<|bd (AH<|(A.length:Int)+1) k):=by
   intro y hy;have e:(decide (x< -999999999)||decide (999999999<y))=EY x:=by
    unfold EY;rcases hy with rfl|hy
    .rw[Bool.or_comm]
    .rw[hy];simp
   rw[e];refine Ac (λhf=>AU ?_) λhf=>A6 (C7 hA AX)<|next () ?_
   .have:(EY h.1.1||(EY h.1.2.1||EY h.1.2.2))=true:=by have:=at_mem hA;simp at this;rcases this with rfl|rfl|rfl<;>rw[hf]<;>simp
    rw[this];rfl
   .grind
  cases hx:decide (x< -999999999)
  .rw[hx] at fin;exact A6 (Bn hA)<|fin x<| .inl rfl
  .rw[hx] at fin;exact fin 0<| .inr rfl
 .rw[show decide ((([h.1.1,h.1.2.1,h.1.2.2].length:Nat):Int)<3)=false from rfl,As];simp[List.any_cons,List.any_nil,ZI,MS] at hP;let⟨p1,p2,p3⟩:=hP;have b1:=Mt p1;have b2:=Mt p2;have b3:=Mt p3;have g0:Hs h.1≠0:=Bg hz;have gl:Nat.gcd h.1.1.natAbs h.1.2.1.natAbs<=999999999:=by
   rcases LJ h.1.1.natAbs with e|e
   .grind
   .exact Ct (Nat.gcd_le_left _ e) A4
  refine A6 (w8 b1 b2)<|A6 (w8 (b:=h.1.2.2) ⟨A4,A4⟩ b3) ?_
  rw[G6,p1,p2,p3];have e:decide ((((Nat.gcd (Nat.gcd h.1.1.natAbs h.1.2.1.natAbs) h.1.2.2.natAbs:Nat)):Int)=1)=decide (Hs h.1=1):=HX.2 (by unfold Hs;omega);rw[e];refine Ac (λh1=>by rw[h1];exact AU rfl) λh1=>by rw[h1];exact A6 hc<|AU rfl
def lR(hi:in3 h.1)(hl:h.2.length<=14):∃c,O7 h=some c/\Oz h=some c/\(c=0->Bs h):=by
 let⟨c,c1,c2,c3⟩:=wW hl;refine⟨_,adu hi c1,aeu c2,λe=>?_⟩;unfold ae at e;cases h0:decide (Hs h.1=0) with
 |true=>rw[h0] at e;cases e
 |false=>
  rw[h0,As] at e;cases hf:EY h.1.1||(EY h.1.2.1||EY h.1.2.2) with
  |true=>rw[hf] at e;cases e
  |false=>
   rw[hf,As] at e;cases h1:decide (Hs h.1=1) with
   |false=>rw[h1] at e;cases e
   |true=>rw[h1] at e;let⟨q,hq⟩:=c3 e;rw[MS,MS] at hf;refine⟨?_,hf.1,hf.2.1,hf.2.2,Ar h1⟩;unfold rq;rw[hq.2.2];exact hq
end
end Trn
