/-
  Part of the proof of SolidForms.
-/
import Derived.Test.YtflhfjdapojoiaaGreatDoorHa
set_option maxRecDepth 100000
set_option maxHeartbeats 20000000
set_option linter.all false
open Go Go.RowKit Go.Proofs Go.Proofs.Tryz
namespace Trn
section
variable{r:Int×A3 Int}{x y z:Int}{s:Int×A3 Int}
def CH.len(h:CH r z)(hz:Cl z=true):r.2.length<1099511627776:=by
 rcases h with⟨h,_⟩|⟨h0,h1,h2,h3,h4,h5⟩
 ·rw[h];simp
 ·have hl:=Sx h2 h0 h3;have hz:=EP hz;have e:(z.natAbs:Int)=AH r.2:=by
   have:=(G0 h2).1;rcases h1 with e|e<;>rw[h4,e]<;>omega
  rw[nm,<-e] at hl;have hl:2^(64*(r.2.length-1))<=z.natAbs:=by exact_mod_cast hl
  have:=oH hl;omega
def me{n:Int}(h:DB n):Ur n=some (n.natAbs:Int):=by
 unfold DB at h;unfold Ur;by_cases h0:n<0
 ·rw[Ab h0];show some (wr .u64<|wr .i64<|0-n)=_;by_cases h1:n= -9223372036854775808
  ·subst h1;rfl
  ·have e1:wr .i64 (0-n)=0-n:=wrap_i64 ⟨by omega,by omega⟩;have e2:wr .u64 (0-n)=0-n:=wrap_u64 ⟨by omega,by omega⟩;rw[e1,e2]
   congr 1;omega
 ·rw[BH h0];show some (wr .u64 n)=_;have e2:wr .u64 n=n:=wrap_u64 ⟨by omega,by omega⟩;rw[e2]
  congr 1;omega
def Pq(h:CH r z):Yd (λp=>p.1=decide (z<0)/\Norm p.2/\AH p.2=(z.natAbs:Int)/\p.2.length<=r.2.length+1) (Mo r):=by
 unfold Mo;rcases h with⟨h1,h2,h3⟩|⟨h0,h1,h2,h3,h4,h5⟩
 ·rw[h1];refine Yd.cond (λhc=>by simp at hc)<|λ_=>?_
  rw[h2];refine Yd.cond (λhc=>?_)<|λhc=>?_
  ·have hc:=AZ hc;subst hc;exact Yd.mk ⟨rfl,Norm.nil,rfl,by simp⟩
  ·have hc:=Ay hc;refine Yd.bd (me h3) (Yd.mk ⟨rfl,⟨?_,?_⟩,by simp[AH],by simp⟩)
   ·rw[Ou];unfold DB at h3;exact⟨⟨by omega,by unfold BB;omega⟩,YN⟩
   ·simp;omega
 ·have hv:=(G0 h2).1;refine Yd.cond (λ_=>Yd.mk ⟨?_,⟨h2,h3⟩,?_,by dsimp only;omega⟩)<|λhc=>?_
  ·dsimp only;rcases h1 with e|e<;>rw[h4,e]<;>simp<;>omega
  ·dsimp only;rcases h1 with e|e<;>rw[h4,e]<;>omega
  ·simp at hc;exact absurd hc h0
def TA{w:A3 Int}(h:Norm w)(neg:Bool):Yd (λr=>CH r<|bif neg then -AH w else AH w) (Oj neg w):=by
 unfold Oj;obtain⟨hw,hl⟩:=h
 match w,hw,hl with
 |[],_,_=>
  refine Yd.cond (λ_=>Yd.mk (.inl ⟨rfl,by cases neg<;>rfl,by cases neg<;>(unfold DB;simp[AH])⟩)) (λhc=>by simp at hc)
 |[x],hw,hl=>
  rw[Ou] at hw;obtain⟨⟨L1,hx1⟩,_⟩:=hw;have ev:AH [x]=x:=by simp[AH]
  have hx:x≠0:=λe=>hl (by rw[e];rfl)
  have g0:A8 [x] (0:Int)=some x:=rfl;rw[ev];refine Yd.cond (λhc=>by simp at hc)<|λ_=>?_
  refine Yd.Aa (λ_=>⟨x,g0,?_⟩) (λhc=>by simp[gd] at hc);refine Yd.cond (λhc=>?_)<|λhc=>?_
  ·obtain⟨hc,HF⟩:=DQ hc;obtain⟨_,hc⟩:=DQ hc;have hc:=AZ hc;subst HF;have e1:wr .i64 x=x:=wrap_i64 ⟨by omega,by omega⟩;exact Yd.bd g0 (Yd.bd (Ad (by rw[e1];exact⟨by omega,by omega⟩)) (Yd.mk (.inl ⟨rfl,by rw[e1];rfl,by unfold DB;simp only[BM];omega⟩)))
  ·refine Yd.Aa (λ_=>⟨x,g0,?_⟩) (λhc=>by simp[gd] at hc);refine Yd.cond (λhd=>?_)<|λhd=>?_
   ·obtain⟨_,hd'⟩:=DQ hd;have atn:=AZ hd';rw[hd] at hc;have HF:neg=false:=by simpa using hc
    subst HF;have e1:wr .i64 x=x:=wrap_i64 ⟨by omega,by omega⟩;exact Yd.bd g0 (Yd.mk (.inl ⟨rfl,by rw[e1];rfl,by unfold DB;simp only[B8];omega⟩))
   ·have MH:9223372036854775807<x:=by
     have:decide (([x].length:Int)=(1:Int))=true:=rfl;rw[this,JO] at hd;have:=Ay hd;omega
    have Al:okW [x]:=by rw[Ou];exact⟨⟨L1,hx1⟩,YN⟩
    refine Yd.cond (λhn=>?_)<|λhn=>?_
    ·subst hn;exact Yd.gC rfl (Yd.mk (.inr ⟨by simp,.inr rfl,Al,hl,by rw[ev];simp,by rw[ev];exact MH⟩))
    ·subst hn;exact Yd.gC rfl (Yd.mk (.inr ⟨by simp,.inl rfl,Al,hl,by rw[ev];simp,by rw[ev];exact MH⟩))
 |x::y::l,hw,hl=>
  have MH:9223372036854775807<AH (x::y::l):=by
   have h1:=Sx hw (by simp) hl;have h2:Am 1<=Am ((x::y::l).length-1):=dc (by simp);have h3:Am 1=BB:=rfl;unfold BB at h3;omega
  have Li:decide (((x::y::l).length:Int)=(1:Int))=false:=BH (by simp;omega);refine Yd.cond (λhc=>by have:=AZ hc;simp at this;omega)<|λ_=>?_
  refine Yd.Aa (λhc=>by simp only[gd] at hc;rw[Li] at hc;cases hc)<|λ_=>?_
  refine Yd.cond (λhc=>by rw[Li] at hc;simp at hc)<|λ_=>?_
  refine Yd.Aa (λhc=>by simp only[gd] at hc;rw[Li] at hc;cases hc)<|λ_=>?_
  refine Yd.cond (λhc=>by rw[Li] at hc;simp at hc)<|λ_=>?_
  refine Yd.cond (λhn=>?_)<|λhn=>?_
  ·subst hn;exact Yd.gC rfl (Yd.mk (.inr ⟨by simp,.inr rfl,hw,hl,by simp,MH⟩))
  ·subst hn;exact Yd.gC rfl (Yd.mk (.inr ⟨by simp,.inl rfl,hw,hl,by simp,MH⟩))
def V7(h:CH r z):Pj r=some z.sign:=by
 unfold Pj
 congr 1
 unfold mx_ mn_;rcases h with⟨h1,h2,h3⟩|⟨h0,h1,h2,h3,h4,h5⟩
 ·rw[h2];rcases Kh z 0 with h|h|h
  ·rw[Ab (show z<1 by omega),JR h];by_cases e:z= -1
   ·subst e;rfl
   ·rw[BM,BH (show¬(-1:Int)<z by omega)];rfl
  ·subst h;rfl
  ·rw[J0 h];by_cases e:z=1
   ·subst e;rfl
   ·rw[BH (show¬z<1 by omega)];rfl
 ·have hp:0<AH r.2:=by omega
  rcases h1 with e|e
  ·rw[h4,e,G2,J0 hp];rfl
  ·rw[h4,e,JR (by omega)];rfl
def RT(h:CH r z):Yd (λq=>CH q<| -z) (Nh r):=by
 unfold Nh;refine Yd.cond (λhc=>?_)<|λhc=>?_
 ·obtain⟨h1,h2⟩:=DQ hc;rw[F6,HB] at h2;rcases h with⟨g1,g2,g3⟩|⟨h0,_⟩
  ·unfold DB at g3;exact Yd.bd (Ad ⟨by omega,by omega⟩) (Yd.mk (.inl ⟨rfl,by dsimp only;omega,by unfold DB;omega⟩))
  ·rw[Rg] at h1;exact absurd h1 h0
 ·refine Yd.Ak (Pq h) λp ⟨p1,p2,p3,_⟩=>Yd.Ak (TA p2<| !p.1) λq hq=>Yd.mk ?_
  rw[p1,p3] at hq;by_cases hz:z<0
  ·rw[Ab hz] at hq;have:(z.natAbs:Int)= -z:=by omega
   simpa[this] using hq
  ·rw[BH hz] at hq;have: -(z.natAbs:Int)= -z:=by omega
   simp only[fM,BM] at hq;rwa [this] at hq
def oB(h:CH r z):Yd (λq=>CH q (z.natAbs:Int)) (XP r):=by
 unfold XP;have hs:r.1<0↔z<0:=by
  rcases h with⟨g1,g2,g3⟩|⟨h0,h1,h2,h3,h4,h5⟩
  ·rw[g2]
  ·rcases h1 with e|e<;>rw[h4,e]<;>omega
 refine Yd.cond (λhc=>?_)<|λhc=>?_
 ·have hc:=hs.1 (AZ hc);refine Yd.Ak (RT h) λq hq=>Yd.mk ?_
  rwa [show((z.natAbs:Nat):Int)= -z by omega]
 ·have hc:=Ay hc;have: ¬z<0:=λh=>hc<|hs.2 h
  refine Yd.mk ?_;rwa [show((z.natAbs:Nat):Int)=z by omega]
def fC(hr:CH r x)(hs:CH s y)(hlr:r.2.length<2199023255552)(hls:s.2.length<2199023255552):Yd (λq=>CH q<|x+y) (Sr r s):=by
 unfold Sr;refine Yd.jn (λ_=>True) (λ_ _=>?_)<|λk hk=>Yd.cond (λhc=>?_)<|λ_=>hk _ trivial
 ·refine Yd.Ak (Pq hr) λp ⟨p1,p2,p3,p4⟩=>Yd.Ak (Pq hs) λq ⟨q1,q2,q3,q4⟩=>?_
  refine Yd.cond (λhc=>?_)<|λhc=>?_
  ·refine Yd.Ak (ae8 p2.1 q2.1 (by omega) (by omega)) λw ⟨w1,w2⟩=>Yd.Ak (TA w1 p.1) λz hz=>Yd.mk ?_
   rw[w2,p3,q3,p1] at hz;rw[p1,q1,Q5] at hc;by_cases h1:x<0
   ·have h2:y<0:=by simpa[h1] using hc.symm
    rw[Ab h1] at hz;simp only[BM] at hz;rwa [show -((x.natAbs:Int)+(y.natAbs:Int))=x+y by omega] at hz
   ·have h2: ¬y<0:=by simpa[h1] using hc.symm
    rw[BH h1] at hz;simp only[B8] at hz;rwa [show((x.natAbs:Int)+(y.natAbs:Int))=x+y by omega] at hz
  ·have hne: ¬(x<0↔y<0):=by
    intro h;rw[p1,q1] at hc;simp[h] at hc
   refine Yd.Ak (rV p2 q2 (by omega) (by omega)) λc hcmp=>Yd.cond (λhd=>?_)<|λhd=>?_
   ·have hd:=AZ hd;have hle:AH q.2<=AH p.2:=by omega
    have hlen:q.2.length<=p.2.length:=by
     rcases Gh p.2.length q.2.length with h|h
     ·have:=Xg p2.1 q2 h;omega
     ·exact h
    refine Yd.Ak (tN p2.1 q2.1 hlen (by omega) hle) λw ⟨w1,w2⟩=>Yd.Ak (TA w1 p.1) λz hz=>Yd.mk ?_
    rw[w2,p3,q3,p1] at hz;by_cases h1:x<0
    ·have h2: ¬y<0:=λh=>hne ⟨λ_=>h,λ_=>h1⟩
     rw[Ab h1] at hz;simp only[BM] at hz;rwa [show -((x.natAbs:Int)-(y.natAbs:Int))=x+y by omega] at hz
    ·have h2:y<0:=CC λh=>hne ⟨λk=>absurd k h1,λk=>absurd k h⟩
     rw[BH h1] at hz;simp only[B8] at hz;rwa [show((x.natAbs:Int)-(y.natAbs:Int))=x+y by omega] at hz
   ·have hd:=Ay hd;have hle:AH p.2<=AH q.2:=by omega
    have hlen:p.2.length<=q.2.length:=by
     rcases Gh q.2.length p.2.length with h|h
     ·have:=Xg q2.1 p2 h;omega
     ·exact h
    refine Yd.Ak (tN q2.1 p2.1 hlen (by omega) hle) λw ⟨w1,w2⟩=>Yd.Ak (TA w1 q.1) λz hz=>Yd.mk ?_
    rw[w2,p3,q3,q1] at hz;by_cases h1:y<0
    ·have h2: ¬x<0:=λh=>hne ⟨λ_=>h1,λ_=>h⟩
     rw[Ab h1] at hz;simp only[BM] at hz;rwa [show -((y.natAbs:Int)-(x.natAbs:Int))=x+y by omega] at hz
    ·have h2:x<0:=CC λh=>hne ⟨λk=>absurd k h,λk=>absurd k h1⟩
     rw[BH h1] at hz;simp only[B8] at hz;rwa [show((y.natAbs:Int)-(x.natAbs:Int))=x+y by omega] at hz
 ·obtain⟨h1,h2⟩:=DQ hc;rw[Rg] at h1 h2;rcases hr with⟨_,e1,i1⟩|⟨h0,_⟩
  ·rcases hs with⟨_,e2,i2⟩|⟨h0,_⟩
   ·rw[e1,e2];unfold DB at i1 i2;refine Yd.cond (λhd=>Yd.mk<| .inl ⟨rfl,?_,?_⟩)<|λ_=>hk _ trivial
    all_goals
     by_cases iu: -9223372036854775808<=x+y/\x+y<=9223372036854775807
     ·first
      |exact wrap_i64 iu
      |exact iu
     ·exfalso;rw[Q5] at hd;rcases Int.lt_or_lt_of_ne (show x+y≠0 by omega) with hlt|hgt
      ·have e3:wr .i64 (x+y)=x+y+18446744073709551616:=by
        have:wr .i64 (x+y)=wr .i64 (x+y+18446744073709551616):=by
         unfold wr IntKind.wrap;simp[IntKind.bits,IntKind.signed]
        rw[this];exact wrap_i64 ⟨by omega,by omega⟩
       rw[e3] at hd;have a1:x<x+y+18446744073709551616:=by omega
       have a2: ¬0<y:=by omega
       simp[a1,a2] at hd
      ·have e3:wr .i64 (x+y)=x+y-18446744073709551616:=by
        have:wr .i64 (x+y)=wr .i64 (x+y-18446744073709551616):=by
         unfold wr IntKind.wrap;simp[IntKind.bits,IntKind.signed]
        rw[this];exact wrap_i64 ⟨by omega,by omega⟩
       rw[e3] at hd;have a1: ¬x<x+y-18446744073709551616:=by omega
       have a2:0<y:=by omega
       simp[a1,a2] at hd
   ·exact absurd h2 h0
  ·exact absurd h1 h0
def nU(z:Int):Cl (-z)=Cl z:=by unfold Cl;rw[VM]
def Vr(h:x.natAbs<=y.natAbs)(hy:Cl y=true):Cl x=true:=by
 unfold Cl at*;refine Gx ?_;have:=EP hy;by_cases h0:x.natAbs=0
 ·rw[h0];decide
 ·have h1:Nat.log2 x.natAbs<=Nat.log2 y.natAbs:=(Nat.le_log2 (by omega)).2 (CX ((Nat.le_log2 h0).1<|Az _) h);omega
def y5(hr:CH r x)(hs:CH s y)(hx:Cl x=true)(hy:Cl y=true):Yd (λq=>CH q<|x-y) (XM r s):=by
 unfold XM;refine Yd.Ak (RT hs) λn hn=>Yd.Ak (fC hr hn (by have:=hr.len hx;omega) (by have:=hn.len (by rw[nU];exact hy);omega)) λq hq=>Yd.mk ?_
 rwa [Int.sub_eq_add_neg]
def y6(hr:CH r x)(hs:CH s y)(hx:Cl x=true)(hy:Cl y=true):Yd (λq=>CH q<|x*y) (Sq r s):=by
 have sgn:∀(b:Bool),b=(!(decide (x<0)==decide (y<0)))->(bif b then -((x.natAbs:Int)*(y.natAbs:Int)) else(x.natAbs:Int)*(y.natAbs:Int))=x*y:=by
  intro b hb;subst hb;rcases Int.lt_or_le x 0 with h1|h1<;>rcases Int.lt_or_le y 0 with h2|h2
  ·rw[Ab h1,Ab h2];show((x.natAbs:Int)*(y.natAbs:Int))=_;rw[show(x.natAbs:Int)= -x by omega,show(y.natAbs:Int)= -y by omega,Int.neg_mul_neg]
  ·rw[Ab h1,BH (show¬y<0 by omega)];show -((x.natAbs:Int)*(y.natAbs:Int))=_;rw[show(x.natAbs:Int)= -x by omega,show(y.natAbs:Int)=y by omega,Int.neg_mul,Int.neg_neg]
  ·rw[BH (show¬x<0 by omega),Ab h2];show -((x.natAbs:Int)*(y.natAbs:Int))=_;rw[show(x.natAbs:Int)=x by omega,show(y.natAbs:Int)= -y by omega,Int.mul_neg,Int.neg_neg]
  ·rw[BH (show¬x<0 by omega),BH (show¬y<0 by omega)];show((x.natAbs:Int)*(y.natAbs:Int))=_;rw[show(x.natAbs:Int)=x by omega,show(y.natAbs:Int)=y by omega]
 unfold Sq;refine Yd.jn (λ_=>True) (λ_ _=>?_)<|λk hk=>Yd.cond (λhc=>?_)<|λ_=>hk _ trivial
 ·refine Yd.Ak (Pq hr) λp ⟨p1,p2,p3,p4⟩=>Yd.Ak (Pq hs) λq ⟨q1,q2,q3,q4⟩=>?_
  have l1:=hr.len hx;have l2:=hs.len hy;refine Yd.Ak (ae7 p2.1 q2.1 (by omega) (by omega)) λw ⟨w1,w2⟩=>Yd.Ak (TA w1<| !(p.1==q.1)) λz hz=>Yd.mk ?_
  rw[w2,p3,q3,sgn _ (by rw[p1,q1])] at hz;exact hz
 ·obtain⟨h1,h2⟩:=DQ hc;rw[Rg] at h1 h2;rcases hr with⟨_,e1,i1⟩|⟨h0,_⟩
  ·rcases hs with⟨_,e2,i2⟩|⟨h0,_⟩
   ·rw[e1,e2];unfold DB at i1 i2;have bx:(0:Int)<=(x.natAbs:Int)/\(x.natAbs:Int)<BB:=⟨by omega,by unfold BB;omega⟩;have by':(0:Int)<=(y.natAbs:Int)/\(y.natAbs:Int)<BB:=⟨by omega,by unfold BB;omega⟩;obtain⟨hi,lo,m1,m2,m3,m4,m5,m6⟩:=fD bx by';refine Yd.bd (me i1)<|Yd.bd (me i2)<|Yd.bd m1<|Yd.cond (λhd=>?_)<|λ_=>hk _ trivial
    obtain⟨d1,d2⟩:=DQ hd;have d1:=AZ d1;have d2:=AZ d2;have e3:wr .i64 lo=lo:=wrap_i64 ⟨by omega,by omega⟩;have d1:hi=0:=d1;have hp:(x.natAbs:Int)*(y.natAbs:Int)=lo:=by rw[m6,d1];omega
    have s2:=sgn _ rfl;rw[hp] at s2;refine Yd.cond (λhn=>?_)<|λhn=>?_
    ·rw[hn] at s2;simp only[BM] at s2;rw[e3];exact Yd.bd (Ad ⟨by omega,by omega⟩) (Yd.mk (.inl ⟨rfl,s2,by unfold DB;omega⟩))
    ·rw[hn] at s2;simp only[B8] at s2;rw[e3];exact Yd.mk (.inl ⟨rfl,s2,by unfold DB;omega⟩)
   ·exact absurd h2 h0
  ·exact absurd h1 h0
def akb(hr:CH r x)(hs:CH s y)(hx:Cl x=true)(hy:Cl y=true):bP r s=some (SV x y):=by
 have key:Yd (λq=>q=SV x y) (bP r s):=by
  unfold bP;refine Yd.cond (λhc=>?_)<|λ_=>Yd.Ak (y5 hr hs hx hy) λq hq=>Yd.bd (V7 hq)<|Yd.mk ?_
  ·obtain⟨h1,h2⟩:=DQ hc;rw[Rg] at h1 h2;rcases hr with⟨_,e1,i1⟩|⟨h0,_⟩
   ·rcases hs with⟨_,e2,i2⟩|⟨h0,_⟩
    ·rw[e1,e2];unfold SV;refine Yd.cond (λh=>Yd.mk (by rw[h];rfl)) (λh=>Yd.cond (λk=>Yd.mk (by rw[h,k];rfl)) (λk=>Yd.mk (by rw[h,k];rfl)))
    ·exact absurd h2 h0
   ·exact absurd h1 h0
  ·unfold SV;rcases Kh x y with h|h|h
   ·rw[Ab h,JR (by omega)];rfl
   ·subst h;rw[BH<|Int.lt_irrefl _,Int.sub_self];rfl
   ·rw[BH (by omega),Ab h,J0 (by omega)];rfl
 obtain⟨q,e,rfl⟩:=key;exact e
def ah6(h:CH r z)(hz:z≠ -9223372036854775808):ak r=some (bif Hm z then(z,true) else(z.sign,false)):=by
 unfold ak
 congr 1
 rcases h with⟨h1,h2,h3⟩|⟨h0,h1,h2,h3,h4,h5⟩
 ·unfold DB at h3;have:Hm z=true:=by unfold Hm;rw[Ab h3.1,Ab h3.2];rfl
  rw[this,h1,h2];rfl
 ·have:Hm z=false:=by
   unfold Hm;rcases h1 with e|e
   ·rw[e,G2] at h4;rw[BH (show¬z<=9223372036854775807 by omega)];simp
   ·rw[e] at h4;rw[BH (show¬ -9223372036854775808<=z by omega)];rfl
  rw[this];have hs:r.1=z.sign:=by
   rcases h1 with e|e
   ·rw[h4,e,G2,J0 (by omega)]
   ·rw[h4,e,JR (by omega)]
  have he:r.2.isEmpty=false:=by cases hr:r.2 with
   |nil=>exact absurd hr h0
   |cons _ _=>rfl
  rw[hs,he];rfl
def eN{q r:Int}(h0:0<y)(h:r+y*q=x)(h1:0<=r)(h2:r<y):q=x/y/\r=x%y:=by
 obtain⟨h3,h4⟩:=(Int.ediv_emod_unique h0).2 ⟨h,h1,h2⟩;exact⟨h3.symm,h4.symm⟩
def ug(h0:0<y):(0<=x->0<=x/y/\x/y<=x)/\(x<0->x<=x/y/\x/y<0):=by
 constructor
 ·intro h;exact⟨Ke h (by omega),Rh y h⟩
 ·intro h;refine⟨(Int.le_ediv_iff_mul_le h0).2 ?_,Int.ediv_neg_of_neg_of_pos h h0⟩;have:x*y<=x*1:=Int.mul_le_mul_of_nonpos_left (by omega) (by omega);omega
def uY(hr:CH r x)(hs:CH s y)(hx:Cl x=true)(hy:Cl y=true)(h0:0<y):Yd (λq=>CH q.1 (x/y)/\CH q.2 (x%y)) (X0 r s):=by
 unfold X0;have hm0:=LI x (show y≠0 by omega);have hm1:=Kj x h0;have hdm:=OB x y;refine Yd.cond (λhc=>?_)<|λhc=>?_
 ·obtain⟨hc,h3⟩:=DQ hc;obtain⟨h1,h2⟩:=DQ hc;rw[Rg] at h1 h2;rw[F6,HB] at h3;rcases hr with⟨_,e1,i1⟩|⟨h0,_⟩
  ·rcases hs with⟨_,e2,i2⟩|⟨h0,_⟩
   ·rw[e1] at h3;rw[e1,e2];unfold DB at i1 i2;have t1:=Int.tmod_add_mul_tdiv x y;have hsm:=ug (x:=x) h0;have q1:GF x y=some (x.tdiv y):=by
     unfold GF;rw[BH (by omega)];refine Ad ?_;have a1:=Int.natAbs_tdiv_le_natAbs x y;exact⟨by omega,by omega⟩
    have q2:FP x y=some (x.tmod y):=by
     unfold FP;rw[BH (by omega)];rfl
    have b2:(0<=x->0<=x.tmod y/\x.tmod y<y)/\(x<0-> -y<x.tmod y/\x.tmod y<=0):=by
     refine⟨λh=>⟨Int.tmod_nonneg y h,Int.tmod_lt_of_pos x h0⟩,λh=>?_⟩;have h5:=Int.tmod_lt_of_pos (-x) h0;have h6:=Int.tmod_nonneg y (show 0<= -x by omega);rw[Int.neg_tmod] at h5 h6;omega
    refine Yd.bd q1<|Yd.bd q2<|Yd.jn (λs=>s.1=x/y/\s.2=x%y) (λs ⟨s1,s2⟩=>Yd.mk ⟨.inl ⟨rfl,s1,?_⟩,.inl ⟨rfl,s2,?_⟩⟩)<|λk hk=>Yd.cond (λhd=>?_)<|λhd=>?_
    ·unfold DB;omega
    ·unfold DB;omega
    ·have hd:=AZ hd;obtain⟨e3,e4⟩:=eN (x:=x) (q:=x.tdiv y-1) (r:=x.tmod y+y) h0 (by rw[He,Jv];omega) (by omega) (by omega);refine Yd.bd (Ad ⟨by omega,by omega⟩) (Yd.bd (Ad ⟨by omega,by omega⟩)<|hk _ ⟨e3,e4⟩)
    ·have hd:=Ay hd;obtain⟨e3,e4⟩:=eN (x:=x) (q:=x.tdiv y) (r:=x.tmod y) h0 t1 (by omega) (by omega);exact hk _ ⟨e3,e4⟩
   ·exact absurd h2 h0
  ·exact absurd h1 h0
 ·have l1:=hr.len hx;have l2:=hs.len hy;refine Yd.Ak (Pq hr) λp ⟨p1,p2,p3,p4⟩=>Yd.Ak (Pq hs) λq ⟨q1,q2,q3,q4⟩=>?_
  have hq0:q.2≠[]:=λe=>by rw[e] at q3;simp[AH] at q3;omega
  refine Yd.Ak (uX p2 q2 hq0 (by omega) (by omega)) λd ⟨⟨d1,d2⟩,d3,d4⟩=>Yd.Ak (TA d1 p.1) λQ hQ=>Yd.Ak (TA d3 p.1) λR hR=>?_
  rw[d2,p3,q3,p1] at hQ;rw[d4,p3,q3,p1] at hR;have ey:(y.natAbs:Int)=y:=by omega
  rw[ey] at hQ hR;have am0:=LI (x.natAbs:Int) (show y≠0 by omega);have am1:=Kj (x.natAbs:Int) h0;have adm:=OB (x.natAbs:Int) y;refine Yd.bd (V7 hR)<|Yd.jn (λs=>CH s.1 (x/y)/\CH s.2 (x%y)) (λs hs=>Yd.mk hs)<|λk hk=>Yd.cond (λhd=>?_)<|λhd=>?_
  ·have hd:=AZ hd;have HF:(bif decide (x<0) then -((x.natAbs:Int)%y) else(x.natAbs:Int)%y)<0:=by
    rcases Kh (bif decide (x<0) then -((x.natAbs:Int)%y) else(x.natAbs:Int)%y) 0 with h|h|h
    ·exact h
    ·rw[h] at hd;exact absurd hd (by decide)
    ·rw[J0 h] at hd;omega
   by_cases L1:x<0
   ·rw[Ab L1] at hQ hR HF;simp only[BM] at hQ hR HF;have HM:(x.natAbs:Int)= -x:=by omega
    rw[HM] at hQ hR HF am0 am1 adm;obtain⟨e3,e4⟩:=eN (x:=x) (q:= -(-x/y)-1) (r:= -(-x%y)+y) h0 (by rw[He,Jv,Int.mul_neg];omega) (by omega) (by omega);have hof:Nl 1=some (1,[]):=rfl;have h1r:CH (1,[]) 1:= .inl ⟨rfl,rfl,by unfold DB;omega⟩;have arQ:Cl (-(-x/y))=true:=by
     refine Vr ?_ hx;have:=(ug (x:= -x) h0).1 (by omega);omega
    have arP:Cl (-(-x%y))=true:=by
     refine Vr ?_ hy;omega
    refine Yd.bd hof (Yd.Ak (y5 hQ h1r arQ rfl) λa ha=>Yd.Ak (fC hR hs (by have:=hR.len arP;omega) (by omega)) λb hb=>hk _ ⟨?_,?_⟩)
    ·rwa [e3] at ha
    ·rwa [e4] at hb
   ·rw[BH L1] at HF;simp only[B8] at HF;omega
  ·have hd:=Ay hd;refine hk _ ?_;by_cases L1:x<0
   ·rw[Ab L1] at hQ hR hd;simp only[BM] at hQ hR hd;have HM:(x.natAbs:Int)= -x:=by omega
    rw[HM] at hQ hR hd am0 am1 adm;have hz: -x%y=0:=by
     rcases Kh (-x%y) 0 with h|h|h
     ·omega
     ·exact h
     ·rw[JR (by omega)] at hd;omega
    obtain⟨e3,e4⟩:=eN (x:=x) (q:= -(-x/y)) (r:= -(-x%y)) h0 (by rw[Int.mul_neg];omega) (by omega) (by omega);rw[e3] at hQ;rw[e4] at hR;exact⟨hQ,hR⟩
   ·rw[BH L1] at hQ hR;simp only[B8] at hQ hR;have HM:(x.natAbs:Int)=x:=by omega
    rw[HM] at hQ hR;exact⟨hQ,hR⟩
def o9(hr:CH r x)(hs:CH s y)(hx:Cl x=true)(hy:Cl y=true)(h0:y≠0):Yd (λq=>CH q<|x.fdiv y) (XN r s):=by
 unfold XN;refine Yd.bd (V7 hs)<|Yd.jn (λt=>∃a b:Int,CH t.1 a/\CH t.2 b/\Cl a=true/\Cl b=true/\0<b/\a/b=x.fdiv y) ?_<|λk hk=>Yd.cond (λhd=>?_)<|λhd=>?_
 ·rintro t ⟨a,b,h1,h2,h3,h4,h5,h6⟩;refine Yd.Ak (uY h1 h2 h3 h4 h5) λq ⟨hq,_⟩=>Yd.mk ?_
  rwa [h6] at hq
 ·have hd:=AZ hd;have hn:y<0:=by
   rcases Kh y 0 with h|h|h
   ·exact h
   ·exact absurd h h0
   ·rw[J0 h] at hd;omega
  refine Yd.Ak (RT hr) λa ha=>Yd.Ak (RT hs) λb hb=>hk _ ⟨-x,-y,ha,hb,by rw[nU];exact hx,by rw[nU];exact hy,by omega,?_⟩
  rw[<-Yv _ (show 0<= -y by omega),Int.neg_fdiv_neg]
 ·have hd:=Ay hd;have hn:0<y:=by
   rcases Kh y 0 with h|h|h
   ·rw[JR h] at hd;omega
   ·exact absurd h h0
   ·exact h
  exact hk _ ⟨x,y,hr,hs,hx,hy,hn,(Yv _ (by omega)).symm⟩
def ig(r:Int×A3 Int):Int:=if r.2=[] then r.1 else r.1*AH r.2
def CH.val(h:CH r z):ig r=z:=by
 unfold ig;rcases h with⟨h1,h2,_⟩|⟨h0,_,_,_,h4,_⟩
 ·rw[if_pos h1,h2]
 ·rw[if_neg h0,h4]
def muG(a b:Nat):Nat:=if b=0 then 0 else Nat.log2 (a*b)+1+(if a<b then 1 else 0)
def yF{m n:Nat}(h:m<=n):Nat.log2 m<=Nat.log2 n:=by
 by_cases h0:m=0
 ·subst h0;simp
 ·exact oH<|CX ((Nat.le_log2 h0).1<|Az _) h
def n5{a b:Nat}(hb:b≠0):muG b (a%b)<muG a b:=by
 have hlt:=N8 a (show b>0 by omega);unfold muG;rw[if_neg hb];by_cases h0:a%b=0
 ·rw[if_pos h0];omega
 ·rw[if_neg h0,if_neg (show¬b<a%b by omega)];by_cases HM:a<b
  ·rw[if_pos HM,Rj HM,Jw];omega
  ·rw[if_neg HM];have h1:2*(a%b)<=a:=by
    have:=Nat.mod_add_div a b;have h2:1<=a/b:=(Nat.one_le_div_iff (by omega)).2 (by omega);have h3:b*1<=b*(a/b):=Va _ h2;omega
   have h2:2*(b*(a%b))<=a*b:=by
    have:=Va b h1;rw[Nat.mul_left_comm,Jw b a] at this;exact this
   have h3:b*(a%b)≠0:=Nat.mul_ne_zero hb h0;have h4:=yF h2;have h5:Nat.log2 (2*(b*(a%b)))=Nat.log2 (b*(a%b))+1:=by
    rw[Nat.log2_two_mul h3]
   omega
def pA{a b:Nat}(ha:Nat.log2 a<1099511627776)(hb:Nat.log2 b<1099511627776):muG a b<18446744073709551616:=by
 unfold muG;have h1:a<2^(Nat.log2 a+1):=Nat.lt_log2_self;have h2:b<2^(Nat.log2 b+1):=Nat.lt_log2_self;have h3:Nat.log2 (a*b)<Nat.log2 a+1+(Nat.log2 b+1):=by
  by_cases h0:a*b=0
  ·rw[h0];simp;omega
  ·rw[Q6 h0,Lx];exact Nat.mul_lt_mul'' h1 h2
 split
 ·omega
 ·split<;>omega
def y7(hr:CH r x)(hs:CH s y)(hx:Cl x=true)(hy:Cl y=true):Yd (λq=>CH q (Int.gcd x y:Int)) (dH r s):=by
 unfold dH;refine Yd.Ak (oB hr) λa ha=>Yd.Ak (oB hs) λb hb=>?_
 have hx':=EP hx;have hy':=EP hy;refine Yd.lp (λt:(Int×A3 Int)×(Int×A3 Int)=>∃a b:Nat,CH t.1 (a:Int)/\CH t.2 (b:Int)/\Nat.gcd a b=Int.gcd x y/\Cl a=true/\Cl b=true) (λt:(Int×A3 Int)×(Int×A3 Int)=>muG (ig t.1).natAbs (ig t.2).natAbs) ?_ _ _ ⟨x.natAbs,y.natAbs,ha,hb,rfl,by simpa[Cl] using hx,by simpa[Cl] using hy⟩ ?_
 ·rintro next ⟨p,q⟩ ⟨a,b,h1,h2,h3,h4,h5⟩ hn
  simp only at h1 h2 hn⊢;refine Yd.bd (V7 h2)<|Yd.cond (λhc=>?_)<|λhc=>?_
  ·have hb0:b≠0:=λe=>by subst e;simp at hc
   refine Yd.Ak (uY h1 h2 h4 h5 (by omega)) λd ⟨_,hd⟩=>?_
   have hd':CH d.2 ((a%b:Nat):Int):=by rw[Int.natCast_emod];exact hd
   have hlt:=N8 a (show b>0 by omega);refine hn _ ⟨b,a%b,h2,hd',?_,h5,Vr (by omega) h5⟩ ?_
   ·rw[<-h3,Rb b<|a%b,<-Nat.gcd_rec,Rb]
   ·dsimp only;rw[h2.val,hd'.val,h1.val];exact n5 hb0
  ·have hb0:b=0:=by
    rw[VZ,Ev] at hc;have:=Int.sign_eq_zero_iff_zero.1 hc;omega
   subst hb0;refine Yd.mk ?_;rw[Nat.gcd_zero_right] at h3;rw[<-h3];exact h1
 ·dsimp only;rw[ha.val,hb.val];exact pA (by show Nat.log2 x.natAbs<_;omega) (by show Nat.log2 y.natAbs<_;omega)
end
end Trn
namespace Go.Proofs
section
open Go.Shelf
def ku:Go.Shelf.Ren:=⟨fun|166=>243|169=>244|240=>290|276=>321|n=>n,fun|0=>0|3=>3|9=>9|5=>5|72=>301|70=>298|37=>299|4=>4|20=>20|75=>260|80=>236|164=>358|n=>n,fun|n=>n⟩
def al4:Go.Proofs.Lays.n166 prog ku:={
 mixed:=Trn.A4
 f166:=func243.trans<|congrArg some Trn.A4
 f240:=func290.trans<|congrArg some Trn.A4
 f276:=func321.trans<|congrArg some Trn.A4
 t0:=underlying0
 a0:=isAgg0
 z0:=sizeOf0
 v0:=zeroValue0
 t3:=underlying3
 a3:=isAgg3
 z3:=sizeOf3
 v3:=zeroValue3
 t4:=underlying4
 a4:=isAgg4
 z4:=sizeOf4
 v4:=zeroValue4
 t9:=underlying9
 a9:=isAgg9
 z9:=sizeOf9
 v9:=zeroValue9
 t20:=underlying20
 a20:=isAgg20
 z20:=sizeOf20
 v20:=zeroValue20
 t37:=underlying299
 a37:=isAgg299
 z37:=sizeOf299
 v37:=zeroValue299
 t70:=underlying298
 a70:=isAgg298
 z70:=sizeOf298
 v70:=zeroValue298
 t72:=underlying301
 a72:=isAgg301
 z72:=sizeOf301
 v72:=zeroValue301
 t75:=underlying260
 a75:=isAgg260
 z75:=sizeOf260
 v75:=zeroValue260
 t164:=underlying358
 a164:=isAgg358
 z164:=sizeOf358
 v164:=zeroValue358}
def abm:Builder.Extra prog ku:={
 sizeBuilder:=Trn.A4
 liesBuilder:=Trn.A4
 t5:=underlying5
 a5:=isAgg5
 z5:=sizeOf5
 v5:=zeroValue5
 infoByte:=Trn.A4
 cellsByte:=Trn.A4
 sizeByte:=Trn.A4
 neB5:=by decide}
end
end Go.Proofs
namespace Trn
section
open Go.Shelf
variable[D:DR]
variable{x c y:Int}{r:Int×Int}
def wG{l s:A9}{r:A9×Int×Unit}(hm:V9 l s=some r):IN prog 243 [] (.HW 301 5<|lB l) (.HW 301 5<|lB r.1) [TS s] [TI .i64 r.2.1,qq r.2.2]:=
 ahW (ρ:=ku) al4 abm A4 hm
def agh{l r:A9}(hm:Xq l=some r):IN prog 244 [] (.HW 301 5<|lB l) .gone [] [TS r]:=
 agC (ρ:=kq) al2 abl A4 hm
def index_one(c:UInt8):∀s:A9,Lib.index s [c]= -1\/0<=Lib.index s [c]
 |[]=> .inl rfl
 |b::l=>by
  have:=Lib.index_ge (b::l) [c];omega
def ajW(c b:UInt8)(l:A9):Lib.cut (b::l) [c]=if c==b then([],l,true) else(b::(Lib.cut l [c]).1,(Lib.cut l [c]).2.1,(Lib.cut l [c]).2.2):=by
 have e:Lib.index (b::l) [c]=if c==b then 0 else if Lib.index l [c]== -1 then -1 else Lib.index l [c]+1:=by
  simp[Lib.index,List.isPrefixOf]
 unfold Lib.cut;rw[e];by_cases h:(c==b)=true
 ·simp[h]
 ·simp only[fU] at h;simp only[h];rcases index_one c l with h1|h1
  ·simp[h1]
  ·have h2: ¬Lib.index l [c]= -1:=by omega
   have h3:(0:Int)<=Lib.index l [c]+1:=by omega
   have h4:(Lib.index l [c]+1).toNat=(Lib.index l [c]).toNat+1:=by omega
   simp[h1,h2,h3,h4]
def eE(c:UInt8):∀(s pre:A9),cutAt c pre s=(pre.reverse++(Lib.cut s [c]).1,(Lib.cut s [c]).2.1,(Lib.cut s [c]).2.2)
 |[],pre=>by
  have:Lib.cut [] [c]=([],[],false):=by unfold Lib.cut;simp[Lib.index]
  simp[cutAt,this]
 |b::l,pre=>by
  rw[ajW];unfold cutAt;by_cases h:(c==b)=true
  ·have h':(b==c)=true:=by rw[Q5] at h⊢;exact h.symm
   simp[h,h']
  ·have h':(b==c)=false:=by
    cases e:(b==c) with
    |false=>rfl
    |true=>exact absurd (by rw[Q5] at e⊢;exact e.symm) h
   simp only[fU] at h;simp[h,h',eE c l (b::pre)]
def apE{w:AK}{H:HV}(sub:∀r o,H r=some o->w.heap[r]? =some o)(gl:Kp prog H):∃m,w.cell? ⟨0,0,none⟩=some (.int .i64 m):=by
 have hT:(prog.globals[0]?).map (·.type)=some 3:=A4;have:=gl 0 3 hT;have hu:prog.underlying 3=some (.int .i64):=A4;unfold S2 at this;rw[hu] at this;obtain⟨m,E,fr,e⟩:=this;exact⟨m,by simp[World.cell?,sub _ _ e]⟩
def zw{x y:A9}{r:A9×A9×Bool}(hm:iB x y=some r):AN 139 [TS x,TS y] [TS r.1,TS r.2.1,Ar r.2.2]:=by
 match y,hm with
 |[c],hm=>
  obtain⟨hb,rfl⟩:=Gf hm;have hb:x.length<4294967281:=EP hb;refine R9 A4 λw H vs sub gl ha=>?_
  obtain⟨u,v,rfl,hu,hv⟩:=TK ha;have hu:u= .string ⟨x.toArray⟩:=hu;have hv:v= .string ⟨#[c]⟩:=hv;subst hu;subst hv;obtain⟨m,hm⟩:=apE sub gl;refine(strings_Cut ⟨x.toArray⟩ ⟨#[c]⟩ m w (by simpa[ByteArray.size] using hb) hm).mono ?_;rintro e w' ⟨rfl,n,rfl⟩;refine⟨_,rfl,⟨⟨rfl,rfl,rfl,Az _,λ_ _=>rfl⟩,GQ.of<|TV _ _⟩,_,rfl,_,_,rfl,?_,_,_,rfl,?_,_,_,rfl,?_,rfl⟩
  ·rw[eE];rfl
  ·rw[eE];rfl
  ·rw[eE];rfl
def acw(w:AK)(e:Af)(s:ByteArray):F1 w.heap.size w (Lib.bytesWorld w e s):=
 ⟨⟨by unfold Lib.bytesWorld World.freeze;split<;>rfl,by unfold Lib.bytesWorld World.freeze;split<;>rfl,by unfold Lib.bytesWorld World.freeze;split<;>rfl,by rw[Lib.bytesWorld_size];omega,λk hk=>Lib.bytesWorld_at_old w e s k hk⟩,GQ.of (by unfold Lib.bytesWorld World.freeze;split<;>exact P1 _)⟩
def uC:∀(l:A9) (acc:Nat),l.all DW=true->Lib.decFrom acc l=some (l.foldl (λn b=>10*n+(b.toNat-48)) acc)
 |[],acc,_=>rfl
 |b::l,acc,h=>by
  rw[N9,BU] at h;obtain⟨h1,h2⟩:=h;unfold DW at h1;rw[BU] at h1;have h3:=EP h1.1;have h4:=EP h1.2;unfold Lib.decFrom Lib.digitVal;rw[if_pos ⟨h3,h4⟩];simp only[fT];rw[uC l _ h2,Jw]
def af5{s:A9}(h0:s.isEmpty=false)(h:s.all DW=true):Lib.atoi s=some (BA s:Int):=by
 match s,h0,h with
 |b::l,_,h=>
  have hb:DW b=true:=by rw[N9,BU] at h;exact h.1
  unfold DW at hb;rw[BU] at hb;have h3:=EP hb.1;have h5:(b==45)=false:=by
   cases e:b==45 with
   |false=>rfl
   |true=>rw[Q5] at e;subst e;exact absurd h3 (by decide)
  have h6:(b==43)=false:=by
   cases e:b==43 with
   |false=>rfl
   |true=>rw[Q5] at e;subst e;exact absurd h3 (by decide)
  have hd:Lib.decNat (b::l)=some (BA (b::l)):=by
   unfold Lib.decNat;rw[if_neg (by simp)];exact uC _ 0 h
  show(if(b==45)=true then(Lib.decNat l).map λ(m:Nat)=> -(m:Int) else if(b==43)=true then(Lib.decNat l).map λ(m:Nat)=>(m:Int) else(Lib.decNat (b::l)).map λ(m:Nat)=>(m:Int))=_;rw[h5,h6,hd]
  rfl
def amF{x:A9}{r:Int×Unit}(hm:ZG x=some r):AN 208 [TS x] [TI .i64 r.1,qq r.2]:=by
 obtain⟨hb,rfl⟩:=Gf hm;rw[BU,BU] at hb;obtain⟨⟨h1,h2⟩,h3⟩:=hb;have h1:x.isEmpty=false:=by simpa using h1
 have h2:=EP h2;refine R9 A4 λw H vs sub gl ha=>?_
 obtain⟨u,rfl,hu⟩:=Ns ha;have hu:u= .string ⟨x.toArray⟩:=hu;subst hu;refine(strconv_Atoi ⟨x.toArray⟩ (BA x:Int) (by simpa[ByteArray.size] using h2) (af5 h1 h3) w).mono ?_;rintro e w' ⟨rfl,t,rfl⟩;exact⟨_,rfl,acw w 5 t,_,rfl,_,_,rfl,rfl,_,_,rfl,rfl,rfl⟩
def lA:Aw AO->Sem AO:=λargs=>do
 let(x,y,b)<-Extern.MathBitsCarry.three "Sub64" args
 pure (Extern.MathBitsCarry.pair ((x+Extern.MathBitsCarry.m64-y-b)%Extern.MathBitsCarry.m64)<|if x<y+b then 1 else 0)
def agk{P:Bs}(X Y k:Nat)(hk:k<=1)(w:AK):(lA #[.int .u64 (X:Int),.int .u64 (Y:Int),.int .u64 (k:Int)]).run P w=
  .ok (Extern.MathBitsCarry.pair ((X+18446744073709551616-Y-k)%18446744073709551616)<|if X<Y+k then 1 else 0) w:=by
 have:k=0\/k=1:=by omega
 rcases this with rfl|rfl<;>rfl
def R8(h:GY x=true):∃n:Nat,x=n/\n<18446744073709551616:=by
 unfold GY at h;rw[BU,Ev,Ev] at h;obtain⟨n,rfl⟩:=ER h.1;exact⟨n,rfl,by omega⟩
def uq(h:(decide (c=0)||decide (c=1))=true):∃k:Nat,c=k/\k<=1:=by
 rw[Kf,Ev,Ev] at h;rcases h with rfl|rfl
 ·exact⟨0,rfl,by omega⟩
 ·exact⟨1,rfl,by omega⟩
def vT{H:HV}{τ σ υ:Ty}{vs:A3 AO}(h:EW H [τ,σ,υ] vs):∃v u t,vs=[v,u,t]/\τ.ok H v/\σ.ok H u/\υ.ok H t:=by
 obtain⟨v,rest,e,hv,hr⟩:=h;obtain⟨u,t,e2,hu,ht⟩:=TK hr;subst e2;exact⟨v,u,t,e,hv,hu,ht⟩
def ajz(M X Y k:Nat)(hY:Y<M)(hk:k<=1):(((X+M-Y-k)%M:Nat):Int)=((X:Int)-Y-k)%(M:Int):=by
 have:((X+M-Y-k:Nat):Int)=((X:Int)-Y-k)+M:=by omega
 rw[Int.natCast_emod,this,Int.add_emod_right]
def sub_lt(X Y k:Nat):((if X<Y+k then 1 else 0:Nat):Int)=bif decide ((X:Int)<Y+k) then 1 else 0:=by
 by_cases h:X<Y+k
 ·have h':(X:Int)<(Y:Int)+(k:Int):=by omega
  simp[h,h']
 ·have h': ¬(X:Int)<(Y:Int)+(k:Int):=by omega
  simp[h,h']
def TH(hm:LA x y c=some r):od prog 258 [TI .u64 x,TI .u64 y,TI .u64 c] [TI .u64 r.1,TI .u64 r.2]:=by
 unfold LA at hm;cases hb:((GY x&&GY y)&&(decide (c=0)||decide (c=1)))
 ·rw[hb] at hm;cases hm
 rw[hb] at hm;have hm:=Dg hm;subst hm;rw[BU,BU] at hb;obtain⟨⟨h1,h2⟩,h3⟩:=hb;obtain⟨X,rfl,hX⟩:=R8 h1;obtain⟨Y,rfl,hY⟩:=R8 h2;obtain⟨k,rfl,hk⟩:=uq h3;refine⟨λw H vs ha=>?_⟩;obtain⟨u,v,t,rfl,hu,hv,ht⟩:=vT ha;have hu:u= .int .u64 (X:Int):=hu;have hv:v= .int .u64 (Y:Int):=hv;have ht:t= .int .u64 (k:Int):=ht;subst hu;subst hv;subst ht;refine⟨.tuple #[.int .u64<|((X:Int)+Y+k)%18446744073709551616,.int .u64<|((X:Int)+Y+k)/18446744073709551616],w,?_,⟨Below.refl _ _,Az _⟩,?_⟩
 ·rw[run_callFunc_extern func258 A4 A4 A4 (e:=add64Entry) A4];show Result.andThen ((add64Entry #[.int .u64 (X:Int),.int .u64 (Y:Int),.int .u64 (k:Int)]).run prog w) _=_;rw[run_add64 _ _ _ (by omega) (by omega) (by omega) (by omega) w]
  rfl
 ·exact⟨_,rfl,_,_,rfl,rfl,_,_,rfl,rfl,rfl⟩
def nh(hm:RX x y c=some r):od prog 260 [TI .u64 x,TI .u64 y,TI .u64 c] [TI .u64 r.1,TI .u64 r.2]:=by
 unfold RX at hm;cases hb:((GY x&&GY y)&&(decide (c=0)||decide (c=1)))
 ·rw[hb] at hm;cases hm
 rw[hb] at hm;have hm:=Dg hm;subst hm;rw[BU,BU] at hb;obtain⟨⟨h1,h2⟩,h3⟩:=hb;obtain⟨X,rfl,hX⟩:=R8 h1;obtain⟨Y,rfl,hY⟩:=R8 h2;obtain⟨k,rfl,hk⟩:=uq h3;refine⟨λw H vs ha=>?_⟩;obtain⟨u,v,t,rfl,hu,hv,ht⟩:=vT ha;have hu:u= .int .u64 (X:Int):=hu;have hv:v= .int .u64 (Y:Int):=hv;have ht:t= .int .u64 (k:Int):=ht;subst hu;subst hv;subst ht;refine⟨Extern.MathBitsCarry.pair ((X+18446744073709551616-Y-k)%18446744073709551616)<|if X<Y+k then 1 else 0,w,?_,⟨Below.refl _ _,Az _⟩,?_⟩
 ·rw[run_callFunc_extern func260 A4 A4 A4 (e:=lA) A4];show Result.andThen ((lA #[.int .u64 (X:Int),.int .u64 (Y:Int),.int .u64 (k:Int)]).run prog w) _=_;rw[agk _ _ _ hk w]
  rfl
 ·refine⟨_,rfl,_,_,rfl,?_,_,_,rfl,?_,rfl⟩
  ·exact congrArg (Value.int .u64)<|ajz 18446744073709551616 X Y k hY hk
  ·exact congrArg (Value.int .u64)<|sub_lt X Y k
def eI(hm:Q4 x y=some r):AN 210 [TI .u64 x,TI .u64 y] [TI .u64 r.1,TI .u64 r.2]:=by
 unfold Q4 at hm;cases hb:(GY x&&GY y)
 ·rw[hb] at hm;cases hm
 rw[hb] at hm;have hm:=Dg hm;subst hm;rw[BU] at hb;obtain⟨X,rfl,hX⟩:=R8 hb.1;obtain⟨Y,rfl,hY⟩:=R8 hb.2;refine R9 A4 λw H vs sub gl ha=>?_
 obtain⟨u,v,rfl,hu,hv⟩:=TK ha;have hu:u= .int .u64 (X:Int):=hu;have hv:v= .int .u64 (Y:Int):=hv;subst hu;subst hv;refine(bits_Mul64 X Y hX hY w).mono ?_;rintro e w' ⟨rfl,rfl⟩;exact⟨_,rfl,F1.refl _ _,_,rfl,_,_,rfl,congrArg (Value.int .u64) (by rw[Int.natCast_ediv,M1];rfl),_,_,rfl,congrArg (Value.int .u64) (by rw[Int.natCast_emod,M1];rfl),rfl⟩
def tS:∀(f n:Nat),n<2^f->Lib.bitLenAux f n=NQ n
 |0,n,h=>by
  have:n=0:=by simpa using h
  subst this;rfl
 |f+1,n,h=>by
  unfold Lib.bitLenAux NQ;by_cases h0:n=0
  ·subst h0;rfl
  ·rw[if_neg h0,tS f (n/2) (by rw[RZ] at h;omega)];have hb:Nat.beq n 0=false:=by
    cases e:Nat.beq n 0 with
    |false=>rfl
    |true=>exact absurd (Dj e) h0
   rw[hb];unfold NQ;by_cases h1:n/2=0
   ·have:n=1:=by omega
    subst this;rfl
   ·have hb2:Nat.beq (n/2) 0=false:=by
     cases e:Nat.beq (n/2) 0 with
     |false=>rfl
     |true=>exact absurd (Dj e) h1
    rw[hb2];show 1+(Nat.log2 (n/2)+1)=Nat.log2 n+1
    conv=>rhs;rw[Nat.log2_def,if_pos (by omega)]
    omega
def bitLen_eq{n:Nat}(h:n<18446744073709551616):Lib.bitLen n=NQ n:=tS 64 n h
def ak8{r:Int}(hm:YQ x=some r):AN 203 [TI .u64 x] [TI .i64 r]:=by
 unfold YQ at hm;cases hb:GY x
 ·rw[hb] at hm;cases hm
 rw[hb] at hm;have hm:=Dg hm;subst hm;obtain⟨X,rfl,hX⟩:=R8 hb;refine R9 A4 λw H vs sub gl ha=>?_
 obtain⟨u,rfl,hu⟩:=Ns ha;have hu:u= .int .u64 (X:Int):=hu;subst hu;refine(bits_Len64 (X:Int) w (by omega) (by omega)).mono ?_;rintro e w' ⟨rfl,rfl⟩;exact⟨_,rfl,F1.refl _ _,congrArg (Value.int .i64) (by rw[CA,bitLen_eq hX])⟩
def zB{r:Int}(hm:Vu x=some r):AN 283 [TI .u64 x] [TI .i64 r]:=by
 unfold Vu at hm;cases hb:GY x
 ·rw[hb] at hm;cases hm
 rw[hb] at hm;have hm:=Dg hm;subst hm;obtain⟨X,rfl,hX⟩:=R8 hb;refine R9 A4 λw H vs sub gl ha=>?_
 obtain⟨u,rfl,hu⟩:=Ns ha;have hu:u= .int .u64 (X:Int):=hu;subst hu;refine(bits_LeadingZeros64 (X:Int) w (by omega) (by omega)).mono ?_;rintro e w' ⟨rfl,rfl⟩;exact⟨_,rfl,F1.refl _ _,congrArg (Value.int .i64) (by rw[CA,bitLen_eq hX])⟩
end
section
variable{k:Nat}{x y:Rat}{z:Int}{n j:Nat}{r:Int×A3 Int}{a b:Nat}
def amH:Bool:=(List.range 19).all λk=>decide<|XO (10,[]) (k:Int)=some ((10:Int)^k,[])
def agu:amH=true:=A4
def ah7(h:k<=18):XO (10,[]) (k:Int)=some ((10:Int)^k,[]):=by
 have:=Cy.1 agu k (P5.2 (by omega));exact AZ this
def ct:∀(l:A9) (n:Nat),l.foldl (λn b=>10*n+(b.toNat-48)) n=n*10^l.length+BA l
 |[],n=>by simp[BA]
 |b::l,n=>by
  have e:BA (b::l)=(b.toNat-48)*10^l.length+BA l:=by
   show l.foldl (λn b=>10*n+(b.toNat-48)) (10*0+(b.toNat-48))=_;rw[ct l,Nat.mul_zero,Nt]
  rw[fT,ct l,e,Iv,DF,RZ];have:10*n*10^l.length=n*(10^l.length*10):=by rw[Jw 10 n,Nat.mul_assoc,Jw 10]
  omega
def XY(l m:A9):BA (l++m)=BA l*10^m.length+BA m:=by
 show(l++m).foldl _ 0=_;rw[List.foldl_append,ct m];rfl
def ahE{b:UInt8}(h:DW b=true):b.toNat-48<=9:=by
 unfold DW at h;obtain⟨_,h2⟩:=DQ h;have:=EP h2;omega
def Py:∀(l:A9),l.all DW=true->BA l<10^l.length
 |[],_=>by simp[BA]
 |b::l,h=>by
  rw[N9] at h;obtain⟨h1,h2⟩:=DQ h;have:=Py l h2;have hb:=ahE h1;show(b::l).foldl _ 0<_;rw[fT,ct l,DF,RZ];have:(10*0+(b.toNat-48))*10^l.length<=9*10^l.length:=Hg _ (by omega);omega
def TG(h:z.natAbs<10^n)(hn:n<=1000000):Cl z=true:=by
 unfold Cl;refine Gx ?_;rcases LK z.natAbs with h0|h0
 ·rw[h0];exact Gx (by simp)|>EP
 ·have h1:(10:Nat)^n<=(2^4)^n:=Nat.pow_le_pow_left (by omega) n;rw[<-Nat.pow_mul] at h1;have:Nat.log2 z.natAbs<4*n:=(Q6 (by omega)).2 (by omega);omega
def aij{s:A9}(h:J5 s=some z):Yd (λq=>CH q z) (cd s):=by
 have core:∀(ds:A9) (neg:Bool) (w:Int),(ds.all DW&&Nat.blt ds.length 1000000)=true->w=(bif neg then -(BA ds:Int) else(BA ds:Int))->
   Yd (λq=>CH q w) (lp 18446744073709551616 (λ(k6:(A9×(Int×A3 Int))->A6 _) (s5:A9×(Int×A3 Int))=>
    cond (decide<|(0:Int)<(s5.1.length:Int)) (
     bd (Br s5.1 0<|mn_ (18:Int) (s5.1.length:Int)) λx8=>
     bd (ZG x8) λB7=>
     bd (Nl (10:Int)) λBD=>
     bd (XO BD<|mn_ (18:Int) (s5.1.length:Int)) λBS=>
     bd (Sq s5.2 BS) λBK=>
     bd (Nl B7.1) λBo=>
     bd (Sr BK Bo) λBj=>
     bd (Br s5.1 (mn_ (18:Int) (s5.1.length:Int)) (s5.1.length:Int)) λDN=>
     k6 (DN,Bj)
    ) (
     cond neg (
      bd (Nh s5.2) λCs=>
      some Cs
     ) (
      some s5.2
     )
    )
   ) (ds,(0,[]))):=by
  intro ds neg w hds hw;obtain⟨hd,hl⟩:=DQ hds;have hl:ds.length<1000000:=EP hl;refine Yd.lp (λt:A9×(Int×A3 Int)=>t.1.all DW=true/\t.1.length<=ds.length/\∃v:Nat,CH t.2 (v:Int)/\v<10^(ds.length-t.1.length)/\v*10^t.1.length+BA t.1=BA ds)
   (λt:A9×(Int×A3 Int)=>t.1.length) ?_ _ _ ⟨hd,Az _,0,.inl ⟨rfl,rfl,by unfold DB;omega⟩,by dsimp only;rw[Nat.sub_self];decide,by dsimp only;omega⟩ (by dsimp only;omega)
  rintro next ⟨ss,r⟩ ⟨h1,h2,v,h3,h4,h5⟩ hn
  dsimp only at h1 h2 h3 h4 h5 hn⊢;have hsv:Cl (v:Int)=true:=TG (n:=ds.length-ss.length) (by simpa using h4) (by omega);refine Yd.cond (λhc=>?_)<|λhc=>?_
  ·have hc:=AZ hc;obtain⟨m,hm,hm1,hm2,hm3⟩:∃m:Nat,mn_ 18 (ss.length:Int)=(m:Int)/\m<=18/\m<=ss.length/\0<m:=by
    unfold mn_;by_cases h:(ss.length:Int)<18
    ·rw[Ab h];exact⟨ss.length,rfl,by omega,by omega,by omega⟩
    ·rw[BH h];exact⟨18,rfl,by omega,by omega,by omega⟩
   rw[hm];have hss:ss=ss.take m++ss.drop m:=(OC m ss).symm;have hall:=h1;rw[hss,fS] at hall;obtain⟨a1,a2⟩:=DQ hall;have hlt:(ss.take m).length=m:=by rw[DI];omega
   have hld:(ss.drop m).length=ss.length-m:=H9;have JW:=XY (ss.take m)<|ss.drop m
   rw[<-hss,hld] at JW;have hb:=Py _ a1;rw[hlt] at hb;have at7:BA (ss.take m)<10^18:=K0 hb (Kl (by omega) hm1);have atd:(10:Nat)^m<=10^18:=Kl (by omega) hm1;have ap8:((10:Int)^m)=((10^m:Nat):Int):=by rw[Int.natCast_pow];rfl
   have hat:ZG (ss.take m)=some ((BA (ss.take m):Int),()):=by
    unfold ZG;have e1:(ss.take m).isEmpty=false:=by
     cases he:(ss.take m) with
     |nil=>rw[he] at hlt;simp at hlt;omega
     |cons _ _=>rfl
    have e2:Nat.ble (ss.take m).length 18=true:=Gx (by omega);rw[e1,e2,a1];rfl
   refine Yd.bd (EO (by omega) (by omega) (by omega)) ?_;have e0:(ss.take ((m:Nat):Int).toNat).drop ((0:Int)).toNat=ss.take m:=by simp
   rw[e0];refine Yd.bd hat<|Yd.bd (show Nl 10=some (10,[]) from rfl)<|Yd.bd (ah7 hm1) ?_
   have hp:0<(10:Nat)^m:=Nat.pow_pos (by omega);have hrp:CH ((10:Int)^m,[]) ((10^m:Nat):Int):= .inl ⟨rfl,by dsimp only;exact ap8,by unfold DB;omega⟩;have CN:(10:Nat)^18<10^19:=by decide
   have arO:Cl ((10^m:Nat):Int)=true:=TG (n:=19) (by simp only[Fc];omega) (by omega);refine Yd.Ak (y6 h3 hrp hsv arO) λq hq=>?_
   refine Yd.bd (show Nl (BA (ss.take m):Int)=some ((BA (ss.take m):Int),[]) from rfl) ?_;have hrd:CH ((BA (ss.take m):Int),[]) (BA (ss.take m):Int):= .inl ⟨rfl,rfl,by unfold DB;omega⟩;have as1:ds.length-(ss.drop m).length=(ds.length-ss.length)+m:=by rw[hld];omega
   have Mh:v*10^m+BA (ss.take m)<10^(ds.length-(ss.drop m).length):=by
    rw[as1,Lx];have:(v+1)*10^m<=10^(ds.length-ss.length)*10^m:=Hg _ (by omega);rw[Iv,Ly] at this;omega
   have arM:Cl ((v:Int)*((10^m:Nat):Int))=true:=by
    rw[<-M1];exact TG (n:=ds.length-(ss.drop m).length) (by simp only[Fc];omega) (by omega)
   have hlq:=hq.len arM;refine Yd.Ak (fC hq hrd (by omega) (by simp)) λq2 hq2=>?_
   refine Yd.bd (EO (by omega) (by omega) (by omega)) ?_;have e1:(ss.take ((ss.length:Nat):Int).toNat).drop ((m:Nat):Int).toNat=ss.drop m:=by simp
   rw[e1];refine hn _ ⟨a2,by dsimp only;omega,v*10^m+BA (ss.take m),?_,Mh,?_⟩ (by dsimp only;omega)
   ·dsimp only;rw[Int.natCast_add,M1];exact hq2
   ·dsimp only;rw[<-h5,JW,Iv,Nat.mul_assoc,<-Lx,hld,show m+(ss.length-m)=ss.length from by omega];omega
  ·have hc:=Ay hc;have h0:ss=[]:=JS (by omega);subst h0;have h5:v=BA ds:=by simpa[BA] using h5
   subst h5;subst hw;cases neg
   ·exact Yd.cond (λh=>by cases h)<|λ_=>Yd.mk h3
   ·exact Yd.cond (λ_=>Yd.Ak (RT h3) λq hq=>Yd.mk hq) (λh=>by cases h)
 have hp:∀b:Bool,(decide ((([45]:A9).length:Int)<=(s.length:Int))&&(s.take 1==[45]))=b->Ng s [45]=some b:=by
  intro b hb;unfold Ng;cases hc:decide ((([45]:A9).length:Int)<=(s.length:Int)) with
  |false=>
   rw[hc] at hb;rw[Q7] at hb;subst hb;rfl
  |true=>
   rw[hc] at hb;have hc:=AZ hc;show bd (Br s 0<|(([45]:A9).length:Int)) _=_;rw[EO (by omega) (by omega) hc];exact congrArg some hb
 have pre:∀(b:Bool) (ds:A9),Ng s [45]=some b->(b=true->s=45::ds)->(b=false->ds=s)->(ds.all DW&&Nat.blt ds.length 1000000)=true->z=(bif b then -(BA ds:Int) else(BA ds:Int))->Yd (λq=>CH q z) (cd s):=by
  intro b ds e1 e2 e2' e3 e4;unfold cd;refine Yd.bd (x:=b) ?_<|Yd.bd (x:=ds) ?_<|core ds b z e3 e4
  ·unfold jN;rw[e1];rfl
  ·unfold aC jE;rw[e1];cases b
   ·rw[e2' rfl];rfl
   ·rw[e2 rfl];show bd (bd (Br (45::ds) 1 (((45::ds:A9).length:Nat):Int)) _) _=_;rw[EO (by omega) (by rw[DF];omega)<|Int.le_refl _];show some _=some _;simp
 unfold J5 at h;split at h
 ·rename_i ds;obtain⟨hb,rfl⟩:=Gf h;refine pre true ds (hp true ?_) (λ_=>rfl) (λh=>by cases h) hb rfl;rw[Ab (show((([45]:A9).length:Nat):Int)<=(((45::ds:A9).length:Nat):Int) by simp only[DF,TU];omega)]
  rfl
 ·rename_i hne;obtain⟨hb,rfl⟩:=Gf h;refine pre false s (hp false ?_) (λh=>by cases h) (λ_=>rfl) hb rfl;cases s with
  |nil=>rfl
  |cons c l=>
   have:c≠45:=λe=>hne l (by rw[e])
   have h2:((c::l).take 1==[45])=false:=by
    simp[this]
   rw[h2,Ya]
def ah9(h0:n≠0)(h1:2^k<=n)(h2:n<2^(k+1)):Nat.log2 n=k:=(Nat.log2_eq_iff h0).2 ⟨h1,h2⟩
def ahy{w:A3 Int}{t:Nat}(hw:okW w)(hl:w.length=k+1)(ht:w.getD k 0=(t:Int))(h0:t≠0):((AH w).toNat).log2=64*k+t.log2:=by
 have hs:AH w=AH (w.take k)+Am k*(t:Int):=by
  have:AH (w.take<|k+1)=AH w:=by rw[CB (by omega)]
  rw[<-this,En,ht]
 obtain⟨b0,b1⟩:=G0<|Lt hw k
 rw[DI,Dt (by omega)] at b1;rw[nm] at hs b1;obtain⟨L,hL⟩:=ER b0;rw[hL] at hs b1;have e:(AH w).toNat=L+2^(64*k)*t:=by
  rw[hs,<-M1];omega
 have hL':L<2^(64*k):=by exact_mod_cast b1
 obtain⟨l1,l2⟩:=Xr h0;have hp:0<2^(64*k):=VR _;have m1:2^(64*k)*2^t.log2<=2^(64*k)*t:=Va _ l1;have m2:2^(64*k)*(t+1)<=2^(64*k)*2^(t.log2+1):=Va _ l2;rw[<-Lx] at m1 m2;rw[Nat.mul_add,Nat.mul_one] at m2;have hp2:0<2^(64*k+t.log2):=VR _;rw[e];exact ah9 (by omega) (by omega) (by rw[KY];omega)
def ail(h:CH r z)(hz:Cl z=true):b9 r=some (bif decide (z=0) then 0 else(Nat.log2 z.natAbs:Int)+1):=by
 have key:Yd (λn=>n=(bif decide (z=0) then 0 else(Nat.log2 z.natAbs:Int)+1)) (b9 r):=by
  unfold b9;have hlen:=h.len hz;refine Yd.Ak (Pq h) ?_;rintro⟨neg,w⟩ ⟨_,hw,hv,hl⟩;dsimp only at hw hv hl⊢;refine Yd.cond (λhc=>?_)<|λhc=>?_
  ·have hc:=AZ hc;have h0:w=[]:=JS (by omega);subst h0;have:z=0:=by
    have:(0:Int)=(z.natAbs:Int):=hv;omega
   subst this;exact Yd.mk rfl
  ·have hc:=Ay hc;obtain⟨k,hk⟩:∃k,w.length=k+1:=⟨w.length-1,by omega⟩;have e1:((w.length:Int)-1)=((k:Nat):Int):=by omega
   rw[e1];have ht:=FI hw.1 k;obtain⟨t,ht'⟩:=ER ht.1;have h0:t≠0:=by
    intro e;subst e;refine hw.2 ?_;rw[List.getLast?_eq_getElem?,show w.length-1=k from by omega];rw[Eo,Fe (by omega)] at ht';rw[Fe (by omega)];simpa using ht'
   have WY:=ahy hw.1 hk ht' h0;rw[hv,CA] at WY;have hz0:z≠0:=by
    intro e;subst e;have:=Sx hw.1 (by intro e;rw[e] at hk;simp at hk) hw.2;have hp:=L7<|w.length-1
    rw[hv] at this;simp at this;omega
   have ht2:t<2^64:=by have:=ht.2;rw[ht'] at this;unfold BB at this;omega
   have aml:YQ (t:Int)=some ((t.log2:Int)+1):=by
    unfold YQ GY;rw[Ab (show(0:Int)<=(t:Int) by omega),Ab (show((t:Nat):Int)<18446744073709551616 by omega)];show some ((NQ ((t:Nat):Int).toNat:Nat):Int)=_;have:NQ t=Nat.log2 t+1:=by
     unfold NQ;have:Nat.beq t 0=false:=by
      cases hb:Nat.beq t 0 with
      |false=>rfl
      |true=>exact absurd (Dj hb) h0
     rw[this];rfl
    rw[CA,this];rfl
   have hlt:t.log2<64:=(Q6 h0).2 ht2;refine Yd.bd (Ad ⟨by omega,by omega⟩) (Yd.bd (Ad ⟨by omega,by omega⟩) (Yd.bd (Ad ⟨by omega,by omega⟩) (Yd.bd (BN (by omega)) ?_)));rw[ht'];refine Yd.bd aml (Yd.bd (Ad ⟨by omega,by omega⟩)<|Yd.mk ?_);rw[BH hz0,WY];simp only[B8];omega
 obtain⟨n,e,rfl⟩:=key;exact e
def CH.one(h:CH r z):((List.isEmpty r.2)&&decide (r.1=(1:Int)))=decide (z=1):=by
 rcases h with⟨h1,h2,h3⟩|⟨h0,h1,h2,h3,h4,h5⟩
 ·rw[h1,h2];rfl
 ·have e:List.isEmpty r.2=false:=by
   cases hr:r.2 with
   |nil=>exact absurd hr h0
   |cons _ _=>rfl
  rw[e,Q7]
  symm
  rw[HB];rcases h1 with e|e<;>rw[h4,e]<;>omega
def aik{s:Int×A3 Int}{x y:Int}(hr:CH r x)(hs:CH s y)(hx:Cl x=true)(hy:Cl y=true)(h0:y≠0):Yd (λq=>CH q.1 ((x:Rat)/(y:Rat)).num/\CH q.2 (((x:Rat)/(y:Rat)).den:Int)) (lI r s):=by
 unfold lI;have en:((x:Rat)/(y:Rat)).num=(y.sign*x)/(Int.gcd y x:Int):=by rw[<-Ny,YZ]
 have ed:(((x:Rat)/(y:Rat)).den:Int)=(y.natAbs:Int)/(Int.gcd y x:Int):=by
  rw[<-Ny,YY,if_neg h0];rfl
 rw[en,ed];refine Yd.bd (V7 hs)<|Yd.jn (λt=>CH t.1 (y.sign*x)/\CH t.2 (y.natAbs:Int)) ?_<|λk hk=>Yd.cond (λhd=>?_)<|λhd=>?_
 ·rintro⟨a,b⟩ ⟨ha,hb⟩;dsimp only at ha hb⊢;have hg:Int.gcd (y.sign*x) (y.natAbs:Int)=Int.gcd y x:=by
   rw[Int.gcd_comm];unfold Int.gcd;rw[Kc,Fc]
   congr 1
   rcases Kh y 0 with h|h|h
   ·rw[JR h];simp
   ·exact absurd h h0
   ·rw[J0 h];simp
  have hg0:0<Int.gcd y x:=fz _ h0;have sa:Cl (y.sign*x)=true:=Vr (y:=x) (by
   rw[Kc];rcases Kh y 0 with h|h|h
   ·rw[JR h];simp
   ·exact absurd h h0
   ·rw[J0 h];simp) hx
  have sb:Cl (y.natAbs:Int)=true:=Vr (y:=y) (by simp) hy;rw[CH.one hb];refine Yd.cond (λhc=>?_)<|λhc=>?_
  ·have hc:=AZ hc;have h1:Int.gcd y x=1:=by
    unfold Int.gcd;rw[show y.natAbs=1 from by omega,Nat.gcd_one_left]
   rw[h1];refine Yd.mk ⟨?_,?_⟩
   ·dsimp only;rw[show((1:Nat):Int)=1 from rfl,Int.ediv_one];exact ha
   ·dsimp only;rw[show((1:Nat):Int)=1 from rfl,Int.ediv_one];exact hb
  ·refine Yd.Ak (y7 ha hb sa sb) λg hgr=>?_
   rw[hg] at hgr;have sg:Cl (Int.gcd y x:Int)=true:=Vr (y:=y) (by
    rw[Fc];exact Nat.le_of_dvd (by omega)<|Nat.gcd_dvd_left _ _) hy
   refine Yd.Ak (o9 ha hgr sa sg (by omega)) λp hp=>Yd.Ak (o9 hb hgr sb sg (by omega)) λq hq=>Yd.mk ⟨?_,?_⟩
   ·dsimp only;rw[Yv _ (by omega)] at hp;exact hp
   ·dsimp only;rw[Yv _ (by omega)] at hq;exact hq
 ·have hd:=AZ hd;have hn:y<0:=by
   rcases Kh y 0 with h|h|h
   ·exact h
   ·exact absurd h h0
   ·rw[J0 h] at hd;omega
  refine Yd.Ak (RT hr) λa ha=>Yd.Ak (RT hs) λb hb=>hk _ ⟨?_,?_⟩
  ·rw[JR hn];simpa using ha
  ·rw[show(y.natAbs:Int)= -y from by omega];exact hb
 ·have hd:=Ay hd;have hn:0<y:=by
   rcases Kh y 0 with h|h|h
   ·rw[JR h] at hd;omega
   ·exact absurd h h0
   ·exact h
  refine hk _ ⟨?_,?_⟩
  ·rw[J0 hn,G2];exact hr
  ·rw[show(y.natAbs:Int)=y from by omega];exact hs
def yd:∀(f n:Nat) (acc:A9),n<f->Zl f n acc=Lib.decDigits n++acc
 |0,n,_,h=>by omega
 |f+1,n,acc,h=>by
  unfold Zl;by_cases h1:n<10
  ·rw[show Nat.blt n 10=true from Gx h1,Lib.decDigits_one h1];rfl
  ·have:Nat.blt n 10=false:=by
    cases hb:Nat.blt n 10 with
    |false=>rfl
    |true=>exact absurd (EP hb) h1
   rw[this];show Zl f (n/10) _=_;rw[yd f (n/10) _ (by omega)]
   conv=>rhs;rw[Lib.decDigits,dif_neg h1]
   simp
def Vo(n:Nat):B5 n=Lib.decDigits n:=by unfold B5;rw[yd _ _ _ (by omega)];simp
def Nq(h:n<10):B5 n=[UInt8.ofNat<|48+n]:=by rw[Vo,Lib.decDigits_one h]
def RA(h: ¬n<10):B5 n=B5 (n/10)++[UInt8.ofNat<|48+n%10]:=by
 rw[Vo,Vo,Lib.decDigits,dif_neg h]
def Nr:∀(k n:Nat),0<k->n<10^k->(B5 n).length<=k
 |0,_,h,_=>by omega
 |k+1,n,_,h=>by
  by_cases h1:n<10
  ·rw[Nq h1];simp
  ·rw[RA h1,ES];rcases LK k with h0|h0
   ·subst h0;simp at h;omega
   ·have:=Nr k (n/10) h0 (by rw[RZ] at h;omega);simp;omega
def HE(k r:Nat):A9:=List.replicate (k-(B5 r).length) 48++B5 r
def agz{r:Nat}(hk:0<k)(hr:r/10<10^k):HE (k+1) r=HE k (r/10)++[UInt8.ofNat<|48+r%10]:=by
 unfold HE;by_cases h:r<10
 ·rw[show r/10=0 from by omega,Nq h,Nq (show 0<10 by omega),show r%10=r from by omega];have:List.replicate (k+1-1) (48:UInt8)=List.replicate (k-1) 48++[48]:=by
   rw[show k+1-1=(k-1)+1 from by omega,List.replicate_succ']
  simp only[LN];rw[this];rfl
 ·rw[RA h,ES,LN,show k+1-((B5<|r/10).length+1)=k-(B5<|r/10).length from by omega,Gw]
def lS:∀(k q r:Nat),0<q->0<k->r<10^k->B5 (q*10^k+r)=B5 q++HE k r
 |0,_,_,_,h,_=>by omega
 |k+1,q,r,hq,_,hr=>by
  rw[RZ] at hr⊢;have hp:0<10^k:=Nat.pow_pos (by omega);have MH:10^k<=q*10^k:=Nat.le_mul_of_pos_left _ hq;rw[<-Nat.mul_assoc];rw[RA (by omega),show(q*10^k*10+r)/10=q*10^k+r/10 from by omega,show(q*10^k*10+r)%10=r%10 from by omega];rcases LK k with h0|h0
  ·subst h0;have h9:r<10:=by simpa using hr
   rw[show r/10=0 from by omega,Nat.pow_zero,Nat.mul_one,Re];unfold HE;rw[Nq h9,show r%10=r from by omega];rfl
  ·rw[lS k q (r/10) hq h0 (by omega),agz h0 (by omega),Gw]
def xo(c:Nat):ij [48] c=List.replicate c 48:=by
 induction c with
 |zero=>rfl
 |succ c ih=>rw[List.replicate_succ,<-ih];rfl
def Norm.pos{w:A3 Int}(h:Norm w)(h0:w≠[]):0<AH w:=by
 have:=Sx h.1 h0 h.2;have:=L7<|w.length-1
 omega
def afv{r:Nat}(h:r<1000000000000000000):(B5 r).length<=18:=Nr 18 r (by omega) (by simpa using h)
def ajN{l:A3 A9}{x:A9}(h:l[n]? =some x):(l.drop n).reverse.flatten=(l.drop<|n+1).reverse.flatten++x:=by
 obtain⟨hn,e⟩:=EC.1 h;rw[Rq hn,e,List.reverse_cons,List.flatten_append];simp
def xH{l:A3 A9}(h:∀x∈l,x.length<=18):l.flatten.length<=18*l.length:=by
 induction l with
 |nil=>simp
 |cons a l ih=>
  rw[List.flatten_cons,ES,DF];have h1:=h a (by simp);have h2:=ih λx hx=>h x (by simp[hx])
  omega
def afe(h:CH r z)(hz:Cl z=true):Yd (λs=>s=CU z) (jb r):=by
 unfold jb;have hlen:=h.len hz;refine Yd.cond (λhc=>?_)<|λhc=>?_
 ·rcases h with⟨h1,h2,h3⟩|⟨h1,_⟩
  ·have e:ZF z=some (CU z):=by
    unfold ZF;have:Hm z=true:=by
     unfold DB at h3;unfold Hm;rw[Ab h3.1,Ab h3.2];rfl
    rw[this];rfl
   rw[h2];exact Yd.bd e<|Yd.mk rfl
  ·exact absurd (Rg.1 hc) h1
 have MH:z.natAbs≠0:=by
  rcases h with⟨h1,_⟩|⟨h0,h1,h2,h3,h4,h5⟩
  ·rw[h1] at hc;simp at hc
  ·rcases h1 with e|e<;>rw[h4,e]<;>omega
 have WY:Nat.log2 z.natAbs<1099511627776:=EP hz;refine Yd.Ak (Pq h) ?_;rintro⟨neg,w0⟩ ⟨p1,p2,p3,p4⟩;dsimp only at p1 p2 p3 p4⊢;refine Yd.lp (λt:A3 Int×A3 A9=>Norm t.1/\(∀x∈t.2,x.length<=18)/\∃v:Nat,AH t.1=(v:Int)/\v<=z.natAbs/\t.2.length+(if v=0 then 0 else Nat.log2 v+1)<=Nat.log2 z.natAbs+1/\B5 z.natAbs=(if v=0 then [] else B5 v)++t.2.reverse.flatten)
  (λt:A3 Int×A3 A9=>if AH t.1=0 then 0 else Nat.log2 (AH t.1).toNat+1) ?_ _ _ ⟨p2,by simp,z.natAbs,p3,Az _,by dsimp only;rw[if_neg MH];simp,by dsimp only;rw[if_neg MH];simp⟩ (by
   dsimp only;rw[p3,CA];split<;>omega)
 rintro next ⟨w,l⟩ ⟨h1,h2,v,h3,h4,h5,h6⟩ hn
 dsimp only at h1 h2 h3 h4 h5 h6 hn⊢;refine Yd.cond (λhd=>?_)<|λhd=>?_
 ·have hd:=AZ hd;have hw0:w≠[]:=by intro e;rw[e] at hd;simp at hd
  have HL:v≠0:=by have:=h1.pos hw0;omega
  rw[if_neg HL] at h5 h6;have hwl:w.length<=w0.length:=h1.len (by have:=(G0 p2.1).2;omega);have pZ:Norm ([1000000000000000000]:A3 Int):=⟨by rw[Ou];exact⟨⟨by omega,by unfold BB;omega⟩,YN⟩,by simp⟩;refine Yd.Ak (uX h1 pZ (by simp) (by omega) (by simp)) ?_;rintro⟨q,m⟩ ⟨⟨d1,d2⟩,d3,d4⟩;dsimp only at d1 d2 d3 d4⊢;have evb:AH ([1000000000000000000]:A3 Int)=1000000000000000000:=by simp[AH]
  rw[evb,h3] at d2 d4;have d2:AH q=((v/1000000000000000000:Nat):Int):=by rw[d2];rfl
  have d4:AH m=((v%1000000000000000000:Nat):Int):=by rw[d4];rfl
  have hml:v%1000000000000000000<1000000000000000000:=N8 _ (by omega)
  generalize hR:v%1000000000000000000=R at*
  refine Yd.jn (λs=>s=B5 R) ?_ ?_
  rotate_left
  ·intro k hk;refine Yd.cond (λhe=>?_)<|λhe=>?_
   ·have he:=AZ he;have hm1:m.length<=1:=d3.len (n:=1) (by rw[d4];unfold Am;unfold BB;omega);obtain⟨x,rfl⟩:∃x,m=[x]:=by
     cases m with
     |nil=>simp at he
     |cons x t=>cases t with
      |nil=>exact⟨x,rfl⟩
      |cons _ _=>simp at hm1
    have ex:x=(R:Int):=by rw[<-d4];simp[AH]
    subst ex;have ef:gZ (R:Int) 10=some (B5 R):=by
     unfold gZ GY;rw[Ab (show(0:Int)<=(R:Int) by omega),Ab (show((R:Nat):Int)<18446744073709551616 by omega)]
     rfl
    exact Yd.bd (show A8 [(R:Int)] 0=some (R:Int) from rfl)<|Yd.bd ef<|hk _ rfl
   ·have he:=Ay he;have hm0:m=[]:=JS (by omega);subst hm0;have:R=0:=by
     have:(0:Int)=(R:Int):=d4;omega
    subst this;exact hk _ rfl
  rintro s rfl;have hsl:=afv hml;refine Yd.jn (λs=>s.length<=18/\B5 v=(if v/1000000000000000000=0 then [] else B5 (v/1000000000000000000))++s) ?_ ?_
  rotate_left
  ·intro k hk;refine Yd.cond (λhe=>?_)<|λhe=>?_
   ·have he:=AZ he;have hq0:v/1000000000000000000≠0:=by
     intro e;have:=d1.pos (by intro e';rw[e'] at he;simp at he);rw[d2,e] at this;simp at this
    have er:gY [48] ((18:Int)-((B5 R).length:Int))=some (List.replicate (18-(B5 R).length) 48):=by
     unfold gY;rw[Ab (show(0:Int)<=(18:Int)-((B5 R).length:Int) by omega),Ab (show(18:Int)-((B5 R).length:Int)<=64 by omega)];show some (ij [48] ((18:Int)-((B5 R).length:Int)).toNat)=_;rw[xo]
     congr 2
     omega
    have es:Hl (List.replicate (18-(B5 R).length) 48) (B5 R)=some (HE 18 R):=by
     unfold Hl;rw[Ab (by rw[NJ];omega)];rfl
    refine Yd.bd (Ad ⟨by omega,by omega⟩)<|Yd.bd er<|Yd.bd es<|hk _ ⟨?_,?_⟩
    ·unfold HE;rw[ES,NJ];omega
    ·rw[if_neg hq0];have:=lS 18 (v/1000000000000000000) R (by omega) (by omega) (by simpa using hml);rw[show(10:Nat)^18=1000000000000000000 from rfl] at this;rw[<-this]
     congr 1
     omega
   ·have he:=Ay he;have hq:q=[]:=JS (by omega);subst hq;have hq0:v/1000000000000000000=0:=by
     have:(0:Int)=((v/1000000000000000000:Nat):Int):=d2;omega
    refine hk _ ⟨hsl,?_⟩;rw[if_pos hq0,I4]
    congr 1
    omega
  rintro s ⟨s1,s2⟩;have ea:BC 16 l [s]=some (l++[s]):=by
   unfold BC;simp only[LN];rw[Ab (by omega),Ab (by omega)];rfl
  have j5:v/1000000000000000000≠0->Nat.log2 (v/1000000000000000000)+1<=Nat.log2 v:=by
   intro hne;have:=(Xr hne).1;have h2:2^(Nat.log2 (v/1000000000000000000)+1)<=v:=by rw[RZ];omega
   exact oH h2
  refine Yd.bd ea (hn _ ⟨d1,?_,v/1000000000000000000,d2,by omega,?_,?_⟩ ?_)
  ·intro x hx;rcases BR.1 hx with hx|hx
   ·exact h2 x hx
   ·rw[Be] at hx;rw[hx];exact s1
  ·dsimp only;rw[ES,LN];split
   ·omega
   ·have:=j5 (by assumption);omega
  ·dsimp only;rw[h6,s2,List.reverse_append];simp
  ·dsimp only;rw[d2,h3,if_neg (show¬((v:Nat):Int)=0 by omega),CA,CA];split
   ·omega
   ·have:=j5 (by omega);omega
 ·have hd:=Ay hd;have hw0:w=[]:=JS (by omega);subst hw0;have HL:v=0:=by
   have:(0:Int)=(v:Int):=h3;omega
  subst HL;rw[if_pos rfl] at h5 h6;rw[I4] at h6;have hfl:=xH (l:=l.reverse)<|λx hx=>h2 x<|List.mem_reverse.1 hx
  rw[List.length_reverse] at hfl;have bw:∀a b:A9,a.length+b.length<=140737488355328->V9 a b=some (a++b,(b.length:Int),()):=by
   intro a b HM;unfold V9;rw[show Nat.ble (a.length+b.length) 140737488355328=true from Gx HM];rfl
  refine Yd.jn (λs=>s.length<=1/\s++B5 z.natAbs=CU z) ?_ ?_
  rotate_left
  ·intro k hk;cases HF:decide (z<0) with
   |true=>
    rw[HF] at p1;subst p1;have et:CU z=45::B5 z.natAbs:=by unfold CU;rw[HF];rfl
    refine Yd.cond (λ_=>Yd.bd (bw [] [45] (by simp)) (hk ([]++[45]) ⟨by simp,by rw[et];rfl⟩)) (λh=>by cases h)
   |false=>
    rw[HF] at p1;subst p1;have et:CU z=B5 z.natAbs:=by unfold CU;rw[HF];rfl
    exact Yd.cond (λh=>by cases h) (λ_=>hk [] ⟨by simp,by rw[et];rfl⟩)
  rintro pre ⟨e1,e2⟩;refine Yd.bd (Ad ⟨by omega,by omega⟩) ?_;refine Yd.lp (λt:A9×Int=> -1<=t.2/\t.2<l.length/\t.1=pre++(l.drop (t.2+1).toNat).reverse.flatten) (λt:A9×Int=>(t.2+1).toNat) ?_ _ _ ⟨by dsimp only;omega,by dsimp only;omega,?_⟩ (by dsimp only;omega)
  rotate_left
  ·dsimp only;rw[show((l.length:Int)-1+1).toNat=l.length from by omega,Ri];simp
  rintro FN ⟨b,i⟩ ⟨g1,g2,g3⟩ Io;dsimp only at g1 g2 g3 Io⊢;refine Yd.cond (λhp=>?_)<|λhp=>?_
  ·have hp:=AZ hp;obtain⟨n,rfl⟩:=ER hp;have Gc:n<l.length:=by omega
   have ex:A8 l (n:Int)=some l[n]:=by
    show l[n]? =_;exact Fe Gc
   have atZ:l[n].length<=18:=h2 _<|Kg Gc
   have ary:=xH (l:=(l.drop (((n:Nat):Int)+1).toNat).reverse)<|λx hx=>h2 x<|QC<|List.mem_reverse.1 hx
   rw[List.length_reverse,H9] at ary;refine Yd.bd ex (Yd.bd ex (Yd.bd (bw b l[n] (by rw[g3,ES];omega)) (Yd.bd (Ad ⟨by omega,by omega⟩) (Io _ ⟨by dsimp only;omega,by dsimp only;omega,?_⟩ (by dsimp only;omega)))));dsimp only;rw[show(((n:Nat):Int)-1+1).toNat=n from by omega,g3,show(((n:Nat):Int)+1).toNat=n+1 from by omega,ajN (x:=l[n])<|Fe Gc,Gw]
  ·have hp:=Ay hp;have hi:i= -1:=by omega
   subst hi;have g3:b=pre++l.reverse.flatten:=g3;have eb:b=CU z:=by rw[g3,<-h6,e2]
   have hne:(!b.isEmpty)=true:=by
    rw[eb];have hd:B5 z.natAbs≠[]:=λe=>by
     by_cases h:z.natAbs<10
     ·rw[Nq h] at e;cases e
     ·rw[RA h] at e;simp at e
    unfold CU;cases decide (z<0) with
    |true=>rfl
    |false=>
     show(!(B5 z.natAbs).isEmpty)=true;cases h:B5 z.natAbs with
     |nil=>exact absurd h hd
     |cons _ _=>rfl
   refine Yd.bd (show Xq b=some b by unfold Xq;rw[hne];rfl)<|Yd.mk ?_
   exact eb
def Fu(n:Nat)(k:Nat):Prop:=Nat.log2 n<k
def ajw(ha:Fu a j)(hb:Fu b k):Fu (a*b) (j+k+1):=by
 unfold Fu at*;by_cases h0:a=0
 ·subst h0;simp
 by_cases h1:b=0
 ·subst h1;simp
 have h2:=(Xr h0).2;have h3:=(Xr h1).2;have h4:a*b<2^(Nat.log2 a+1)*2^(Nat.log2 b+1):=Nat.mul_lt_mul'' h2 h3;rw[<-Lx] at h4;have:=(Q6<|Nat.mul_ne_zero h0 h1).2 h4;omega
def ajx(ha:Fu a k)(hb:Fu b k):Fu (a+b) (k+1):=by
 unfold Fu at*;by_cases h0:a+b=0
 ·rw[h0];simp
 have h2:a<2^k:=by
  by_cases h:a=0
  ·subst h;exact VR _
  ·exact(Q6 h).1 ha
 have h3:b<2^k:=by
  by_cases h:b=0
  ·subst h;exact VR _
  ·exact(Q6 h).1 hb
 exact(Q6 h0).2 (by rw[RZ];omega)
def mR(h:a<=b)(hb:Fu b k):Fu a k:=oJ (yF h) hb
def S3(h:Fu z.natAbs k)(hk:k<=1099511627776):Cl z=true:=by
 unfold Cl;exact Gx<|CX h hk
def RE{q:Rat}(h:Ej q=true):Fu q.num.natAbs 68719476736/\Fu q.den 68719476736:=by
 unfold Ej at h;obtain⟨h1,h2⟩:=DQ h;exact⟨EP h1,EP h2⟩
def J2{q:Rat}(h:Fu q.den k):Fu ((q.den:Int)).natAbs k:=by rw[Fc];exact h
def QG{a b:Int}(ha:Fu a.natAbs 68719476736)(hb:Fu b.natAbs 68719476736):Fu (a*b).natAbs 137438953473:=by
 rw[Kc];exact ajw ha hb
def alx{a b:Int}(ha:Fu a.natAbs 137438953473)(hb:Fu b.natAbs 137438953473):Fu (a+b).natAbs 137438953474:=
 mR (Int.natAbs_add_le a b) (ajx ha hb)
def yq{x y:Int}(hx:Fu x.natAbs j)(hy:Fu y.natAbs k)(hj:j<=1099511627776)(hk:k<=1099511627776):SY x y=some (x+y):=by
 unfold SY;rw[S3 hx hj,S3 hy hk];rfl
def Tf{x y:Int}(hx:Fu x.natAbs j)(hy:Fu y.natAbs k)(hj:j<=1099511627776)(hk:k<=1099511627776):JY x y=some (x*y):=by
 unfold JY;rw[S3 hx hj,S3 hy hk];rfl
def alm{x y:Int}(hx:Fu x.natAbs j)(hy:Fu y.natAbs k)(hj:j<=1099511627776)(hk:k<=1099511627776):Zr x y=some (SV x y):=by
 unfold Zr;rw[S3 hx hj,S3 hy hk];rfl
def nJ{x y:Int}(hx:Fu x.natAbs j)(hy:Fu y.natAbs k)(hj:j<=1099511627776)(hk:k<=1099511627776)(h0:y≠0):OK x y=some ((x:Rat)/(y:Rat)):=by
 unfold OK;rw[S3 hx hj,S3 hy hk,BH h0];rfl
def wh(q:Rat):mkq q.num q.den=some q:=by
 obtain⟨d,hd⟩:∃d,q.den=d+1:=⟨q.den-1,by have:=q.den_pos;omega⟩;unfold mkq;have hr:=q.reduced;unfold Nat.Coprime at hr;rw[hd] at hr⊢;show Dz (Nat.beq (Nat.gcd q.num.natAbs<|d+1) 1) (mkRat q.num<|d+1)=_;rw[hr,<-hd,VK];rfl
def eM(x y:Rat):(((x.num*y.den+y.num*x.den:Int)):Rat)/(((x.den:Int)*(y.den:Int):Int):Rat)=x+y:=by
 have h:=Rat.mkRat_add_mkRat x.num y.num x.den_nz y.den_nz;rw[VK,VK,Rat.mkRat_eq_div] at h;rw[h,<-M1];rfl
def eK(x y:Rat):(((x.num*y.num:Int)):Rat)/(((x.den:Int)*(y.den:Int):Int):Rat)=x*y:=by
 have h:=Rat.mkRat_mul_mkRat x.num y.num x.den y.den;rw[VK,VK,Rat.mkRat_eq_div] at h;rw[h,<-M1];rfl
def vL(h:x.den=1):x=(x.num:Rat):=by
 have h1:=VK x;rw[h] at h1;rw[<-Rat.mkRat_one,h1]
def NK(x:Rat):(x.den:Int)≠0:=by have:=x.den_pos;omega
def aj2(x:Rat):jy x=some (-x):=by
 unfold jy;show bd (mkq (-x.num) x.den) _=_;have:=wh<| -x
 rw[YU,YT] at this;rw[this];rfl
def afo(z:Int):ko z=some (z:Rat):=by
 unfold ko;show bd (mkq z 1) _=_;have:=wh (z:Rat);rw[VQ,Ye] at this;rw[show((1:Nat):Int)=1 from rfl] at this;rw[this];rfl
def ajA(hx:Ej x=true)(hy:Ej y=true):kE x y=some (x+y):=by
 obtain⟨a1,a2⟩:=RE hx;obtain⟨b1,b2⟩:=RE hy;have yV:(bd (JY x.num (y.den:Int)) λB7=>
  bd (JY y.num (x.den:Int)) λBD=>
  bd (SY B7 BD) λBS=>
  bd (JY (x.den:Int) (y.den:Int)) λBK=>
  bd (OK BS BK) λBo=>
  some Bo)=some (x+y):=by
  rw[Tf a1 (J2 b2) (by omega) (by omega)];show bd (JY y.num (x.den:Int)) _=_;rw[Tf b1 (J2 a2) (by omega) (by omega)];show bd (SY _ _) _=_;rw[yq (QG a1<|J2 b2) (QG b1<|J2 a2) (by omega) (by omega)];show bd (JY (x.den:Int) (y.den:Int)) _=_;rw[Tf (J2 a2) (J2 b2) (by omega) (by omega)];show bd (OK _ _) _=_;rw[nJ (alx (QG a1<|J2 b2)<|QG b1<|J2 a2) (QG (J2 a2)<|J2 b2) (by omega) (by omega)<|VP (NK x)<|NK y,eM];rfl
 unfold kE;by_cases h1:x.den=1
 ·by_cases h2:y.den=1
  ·have e1:Lw x=some true:=by unfold Lw;rw[Ab h1]
   have e2:Lw y=some true:=by unfold Lw;rw[Ab h2]
   rw[e1,e2];show bd (SY x.num y.num) _=_;rw[yq a1 b1 (by omega) (by omega)];show some ((x.num+y.num:Int):Rat)=_;rw[Rat.intCast_add,<-vL h1,<-vL h2]
  ·have e1:Lw x=some true:=by unfold Lw;rw[Ab h1]
   have e2:Lw y=some false:=by unfold Lw;rw[BH h2]
   rw[e1,e2];exact yV
 ·have e1:Lw x=some false:=by unfold Lw;rw[BH h1]
  rw[e1];exact yV
def aj5(hx:Ej x=true)(hy:Ej y=true):kA x y=some (x*y):=by
 obtain⟨a1,a2⟩:=RE hx;obtain⟨b1,b2⟩:=RE hy;unfold kA;rw[Tf a1 b1 (by omega) (by omega)];show bd (JY (x.den:Int) (y.den:Int)) _=_;rw[Tf (J2 a2) (J2 b2) (by omega) (by omega)];show bd (OK _ _) _=_;rw[nJ (QG a1 b1) (QG (J2 a2)<|J2 b2) (by omega) (by omega)<|VP (NK x)<|NK y,eK];rfl
def aju(y:Rat):Ej (-y)=Ej y:=by
 unfold Ej;rw[YU,YT,VM]
def aj1(hx:Ej x=true)(hy:Ej y=true):jx x y=some (x-y):=by
 unfold jx;show bd (LV x<| -y) _=_;unfold LV;rw[hx,aju,hy];show some (x+ -y)=_;rw[oI]
def aj7(hx:Ej x=true)(h0:x≠0):kB x=some x⁻¹ :=by
 obtain⟨a1,a2⟩:=RE hx;unfold kB;rw[nJ (J2 a2) a1 (by omega) (by omega) (by intro e;exact h0<|M0.1 e),Rat.inv_def,Ny];rfl
def ajv(h:Ej y=true)(h0:y≠0):Ej y⁻¹ =true:=by
 obtain⟨a1,a2⟩:=RE h;have hn:y.num≠0:=λe=>h0<|M0.1 e
 have e:=Rat.inv_def y;have hg:Int.gcd y.num (y.den:Int)=1:=by
  have:=y.reduced;unfold Nat.Coprime at this;unfold Int.gcd;rw[Fc];exact this
 have en:(y⁻¹).num.natAbs<=y.den:=by
  rw[e,YZ,hg,show((1:Nat):Int)=1 from rfl,Int.ediv_one,Kc,Fc];have:y.num.sign.natAbs<=1:=by
   rcases Kh y.num 0 with h|h|h
   ·rw[JR h];simp
   ·rw[h];simp
   ·rw[J0 h];simp
  calc y.num.sign.natAbs*y.den<=1*y.den:=Hg _ this
   _=y.den:=Ly _
 have ed:(y⁻¹).den<=y.num.natAbs:=by
  rw[e,YY,if_neg hn,hg];simp
 unfold Ej;rw[show Nat.blt (Nat.log2 (y⁻¹).num.natAbs) 68719476736=true from Gx (mR en a2),show Nat.blt (Nat.log2 (y⁻¹).den) 68719476736=true from Gx (mR ed a1)]
 rfl
def aj8(hx:Ej x=true)(hy:Ej y=true)(h0:y≠0):kC x y=some (x/y):=by
 unfold kC;have e1:Zd y=some y⁻¹ :=by unfold Zd;rw[hy,BH h0];rfl
 have e2:Fs x y⁻¹ =some (x*y⁻¹):=by unfold Fs;rw[hx,ajv hy h0];rfl
 rw[e1];show bd (Fs x y⁻¹) _=_;rw[e2,P0];rfl
def aj9(hx:Ej x=true)(hy:Ej y=true):kD x y=some (bif decide (x<y) then -1 else bif decide (y<x) then 1 else 0):=by
 obtain⟨a1,a2⟩:=RE hx;obtain⟨b1,b2⟩:=RE hy;unfold kD;rw[Tf a1 (J2 b2) (by omega) (by omega)];show bd (JY y.num (x.den:Int)) _=_;rw[Tf b1 (J2 a2) (by omega) (by omega)];show bd (Zr _ _) _=_;rw[alm (QG a1<|J2 b2) (QG b1<|J2 a2) (by omega) (by omega)];show some (SV _ _)=_;unfold SV;have e1:decide (x.num*(y.den:Int)<y.num*(x.den:Int))=decide (x<y):=GW.2 (Rat.lt_iff x y).symm;have e2:decide (y.num*(x.den:Int)<x.num*(y.den:Int))=decide (y<x):=GW.2 (Rat.lt_iff y x).symm;rw[e1,e2]
def ahM(hx:Ej x=true)(hy:Ej y=true):ji x y=some (decide<|x=y):=by
 unfold ji;have e:OP x y=some (bif decide (x<y) then -1 else bif decide (y<x) then 1 else 0):=by unfold OP;rw[hx,hy];rfl
 rw[e];show some (decide<|(bif decide (x<y) then(-1:Int) else bif decide (y<x) then 1 else 0)=0)=_
 congr 1
 by_cases h1:x<y
 ·rw[Ab h1,BH (show¬x=y from λe=>by subst e;exact absurd h1<|Rat.lt_irrefl)];rfl
 ·by_cases h2:y<x
  ·rw[BH h1,Ab h2,BH (show¬x=y from λe=>by subst e;exact absurd h2<|Rat.lt_irrefl)];rfl
  ·rw[BH h1,BH h2,Ab<|show x=y from Rat.le_antisymm (YS.1 h2) (YS.1 h1)];rfl
end
section
open Go.Shelf
variable[D:DR]{P:Program}{ρ:Ren}
def uv(cs:Aw AO)(n:Nat):(Builtin.zeroCells cs n).size=n*cs.size:=by
 simp[Builtin.zeroCells]
def ahL(L:Lays8.n4 P ρ){α:Type}{f:α->Ty}{sz:Nat}{i0:TypeInfo}{z:AO}(Lj:P.info? (ρ.t 25)=some i0)(hz0:i0.zero=some z)(hs:i0.size=sz)(Lg:0<sz)(hz:z.cells.size=sz)(hb:i0.bytes<=1000)
  (hc:GA P (ρ.f 4)=true){x r:A3 α}{n:Int}(hm:pC x n=some r):EE P (ρ.f 4) [TN f x,TI .i64 n] (.fr (ρ.t 25) sz<|lT f r):=by
 obtain⟨hg,rfl⟩:=Gf hm;rw[BU,BU] at hg;obtain⟨⟨h1,h2⟩,h3⟩:=hg;have h2:=AZ h2;have h3:=AZ h3;have hx:=Rg.1 h1;subst hx;refine⟨hc,λw H vs sub gl ha=>?_⟩;obtain⟨v,u,rfl,hv,hu⟩:=TK ha;have hv:v= .slice none 0 0:=hv.2 rfl;have hu:u= .int .i64 n:=hu;subst hv hu;obtain⟨m,rfl⟩:∃m:Nat,n=(m:Int):=⟨n.toNat,by omega⟩;show Calls P (ρ.f 4) #[.slice none 0 0,.int .i64 m] w _;rcases LK m with h0|h0
 ·subst h0;refine(Any8.slices_Grow_room L none 0 0 0 w (Az _) (by omega) (by omega) (by omega)).mono ?_;rintro e w' ⟨rfl,rfl⟩;exact⟨_,rfl,F1.refl _ _,H,λ_ _=>rfl,sub,[],World.ownsRow_nil w' _ _ _,rfl,λb h=>by simp[Value.ownBlock] at h⟩
 ·refine(Any8.slices_Grow_grow L i0 z Lj hz0 (by omega) none 0 0 m [] w (Az _) (by omega) (CX (Gv (show 0+m<=100000000 by omega) hb) (by omega)) (by omega) (by simp) (λ_=>rfl) (λa h=>by cases h)).mono ?_;rintro e w' ⟨rfl,rfl⟩;have hG:=grownCap_ge w (0+m) 0<|ρ.t 25
  have hM:=grownCap_le_maxLen w (0+m) 0 (ρ.t 25) (by unfold maxLen;omega)
  generalize grownCap w (0+m) 0 (ρ.t 25)=G at*
  generalize ho:Obj.cells (([]:A3 AO).toArray++Builtin.zeroCells z.cells (0+m-0)++Builtin.zeroCells z.cells (G-(0+m))) (ρ.t 25)=o
  have aaH:∀k,k<w.heap.size->(w.drew.alloc o).heap[k]? =w.heap[k]? :=λk hk=>Below.heap_alloc w.drew o k hk
  refine⟨_,rfl,⟨⟨rfl,rfl,rfl,(F1.alloc (w:=w.drew) o).size,aaH⟩,?_⟩,H,λ_ _=>rfl,λr o hr=>?_,[],⟨by simp,.inr ⟨w.heap.size,G,_,rfl,F2 _,(LF w.drew o).trans<|congrArg some ho.symm,F2 _,hM,?_,by simp[lT]⟩⟩,rfl,λb hb=>?_⟩
  ·exact GQ.of<|P1 _
  ·have:=sub r o hr;rw[aaH r (by
    rcases Gh r w.heap.size with h|h
    ·exact h
    ·rw[Yp h] at this;cases this)]
   exact this
  ·rw[Array.size_append,Array.size_append,uv,uv,hz];simp only[VX,TU,Nt,Nat.sub_zero];rw[<-Iv]
   congr 1;omega
  ·have e:b=w.heap.size:=by
    simp[Value.ownBlock] at hb;exact hb.symm
   subst e;refine⟨Az _,?_⟩;cases hH:H w.heap.size with
   |none=>rfl
   |some o=>
    have:=sub _ o hH;rw[Yp<|Az _] at this;cases this
end
end Trn
namespace OU
section
open Go.Shelf Go.Sort Go.Lib
def aez(w:World)(T:TypeId)(nd:Nat)(hs:nd<=24):Holds (λ(b:UInt8)=>Value.int .u8 (b.toNat:Int)) (w.alloc<| .cells zeros24 T) w.heap.size 0 (Array.replicate nd (0:UInt8)):=λj hj=>by
 have hj':j<nd:=by simpa using hj
 refine⟨?_,World.frozen?_alloc_new _ _ _ _⟩;rw[World.cell?_alloc_new,Nat.zero_add,zeros24_at _ (by omega),getElem!_pos _ j hj];simp
def ajG(w:World)(o:Obj)(dk:Array UInt8)(k:Nat):∃os,(putRow (λ(b:UInt8)=>Value.int .u8 (b.toNat:Int)) (w.alloc o) w.heap.size 0 dk).drewN k=Go.Sort.grow (w.drewN k) os:=by
 rw[alloc_eq_grow];obtain⟨os',_,e⟩:=putRow_grow_new (λ(b:UInt8)=>Value.int .u8 (b.toNat:Int)) w #[o] w.heap.size 0 dk (Nat.le_refl _);exact⟨os',by rw[e];rfl⟩
set_option maxHeartbeats 6400000 in
set_option maxRecDepth 100000 in
def afq(u:Nat)(hu64:u<18446744073709551616)(w:World)
  (htab:Lib.TabIs prog w "internal/strconv.uint64pow10" .u64 Lib.pow10Tab):
  Calls prog 286 #[.int .u64 u,.int .i64 10] w λe w'=>e= .returned (.string ⟨(Lib.decDigits u).toArray⟩)/\∃k os,w'=Go.Sort.grow (w.drewN k) os:=by
 have L:=wx;have mixed:=L.mixed;have t2:prog.underlying 3=some (.int .i64):=L.t3;have t446:prog.underlying 352=some (.array 24 5):=L.t171;have a446:∀w:World,(isAgg 352).run prog w= .ok true w:=L.a171;have z446:∀w:World,(Go.sizeOf 352).run prog w= .ok 24 w:=L.z171;have v446:=L.v171;have v446:∀w:World,(zeroValue 352).run prog w= .ok (.agg #[.int .u8 0,.int .u8 0,.int .u8 0,.int .u8 0,.int .u8 0,.int .u8 0,.int .u8 0,.int .u8 0,.int .u8 0,.int .u8 0,.int .u8 0,.int .u8 0,.int .u8 0,.int .u8 0,.int .u8 0,.int .u8 0,.int .u8 0,.int .u8 0,.int .u8 0,.int .u8 0,.int .u8 0,.int .u8 0,.int .u8 0,.int .u8 0]) w:=v446;have t9:=L.t9;have t154:prog.underlying 299=some (.slice 5):=L.t37;have e283:∀args w,(callFunc 315 args).run prog w= .ok (.enter 315 args) w:=enters_of L.f283 Trn.A4 rfl;have e284:∀args w,(callFunc 316 args).run prog w= .ok (.enter 316 args) w:=enters_of L.f284 Trn.A4 rfl;have e285:∀args w,(callFunc 317 args).run prog w= .ok (.enter 317 args) w:=enters_of L.f285 Trn.A4 rfl;by_cases hs:u<100
 ·go_enter func286,ntmps286
  go_wp2_with (go_at_fn (315);refine(internal_strconv_small u hs _).mono ?_;rintro e w' ⟨rfl,rfl⟩)
  go_ret
  exact⟨rfl,0,#[],by simp[World.drewN_zero]⟩
 ·have hu1:1<=u:=by omega
  have hnd20:Lib.nDigits u<=20:=by have:=Lib.numDigits_eq u hu1 hu64;split at this<;>omega
  have hb3:Lib.nDigits u<=23:=by omega
  have hal:prog.arrayLen 352=24:=by simp[Program.arrayLen,t446]
  have hsl:∀W,(Instr.sliceAt 352 (.pointer<|some ⟨w.heap.size,0,none⟩) none (some<| .int .i64 (Lib.nDigits u:Int)) none).run prog W= .ok (.slice (some ⟨w.heap.size,0,none⟩) (Lib.nDigits u) 24) W:=λW=>by
   rw[run_sliceAt_array_h W 352 ⟨w.heap.size,0,none⟩ (by simp[Program.arrayLen,Program.elem,t446]) .i64 (Lib.nDigits u:Int) (by omega) (by rw[hal];omega)]
   go_simp
  have hH0:=aez w 352 (Lib.nDigits u) (by omega);have hfmt:=internal_strconv_formatBase10 w.heap.size 0 24 u (Array.replicate (Lib.nDigits u) 0) (w.alloc<| .cells Lib.zeros24 352) hH0 (by rw[Array.size_replicate];exact Lib.lt_pow_nDigits u) hu64 (by rw[Array.size_replicate];omega);rw[Array.size_replicate] at hfmt;have HH0:=Lib.hid hH0;clear hH0 hal
  go_enter func286,ntmps286
  go_wp2_with (first
   |(go_at_fn (316);refine(Any.internal_strconv_numDigits {L with} u hu1 hu64 _<|Lib.tabIs_alloc htab _).mono ?_;rintro e w' ⟨rfl,rfl⟩))
  go_at_fn (317)
  refine hfmt.mono ?_;rintro e w' ⟨rfl,k,v',dk,rfl,hF⟩;have hcv:(convert 299 9<| .slice (some ⟨w.heap.size,0,none⟩) (Lib.nDigits u) 24).run prog ((putRow (λ(b:UInt8)=>Value.int .u8 (b.toNat:Int)) (w.alloc<| .cells Lib.zeros24 352) w.heap.size 0 dk).drewN k)= .ok (.string ⟨(Lib.decDigits u).toArray⟩) ((putRow (λ(b:UInt8)=>Value.int .u8 (b.toNat:Int)) (w.alloc<| .cells Lib.zeros24 352) w.heap.size 0 dk).drewN k):=by
   have h:=run_convert_bytes_back (P:=prog) ((putRow (λ(b:UInt8)=>Value.int .u8 (b.toNat:Int)) (w.alloc<| .cells Lib.zeros24 352) w.heap.size 0 dk).drewN k) 299 9 5 ⟨w.heap.size,0,none⟩ 24 (Lib.decDigits u) L.t37 L.t5 L.t9 (λj hj=>by
    rw[Lib.row_is_numeral hF j hj,Lib.add_plain,World.cell?_drewN];exact cell?_putRow (λ(b:UInt8)=>Value.int .u8 (b.toNat:Int)) _ w.heap.size 0 _ dk HH0.out (by rw[hF.size,Array.size_replicate]) j (by rw[hF.size];rw[Lib.decDigits_length] at hj;exact hj))
   rw[Lib.decDigits_length] at h;exact h
  go_wp2
  go_ret
  obtain⟨os,eo⟩:=ajG w (.cells Lib.zeros24 352) dk k;exact⟨rfl,k,os,eo⟩
set_option maxHeartbeats 6400000 in
set_option maxRecDepth 100000 in
def aeE(u:Nat)(hu64:u<18446744073709551616)(w:World)
  (htab:Lib.TabIs prog w "internal/strconv.uint64pow10" .u64 Lib.pow10Tab):
  Calls prog 241 #[.int .u64 u,.int .i64 10] w λe w'=>e= .returned (.string ⟨(Lib.decDigits u).toArray⟩)/\∃k os,w'=Go.Sort.grow (w.drewN k) os:=by
 have L:=wx;have mixed:=L.mixed;have e316:∀args w,(callFunc 286 args).run prog w= .ok (.enter 286 args) w:=enters_of func286 Trn.A4 rfl;have h:=afq u hu64 w htab
 go_enter func241,ntmps241
 go_wp2_with (go_at_fn (286);refine h.mono ?_;rintro e w' ⟨rfl,k,os,rfl⟩)
 go_ret
 exact⟨rfl,k,os,rfl⟩
def ui(w:World):∀k,(w.drewN k).os=w.os/\(w.drewN k).tape=w.tape/\(w.drewN k).output=w.output/\(w.drewN k).heap=w.heap
 |0=>⟨rfl,rfl,rfl,rfl⟩
 |k+1=>ui w.drew k
def uu{w:World}{k:Nat}{os:Array Obj}:Below w.heap.size w (Go.Sort.grow (w.drewN k) os):=by
 obtain⟨h1,h2,h3,h4⟩:=ui w k;refine⟨h1,h2,h3,?_,λi hi=>?_⟩
 ·show w.heap.size<=((w.drewN k).heap++os).size;rw[h4,Array.size_append];omega
 ·show((w.drewN k).heap++os)[i]? =_;rw[h4,Array.getElem?_append_left hi]
end
end OU
namespace Trn
section
variable{α ρ σ:Type}{r:ρ}
def Ts(x:α)(K:α->A6 ρ):bd (some x) K=K x:=rfl
def ab1{n:Nat}(h:n<=9223372036854775807):AE (n:Int)=some (n:Int):=by
 unfold AE Hm;rw[Ab (show(-9223372036854775808:Int)<=(n:Int) by omega),Ab (show(n:Int)<=9223372036854775807 by omega)];rfl
def zO{σ ρ α:Type}(L:A3 α)(Bd:(σ->A6 ρ)->α->σ->A6 ρ)(K:σ->A6 ρ)(B:((σ×Int)->A6 ρ)->σ×Int->A6 ρ)(o:Nat)
  (iE:∀k u (i:Nat) x,L[i]? =some x->B k (u,((i+o:Nat):Int))=Bd (λu'=>k (u',((i+1+o:Nat):Int))) x u)
  (hend:∀k u,B k (u,((L.length+o:Nat):Int))=K u):
  ∀(F i:Nat) (u:σ),i<=L.length->L.length-i<F->lp F B (u,((i+o:Nat):Int))=Il (L.drop i) Bd u K
 |0,i,u,_,h=>by omega
 |F+1,i,u,hi,hF=>by
  show B (lp F B) (u,_)=_;rcases Gh i L.length with h|h
  ·rw[Rq h];show _=Bd (λs=>Il (L.drop<|i+1) Bd s K) L[i] u;rw[iE _ _ i L[i]<|Fe h]
   congr 1
   funext u'
   exact zO L Bd K B o iE hend F (i+1) u' (by omega) (by omega)
  ·have:i=L.length:=by omega
   subst this;rw[hend,Ri];rfl
def yE(L:A3 α)(Bd:(σ->A6 ρ)->α->σ->A6 ρ)(K:σ->A6 ρ)(o:Nat){B:((σ×Int)->A6 ρ)->σ×Int->A6 ρ}{z:Int}{F:Nat}{u:σ}(hz:z=(o:Int))(hF:L.length<F)(hm:Il L Bd u K=some r)
 (iE:∀k u (i:Nat) x,L[i]? =some x->B k (u,((i+o:Nat):Int))=Bd (λu'=>k (u',((i+1+o:Nat):Int))) x u)
 (hend:∀k u,B k (u,((L.length+o:Nat):Int))=K u):lp F B (u,z)=some r:=by
 have h:=zO L Bd K B o iE hend F 0 u (F2 _) hF;rw[Nt] at h;rw[hz,h];exact hm
def xC{b:Bool}{x r:α}(h:Dz b x=some r):b=true/\x=r:=by
 unfold Dz at h;cases b
 ·cases h
 ·exact⟨rfl,Dg h⟩
def K9(l:A3 α)(i:Nat):A8 l (i:Int)=l[i]? :=rfl
def acs{c0:A3 V3}{L:A3 (V3)}(ho:Uu c0=some L)(Bd:(σ->A6 ρ)->V3->σ->A6 ρ)(K:σ->A6 ρ)(u:σ)(hm:Il L Bd u K=some r):jD c0 Bd K u=some r:=by
 obtain⟨hb,rfl⟩:=xC ho;have hb:c0.length<4000000000:=EP hb;unfold jD;refine yE c0 Bd K 0 rfl (by omega) hm ?_ ?_
 ·intro k u i x hx;have hi:i<c0.length:=(EC.1 hx).1;dsimp only;rw[Ab (show((i+0:Nat):Int)<(c0.length:Int) by omega)];rw[BM,K9,Re,hx,Ts];refine congrArg (λf=>Bd f x u)<|funext λu'=>?_
  rw[show(((i:Nat):Int)+1)=((i+1+0:Nat):Int) from by omega,ab1 (by omega),Ts]
 ·intro k u;dsimp only;rw[BH (by omega)];rfl
def wN{l:A3 α}{i:Nat}{x:α×α}(h:(RP l)[i]? =some x):l[i]? =some x.1/\l[(i+1)%l.length]? =some x.2/\i<l.length:=by
 cases l with
 |nil=>simp[RP] at h
 |cons a l=>
  unfold RP at h;rw[oN] at h;obtain⟨h1,h2⟩:=h;have hi:i<(a::l).length:=(EC.1 h1).1;refine⟨h1,?_,hi⟩;simp only[DF] at hi⊢;rcases Gh i l.length with h3|h3
  ·rw[Rj (by omega),List.getElem?_cons_succ];rw[IQ h3] at h2;exact h2
  ·have:i=l.length:=by omega
   subst this;rw[Nat.mod_self];rw[LM<|Az _,Nat.sub_self] at h2;exact h2
def dD(l:A3 α):(RP l).length=l.length:=by
 cases l with
 |nil=>rfl
 |cons a l=>simp[RP]
def adg{c0:A3 V3}{L:A3 ((V3×V3))}(ho:Uz c0=some L)(Bd:(σ->A6 ρ)->(V3×V3)->σ->A6 ρ)(K:σ->A6 ρ)(u:σ)(hm:Il L Bd u K=some r):jg c0 Bd K u=some r:=by
 obtain⟨hb,rfl⟩:=xC ho;have hb:c0.length<1000000000:=EP hb;unfold jg;refine yE (RP c0) Bd K 0 rfl (by rw[dD];omega) hm ?_ ?_
 ·intro k u i x hx;obtain⟨h1,h2,hi⟩:=wN hx;dsimp only;rw[Ab (show((i+0:Nat):Int)<(c0.length:Int) by omega)];have ef:AE (((i:Nat):Int)+1)=some ((i+1+0:Nat):Int):=by
   rw[show(((i:Nat):Int)+1)=((i+1+0:Nat):Int) from by omega,ab1 (by omega)]
  have er:FP ((i+1+0:Nat):Int) (c0.length:Int)=some (((i+1)%c0.length:Nat):Int):=by
   unfold FP;rw[BH (by omega),B8,Int.tmod_eq_emod_of_nonneg (by omega)];rfl
  rw[BM,K9,Re,h1,Ts,ef,Ts,er,Ts,K9,h2,Ts];refine congrArg (λf=>Bd f (x.1,x.2) u)<|funext λu'=>?_
  rw[Ts]
 ·intro k u;dsimp only;rw[BH (by rw[dD];omega)];rfl
end
section
variable{P:Program}
variable{α:Type}{dep:Nat}{T:Af}{n:Nat}{fs:A3 (Af×Nat)}{Ho:α->A3 Ty}{eb:α->α->Bool}{f:α->Ty}{off:Nat}
structure Ic(P:Bs)(T:Af){α:Type}[DecidableEq α](f:α->Ty)(n:Nat)(agg:Bool)(dep:Nat):Prop where
 lay:BX P T n agg=true
 sz:∀x,(f x).n=n
 ag:∀x,(f x).agg=agg
 eq:∀(d:Nat) (H:HV) (u v:AO) (x y:α),(f x).ok H u->(f y).ok H v->∀w:AK,(Op.equalIn (d+dep) T u v).run P w= .ok (decide<|x=y) w
 chk:∀(d:Nat) (e:Bool) (H:HV) (u:AO) (x:α),(f x).ok H u->∀w:AK,(Instr.checkKey e (d+dep) T u).run P w= .ok () w
 uniq:∀(H:HV) (u v:AO) (x:α),(f x).ok H u->(f x).ok H v->u=v
 leaf:∀(H:HV) (u:AO) (x:α),(f x).ok H u->∀c∈u.cells.toList,∀m,Instr.sameBits m c c=true
def toList_inj{a b:A9}:((⟨a.toArray⟩:ByteArray).toList==(⟨b.toArray⟩:ByteArray).toList)=decide (a=b):=by
 rw[ByteArray.toList_eq,ByteArray.toList_eq];show(a.toArray.toList==b.toArray.toList)=_;simp only[List.toList_toArray];by_cases h:a=b
 ·subst h;simp
 ·rw[BH h];simpa using h
def ahC(hl:BX P T 1 false=true)(hu:P.underlying T=some .string):Ic P T TS 1 false 1 where
 lay:=hl
 sz _:=rfl
 ag _:=rfl
 eq d H u v x y JC Im w:=by
  have JC:u= .string ⟨x.toArray⟩:=JC;have Im:v= .string ⟨y.toArray⟩:=Im;subst JC;subst Im;rw[run_equalIn_string w d T _ _ hu,toList_inj]
 chk d e H u x JC w:=by
  have JC:u= .string ⟨x.toArray⟩:=JC;subst JC;simp[Instr.checkKey,EY hu]
 uniq H u v x h1 h2:=Eq.trans h1<|Eq.symm h2
 leaf H u x h c hc m:=by
  have h:u= .string ⟨x.toArray⟩:=h;subst h;have hc:c= .string ⟨x.toArray⟩:=by simpa[Value.cells] using hc
  subst hc;simp only[Instr.sameBits];rw[beq_toListBytes];simp
def ame{k:IntKind}(hl:BX P T 1 false=true)(hu:P.underlying T=some (.int k)):Ic P T (TI k) 1 false 1 where
 lay:=hl
 sz _:=rfl
 ag _:=rfl
 eq d H u v x y JC Im w:=by
  have JC:u= .int k x:=JC;have Im:v= .int k y:=Im;subst JC;subst Im;rw[run_equalIn_int w d T k k _ _ hu]
  rfl
 chk d e H u x JC w:=by
  have JC:u= .int k x:=JC;subst JC;simp[Instr.checkKey,EY hu]
 uniq H u v x h1 h2:=Eq.trans h1<|Eq.symm h2
 leaf H u x h c hc m:=by
  have h:u= .int k x:=h;subst h;have hc:c= .int k x:=by simpa[Value.cells] using hc
  subst hc;simp[Instr.sameBits]
def Ic.pK[DecidableEq α]{agg:Bool}{WZ:Nat}(h:Ic P T f n agg dep)(hd:dep<=WZ):Ic P T f n agg WZ where
 lay:=h.lay
 sz:=h.sz
 ag:=h.ag
 eq d H u v x y h1 h2 w:=by rw[show d+WZ=(d+(WZ-dep))+dep from by omega];exact h.eq _ H u v x y h1 h2 w
 chk d e H u x h1 w:=by rw[show d+WZ=(d+(WZ-dep))+dep from by omega];exact h.chk _ e H u x h1 w
 uniq:=h.uniq
 leaf:=h.leaf
inductive Rows(P:Bs){α:Type}(dep:Nat):A3 (Af×Nat)->Nat->(α->A3 Ty)->(α->α->Bool)->Prop where
 |nil {off:Nat}:Rows P dep [] off (λ_=>[]) (λ_ _=>true)
 |cons {T:Af} {off n:Nat} {agg:Bool} {β:Type} [DecidableEq β] {g:β->Ty} {acc:α->β} {fs:A3 (Af×Nat)} {Ho:α->A3 Ty} {eb:α->α->Bool}:
   Ic P T g n agg dep->Rows P dep fs (off+n) Ho eb->Rows P dep ((T,off)::fs) off (λx=>g (acc x)::Ho x) (λx y=>decide (acc x=acc y)&&eb x y)
def eqL(d:Nat)(xs ys:Aw AO):A3 (Af×Nat)->Sem Bool
 |[]=>pure true
 |(T,o)::fs=>do
  let a<-part T xs o
  let b<-part T ys o
  let r<-Op.equalIn d T a b
  if(!r)=true then pure false else eqL d xs ys fs
def PV(e:Bool)(d:Nat)(xs:Aw AO):A3 (Af×Nat)->Sem Unit
 |[]=>pure ()
 |(T,o)::fs=>do
  let a<-part T xs o
  Instr.checkKey e d T a
  PV e d xs fs
def lr{agg:Bool}{τ:Ty}{l:A3 Ty}{H:HV}{cs:Aw AO}(hl:BX P T n agg=true)(hn:τ.n=n)(ha:τ.agg=agg)(h:D4 H (τ::l) (cs.toList.drop off))(ho:off<=cs.size):
  ∃v,(∀w,(part T cs off).run P w= .ok v w)/\τ.ok H v/\D4 H l (cs.toList.drop<|off+n)/\off+n<=cs.size:=by
 have hlen:=MT h;rw[H9,EB] at hlen;have hc:Bx (τ::l)=τ.n+Bx l:=rfl;rw[hc,hn] at hlen;have hle:off+n<=cs.size:=by omega
 obtain⟨v,rest,e,hv,hr⟩:=h;have hs:=τ.shape hv;have e1:(cs.toList.drop off).take n=v.cells.toList:=by
  rw[e,<-hn,<-hs.size,<-EB,fP]
 refine⟨v,λw=>?_,hv,?_,hle⟩
 ·rw[mX hl hle,e1];have:=hs.eq;rw[ha] at this;rw[Array.toArray_toList];exact congrArg (λz=>Result.ok z w) this.symm
 ·rw[<-F4,e,<-hn,<-hs.size,<-EB,VN];exact hr
def ak9(h:Rows P dep fs off Ho eb):∀(d:Nat) (H:HV) (cs ds:Aw AO) (x y:α),D4 H (Ho x) (cs.toList.drop off)->D4 H (Ho y) (ds.toList.drop off)->off<=cs.size->off<=ds.size->
  ∀w:AK,(eqL (d+dep) cs ds fs).run P w= .ok (eb x y) w:=by
 induction h with
 |nil=>intro d H cs ds x y _ _ _ _ w;rfl
 |cons hk hr ih=>
  intro d H cs ds x y h1 h2 o1 o2 w;obtain⟨u,p1,k1,r1,s1⟩:=lr hk.lay (hk.sz _) (hk.ag _) h1 o1;obtain⟨v,p2,k2,r2,s2⟩:=lr hk.lay (hk.sz _) (hk.ag _) h2 o2;unfold eqL;simp only[Df,p1,p2,hk.eq d H u v _ _ k1 k2,DP];split
  ·rename_i hb;rw[F6] at hb;rw[hb];rfl
  ·rename_i hb;rw[F6,Bool.not_eq_false] at hb;rw[hb,JO];exact ih d H cs ds x y r1 r2 s1 s2 w
def aiL(h:Rows P dep fs off Ho eb):∀(d:Nat) (e:Bool) (H:HV) (cs:Aw AO) (x:α),D4 H (Ho x) (cs.toList.drop off)->off<=cs.size->
  ∀w:AK,(PV e (d+dep) cs fs).run P w= .ok () w:=by
 induction h with
 |nil=>intro d e H cs x _ _ w;rfl
 |cons hk hr ih=>
  intro d e H cs x h1 o1 w;obtain⟨u,p1,k1,r1,s1⟩:=lr hk.lay (hk.sz _) (hk.ag _) h1 o1;unfold PV;simp only[Df,p1,hk.chk d e H u _ k1,DP];exact ih d e H cs x r1 s1 w
def agm(h:Rows P dep fs off Ho eb):∀(H:HV) (cs ds:A3 AO) (x:α),D4 H (Ho x) cs->D4 H (Ho x) ds->cs=ds:=by
 induction h with
 |nil=>intro H cs ds x h1 h2;exact Eq.trans h1<|Eq.symm h2
 |cons hk hr ih=>
  rintro H cs ds x ⟨u,r1,e1,k1,o1⟩ ⟨v,r2,e2,k2,o2⟩;rw[e1,e2,hk.uniq H u v _ k1 k2,ih H r1 r2 x o1 o2]
def agn(h:Rows P dep fs off Ho eb):∀(H:HV) (cs:A3 AO) (x:α),D4 H (Ho x) cs->∀c∈cs,∀m,Instr.sameBits m c c=true:=by
 induction h with
 |nil=>intro H cs x h1 c hc;rw[show cs=[] from h1] at hc;cases hc
 |cons hk hr ih=>
  rintro H cs x ⟨u,r1,e1,k1,o1⟩ c hc m;rw[e1] at hc;rcases BR.1 hc with hc|hc
  ·exact hk.leaf H u _ k1 c hc m
  ·exact ih H r1 x o1 c hc m
def vY(d:Nat)(e:Af)(c:Nat)(xs ys:Aw AO):∀is:A3 Nat,Op.eqItems d e c xs ys is=eqL d xs ys (is.map λi=>(e,i*c))
 |[]=>rfl
 |i::is=>by
  unfold Op.eqItems;rw[LD];unfold eqL;simp only[vY d e c xs ys is]
def ZE(fs:A3 Field):Bool:=fs.all λf=>decide<|f.name≠ "_"
def ue(d:Nat)(xs ys:Aw AO):∀fs:A3 Field,ZE fs=true->Op.eqFields d xs ys fs=eqL d xs ys (fs.map λf=>(f.type,f.offset))
 |[],_=>rfl
 |f::fs,h=>by
  unfold ZE at h;rw[N9,BU,Ev] at h;unfold Op.eqFields;rw[if_pos h.1,LD];unfold eqL;simp only[ue d xs ys fs h.2]
def ag5(e:Bool)(d:Nat)(t:Af)(xs:Aw AO){w:AK}(ht:P.underlying t=some (.struct<|P.fieldsOf t))(hn:ZE (P.fieldsOf t).toList=true):
  (Instr.checkKey e (d+1) t<| .agg xs).run P w=(PV e d xs<|(P.fieldsOf t).toList.map λf=>(f.type,f.offset)).run P w:=by
 simp only[Instr.checkKey,Df,Jz ht,DP];rw[<-Array.forIn_toList]
 generalize (P.fieldsOf t).toList=fs at hn
 clear ht
 induction fs generalizing w with
 |nil=>simp[PV]
 |cons f fs ih=>
  unfold ZE at hn;rw[N9,BU,Ev] at hn;simp only[List.forIn_cons,LD,PV,Df,Sem.run_ite,if_pos hn.1]
  generalize (part f.type xs f.offset).run P w=r1
  cases r1 with
  |ok a w1=>
   simp only[DP]
   generalize (Instr.checkKey e d f.type a).run P w1=r2
   cases r2 with
   |ok b w2=>
    simp only[DP,JN];exact ih hn.2
   |halt x w2=>simp[Result.andThen]
  |halt x w1=>simp[Result.andThen]
def ahV(em:Bool)(d:Nat){t e:Af}{c:Nat}(xs:Aw AO){w:AK}(hu:P.underlying t=some (.array n e))(hi:∀w,(Go.sizeOf e).run P w= .ok c w):
  (Instr.checkKey em (d+1) t<| .agg xs).run P w=(PV em d xs<|(List.range n).map λi=>(e,i*c)).run P w:=by
 simp only[Instr.checkKey,Df,Jz hu,DP];simp only[Std.Legacy.Range.forIn_eq_forIn_range',Std.Legacy.Range.size,Nat.sub_zero,Nat.add_one_sub_one,Nat.div_one,List.range_eq_range']
 generalize List.range' 0 n=is
 induction is generalizing w with
 |nil=>simp[PV]
 |cons j is ih=>
  simp only[List.forIn_cons,LD,PV,Df,hi,DP]
  generalize (part e xs<|j*c).run P w=r1
  cases r1 with
  |ok a w1=>
   simp only[DP]
   generalize (Instr.checkKey em d e a).run P w1=r2
   cases r2 with
   |ok b w2=>
    simp only[DP,JN];exact ih
   |halt x w2=>simp[Result.andThen]
  |halt x w1=>simp[Result.andThen]
def zS[DecidableEq α](hl:BX P T n true=true)(hf:∀x,f x=Co (Ho x))(hn:∀x,Bx (Ho x)=n)
 (hr:Rows P dep fs 0 Ho eb)(he:∀x y,eb x y=decide (x=y))
 (h1:∀(d:Nat) (xs ys:Aw AO) (w:AK),(Op.equalIn (d+1) T (.agg xs)<| .agg ys).run P w=(eqL d xs ys fs).run P w)
 (h2:∀(e:Bool) (d:Nat) (xs:Aw AO) (w:AK),(Instr.checkKey e (d+1) T<| .agg xs).run P w=(PV e d xs fs).run P w):Ic P T f n true (dep+1) where
 lay:=hl
 sz x:=by rw[hf];exact hn x
 ag x:=by rw[hf];rfl
 eq d H u v x y hu hv w:=by
  rw[hf] at hu hv;obtain⟨cs,rfl,k1⟩:=hu;obtain⟨ds,rfl,k2⟩:=hv;rw[<-KY,h1,ak9 hr d H cs ds x y k1 k2 (F2 _)<|F2 _,he]
 chk d e H u x hu w:=by
  rw[hf] at hu;obtain⟨cs,rfl,k1⟩:=hu;rw[<-KY,h2,aiL hr d e H cs x k1<|F2 _]
 uniq H u v x hu hv:=by
  rw[hf] at hu hv;obtain⟨cs,rfl,k1⟩:=hu;obtain⟨ds,rfl,k2⟩:=hv
  congr 1
  exact Array.ext'<|agm hr H _ _ x k1 k2
 leaf H u x hu c hc m:=by
  rw[hf] at hu;obtain⟨cs,rfl,k1⟩:=hu;exact agn hr H _ x k1 c hc m
def mF[DecidableEq α](hl:BX P T n true=true)(hf:∀x,f x=Co (Ho x))(hn:∀x,Bx (Ho x)=n)
 (hr:Rows P dep fs 0 Ho eb)(he:∀x y,eb x y=decide (x=y))
 (ht:P.underlying T=some (.struct<|P.fieldsOf T))(hs:P.stoodInHeld T=false)(hnm:ZE (P.fieldsOf T).toList=true)(Jn:(P.fieldsOf T).toList.map (λf=>(f.type,f.offset))=fs):Ic P T f n true (dep+1):=
 zS hl hf hn hr he (λd xs ys w=>by rw[run_equalIn_struct w d T xs ys ht hs,ue d xs ys _ hnm,Jn]) (λe d xs w=>by rw[ag5 e d T xs ht hnm,Jn])
def wz{E:Af}{k c:Nat}{i:TypeInfo}[DecidableEq α](hl:BX P T n true=true)(hf:∀x,f x=Co (Ho x))(hn:∀x,Bx (Ho x)=n)
 (hr:Rows P dep fs 0 Ho eb)(he:∀x y,eb x y=decide (x=y))
 (ht:P.underlying T=some (.array k E))(hi:P.info? E=some i)(hc:P.cellsOf E=c)(Jn:(List.range k).map (λi=>(E,i*c))=fs):Ic P T f n true (dep+1):=
 zS hl hf hn hr he (λd xs ys w=>by rw[run_equalIn_array w d xs ys ht hi,vY,hc,Jn]) (λe d xs w=>by rw[ahV e d xs ht (c:=c) (λw=>by rw[run_sizeOf w hi,<-hc]),Jn])
def Ic.key[DecidableEq α](h:Ic P T f n true dep)(hd:dep<=10000)(hk:∃ud,P.underlying T=some ud/\∀u v,Instr.sameNow ud u v=none):Rt P T f where
 eq H u v x y h1 h2 w:=by
  have:=h.eq (10000-dep) H u v x y h1 h2 w;rw[show 10000-dep+dep=10000 from by omega] at this;exact this
 check H u x h1 e w:=by
  have:=h.chk (10000-dep) e H u x h1 w;rw[show 10000-dep+dep=10000 from by omega] at this;exact this
 kind:=hk
 bits H u v x h1 h2:=by
  have:=h.uniq H u v x h1 h2;subst this;have hs:=(f x).shape h1;have ha:=hs.eq;rw[h.ag] at ha;have hl:=h.leaf H u x h1;rw[ha] at hl⊢;show Instr.sameBits (9999+1) (.agg u.cells) (.agg u.cells)=true;simp only[Instr.sameBits,beq_self_eq_true,JO];rw[Cy];intro p hp;have:p.1=p.2/\p.1∈u.cells.toList:=by
   obtain⟨i,hi⟩:=Ym.1 hp;rw[oN] at hi;obtain⟨h5,h6⟩:=hi;rw[h5] at h6;exact⟨Dg h6,Km h5⟩
  obtain⟨e1,e2⟩:=this;rw[<-e1];exact hl p.1 e2 _
def Ic.eqs[DecidableEq α](h:Ic P T f n true dep)(hd:dep<=10000)(hg:P.eqGuardType P.depth T=false):Tl P T f where
 run H u v x y h1 h2 w:=by
  have:=h.eq (10000-dep) H u v x y h1 h2 w;rw[show 10000-dep+dep=10000 from by omega] at this;exact this
 guard H u v x y h1 h2 o p q w:=by
  have a1:=((f x).shape h1).eq;have a2:=((f y).shape h2).eq;rw[h.ag] at a1 a2;rw[a1,a2];exact run_eqGuard_agg w o T p q _ _ hg
 agg:=h.ag
end
def Ze:Ic prog 47 TS 1 false 1:=ahC A4 A4
def kt3:Ic prog 3 (TI .i64) 1 false 1:=ame A4 A4
def qM:Ic prog 46 M4 3 true 2:=
 wz (k:=3) (E:=3) (c:=1) (fs:=[(3,0),(3,1),(3,2)]) A4 (λ_=>rfl) (λ_=>rfl)
  (Rows.cons (acc:=λx:Int×Int×Int=>x.1) kt3<|Rows.cons (acc:=λx:Int×Int×Int=>x.2.1) kt3<|Rows.cons (acc:=λx:Int×Int×Int=>x.2.2) kt3 Rows.nil)
  (λx y=>by obtain⟨a,b,c⟩:=x;obtain⟨a',b',c'⟩:=y;simp[P9,Yc]) A4 (i:=(prog.info? 3).get A4) A4 A4 rfl
def aob:Ic prog 125 Mt 4 true 3:=
 mF (fs:=[(46,0),(47,3)]) A4 (λ_=>rfl) (λ_=>rfl)
  (Rows.cons (acc:=λx:(Int×Int×Int)×A9=>x.1) qM (Rows.cons (acc:=λx:(Int×Int×Int)×A9=>x.2) (Ze.pK (by omega)) Rows.nil))
  (λx y=>by obtain⟨a,b⟩:=x;obtain⟨a',b'⟩:=y;simp[P9,Yc]) A4 A4 A4 A4
def aak:Ic prog 49 Ah 4 true 3:=
 mF (fs:=[(46,0),(47,3)]) A4 (λ_=>rfl) (λ_=>rfl)
  (Rows.cons (acc:=λx:(Int×Int×Int)×A9=>x.1) qM (Rows.cons (acc:=λx:(Int×Int×Int)×A9=>x.2) (Ze.pK (by omega)) Rows.nil))
  (λx y=>by obtain⟨a,b⟩:=x;obtain⟨a',b'⟩:=y;simp[P9,Yc]) A4 A4 A4 A4
def aaj:Ic prog 58 C3 3 true 2:=
 wz (k:=3) (E:=47) (c:=1) (fs:=[(47,0),(47,1),(47,2)]) A4 (λ_=>rfl) (λ_=>rfl)
  (Rows.cons (acc:=λx:A9×A9×A9=>x.1) Ze<|Rows.cons (acc:=λx:A9×A9×A9=>x.2.1) Ze<|Rows.cons (acc:=λx:A9×A9×A9=>x.2.2) Ze Rows.nil)
  (λx y=>by obtain⟨a,b,c⟩:=x;obtain⟨a',b',c'⟩:=y;simp[P9,Yc]) A4 (i:=(prog.info? 47).get A4) A4 A4 rfl
def aqi:Ic prog 72 KU 7 true 4:=
 mF (fs:=[(49,0),(58,4)]) A4 (λ_=>rfl) (λ_=>rfl)
  (Rows.cons (acc:=λx:HfZ×Bz=>x.1) aak (Rows.cons (acc:=λx:HfZ×Bz=>x.2) (aaj.pK (by omega)) Rows.nil))
  (λx y=>by obtain⟨a,b⟩:=x;obtain⟨a',b'⟩:=y;simp[P9,Yc]) A4 A4 A4 A4
def aa5:Rt prog 125 Mt:=aob.key (by omega) ⟨.struct<|prog.fieldsOf 125,A4,λ_ _=>rfl⟩
def pd:Tl prog 46 M4:=qM.eqs (by omega) A4
def apH:Tl prog 49 Ah:=aak.eqs (by omega) A4
def iM:Tl prog 58 C3:=aaj.eqs (by omega) A4
def apG:Tl prog 72 KU:=aqi.eqs (by omega) A4
def Acc{Y:Type}(b:Nat)(B:A3 Y->A6 (A3 Y)):Prop:=
 ∀s r,B s=some r->∃ys,r=s++ys/\((s.length*b<=140737488355328->r.length*b<=140737488355328))/\∀s',(s'.length+ys.length)*b<=140737488355328->B s'=some (s'++ys)
section
variable{Y:Type}{b:Nat}
variable{X:Type}{B:X->A3 Y->A6 (A3 Y)}
def Acc.some:Acc (Y:=Y) b λs=>Option.some s:=λs r h=>by
 cases h;exact⟨[],by simp,id,λs' _=>by simp⟩
def Acc.none:Acc (Y:=Y) b λ_=>Option.none:=λs r h=>by cases h
def Acc.bdc{e:A6 X}{K:X->A3 Y->A6 (A3 Y)}(h:∀x,Acc b<|K x):Acc b λs=>bd e λx=>K x s:=λs r hr=>by
 obtain⟨x,he,hr⟩:=NL hr;obtain⟨ys,h1,h2,h3⟩:=h x s r hr;exact⟨ys,h1,h2,λs' hs=>by rw[he];exact h3 s' hs⟩
def Acc.gc{c:Bool}{K:A3 Y->A6 (A3 Y)}(h:Acc b K):Acc b λs=>gC c (K s):=λs r hr=>by
 cases c with
 |false=>cases hr
 |true=>exact h s r hr
def Acc.cond{c:Bool}{A B:A3 Y->A6 (A3 Y)}(h:Acc b A)(k:Acc b B):Acc b λs=>cond c (A s) (B s):=λs r hr=>by
 cases c with
 |false=>exact k s r hr
 |true=>exact h s r hr
def Acc.apI{c:A3 Y->Bool}{A B:A3 Y->A6 (A3 Y)}(hc:∀s,c s=c [])(h:Acc b A)(k:Acc b B):Acc b λs=>_root_.cond (c s) (A s) (B s):=by
 have e:(λs=>_root_.cond (c s) (A s)<|B s)=λs=>_root_.cond (c []) (A s) (B s):=by
  funext s;rw[hc s]
 rw[e];exact Acc.cond h k
def Acc.app{e:Y}{K:A3 Y->A6 (A3 Y)}(hb:Nat.ble 1 b=true)(h:Acc b K):Acc b λs=>bd (BC b s [e]) λx=>K x:=λs r hr=>by
 have hb:=EP hb;obtain⟨x,hx,hr⟩:=NL hr;have aay:∀s:A3 Y,(s.length+1)*b<=140737488355328->BC b s [e]=Option.some (s++[e]):=λs hs=>by
  unfold BC;have h1:s.length+1<=9223372036854775807:=by
   have:=Nat.le_mul_of_pos_right (s.length+1) (show 0<b by omega);omega
  simp[hs,h1]
 have hxs:x=s++[e]/\(s.length+1)*b<=140737488355328:=by
  by_cases hc:(s.length+1)*b<=140737488355328
  ·rw[aay s hc] at hx;exact⟨(Dg hx).symm,hc⟩
  ·unfold BC at hx;simp[hc] at hx
 obtain⟨rfl,SB⟩:=hxs;obtain⟨ys,h1,h2,h3⟩:=h _ r hr;refine⟨e::ys,by rw[h1];simp,λ_=>h2 (by simpa using SB),λs' hs=>?_⟩;have CG:(s'.length+1+ys.length)*b<=140737488355328:=by
  have:s'.length+(e::ys).length=s'.length+1+ys.length:=by simp;omega
  rwa [this] at hs
 show bd (BC b s' [e]) (λx=>K x)=_;rw[aay s' (CX (Hg b (by omega)) CG)];show K (s'++[e])=_;rw[h3 (s'++[e]) (by simpa using CG)];simp
def xW{X:Type}{B:X->A3 Y->A6 (A3 Y)}(hB:∀x,Acc b<|B x):∀{l:A3 X} {s r:A3 Y},PQ B l s=Option.some r->s.length*b<=140737488355328->∃Ys:A3 (A3 Y),Ys.length=l.length/\r=s++Ys.flatten/\r.length*b<=140737488355328/\
  ∀p∈l.zip Ys,∀s',(s'.length+p.2.length)*b<=140737488355328->B p.1 s'=Option.some (s'++p.2)
 |[],s,r,h,hs=>by cases h;exact⟨[],rfl,by simp,hs,by simp⟩
 |x::l,s,r,h,hs=>by
  obtain⟨s1,hx,h⟩:=NL h;obtain⟨ys,h1,h2,h3⟩:=hB x s s1 hx;obtain⟨Ys,k1,k2,k3,k4⟩:=xW hB h<|h2 hs
  refine⟨ys::Ys,by simp[k1],by rw[k2,h1];simp,k3,?_⟩;intro p hp;rw[List.zip_cons_cons,Ag] at hp;rcases hp with rfl|hp
  ·exact h3
  ·exact k4 p hp
def xF{X:Type}{B:X->A3 Y->A6 (A3 Y)}:∀{q:A3 (X×A3 Y)} {s:A3 Y},(∀p∈q,∀s',(s'.length+p.2.length)*b<=140737488355328->B p.1 s'=Option.some (s'++p.2))->(s++(q.map (·.2)).flatten).length*b<=140737488355328->PQ B (q.map (·.1)) s=Option.some (s++(q.map (·.2)).flatten)
 |[],s,_,_=>by simp[PQ]
 |p::q,s,h,hl=>by
  have hl':(s.length+p.2.length+((q.map (·.2)).flatten).length)*b<=140737488355328:=by
   simpa[KY] using hl
  show bd (B p.1 s) _=_;rw[h p (by simp) s (CX (Hg b (by omega)) hl')];show PQ B (q.map (·.1)) (s++p.2)=_;rw[xF (λp' hp'=>h p' (by simp[hp'])) (by simpa[KY] using hl')];simp
def aiV{Z:Type}:∀{l π:A3 X} {Zs:A3 Z},π.Perm l->Zs.length=l.length->∃q:A3 (X×Z),q.Perm (l.zip Zs)/\q.map (·.1)=π:=by
 intro l π Zs hp
 induction hp generalizing Zs with
 |nil=>intro h;exact⟨[],by simp,rfl⟩
 |cons x hp ih=>
  intro h;cases Zs with
  |nil=>simp at h
  |cons z Zs=>
   obtain⟨q,h1,h2⟩:=ih (by simpa using h);exact⟨(x,z)::q,by simpa using h1,by simp[h2]⟩
 |swap x y l=>
  intro h
  match Zs,h with
  |z1::z2::Zs,h=>
   refine⟨(y,z2)::(x,z1)::l.zip Zs,by simpa using List.Perm.swap _ _ _,?_⟩;have:Zs.length=l.length:=by simpa using h
   simp[List.map_fst_zip,this]
 |trans h1 h2 ih1 ih2=>
  intro h;obtain⟨q2,a1,a2⟩:=ih2 h;obtain⟨q1,b1,b2⟩:=ih1 (Zs:=q2.map (·.2)) (by rw[Bw,<-a2,Bw]);refine⟨q1,b1.trans ?_,b2⟩;have:(List.zip (q2.map (·.1))<|q2.map (·.2))=q2:=by
   rw[List.zip_map'];simp
  rw[<-a2,this];exact a1
def ajj(hB:∀x,Acc b<|B x){l π:A3 X}{r:A3 Y}(h:PQ B l []=Option.some r)(hp:π.Perm l):∃r',PQ B π []=Option.some r'/\r'.Perm r:=by
 obtain⟨Ys,h1,h2,h3,h4⟩:=xW hB h (by simp);obtain⟨q,q1,q2⟩:=aiV hp h1;have hq:((q.map (·.2)).flatten).Perm r:=by
  rw[h2,I4];refine List.Perm.flatten ?_;have:=q1.map (·.2);rwa [List.map_snd_zip (by omega)] at this
 refine⟨_,by rw[<-q2];exact xF (b:=b) (λp hp s' hs=>h4 p (q1.mem_iff.1 hp) s' hs) (by rw[I4,hq.length_eq];exact h3),?_⟩;simpa using hq
end
section
variable{α:Type}[DecidableEq α]{c:α×α->Option Int}
def ub{rk:α->Nat}:∀{s:A3 α} {x:α},(∀y∈s,∃v,c (x,y)=some v/\(v<0↔rk x<rk y))->s.Pairwise (λa b=>rk b<=rk a)->∃s',NZ (λa b=>c (a,b)) x s=some s'/\s'.Pairwise λa b=>rk b<=rk a
 |[],x,_,_=>⟨[x],rfl,by simp⟩
 |y::s,x,h,hs=>by
  obtain⟨v,hv,hr⟩:=h y (by simp);obtain⟨hy,CG⟩:=Ki.1 hs;cases hd:decide (v<0) with
  |true=>
   obtain⟨s',h1,h2⟩:=ub (λz hz=>h z<|Bi _ hz) CG;refine⟨y::s',?_,Ki.2 ⟨λz hz=>?_,h2⟩⟩
   ·show bd (c (x,y)) _=_;rw[hv];show cond (decide<|v<0) _ _=_;rw[hd];show bd (NZ (λa b=>c (a,b)) x s) _=_;rw[h1];rfl
   ·rcases Ag.1 ((dJ h1).mem_iff.1 hz) with e|hz
    ·subst e;have:=hr.1<|AZ hd
     omega
    ·exact hy z hz
  |false=>
   refine⟨x::y::s,?_,Ki.2 ⟨λz hz=>?_,hs⟩⟩
   ·show bd (c (x,y)) _=_;rw[hv];show cond (decide<|v<0) _ _=_;rw[hd];rfl
   ·have hn: ¬rk x<rk y:=λh=>by have:=hr.2 h;simp[this] at hd
    rcases Ag.1 hz with e|hz
    ·subst e;omega
    ·have:=hy z hz;omega
def tO{rk:α->Nat}:∀{l s:A3 α},(∀x∈s++l,∀y∈s++l,∃v,c (x,y)=some v/\(v<0↔rk x<rk y))->s.Pairwise (λa b=>rk b<=rk a)->
  ∃s',Il l (λnext x s=>bd (NZ (λa b=>c (a,b)) x s) next) s (λs=>some s.reverse)=some s'/\s'.Pairwise (λa b=>rk a<=rk b)
 |[],s,_,hs=>⟨s.reverse,rfl,List.pairwise_reverse.2 hs⟩
 |x::l,s,h,hs=>by
  obtain⟨s1,h1,h2⟩:=ub (c:=c) (rk:=rk) (s:=s) (x:=x) (λy hy=>h x (by simp) y (by simp[hy])) hs;have hp:=dJ h1;obtain⟨s',h3,h4⟩:=tO (l:=l) (s:=s1) (λa ha b hb=>by
   have mem:∀z,z∈s1++l->z∈s++x::l:=λz hz=>by
    rcases BR.1 hz with hz|hz
    ·rcases Ag.1 (hp.mem_iff.1 hz) with e|hz
     ·simp[e]
     ·simp[hz]
    ·simp[hz]
   exact h a (mem a ha) b<|mem b hb) h2
  refine⟨s',?_,h4⟩;show bd (NZ (λa b=>c (a,b)) x s) _=_;rw[h1];exact h3
def aeZ{l l' r:A3 α}(h:I2 l c=some r)(hp:l'.Perm l):I2 l' c=some r:=by
 obtain⟨h1,h2,h3,h4⟩:=XZ h;have mem:∀x∈l',x∈r:=λx hx=>h1.mem_iff.2<|hp.mem_iff.1 hx
 have key:∀x∈l',∀y∈l',∃v,c (x,y)=some v/\(v<0↔r.idxOf x<r.idxOf y):=λx hx y hy=>by
  obtain⟨v,hv⟩:=h3 x (hp.mem_iff.1 hx) y<|hp.mem_iff.1 hy
  exact⟨v,hv,da h2 (mem x hx) (mem y hy) hv⟩
 obtain⟨s',k1,k2⟩:=tO (c:=c) (rk:=λx=>r.idxOf x) (l:=l') (s:=[]) (by simpa using key) List.Pairwise.nil;have k1:gj (λa b=>c (a,b)) l'=some s':=k1;have e:s'=r:=vB h2 ((tw k1).trans<|hp.trans h1.symm) k2;subst e;unfold I2;rw[k1];show Dz _ s'=_;have g1:Nat.blt l'.length 4611686018427387904=true:=by rw[hp.length_eq];exact Gx h4
 have g2:totB c l'=true:=Cy.2 λx hx=>Cy.2 λy hy=>by
  obtain⟨v,hv,_⟩:=key x hx y hy;rw[hv];rfl
 rw[g1,g2,h2];rfl
end
def abU{x4:_}{r:_}(hm:SO (λ(x7:HfZ×V3) (s6:(A3<|HfZ×Bz))=>
   bd (Wv x7.2) λx9=>
   cond (x9) (
    some s6
   ) (
    bd (UZ x7.2) λBD=>
    cond (!decide (BD.2=(0:Int))) (
     none
    ) (
     bd (BC 88 s6 ([((x7.1.1,x7.1.2),BD.1)]:A3 (HfZ×Bz))) λBV=>
     some BV
    )
   )
  ) x4 [] (λ(s6:(A3<|HfZ×Bz))=>
   bd (I2 s6<|λx=>aJ x.1 x.2) λBW=>
   some (BW,(0:Int)))=some r):∀π,π.Perm x4->SO (λ(x7:HfZ×V3) (s6:(A3<|HfZ×Bz))=>
   bd (Wv x7.2) λx9=>
   cond (x9) (
    some s6
   ) (
    bd (UZ x7.2) λBD=>
    cond (!decide (BD.2=(0:Int))) (
     none
    ) (
     bd (BC 88 s6 ([((x7.1.1,x7.1.2),BD.1)]:A3 (HfZ×Bz))) λBV=>
     some BV
    )
   )
  ) π [] (λ(s6:(A3<|HfZ×Bz))=>
   bd (I2 s6<|λx=>aJ x.1 x.2) λBW=>
   some (BW,(0:Int)))=some r:=by
 intro π hπ;obtain⟨s,hs,hr⟩:=NL hm;obtain⟨s',CG,hp⟩:=ajj (b:=88) (by
  intro x
  repeat' (first|exact Acc.some|exact Acc.none|refine Acc.app rfl ?_|refine Acc.apI (λ_=>rfl) ?_ ?_|(refine Acc.bdc<|λx=>?_)|fail)) hs hπ
 unfold SO;rw[CG];obtain⟨y,hy,hr⟩:=NL hr;show bd (I2 s' _) _=_;rw[aeZ hy hp];exact hr
end Trn
namespace OU
section
open Go.Shelf Go.Lib
def acx(m n:Nat)(h:n<=m):(⟨(List.replicate m (48:UInt8)).toArray⟩:ByteArray).extract 0 n=⟨(List.replicate n 48).toArray⟩:=by
 apply ByteArray.ext;rw[ByteArray.data_extract];apply Array.ext';simp[List.take_replicate,Nat.min_eq_left h]
set_option maxHeartbeats 4000000 in
set_option maxRecDepth 1000000 in
def aqa(n:Nat)(h2:2<=n)(h:n<=64)(w:World):
  Calls prog 242 #[.string ⟨#[48]⟩,.int .i64 n] w λe w'=>e= .returned (.string ⟨(List.replicate n 48).toArray⟩)/\∃k,w'=w.drewN k:=by
 have e317:∀args w,(callFunc 287 args).run prog w= .ok (.enter 287 args) w:=enters_of func287 Trn.A4 rfl;have e232:∀args w,(callFunc 206 args).run prog w= .ok (.enter 206 args) w:=enters_of func206 Trn.A4 rfl;have hmul:=λw=>bits_Mul 1 n (by omega) (by omega) w
 have hp:=λs w=>strings_HasPrefix s ⟨#[48]⟩ w
 go_enter func242,ntmps242
 go_wp2_with (first|(go_at_fn (287);refine(hmul _).mono ?_;rintro e w' ⟨rfl,rfl⟩)|(go_at_fn (206);refine(hp _ _).mono ?_;rintro e w' ⟨rfl,rfl⟩))
 go_ret
 refine⟨?_,0,by simp[World.drewN_zero]⟩;have hm:n%18446744073709551616=n:=Nat.mod_eq_of_lt (by omega);show Ending.returned (Value.string<|ByteArray.extract _ 0<|n%18446744073709551616)=_;rw[hm]
 congr 2
 exact acx 64 n h
end
end OU
namespace Trn
section
open Go.Shelf
variable[D:DR]
variable{cur:Aw AO}
theorem afl{k n:Nat}{ps qs xs:A3 AO}{w:AK}{blk:Nat}{E:Af}[Inhabited<|Fin n](hl:xs.length=n*k)(hb:w.heap[blk]? =some (.cells cur E (0,0)))(ht:cur.toList=ps++(xs++qs)):
  Go.Sort.HoldsK (λi:Fin n=>chunk k xs i) k w blk ps.length (Array.ofFn λi:Fin n=>i):=by
 unfold Go.Sort.HoldsK Go.Sort.Holds;intro j hj;rw[Go.Sort.size_flatK,VS] at hj;have LZ:cur[ps.length+j]? =xs[j]? :=by
  rw[<-MY,ht,LM (by omega),Nat.add_sub_cancel_left,IQ (by omega)]
 have hk:0<k:=(LK k).elim (λe=>by subst e;simp at hj) id;have hi:j/k<n:=Nat.div_lt_of_lt_mul (by rw[Jw];exact hj);refine⟨?_,by simp[World.frozen?,hb]⟩;rw[Go.Sort.get_flatK _ _ _ _ (by simpa using hj)];rw[Yi hb,LZ];have e1:(Array.ofFn λi:Fin n=>i)[j/k]! =⟨j/k,hi⟩:=by rw[JM (Array.ofFn λi:Fin n=>i) (j/k) (by simpa using hi)];simp
 rw[e1];have hg:=vn hl hj;have hlt:j%k<(chunk k xs<|j/k).length:=by rw[RC hl hi];exact N8 _ hk
 show xs[j]? =some (id (chunk k xs<|j/k)[j%k]!);rw[<-hg,JM (chunk k xs<|j/k) (j%k) hlt,Fe hlt];rfl
theorem abZ{α:Type}[Inhabited α]{enc:α->A3 AO}{k:Nat}{w:AK}{blk off m:Nat}{dk:Aw α}{os:Aw Obj}{E:Af}{fr:Nat×Nat}(hb:w.heap[blk]? =some (.cells cur E fr)):
  (sortWorldK enc k w blk off m dk os).heap[blk]? =some (.cells (Go.Sort.putCells id off (Go.Sort.flatK enc k dk) cur) E fr):=by
 unfold sortWorldK Go.Sort.grow Go.Sort.putRowK Go.Sort.putRow Go.Sort.mapBlock Go.Sort.ahead;simp only[fj,Array.size_modify,lt_of_heap hb,if_pos,TZ,hb,P6]
 rfl
theorem ae1{ps xs qs:A3 AO}{d:Aw AO}(h:cur.toList=ps++(xs++qs))(hd:d.size=xs.length):(Go.Sort.putCells id ps.length d cur).toList=ps++(d.toList++qs):=by
 have hs:cur.size=ps.length+(xs.length+qs.length):=by rw[<-EB,h];simp
 apply VW;intro i;rw[MY];unfold Go.Sort.putCells;rw[Array.getElem?_mapIdx,<-MY,h];rcases Gh i ps.length with h1|h1
 ·rw[IQ h1,IQ h1];cases ps[i]? with
  |none=>rfl
  |some v=>simp;omega
 ·rw[LM h1,LM h1];rcases Gh (i-ps.length) xs.length with h2|h2
  ·rw[IQ h2,IQ (by simpa[hd] using h2),Fe h2,P6,if_pos ⟨h1,by omega⟩,MY,Vf (by omega),JM d _ (by omega)];rfl
  ·have e3:d.toList.length=xs.length:=by rw[<-hd];exact EB
   rw[LM h2,LM (by rw[e3];exact h2),e3];cases qs[i-ps.length-xs.length]? with
   |none=>rfl
   |some v=>simp;omega
end
section
open Go.Shelf
variable[D:DR]
variable{P:Program}{ρ:Ren}{A:Type}[DecidableEq A]{τ:A->Ty}{k:Nat}{c:A×A->Option Int}
set_option maxHeartbeats 1000000 in
theorem afJ(L:SlLaysF0.n6 P ρ)(aE:∀w,(isAgg<|ρ.t 24).run P w= .ok true w)(zE:∀w,(Go.sizeOf<|ρ.t 24).run P w= .ok k w)(hc:GA P (ρ.f 6)=true)
  (hn:∀a,(τ a).n=k)(ha:∀a,(τ a).agg=true)(none:∀(p:A6 Addr) (cap:Nat) (fv:AO) (w:AK),Calls P (ρ.f 6) #[.slice p 0 cap,fv] w λe w'=>e= .returned (.tuple #[])/\w'=w)
  {l r:A3 A}(hm:I2 l c=some r){ps qs:A3 AO}:
  IN P (ρ.f 6) [] (.EZ (ρ.t 24) ps qs<|lT τ l) (.EZ (ρ.t 24) ps qs<|lT τ r) [KS P (λx:A×A=>[τ x.1,τ x.2]) (λx:Int=>[(TI .i64) x]) c] []:=by
 obtain⟨h1,h2,h3,h4⟩:=XZ hm;have hrl:r.length=l.length:=h1.length_eq;refine⟨hc,λw H v pv qv sub gl hp hq hs=>?_⟩;have hp:=YO hp;subst hp;obtain⟨fv,rfl,hfv⟩:=Ns hq;obtain⟨g,cap,Ei,rfl,QT,hf⟩:=hfv;obtain⟨blk,EF,cur,xs,rfl,hblk,LZ,Al,hB,iI⟩:=hs;have hlen:(lT τ l).length=l.length:=Bw ..;have To:(lT τ r).length=l.length:=by rw[Bw,hrl]
 rw[hlen];have Ku:∀b,Value.ownBlock (.slice (some ⟨blk,ps.length,.none⟩) l.length EF)=some b->H b= .none:=λb hb=>by cases hb;exact hB
 by_cases hl0:l=[]
 ·subst hl0;have hr:r=[]:=List.Perm.eq_nil h1;subst hr;refine(none _ EF _ w).mono ?_;rintro e w' ⟨rfl,rfl⟩;exact⟨_,rfl,H,(Tr.refl _ _).Ku sub Ku,⟨blk,EF,cur,xs,rfl,hblk,LZ,Al,hB,iI⟩,λb hb=> .inl hb,#[],rfl,rfl⟩
 ·have hpos:0<l.length:=Vb.2 hl0
  haveI:Inhabited (Fin l.length):=⟨⟨0,hpos⟩⟩
  obtain⟨Fx,Jo⟩:=Sw hn ha Al
  let cf:Fin l.length->Fin l.length->Int:=λi j=>(c (l[i],l[j])).getD 0
  have tot:∀i j:Fin l.length,c (l[i],l[j])=some (cf i j):=λi j=>by
   obtain⟨v,hv⟩:=h3 _ (Kg i.2) _<|Kg j.2
   have hv:c (l[i],l[j])=some v:=hv;show c (l[i],l[j])=some ((c (l[i],l[j])).getD 0);rw[hv];rfl
  have U3:=EE.can (D:=DR.strict)<|hf _ _<|tot ⟨0,hpos⟩ ⟨0,hpos⟩
  have hcmp:=um (P:=P) (off:=ps.length) hn ha Al sub gl hB QT hf cf tot;have hd:(Array.ofFn λi:Fin l.length=>i).size=l.length:=VS;have main:=AnyQ.slices_SortFunc L k aE zE (λi:Fin l.length=>chunk k xs i) (λi=>RC Fx i.2)
   (λi u hu=>RJ Al u<|QC<|OA hu) cf (wA hm tot) g cap blk ps.length EF (Array.ofFn λi:Fin l.length=>i) w
   (λargs w=>Ob U3 args w) (by rw[hd];exact hcmp) (afl Fx hblk LZ) (lt_of_heap hblk) (by rw[hd];exact h4)
  rw[hd] at main;refine main.mono ?_;rintro e w' ⟨rfl,d',m,os,WD,pT,rfl⟩;obtain⟨hdz,hdr⟩:=vC hm tot WD pT;have Jn:(Go.Sort.flatK (λi:Fin l.length=>chunk k xs i) k d').size=l.length*k:=by rw[Go.Sort.size_flatK,hdz]
  refine⟨_,rfl,H,Tr.Ku (M:=λb=>Value.ownBlock (.slice (some ⟨blk,ps.length,.none⟩) l.length EF)=some b) ⟨je,rfl,rfl,rfl,?_,λi hi hne=>X4 hi (λe=>hne (by rw[e];rfl))⟩ sub Ku,
   ⟨blk,EF,_,(Go.Sort.flatK (λi:Fin l.length=>chunk k xs i) k d').toList,by rw[To],abZ hblk,ae1 LZ (by rw[Jn,Fx]),?_,hB,iI⟩,λb hb=> .inl hb,#[],rfl,rfl⟩
  ·refine GQ.of ?_;show w.drawn<=(sortWorldK _ k w blk _ m d' os).drawn;unfold sortWorldK Go.Sort.grow Go.Sort.putRowK Go.Sort.putRow Go.Sort.mapBlock Go.Sort.ahead;exact TV _ _
  ·refine bK (by rw[EB,Jn,hrl]) λi hi=>?_
   have hi2:i<d'.size:=by omega
   rw[lO (λi=>RC Fx i.2) hi2];rw[JM d' i hi2];have e:r[i]=l[d'[i]]:=by
    have:r[i]? =(d'.toList.map λi=>l[i])[i]? :=by rw[hdr]
    rw[Fe hi,GX,MY,Vf hi2] at this;simpa using this
   rw[e];exact Jo _ d'[i].2
end
section
variable[D:DR]
variable{l r:A3 V3}
theorem aiJ{l r:A3 (HfZ×Bz)}{c:(HfZ×Bz)×(HfZ×Bz)->A6 Int}(hm:I2 l c=some r):IN prog 66 [] (.buf 72 7<|lT KU l) (.buf 72 7<|lT KU r) [(KS prog (λ(x:(HfZ×Bz)×(HfZ×Bz))=>[KU x.1,KU x.2])<|λ(x:Int)=>[(TI .i64) x]) c] []:=
 lZ (ρ:=uK) z6 (k:=7) isAgg72 sizeOf72 A4 (λ_=>rfl) (λ_=>rfl) (AnyF.slices_SortFunc_none z6) hm
theorem agj{l r:BdZ}{c:HfZ×HfZ->A6 Int}(hm:I2 l c=some r):IN prog 163 [] (.buf 49 4<|lT Ah l) (.buf 49 4<|lT Ah r) [(KS prog (λ(x:HfZ×HfZ)=>[Ah x.1,Ah x.2])<|λ(x:Int)=>[(TI .i64) x]) c] []:=
 lZ (ρ:=tX) xl (k:=4) isAgg49 sizeOf49 A4 (λ_=>rfl) (λ_=>rfl) (AnyF.slices_SortFunc_none xl) hm
theorem agi{c:V3×V3->A6 Int}(hm:I2 l c=some r):IN prog 188 [] (.buf 97 12<|lT Ap l) (.buf 97 12<|lT Ap r) [(KS prog (λ(x:V3×V3)=>[Ap x.1,Ap x.2])<|λ(x:Int)=>[(TI .i64) x]) c] []:=
 lZ (ρ:=ka) eG (k:=12) isAgg97 sizeOf97 A4 (λ_=>rfl) (λ_=>rfl) (AnyF.slices_SortFunc_none eG) hm
theorem afU{c:V3×V3->A6 Int}(hm:I2 l c=some r){ps qs:A3 AO}:IN prog 188 [] (.EZ 97 ps qs<|lT Ap l) (.EZ 97 ps qs<|lT Ap r) [(KS prog (λ(x:V3×V3)=>[Ap x.1,Ap x.2])<|λ(x:Int)=>[(TI .i64) x]) c] []:=
 afJ (ρ:=ka) eG (k:=12) isAgg97 sizeOf97 A4 (λ_=>rfl) (λ_=>rfl) (AnyF.slices_SortFunc_none eG) hm
theorem adi{c:V3×V3->A6 Bool}(hm:Xt l c=some r):gM prog 221 97 12 (lT Ap l) [(KS prog (λ(x:V3×V3)=>[Ap x.1,Ap x.2])<|λ(x:Bool)=>[Ar x]) c] (lT Ap r):=
 aeH (k:=12) A4 (λ_=>rfl) (λ_=>rfl) OU.ag0
  (OU.afz func221 mixed rfl underlying3 isAgg3 sizeOf3 zeroValue3 underlying4 isAgg4 sizeOf4 underlying114 isAgg114 sizeOf114 isAgg97 sizeOf97 _ zeroValue97 (by rfl) (by decide)) hm
theorem amB{x r:A3 (A3<|PlZ×A3 V3)}{n:Int}(hm:pC x n=some r):EE prog 144 [(TN<|TL Bc) x,(TI .i64) n] (.fr 75 1<|lT (TL Bc) r):=
 ahL (ρ:=u6) alN (i0:=(prog.info? 75).get A4) (z:= .slice none 0 0) (sz:=1) A4 A4 A4 (by decide) rfl (EP A4) A4 hm
def zq{w:AK}{H:HV}(sub:∀r o,H r=some o->w.heap[r]? =some o)(gl:Kp prog H):Lib.TabIs prog w "internal/strconv.uint64pow10" .u64 Lib.pow10Tab:=by
 obtain⟨g,hg,T,hT,e,hu⟩:∃g,prog.globalNamed "internal/strconv.uint64pow10" =some g/\∃T,(prog.globals[g]?).map (·.type)=some T/\∃e,prog.underlying T=some (.array 20 e):=by
  refine⟨((prog.globalNamed "internal/strconv.uint64pow10").getD 0),A4,((prog.globals[((prog.globalNamed "internal/strconv.uint64pow10").getD 0)]?).map (·.type)).getD 0,A4,255,A4⟩
 have:=gl g T hT;unfold S2 at this;rw[hu] at this;obtain⟨E,fr,e'⟩:=this;unfold Lib.TabIs World.var?;rw[hg];show(match w.heap[g]? with|some (.cells cs _ _)=>some cs|_=>none)=_;rw[sub _ _ e'];show some c7=_
 congr 1
def am9{x:Int}{r:A9}(hm:ZF x=some r):AN 239 [TI .i64 x] [TS r]:=by
 unfold ZF at hm;cases hb:Hm x
 ·rw[hb] at hm;cases hm
 ·rw[hb] at hm;have hm:some (CU x)=some r:=hm;cases hm;unfold Hm at hb;obtain⟨h1,h2⟩:=DQ hb;have h1:=AZ h1;have h2:=AZ h2;refine R9 A4 λw H vs sub gl ha=>?_
  obtain⟨u,rfl,hu⟩:=Ns ha;have hu:u= .int .i64 x:=hu;subst hu;refine(strconv_Itoa x h1 h2 w<|zq sub gl).mono ?_;rintro e w' ⟨rfl,k,os,rfl⟩;refine⟨_,rfl,⟨OU.uu,GQ.of<|TV _ _⟩,?_⟩;show Value.string _=Value.string _
  congr 3
  unfold CU Lib.itoa;by_cases h:x<0
  ·rw[if_pos h,Ab h,Vo];rfl
  ·rw[if_neg h,BH h,Vo,show x.natAbs=x.toNat from by omega];rfl
def amE{x y:Int}{r:A9}(hm:gZ x y=some r):AN 241 [TI .u64 x,TI .i64 y] [TS r]:=by
 obtain⟨hb,rfl⟩:=Gf hm;obtain⟨hb,h3⟩:=DQ hb;obtain⟨h1,h2⟩:=DQ hb;have h1:=AZ h1;have h2:=AZ h2;have h3:=AZ h3;subst h3;obtain⟨n,rfl⟩:=ER h1;refine R9 A4 λw H vs sub gl ha=>?_
 obtain⟨u,v,rfl,hu,hv⟩:=TK ha;have hu:u= .int .u64 n:=hu;have hv:v= .int .i64 10:=hv;subst hu;subst hv;refine(OU.aeE n (by omega) w<|zq sub gl).mono ?_;rintro e w' ⟨rfl,k,os,rfl⟩;refine⟨_,rfl,⟨OU.uu,GQ.of<|TV _ _⟩,?_⟩;show Value.string _=Value.string _;rw[CA,Vo]
def am8{x:A9}{y:Int}{r:A9}(hm:gY x y=some r):AN 242 [TS x,TI .i64 y] [TS r]:=by
 obtain⟨hb,rfl⟩:=Gf hm;obtain⟨hb,h3⟩:=DQ hb;obtain⟨h1,h2⟩:=DQ hb;have h1:=AZ h1;have h2:=AZ h2;have h3:=AZ h3;subst h3;obtain⟨n,rfl⟩:=ER h1;refine R9 A4 λw H vs sub gl ha=>?_
 obtain⟨u,v,rfl,hu,hv⟩:=TK ha;have hu:u= .string ⟨#[48]⟩:=hu;have hv:v= .int .i64 n:=hv;subst hu;subst hv;rw[CA];rcases(show n=0\/n=1\/2<=n by omega) with h|h|h
 ·subst h;refine(strings_Repeat_zero ⟨#[48]⟩ w).mono ?_;rintro e w' ⟨rfl,rfl⟩;exact⟨_,rfl,F1.refl _ _,rfl⟩
 ·subst h;refine(strings_Repeat_one ⟨#[48]⟩ w).mono ?_;rintro e w' ⟨rfl,rfl⟩;exact⟨_,rfl,F1.refl _ _,rfl⟩
 ·refine(OU.aqa n h (by omega) w).mono ?_;rintro e w' ⟨rfl,k,rfl⟩;refine⟨_,rfl,⟨⟨rfl,rfl,rfl,Az _,λ_ _=>rfl⟩,GQ.of<|TV _ _⟩,?_⟩;show Value.string _=Value.string _;rw[xo]
end
end Trn
