/-
  Part of the proof of SolidForms.
-/
import Derived.Test.YtflhfjdapojoiaaGreatDoorLb
set_option maxRecDepth 100000
set_option maxHeartbeats 20000000
set_option linter.all false
open Go Go.RowKit Go.Proofs Go.Proofs.Tryz
namespace Trn
section
variable{n:Nat}{x y:Rat}{m:Nat}{L:A3 H3}{k:Nat}{a:Rat}
def oV{s:Rat}{x y:Int}(h:(x:Rat)*s=(y:Rat)):s.den∣x.natAbs/\s.num.natAbs∣y.natAbs:=by
 have e:x*s.num=y*(s.den:Int):=by
  have hd:(s.den:Rat)≠0:=by
   have:=s.den_nz;intro c;exact this<|Rat.natCast_eq_zero_iff.1 c
  have h2:(x:Rat)*(s.num:Rat)=(y:Rat)*(s.den:Rat):=by
   have h3:(s.num:Rat)=s*(s.den:Rat):=by
    have:=Rat.num_divInt_den s;rw[Ny,Rat.intCast_natCast] at this;have t:=NC (a:=(s.num:Rat)) hd;rw[this] at t;exact t.symm
   rw[h3,<-h,Rat.mul_assoc]
  have h4:((x*s.num:Int):Rat)=((y*(s.den:Int):Int):Rat):=by rw[Rat.intCast_mul,Rat.intCast_mul];exact h2
  exact fQ.1 h4
 have n:=congrArg Int.natAbs e;rw[Kc,Kc,Fc] at n;have c:=s.reduced;exact⟨(Nat.Coprime.dvd_of_dvd_mul_right c.symm ⟨y.natAbs,by rw[n,Jw]⟩),(Nat.Coprime.dvd_of_dvd_mul_right c ⟨x.natAbs,by rw[<-n,Jw]⟩)⟩
theorem dC{h k:H3}(a:IZ h.1)(b:IZ k.1):QW h k->h=k:=λ⟨s,s0,e⟩=>by
 obtain⟨x,y,z,e1,g1⟩:=a;obtain⟨x',y',z',e2,g2⟩:=b;have e3:Aj h.1 s=k.1:=by rw[e]
 rw[e1,e2] at e3;simp only[Aj,LC] at e3;obtain⟨c1,c2⟩:=oV e3.1;obtain⟨d1,d2⟩:=oV e3.2.1;obtain⟨f1,f2⟩:=oV e3.2.2;have u:=Nat.dvd_gcd (Nat.dvd_gcd c1 d1) f1;have v:=Nat.dvd_gcd (Nat.dvd_gcd c2 d2) f2;rw[g1] at u;rw[g2] at v;have u:=Nat.dvd_one.1 u;have v:=Nat.dvd_one.1 v;have:0<s.num:=Y3.2 s0;have s1:s=1:=Rat.ext (by show s.num=1;omega) (by show s.den=1;omega);rw[e,s1];exact Prod.ext (Hb (by simp only[Aj];grind) (by simp only[Aj];grind) (by simp only[Aj];grind)) (by simp only;grind)
def ahS:∀h∈D5 a,IZ h.1:=Lv.2 ⟨⟨-1,0,0,A4,rfl⟩,⟨1,0,0,A4,rfl⟩,⟨0,-1,0,A4,rfl⟩,⟨0,1,0,A4,rfl⟩,⟨0,0,-1,A4,rfl⟩,⟨0,0,1,A4,rfl⟩⟩
def OS(x:Rat):Rat:=bif decide (x<0) then -x else x
theorem gK{m:Rat}(h:OS x<=m):wi x m:=by
 unfold OS at h;unfold wi;cases hc:decide (x<0) with
 |true=>rw[hc] at h;have:=AZ hc;simp only[BM] at h;grind
 |false=>rw[hc] at h;have:=Ay hc;simp only[B8] at h;grind
def gL(h:lv n x):lv n (OS x):=by
 unfold OS;cases decide (x<0)
 ·exact h
 ·exact zg h
def xm(x:Rat):XT x=some (OS x):=by
 unfold XT IW OS SK;rw[ED,sign_neg];cases decide (x<0)<;>rfl
theorem u7{l:A3 Rat}(h:∀x∈l,lv n x)(hn:n<=10000000000)(hl:l.length<=10000000):Yd (λr=>1<=r/\lv n r/\∀x∈l,x<=r) (Ww l):=by
 have hL:∀x∈l++[1],lv n x:=λx mx=>by
  rcases BR.1 mx with m|m
  ·exact h x m
  ·rw[Be.1 m];exact Jy (d:=1) (.inl rfl) n
 have fin:∀r,r∈l++[1]->(∀x∈l++[1],x<=r)->1<=r/\lv n r/\∀x∈l,x<=r:=λr mr hr=>⟨hr 1 (by simp),hL r mr,λx mx=>hr x (by simp[mx])⟩
 have len:(l++[1]).length=l.length+1:=by simp
 unfold Ww;refine Yd.bd (NH<| .inl rfl) (Yd.bd (app_1 (by omega) (by omega)) ?_);rw[show((1:Int):Rat)=1 from rfl]
 generalize l++[1]=L at*
 unfold jC;cases L with
 |nil=>simp at len
 |cons y T=>
  rw[BH (show¬(((y::T).length:Nat):Int)<1 by simp;omega),B8];refine Yd.Ak (S:=λr=>r∈y::T/\∀x∈y::T,x<=r) (Yd.bd (x:=y) rfl ?_) λr hr=>Yd.mk<|fin r hr.1 hr.2
  refine Yd.from (y::T) (λ(m:Rat) i=>(m,i)) (λA m=>m∈y::T/\∀x∈A,x<=m) (λA x C m k hA hP next=>?_) (λm k hP=>?_) [y] T (s0:=y) rfl ⟨by simp,by simp[FM]⟩ (by omega)
  ·dsimp only;rw[Cg hA,BM];have mx:=at_mem hA;refine Yd.jn (λm':Rat=>m'∈y::T/\∀z∈A++[x],z<=m') (λm' Jl=>Yd.bd (CP hA (by omega))<|next m' Jl) λk8 h8=>?_
   refine Yd.bd (Bq hA)<|Yd.bd (gz (hL x mx) (hL m hP.1) hn)<|Yd.cond (λhc=>Yd.bd (Bq hA)<|h8 x ⟨mx,λz mz=>?_⟩) λhc=>h8 m ⟨hP.1,λz mz=>?_⟩
   ·have hm:m<=x:=by
     refine CC λg=>?_
     rw[Ab (show x<m by grind)] at hc;cases hc
    rcases BR.1 mz with mz|mz
    ·exact TQ (hP.2 z mz) hm
    ·rw[Be.1 mz];exact FM
   ·have hm:x<=m:=by
     refine CC λg=>?_
     rw[BH (show¬x<m by grind),Ab (show m<x by grind)] at hc;cases hc
    rcases BR.1 mz with mz|mz
    ·exact hP.2 z mz
    ·rw[Be.1 mz];exact hm
  ·dsimp only;rw[Ce,B8];exact Yd.mk hP
def xN(hk:lv k a):Jb k (D5 a):=by
 have o:=Jy (.inl rfl:(1:Int)=1\/(1:Int)= -1) k;have m:=Jy (.inr rfl:(-1:Int)=1\/(-1:Int)= -1) k;have z:lv k (0:Rat):=⟨F2 _,o.2⟩;exact Lv.2 ⟨⟨⟨m,z,z⟩,hk⟩,⟨⟨o,z,z⟩,hk⟩,⟨⟨z,m,z⟩,hk⟩,⟨⟨z,o,z⟩,hk⟩,⟨⟨z,z,m⟩,hk⟩,⟨z,z,o⟩,hk⟩
def oF(hx:lv m x)(hy:lv n y)(hm:m<=1000)(hn:n<=1000):Fs x y=some (x*y):=by
 unfold Fs;rw[M5 hx (by omega),M5 hy (by omega)];rfl
def Tt(L:A3 H3)(k:Nat)(r:A3 D7×Bool):Prop:=
 ∃a m D:Rat,a=7*(m*m*D)/\0<m/\0<D/\lv (3*k+1) a/\(∀h∈L,wi3 h.1 m/\wi h.2 D)/\
  ((r.2=true/\∃N,(∀h,h∈N↔h∈L\/h∈D5 a)/\C9 r.1 N)\/(r.2=false/\ ¬ ∃o,∀k∈L++D5 a,val k o<0))
theorem xQ(hL:Jb k L)(h1:1<=k)(hk:k<=90)(hlen:L.length<=50)(hp:∀h∈L,IZ h.1):Yd (Tt L k) (Sn L):=by
 unfold Sn;refine Yd.each L (λ(s:A3 Rat×A3 Rat) i=>(s.1,s.2,i)) (λA s=>((∀x∈s.1,lv k x)/\∀x∈s.2,lv k x)/\(∀h∈A,OS h.1.1∈s.1/\OS h.1.2.1∈s.1/\OS h.1.2.2∈s.1/\OS h.2∈s.2)/\s.1.length=3*A.length/\s.2.length=A.length) (λA h C s k1 hA hP next=>?_) (λs k1 hP=>?_) (s0:=([],[])) (by simp) (by omega)
 ·dsimp only;rw[Cg hA,BM];refine Yd.bd (Bq hA) ?_;obtain⟨g1,g2⟩:=hL h<|at_mem hA
  have al:=Dn hA;refine Yd.each [h.1.1,h.1.2.1,h.1.2.2] (λ(t:A3 Rat) i=>(t,i)) (λB t=>t=s.1++B.map OS) (λB x D t k2 hB hQ FN=>?_) (λt k2 hQ=>?_) (s0:=s.1) (by simp) (by simp)
  ·dsimp only;have bl:=Dn hB;rw[show [h.1.1,h.1.2.1,h.1.2.2].length=3 from rfl] at bl;rw[Ab (show(B.length:Int)<3 by omega),BM];refine Yd.bd (Bq hB) (Yd.bd (xm x) (Yd.bd (app_1 (by omega) (by rw[hQ];simp;omega)) (Yd.bd (CP hB (by simp))<|FN _ ?_)));rw[hQ,LJ,Gw];rfl
  ·dsimp only;rw[show decide ((([h.1.1,h.1.2.1,h.1.2.2].length:Nat):Int)<3)=false from rfl,B8];refine Yd.bd (xm h.2) (Yd.bd (app_1 (by omega) (by omega)) (Yd.bd (CP hA (by omega))<|next (_,_) ⟨⟨?_,?_⟩,?_,?_,?_⟩))
   ·intro x mx;rw[hQ] at mx;simp only[LD,YX,BR,Ag,VV,or_false] at mx;rcases mx with m|rfl|rfl|rfl
    ·exact hP.1.1 x m
    ·exact gL g1.1
    ·exact gL g1.2.1
    ·exact gL g1.2.2
   ·intro x mx;rcases BR.1 mx with m|m
    ·exact hP.1.2 x m
    ·rw[Be.1 m];exact gL g2
   ·intro g mg;rcases BR.1 mg with m|m
    ·obtain⟨a,b,c,d⟩:=hP.2.1 g m;rw[hQ];exact⟨G3 _ a,G3 _ b,G3 _ c,G3 _ d⟩
    ·rw[Be.1 m,hQ];simp
   ·rw[hQ];simp;omega
   ·simp;omega
 ·dsimp only;rw[Ce,B8];obtain⟨⟨p1,p2⟩,p3,p4,p5⟩:=hP;refine Yd.Ak (u7 p1 (by omega) (by omega)) λm ⟨m1,m2,m3⟩=>?_
  have s7:lv 1 (7:Rat):=⟨EP A4,EP A4⟩;have a1:=MB s7 m2;have a2:=MB a1 m2;refine Yd.bd (x:=(7:Rat)) A4 (Yd.bd (oF s7 m2 (by omega) (by omega)) (Yd.bd (oF a1 m2 (by omega) (by omega)) ?_));refine Yd.Ak (u7 p2 (by omega) (by omega)) λD ⟨D1,D2,D3⟩=>?_
  have a3:lv (3*k+1) (7*m*m*D):=FK (MB a2 D2) (by omega);have e:7*m*m*D=7*(m*m*D):=by grind
  have m0:0<m:=by grind
  have D0:0<D:=by grind
  have pos:0<7*m*m*D:=by
   have:=G1 (G1 m0 m0) D0;rw[e];grind
  refine Yd.bd (oF a2 D2 (by omega) (by omega)) (Yd.Ak (alc pos (by omega) a3 (by omega)) λS IS=>?_);have pr:∀g∈L++D5 (7*m*m*D),IZ g.1:=λg mg=>(BR.1 mg).elim (hp g)<|ahS g
  have fw:Jb (3*k+1) (L++D5 (7*m*m*D)):=λg mg=>(BR.1 mg).elim (λh=>⟨Pv (hL g h).1 (by omega),FK (hL g h).2 (by omega)⟩)<|xN a3 g
  refine Yd.Ak (Yd.si IS fw (by omega) (by simp[D5];omega) (λh mh=>(hp h mh).nz) λa ma b mb=>dC (pr a ma)<|pr b mb) λr hr=>Yd.mk ⟨_,m,D,e,m0,D0,a3,λh mh=>?_,?_⟩
  ·obtain⟨a,b,c,d⟩:=p3 h mh;exact⟨⟨gK<|m3 _ a,gK<|m3 _ b,gK<|m3 _ c⟩,gK<|D3 _ d⟩
  ·rcases hr with⟨e1,N,n1,_,n3⟩|⟨e1,n⟩
   ·exact .inl ⟨e1,N,n1,n3⟩
   ·exact .inr ⟨e1,n⟩
def Tt.ql(hp:∀h∈L,IZ h.1)(hb:EA L){m D:Rat}(e:a=7*(m*m*D))(m0:0<m)(D0:0<D)(hw:∀h∈L,wi3 h.1 m/\wi h.2 D){p:Q3}(mp:Mem L p):∀h∈D5 a,val h p<0:=by
 rw[e];exact alJ hb m0 D0 (λh mh=>⟨(hp h mh).II,hw h mh⟩) mp
def Tt.PU{r:A3 D7×Bool}(h:Tt L k r)(hp:∀h∈L,IZ h.1)(hb:EA L):(r.2=true/\C9 r.1 L)\/(r.2=false/\ ¬ ∃o,∀k∈L,val k o<0):=by
 obtain⟨a,m,D,e,m0,D0,_,hw,hr⟩:=h;rcases hr with⟨e1,N,n1,n2⟩|⟨e1,n⟩
 ·exact .inl ⟨e1,(n2.drop n1 hb λp mp=>Tt.ql hp hb e m0 D0 hw mp).1⟩
 ·refine .inr ⟨e1,λ⟨o,ho⟩=>n ⟨o,λg mg=>?_⟩⟩;rcases BR.1 mg with mg|mg
  ·exact ho g mg
  ·exact Tt.ql hp hb e m0 D0 hw (λg mg=>F3<|ho g mg) g mg
def aiw{g:H3->A6 Bool}{p:H3->Bool}(hg:∀x∈L,g x=some (p x))(hl:L.length<=100000000):Zw L g=some (L.any p):=by
 have key:Yd (λi=>decide (0<=i)=L.any p) (Zx L g):=by
  unfold Zx;refine Yd.each L (λ(_:Unit) i=>i) (λA _=>A.any p=false) (λA x C s k hA hP next=>?_) (λs k hP=>?_) (s0:=()) rfl (by omega)
  ·rw[Cg hA,BM];refine Yd.bd (Bq hA) (Yd.bd (hg x<|at_mem hA) (Yd.cond (λhc=>Yd.mk ?_) λhc=>Yd.bd (CP hA (by omega))<|next () ?_))
   ·rw[Ab (by omega),hA,VO,List.any_cons,hc];simp
   ·rw[VO,hP,List.any_cons,hc];rfl
  ·rw[Ce,B8];exact Yd.mk (by rw[hP];rfl)
 obtain⟨r,r1,r2⟩:=key;unfold Zw;rw[r1,<-r2];rfl
def age{x f:H3}{l:A3 Q3}(hx:Cj n x.1/\lv n x.2)(hf:Cj n f.1/\lv n f.2)(hn:n<=10000000000):Wq x (f,l)=some (decide<|x=f):=by
 obtain⟨v,v1,_,v2⟩:=nQ hx.1 hf.1 hn;have s:Ph x.1 f.1=some (decide<|x.1=f.1):=by
  unfold Ph;rw[v1];show some (decide<|v=0)=_
  congr 1;exact GW.2 v2
 have q:S6 x.2 f.2=some (decide<|x.2=f.2):=by unfold S6;rw[M5 hx.2 hn,M5 hf.2 hn];rfl
 have e:decide (x=f)=(decide (x.1=f.1)&&decide (x.2=f.2)):=by
  rw[Yb];simp[P9]
 unfold Wq;rw[s,ED,e];cases decide (x.1=f.1)
 ·rfl
 ·show bd (S6 x.2 f.2) _=_;rw[q];rfl
theorem agB(hL:Jb k L)(h1:1<=k)(hk:k<=90)(hlen:L.length<=50)(hp:∀h∈L,IZ h.1):Yd (λb=>b=true↔EA L) (ae L):=by
 unfold ae;refine Yd.each L (λ(s:A3 H3) i=>(s,i)) (λA s=>s=A.map λh=>(h.1,(1:Rat))) (λA h C s k1 hA hP next=>?_) (λs k1 hP=>?_) (s0:=[]) rfl (by omega)
 ·dsimp only;rw[Cg hA,BM];have al:=Dn hA;refine Yd.bd (Bq hA) (Yd.bd (NH<| .inl rfl) (Yd.bd (app_1 (by omega) (by rw[hP];simp;omega)) (Yd.bd (CP hA (by omega))<|next _ ?_)));rw[hP,LJ];rfl
 ·dsimp only;rw[Ce,B8];have hO:∀h∈s,∃g∈L,h=(g.1,(1:Rat)):=λh mh=>by
   rw[hP] at mh;obtain⟨g,mg,e⟩:=BI.1 mh;exact⟨g,mg,e.symm⟩
  have hI:∀g∈L,(g.1,(1:Rat))∈s:=λg mg=>by rw[hP];exact BI.2 ⟨g,mg,rfl⟩
  have sl:s.length=L.length:=by rw[hP,Bw]
  have sp:∀h∈s,IZ h.1:=λh mh=>by obtain⟨g,mg,e⟩:=hO h mh;rw[e];exact hp g mg
  have sf:Jb k s:=λh mh=>by
   obtain⟨g,mg,e⟩:=hO h mh;rw[e];exact⟨(hL g mg).1,Jy (d:=1) (.inl rfl) k⟩
  have sb:EA s↔EA L:=by
   constructor
   ·intro hb d hd;obtain⟨h,mh,k⟩:=hb d hd;obtain⟨g,mg,e⟩:=hO h mh;rw[e] at k;exact⟨g,mg,k⟩
   ·intro hb d hd;obtain⟨g,mg,k⟩:=hb d hd;exact⟨_,hI g mg,k⟩
  refine Yd.Ak (xQ sf h1 hk (by omega) sp) λr hr=>?_
  obtain⟨a,m,D,e,m0,D0,la,hw,hr⟩:=hr;have a0:0<a:=by rw[e];have:=G1 (G1 m0 m0) D0;grind
  have s1:∀h∈s,0<h.2:=λh mh=>by obtain⟨g,mg,e⟩:=hO h mh;rw[e];show(0:Rat)<1;grind
  rcases hr with⟨e1,N,n1,n2⟩|⟨e1,n⟩
  ·have nf:Jb (3*k+1) N:=λg mg=>(n1 g).1 mg|>.elim (λh=>⟨Pv (sf g h).1 (by omega),FK (sf g h).2 (by omega)⟩) (xN la g)
   have bf:=ajd n2 n1 a0 s1 λhb p mp=>Tt.ql sp hb e m0 D0 hw mp
   rw[<-sb,bf]
   generalize r.1=S at*
   have SL:S.length<=100000000:=by
    have:=MR (l:=S.map (·.1)) (T:=s++D5 a) (Nx.2<|n2.U9.imp λh=>h) λx mx=>by
     obtain⟨f,mf,rfl⟩:=BI.1 mx;exact BR.2<|(n1 _).1 (n2.Ea f mf).1
    simp[D5] at this;omega
   refine Yd.each S (λ(_:Unit) i=>i) (λA _=>∀f∈A,f.1∈s) (λA f C u k2 hA hQ next=>?_) (λu k2 hQ=>?_) (s0:=()) (by simp) (by omega)
   ·rw[Cg hA,BM];have mf:=at_mem hA;have ff:=nf f.1 (n2.Ea f mf).1;refine Yd.bd (Bq hA) (Yd.bd (aiw (p:=λx=>decide<|x=f.1) (λx mx=>age (l:=f.2) ⟨Pv (sf x mx).1 (show k<=3*k+1 by omega),FK (sf x mx).2 (by omega)⟩ ff (by omega)) (by omega)) ?_);refine Yd.cond (λhc=>Yd.mk ?_) λhc=>Yd.bd (CP hA SL)<|next () λg mg=>?_
    ·constructor
     ·intro c;cases c
     ·intro c;have:=c f mf;rw[F6,VY] at hc;exact absurd (Ab rfl)<|hc f.1 this
    ·rcases BR.1 mg with m|m
     ·exact hQ g m
     ·rw[Be.1 m];rw[VZ,VU] at hc;obtain⟨x,mx,e⟩:=hc;rw[<-AZ e];exact mx
   ·rw[Ce,B8];exact Yd.mk ⟨λ_=>hQ,λ_=>rfl⟩
  ·refine absurd ⟨o3,λg mg=>?_⟩ n;have v:val g o3= -g.2:=by unfold val;rw[WH];grind
   rw[v];rcases BR.1 mg with mg|mg
   ·have:=s1 g mg;grind
   ·have ca:∀h∈D5 a,h.2=a:=by rw[Lv];exact⟨rfl,rfl,rfl,rfl,rfl,rfl⟩
    rw[ca g mg];grind
def akL(hx:bq x m)(hy:bq y n)(h0:y≠0)(hm:0<m/\m<=19000)(hn:0<n/\n<=19000):Xc (BG x) (BG y)=some (BG<|x/y):=by
 have key:Pb (BG y)=some (BG y⁻¹):=by
  have:Yd (λr=>r=BG y⁻¹) (Pb<|BG y):=by
   unfold Pb;refine Yd.Ak (RG hy hn.1 hn.2) ?_;rintro⟨q1,q2⟩ ⟨⟨b1,b2⟩,b3,b4⟩;dsimp only at*;have hf:=bV b2 b1 (λe=>h0<|M0.1 e) (by omega) (by omega);rw[eL] at hf;exact Yd.bd hf<|Yd.mk rfl
  obtain⟨r,e,rfl⟩:=this;exact e
 unfold Xc;rw[key];show bd (Hy (BG x)<|BG y⁻¹) (λx3=>some x3)=_;rw[xp hx (anm hy h0) hm hn,P0];rfl
abbrev Q12:=Q3×Q3×Q3×Q3
def fc(f:Q12):Prop:=vc f.1 1 14/\vc f.2.1 1 14/\vc f.2.2.1 1 14/\vc f.2.2.2 1 14
def agQ(hx:bq x n)(hy:bq y n)(h0:0<n)(hn:n<=19000)(h:BG x=BG y):x=y:=by
 obtain⟨p,e1,⟨p1,p2⟩,_⟩:=RG hx h0 hn;obtain⟨r,e2,⟨r1,r2⟩,_⟩:=RG hy h0 hn;rw[h,e2] at e1;have e:=Dg e1;subst e;have key:∀{q:Bool×A3 Int} {a b:Int},Er q a->Er q b->a=b:=by
  rintro q a b ⟨_,h2,h3⟩ ⟨_,k2,k3⟩;rw[h2] at k2;rw[h3] at k3;have:=GW.1 k3;omega
 have d:=key r2 p2;exact(Rat.ext (key r1 p1) (by omega)).symm
def c4(a b c d e:Int):Int:=bif !decide (a=0) then a else bif !decide (b=0) then b else bif !decide (c=0) then c else bif !decide (d=0) then d else e
def NP(h:lv n x):bq x (n+1):=by
 have h1:=h.1;rw[Ly] at h1;have e:(10:Nat)^n<10^(n+1):=Nat.pow_lt_pow_right (by omega) (by omega);exact⟨by omega,by have:=h.2;omega⟩
def L0(hx:lv m x)(hy:lv n y):lv (m+n) (x*y):=MB hx hy
def zM(h:bc x (1+1) n):lv (n+1) x:=S7 h (by omega) (by omega)
def lva(hx:lv m x)(hy:lv n y):lv (m+n+1) (x+y):=zM<|Rz hx hy
def lvs(hx:lv m x)(hy:lv n y):lv (m+n+1) (x-y):=zM<|pO hx hy
def lvi(hx:lv n x)(h0:x≠0):lv n x⁻¹ :=pP (e:=0) hx h0 (by omega)
end
section
variable{m n:Nat}{x y:Rat}(hx:lv m x)(hy:lv n y)(hm:m<=18000)(hn:n<=18000)
include hx hy hm hn
theorem SC:Hy (BG x) (BG y)=some (BG<|x*y):=xp (NP hx) (NP hy) ⟨by omega,by omega⟩ ⟨by omega,by omega⟩
theorem ZU:Mv (BG x) (BG y)=some (BG<|x+y):=xq (NP hx) (NP hy) ⟨by omega,by omega⟩ ⟨by omega,by omega⟩
theorem Tp:Lq (BG x) (BG y)=some (BG<|x-y):=akH (NP hx) (NP hy) ⟨by omega,by omega⟩ ⟨by omega,by omega⟩
theorem apF(h0:y≠0):Xc (BG x) (BG y)=some (BG<|x/y):=akL (NP hx) (NP hy) h0 ⟨by omega,by omega⟩ ⟨by omega,by omega⟩
end
section
variable{n:Nat}{x:Rat}
def ZH(h:lv n x)(hn:n<=18000):(BG x).length<1000000:=by have:=v7 (NP h) (by omega);omega
def Vv(h:lv n x)(hn:n<=18000):Jr (BG x)=some x.num.sign:=by
 rw[wJ<|ZH h hn]
 congr 1
 by_cases h0:x=0
 ·subst h0;rfl
 ·rw[BH h0,B8];have hn:x.num≠0:=λe=>h0<|M0.1 e
  by_cases h1:x.num<0
  ·rw[Ab h1,BM,JR h1]
  ·rw[BH h1,B8,J0 (by omega)]
def pc{m:Nat}{y:Rat}(hx:lv m x)(hy:lv n y)(hm:m<=18000)(hn:n<=18000)(h:BG x=BG y):x=y:=
 agQ (NP<|FK hx hm) (NP<|FK hy hn) (by omega) (by omega) h
end
section
variable{m n:Nat}{v w:Q3}(hv:Cj m v)(hw:Cj n w)
include hv hw
theorem yD:Cj (m+n+1) (As v w):=⟨lvs hv.1 hw.1,lvs hv.2.1 hw.2.1,lvs hv.2.2 hw.2.2⟩
theorem fE:Cj (m+n+1) (CF v w):=⟨lva hv.1 hw.1,lva hv.2.1 hw.2.1,lva hv.2.2 hw.2.2⟩
theorem Ow:Cj (2*(m+n)+1) (AS v w):=by
 have k:∀{a b c d:Rat},lv m a->lv n b->lv m c->lv n d->lv (2*(m+n)+1) (a*b-c*d):=λh1 h2 h3 h4=>FK (lvs (L0 h1 h2)<|L0 h3 h4) (by omega)
 exact⟨k hv.2.1 hw.2.2 hv.2.2 hw.2.1,k hv.2.2 hw.1 hv.1 hw.2.2,k hv.1 hw.2.1 hv.2.1 hw.1⟩
theorem ZI:lv (3*(m+n)+2) (AG v w):=FK (lva (lva (L0 hv.1 hw.1)<|L0 hv.2.1 hw.2.1)<|L0 hv.2.2 hw.2.2) (by omega)
theorem zX(h:m+n<=18000):X9 (Bt v) (Bt w)=some (Bt<|As v w):=by
 unfold X9 Bt;dsimp only;rw[Tp hv.1 hw.1 (by omega) (by omega),ED,Tp hv.2.1 hw.2.1 (by omega) (by omega),ED,Tp hv.2.2 hw.2.2 (by omega) (by omega)];rfl
theorem pI(h:m+n<=18000):UU (Bt v) (Bt w)=some (Bt<|CF v w):=by
 unfold UU Bt;dsimp only;rw[ZU hv.1 hw.1 (by omega) (by omega),ED,ZU hv.2.1 hw.2.1 (by omega) (by omega),ED,ZU hv.2.2 hw.2.2 (by omega) (by omega)];rfl
theorem iL(h:2*(m+n)+1<=18000):R0 (Bt v) (Bt w)=some (BG<|AG v w):=by
 unfold R0 Bt;dsimp only;rw[SC hv.1 hw.1 (by omega) (by omega),ED,SC hv.2.1 hw.2.1 (by omega) (by omega),ED,ZU (L0 hv.1 hw.1) (L0 hv.2.1 hw.2.1) (by omega) (by omega),ED,SC hv.2.2 hw.2.2 (by omega) (by omega),ED,ZU (lva (L0 hv.1 hw.1)<|L0 hv.2.1 hw.2.1) (L0 hv.2.2 hw.2.2) (by omega) (by omega)];rfl
theorem Vm(h:m+n<=18000):Ms (Bt v) (Bt w)=some (Bt<|AS v w):=by
 have k:∀{a b c d:Rat},lv m a->lv n b->lv m c->lv n d->∀{ρ:Type} (K:A9->A6 ρ),(bd (Hy (BG a)<|BG b) λx=>bd (Hy (BG c)<|BG d) λy=>bd (Lq x y) K)=K (BG<|a*b-c*d):=λh1 h2 h3 h4 ρ K=>by
  rw[SC h1 h2 (by omega) (by omega),ED,SC h3 h4 (by omega) (by omega),ED,Tp (L0 h1 h2) (L0 h3 h4) (by omega) (by omega),ED]
 unfold Ms Bt;dsimp only;rw[k hv.2.1 hw.2.2 hv.2.2 hw.2.1,k hv.2.2 hw.1 hv.1 hw.2.2,k hv.1 hw.2.1 hv.2.1 hw.1];rfl
end
section
variable{h:Bl}{n:Nat}{v:Q3}{l:A3 Bl}{m:Nat}
def Rx{a:Rat}(hv:Cj m v)(ha:lv n a):Cj (m+n) (Aj v a):=⟨L0 hv.1 ha,L0 hv.2.1 ha,L0 hv.2.2 ha⟩
def Vl{a:Rat}(hv:Cj m v)(ha:lv n a)(h:m+n<=18000):OZ (BG a) (Bt v)=some (Bt<|Aj v a):=by
 unfold OZ Bt;dsimp only;rw[SC ha hv.1 (by omega) (by omega),ED,SC ha hv.2.1 (by omega) (by omega),ED,SC ha hv.2.2 (by omega) (by omega),Rat.mul_comm a,Rat.mul_comm a,Rat.mul_comm a];rfl
def an4{w:Q3}(hv:Cj m v)(hw:Cj n w)(hm:m<=18000)(hn:m+n<=18000)(h:Bt v=Bt w):v=w:=by
 have a:=congrArg (·.1) h;have b:=congrArg (·.2.1) h;have c:=congrArg (·.2.2) h;exact Hb (pc hv.1 hw.1 (by omega) (by omega) a) (pc hv.2.1 hw.2.1 (by omega) (by omega) b) (pc hv.2.2 hw.2.2 (by omega) (by omega) c)
def aiv:iq v=true↔v=o3:=by
 unfold iq o3;simp[P9]
def pG(h:Cj n v)(hn:n<=18000):Wz (Bt v)=some (decide<|v=o3):=by
 have t1:=Xm v.1<|ZH h.1 hn
 have t2:=Xm v.2.1<|ZH h.2.1 hn
 have t3:=Xm v.2.2<|ZH h.2.2 hn
 have e:decide (v=o3)=iq v:=by rw[Yb,aiv,Ev]
 show some (decide<|Bt v=(([48]:A9),([48]:A9),([48]:A9)))=_;rw[e];unfold iq;rw[<-t1,<-t2,<-t3]
 congr 1
 rw[Yb];unfold Bt;simp[P9]
abbrev N3:=Int×Int×Int
def rq(s:A9):Rat:=(Ol s).getD 0
def rn(n:N3):Q3:=((n.1:Rat),(n.2.1:Rat),(n.2.2:Rat))
def rh(h:Bl):H3:=(rn h.1,rq h.2)
def Gj(n:N3):Nat:=Nat.gcd (Nat.gcd n.1.natAbs n.2.1.natAbs) n.2.2.natAbs
def F9(x:Int):Bool:=decide (999999999<x)||decide (x< -999999999)
structure CS(h:Bl):Prop where
 num:isNum h.2 (rq h.2)
 x:F9 h.1.1=false
 y:F9 h.1.2.1=false
 z:F9 h.1.2.2=false
 g:Gj h.1=1
def Vk{x:Int}(h:F9 x=false): -999999999<=x/\x<=999999999:=by
 unfold F9 at h;rw[LL] at h;have a:=Ay h.1;have b:=Ay h.2;omega
def CS.qI(o:CS h):IZ (rh h).1:=⟨_,_,_,rfl,o.g⟩
def pD{x:Int}(h:F9 x=false)(hn:9<=n):lv n (x:Rat):=by
 have:=Vk h;have e:(10:Nat)^9<=10^n:=Kl (by omega) hn;refine⟨?_,?_⟩
 ·rw[VQ];omega
 ·rw[Ye];omega
def CS.lvn(o:CS h)(hn:9<=n):Cj n (rh h).1:=⟨pD o.x hn,pD o.y hn,pD o.z hn⟩
def CS.Le(o:CS h):lv 14 (rh h).2:=ape o.num.2.1
def CS.JI{L:A3 Bl}(o:∀h∈L,CS h):Jb 14 (L.map rh):=λg mg=>by
 obtain⟨h,mh,rfl⟩:=BI.1 mg;exact⟨(o h mh).lvn (by omega),(o h mh).Le⟩
def CS.W9{L:A3 Bl}(o:∀h∈L,CS h):∀g∈L.map rh,IZ g.1:=λg mg=>by
 obtain⟨h,mh,rfl⟩:=BI.1 mg;exact(o h mh).qI
def CS.txt(o:CS h):h.2=BG (rh h).2:=o.num.1
def Vs{k:Bl}(a:CS h)(b:CS k)(e:rh h=rh k):h=k:=by
 have e1:=congrArg (·.1.1) e;have e2:=congrArg (·.1.2.1) e;have e3:=congrArg (·.1.2.2) e;have e4:=congrArg (·.2) e;exact Prod.ext (Prod.ext (fQ.1 e1)<|Prod.ext (fQ.1 e2)<|fQ.1 e3) (by rw[a.txt,b.txt,e])
def Tq(n:N3)(c:Int):Int:=bif decide (Gj n=0) then 6 else bif F9 n.1||(F9 n.2.1||F9 n.2.2) then 3 else bif !decide (Gj n=1) then 1 else c
def nN(b:Bool)(n:Int):XS b n=some (bif b then n else 0):=by cases b<;>rfl
def an2(a b c d:Int):bL [a,b,c,d]=some (bif !decide (a=0) then a else bif !decide (b=0) then b else bif !decide (c=0) then c else d):=by
 obtain⟨F,hF⟩:∃F,18446744073709551616=F+5:=⟨18446744073709551611,rfl⟩;unfold bL;rw[hF];show cond (!decide (a=0)) (some a) (cond (!decide (b=0)) (some b)<|cond (!decide (c=0)) (some c)<|cond (!decide (d=0)) (some d)<|some 0)=_;cases ha:decide (a=0)
 ·rfl
 ·cases hb:decide (b=0)
  ·rfl
  ·cases hc:decide (c=0)
   ·rfl
   ·cases hd:decide (d=0)
    ·rfl
    ·rw[AZ hd];rfl
def xi{z:Int}(h:z.natAbs<=9223372036854775808):Cl z=true:=TG (n:=20) (by omega) (by omega)
def in3(n:N3):Prop:=DB n.1/\DB n.2.1/\DB n.2.2
def acH(hi:in3 h.1){c:Int}(hc:Sm h.2=some c):Mn h=some (Tq h.1 c):=by
 have key:Yd (λr=>r=Tq h.1 c) (Mn h):=by
  unfold Mn;refine Yd.bd (x:=0) rfl ?_;refine Yd.each [h.1.1,h.1.2.1,h.1.2.2] (λ(s:Int×Bool) i=>(s.1,s.2,i)) (λA s=>s.1=((A.foldl (λg x=>Nat.gcd g x.natAbs) 0:Nat):Int)/\s.2=A.any F9) (λA x C s k hA hP next=>?_) (λs k hP=>?_) (s0:=(0,false)) ⟨rfl,rfl⟩ (by simp)
  ·dsimp only;have al:=Dn hA;rw[show [h.1.1,h.1.2.1,h.1.2.2].length=3 from rfl] at al;rw[Ab (show(A.length:Int)<3 by omega),BM];have ix:DB x:=by have:=at_mem hA;simp at this;rcases this with rfl|rfl|rfl;exact hi.1;exact hi.2.1;exact hi.2.2
   have gl:(A.foldl (λg x=>Nat.gcd g x.natAbs) 0)<=9223372036854775808:=by
    have hA':∀y∈A,y.natAbs<=9223372036854775808:=λy my=>by
     have:y∈[h.1.1,h.1.2.1,h.1.2.2]:=by rw[hA];simp[my]
     have b1:=hi.1;have b2:=hi.2.1;have b3:=hi.2.2;unfold DB at b1 b2 b3;simp at this;omega
    have:∀(l:A3 Int) (g:Nat),g<=9223372036854775808->(∀y∈l,y.natAbs<=9223372036854775808)->l.foldl (λg x=>Nat.gcd g x.natAbs) g<=9223372036854775808:=by
     intro l
     induction l with
     |nil=>intro g hg _;exact hg
     |cons y l ih=>
      intro g hg hl;refine ih _ ?_ λz mz=>hl z<|Bi _ mz
      have:=hl y Dm;rcases LK g with e|e
      ·subst e;show Nat.gcd 0 y.natAbs<=_;rw[fW];exact this
      ·exact CX (Nat.gcd_le_left _ e) hg
    exact this A 0 (by omega) hA'
   unfold DB at ix;refine Yd.bd (Bq hA) (Yd.bd (Ad ix) (Yd.bd (x:=(x.natAbs:Int)) rfl (Yd.bd (x:=((Nat.gcd (A.foldl (λg x=>Nat.gcd g x.natAbs) 0) x.natAbs:Nat):Int)) ?_ (Yd.bd (CP hA (by simp))<|next (_,_) ⟨?_,?_⟩))))
   ·unfold PX;rw[hP.1,xi (by rw[Fc];exact gl),xi (by rw[Fc];omega)];rfl
   ·rw[List.foldl_append];rfl
   ·rw[VO,hP.2];show((A.any F9||_)||_)=(_||(F9 x||false));rw[fL,Bool.or_assoc];rfl
  ·dsimp only;rw[show decide ((([h.1.1,h.1.2.1,h.1.2.2].length:Nat):Int)<3)=false from rfl,B8];have e1:s.1=((Gj h.1:Nat):Int):=by rw[hP.1];show((Nat.gcd (Nat.gcd (Nat.gcd 0 _) _) _:Nat):Int)=_;rw[fW];rfl
   have e2:s.2=(F9 h.1.1||(F9 h.1.2.1||F9 h.1.2.2)):=by rw[hP.2];simp[List.any]
   rw[e1,e2];have sm:QN ((Gj h.1:Nat):Int)=some (bif Hm ((Gj h.1:Nat):Int) then(((Gj h.1:Nat):Int),true) else(((Gj h.1:Nat):Int).sign,false)):=by
    unfold QN;rw[BH (by omega)];rfl
   refine Yd.bd sm<|Yd.bd (x:=((Gj h.1:Nat):Int).sign) rfl<|Yd.bd (nN _ _)<|Yd.bd (nN _ _)<|Yd.bd (nN _ _)<|Yd.bd hc<|Yd.bd (an2 _ _ _ _)<|Yd.mk ?_
   unfold Tq
   generalize (F9 h.1.1||(F9 h.1.2.1||F9 h.1.2.2))=f at*
   have hs:decide (((Gj h.1:Nat):Int).sign=0)=decide (Gj h.1=0):=GW.2 (by rw[Int.sign_eq_zero_iff_zero];omega);rw[hs];cases h0:decide (Gj h.1=0)
   ·cases f
    ·by_cases hb:Hm ((Gj h.1:Nat):Int)=true
     ·rw[hb];have h1:decide (((Gj h.1:Nat):Int)=1)=decide (Gj h.1=1):=GW.2 (by omega);simp only[BM,h1,Bool.not_true,Rf,B8];cases decide (Gj h.1=1)<;>rfl
     ·rw[fU] at hb;have h1:decide (Gj h.1=1)=false:=by
       refine BH λe=>?_
       rw[e] at hb;cases hb
      rw[hb,h1];rfl
    ·rfl
   ·rfl
 obtain⟨r,e,rfl⟩:=key;exact e
def uR{a b:Int}(ha: -999999999<=a/\a<=999999999)(hb: -999999999<=b/\b<=999999999):US a b=some ((Nat.gcd a.natAbs b.natAbs:Nat):Int):=by
 have key:Yd (λr=>r=((Nat.gcd a.natAbs b.natAbs:Nat):Int)) (US a b):=by
  unfold US;refine Yd.lp (λs:Int×Int=>Nat.gcd s.1.natAbs s.2.natAbs=Nat.gcd a.natAbs b.natAbs/\(-999999999<=s.1/\s.1<=999999999)/\(-999999999<=s.2/\s.2<=999999999)) (λs=>s.2.natAbs) (λnext s hs hn=>?_) _ _ ⟨rfl,ha,hb⟩ (by show b.natAbs<_;omega);obtain⟨h1,h2,h3⟩:=hs;refine Yd.cond (λhc=>?_) λhc=>?_
  ·have h0:s.2≠0:=by simpa using hc
   have t:=Int.natAbs_tmod s.1 s.2;have lt:=N8 s.1.natAbs (show 0<s.2.natAbs by omega);refine Yd.bd (x:=s.1.tmod s.2) (by unfold FP;rw[BH h0];rfl) (hn (_,_) ⟨?_,h3,by dsimp only;omega⟩ (by dsimp only;omega));dsimp only;rw[t,Rb,<-Nat.gcd_rec,Rb,h1]
  ·have h0:s.2=0:=by simpa using hc
   refine Yd.bd (x:=0-s.1) (Ad ⟨by omega,by omega⟩)<|Yd.mk ?_
   rw[p8,<-h1,h0];simp
 obtain⟨r,e,rfl⟩:=key;exact e
def adl{c:Int}(hc:Qv h.2=some c):Pc h=some (Tq h.1 c):=by
 have key:Yd (λr=>r=Tq h.1 c) (Pc h):=by
  unfold Pc Tq;have z:decide (h.1=((0:Int),(0:Int),(0:Int)))=decide (Gj h.1=0):=GW.2 (by
   unfold Gj;rw[Nat.gcd_eq_zero_iff,Nat.gcd_eq_zero_iff,P9,P9];simp only[Int.natAbs_eq_zero,and_assoc])
  rw[z];refine Yd.cond (λhz=>by rw[hz];exact Yd.mk rfl) λhz=>?_
  rw[hz,B8];refine Yd.each [h.1.1,h.1.2.1,h.1.2.2] (λ(_:Unit) i=>i) (λA _=>A.any F9=false) (λA x C s k hA hP next=>?_) (λs k hP=>?_) (s0:=()) rfl (by simp)
  ·have al:=Dn hA;rw[show [h.1.1,h.1.2.1,h.1.2.2].length=3 from rfl] at al;rw[Ab (show(A.length:Int)<3 by omega),BM];refine Yd.bd (Bq hA) ?_;have fin:∀y,y=x\/decide (x< -999999999)=true->Yd (λr=>r=(bif F9 h.1.1||(F9 h.1.2.1||F9 h.1.2.2) then 3 else bif !decide (Gj h.1=1) then 1 else c)) (cond (decide (x< -999999999)||decide (999999999<y)) (some 3)<|bd (AE<|(A.length:Int)+1) k):=by
    intro y hy;have e:(decide (x< -999999999)||decide (999999999<y))=F9 x:=by
     unfold F9;rcases hy with rfl|hy
     ·rw[Bool.or_comm]
     ·rw[hy];simp
    rw[e];refine Yd.cond (λhf=>Yd.mk ?_) λhf=>Yd.bd (CP hA (by simp))<|next () ?_
    ·have:(F9 h.1.1||(F9 h.1.2.1||F9 h.1.2.2))=true:=by
      have:=at_mem hA;simp at this;rcases this with rfl|rfl|rfl<;>rw[hf]<;>simp
     rw[this];rfl
    ·rw[VO,hP];show(false||(F9 x||false))=false;rw[hf];rfl
   cases hx:decide (x< -999999999)
   ·rw[hx] at fin;exact Yd.bd (Bq hA)<|fin x<| .inl rfl
   ·rw[hx] at fin;exact fin 0<| .inr rfl
  ·rw[show decide ((([h.1.1,h.1.2.1,h.1.2.2].length:Nat):Int)<3)=false from rfl,B8];simp only[List.any_cons,List.any_nil,fL,LL] at hP;obtain⟨p1,p2,p3⟩:=hP;have b1:=Vk p1;have b2:=Vk p2;have b3:=Vk p3;have g0:Gj h.1≠0:=Ay hz;have gl:Nat.gcd h.1.1.natAbs h.1.2.1.natAbs<=999999999:=by
    rcases LK h.1.1.natAbs with e|e
    ·rw[e,fW];omega
    ·exact CX (Nat.gcd_le_left _ e) (by omega)
   refine Yd.bd (uR b1 b2) (Yd.bd (uR (b:=h.1.2.2) ⟨by omega,by omega⟩ b3) ?_);rw[Fc,p1,p2,p3];have e:decide ((((Nat.gcd (Nat.gcd h.1.1.natAbs h.1.2.1.natAbs) h.1.2.2.natAbs:Nat)):Int)=1)=decide (Gj h.1=1):=GW.2 (by unfold Gj;omega);rw[e];refine Yd.cond (λh1=>by rw[h1];exact Yd.mk rfl) λh1=>by rw[h1];exact Yd.bd hc<|Yd.mk rfl
 obtain⟨r,e,rfl⟩:=key;exact e
def sJ(hi:in3 h.1)(hl:h.2.length<=14):∃c,Mn h=some c/\Pc h=some c/\(c=0->CS h):=by
 obtain⟨c,c1,c2,c3⟩:=ur hl;refine⟨_,acH hi c1,adl c2,λe=>?_⟩;unfold Tq at e;cases h0:decide (Gj h.1=0) with
 |true=>rw[h0] at e;cases e
 |false=>
  rw[h0,B8] at e;cases hf:F9 h.1.1||(F9 h.1.2.1||F9 h.1.2.2) with
  |true=>rw[hf] at e;cases e
  |false=>
   rw[hf,B8] at e;cases h1:decide (Gj h.1=1) with
   |false=>rw[h1] at e;cases e
   |true=>
    rw[h1] at e;obtain⟨q,hq⟩:=c3 e;rw[LL,LL] at hf;refine⟨?_,hf.1,hf.2.1,hf.2.2,AZ h1⟩;unfold rq;rw[hq.2.2];exact hq
def abw(hl:∀h∈l,in3 h.1/\h.2.length<=14)(hn:l.length<=100000000):∃c,Wj l=some c/\aG l=some c/\(c=0->∀h∈l,CS h):=by
 let f:Bl->Int:=λh=>(Mn h).getD 0
 have hf:∀h∈l,Mn h=some (f h)/\Pc h=some (f h)/\(f h=0->CS h):=λh mh=>by
  obtain⟨c,c1,c2,c3⟩:=sJ (hl h mh).1 (hl h mh).2;have:f h=c:=by show(Mn h).getD 0=c;rw[c1];rfl
  rw[this];exact⟨c1,c2,c3⟩
 let g:A3 Bl->Int:=λl=>((l.map f).find? λc=> !decide (c=0)).getD 0
 have one:∀(chk:Bl->A6 Int),(∀h∈l,chk h=some (f h))->Yd (λr=>r=g l) (B6 (λk2 (s1:Int)=>cond (decide<|s1<(l.length:Int)) (bd (A8 l s1) λx4=>bd (chk x4) λx6=>cond (!decide (x6=0)) (some x6)<|bd (AE<|s1+1) λx9=>k2 x9)<|some 0) 0):=by
  intro chk as5;refine Yd.each l (λ(_:Unit) i=>i) (λA _=>∀h∈A,f h=0) (λA x C s k hA hP next=>?_) (λs k hP=>?_) (s0:=()) (by simp) (by omega)
  ·rw[Cg hA,BM];refine Yd.bd (Bq hA)<|Yd.bd (as5 x<|at_mem hA)<|Yd.cond (λhc=>Yd.mk ?_) λhc=>Yd.bd (CP hA hn)<|next () λh mh=>?_
   ·show _=((l.map f).find? _).getD 0;rw[hA,LJ,List.find?_append,List.find?_eq_none.2 (λc mc=>by obtain⟨h,mh,rfl⟩:=BI.1 mc;rw[hP h mh];simp),LD,List.find?_cons_of_pos (p:=λc:Int=> !decide (c=0)) (a:=f x) hc];rfl
   ·rcases BR.1 mh with m|m
    ·exact hP h m
    ·rw[Be.1 m];simpa using hc
  ·rw[Ce,B8];refine Yd.mk ?_;show _=((l.map f).find? _).getD 0;rw[List.find?_eq_none.2 (λc mc=>by obtain⟨h,mh,rfl⟩:=BI.1 mc;rw[hP h mh];simp)];rfl
 obtain⟨r,r1,rfl⟩:=one Mn λh mh=>(hf h mh).1
 obtain⟨r,r2,rfl⟩:=one Pc λh mh=>(hf h mh).2.1
 refine⟨g l,r1,r2,λe h mh=>(hf h mh).2.2 ?_⟩;refine CC λhne=>?_
 have:((l.map f).find? λc=> !decide (c=0)).getD 0=0:=e;cases hF:(l.map f).find? λc=> !decide (c=0) with
 |none=>exact List.find?_eq_none.1 hF (f h) (BI.2 ⟨h,mh,rfl⟩) (by simpa using hne)
 |some c=>
  rw[hF] at this;have c0:c=0:=this;have:=List.find?_some hF;rw[c0] at this;cases this
def ot{x:Int}(h:F9 x=false):qF x=some (x:Rat):=by
 have:=Vk h;unfold qF;rw[Ad ⟨by omega,by omega⟩];rfl
def CS.from(o:CS h):UP h=some (rh h):=by
 unfold UP Mz;rw[ot o.x,ot o.y,ot o.z,o.num.2.2];rfl
def akM(o:∀h∈l,CS h)(hl:l.length<=100000000):Ue l=some (l.map rh):=by
 have key:Yd (λr=>r=l.map rh) (Ue l):=by
  unfold Ue;refine Yd.each l (λ(s:A3 H3) i=>(s,i)) (λA s=>s=A.map rh) (λA x C s k hA hP next=>?_) (λs k hP=>?_) (s0:=[]) rfl (by omega)
  ·dsimp only;rw[Cg hA,BM];have al:=Dn hA;exact Yd.bd (Bq hA) (Yd.bd (o x<|at_mem hA).from (Yd.bd (app_1 (by omega) (by rw[hP,Bw];omega)) (Yd.bd (CP hA hl) (next _ (by rw[hP,LJ];rfl)))))
  ·dsimp only;rw[Ce,B8];exact Yd.mk hP
 obtain⟨r,e,rfl⟩:=key;exact e
def IL(a b:N3):Prop:=a.1<b.1\/a.1=b.1/\(a.2.1<b.2.1\/a.2.1=b.2.1/\a.2.2<b.2.2)
instance(a b:N3):Decidable (IL a b):=by unfold IL;exact inferInstance
def kv(a b:Int):UD a b=some (bif decide (a<b) then -1 else bif decide (b<a) then 1 else 0):=by
 unfold UD X3;rw[Ab rfl,Ab rfl];simp only[bd,Bool.not_true,B8];cases decide (a<b)
 ·cases decide (b<a)<;>rfl
 ·rfl
def ahY(a b:N3):∃v,UQ a b=some v/\(v<0↔IL a b):=by
 unfold UQ;rw[kv,kv,kv];simp only[bd];rw[or3];refine⟨_,rfl,?_⟩;obtain⟨a1,a2,a3⟩:=a;obtain⟨b1,b2,b3⟩:=b;unfold IL;simp only;have Lc:∀x y:Int,(x<y/\ ¬y<x/\x≠y)\/(¬x<y/\ ¬y<x/\x=y)\/(¬x<y/\y<x/\x≠y):=λx y=>by omega
 rcases Lc a1 b1 with⟨h1,h2,h3⟩|⟨h1,h2,h3⟩|⟨h1,h2,h3⟩<;>rcases Lc a2 b2 with⟨g1,g2,g3⟩|⟨g1,g2,g3⟩|⟨g1,g2,g3⟩<;>rcases Lc a3 b3 with⟨k1,k2,k3⟩|⟨k1,k2,k3⟩|⟨k1,k2,k3⟩<;>simp[h1,h2,h3,g1,g2,g3,k1,k2,k3]
def lF(a b:N3):Si a b=some (decide<|IL a b):=by
 have key:Yd (λr=>r=decide (IL a b)) (Si a b):=by
  unfold Si;refine Yd.each [(a.1,b.1),(a.2.1,b.2.1),(a.2.2,b.2.2)] (λ(_:Unit) i=>i) (λA _=>∀p∈A,p.1=p.2) (λA x C s k hA hP next=>?_) (λs k hP=>?_) (s0:=()) (by simp) (by simp)
  ·have al:=Dn hA;rw[show [(a.1,b.1),(a.2.1,b.2.1),(a.2.2,b.2.2)].length=3 from rfl] at al;rw[Ab (show(A.length:Int)<3 by omega),BM];have ix:=Bq hA;have i1:A8 [a.1,a.2.1,a.2.2] (A.length:Int)=some x.1:=by
    rw[K9] at ix⊢;have:=congrArg (Option.map (·.1)) ix;rwa [<-GX] at this
   have i2:A8 [b.1,b.2.1,b.2.2] (A.length:Int)=some x.2:=by
    rw[K9] at ix⊢;have:=congrArg (Option.map (·.2)) ix;rwa [<-GX] at this
   refine Yd.bd i1 (Yd.bd i2 (Yd.cond (λhc=>Yd.bd i1<|Yd.bd i2<|Yd.mk<|GW.2 ?_) λhc=>Yd.bd (CP hA (by simp))<|next () λp mp=>?_))
   ·have hne:x.1≠x.2:=by simpa using hc
    unfold IL;rcases A with _|⟨a0,_|⟨a1,_|⟨a2,A⟩⟩⟩
    ·simp only[I4,Yf] at hA;obtain⟨e,_⟩:=hA;subst e;dsimp only at hne⊢;omega
    ·simp only[Q9,I4,Yf] at hA;obtain⟨e0,e,_⟩:=hA;have h0:=hP a0 (by simp);subst e0 e;dsimp only at hne h0⊢;omega
    ·simp only[Q9,I4,Yf] at hA;obtain⟨e0,e1,e,_⟩:=hA;have h0:=hP a0 (by simp);have h1:=hP a1 (by simp);subst e0 e1 e;dsimp only at hne h0 h1⊢;omega
    ·simp at al
   ·rcases BR.1 mp with m|m
    ·exact hP p m
    ·rw[Be.1 m];simpa using hc
  ·rw[show decide ((([(a.1,b.1),(a.2.1,b.2.1),(a.2.2,b.2.2)].length:Nat):Int)<3)=false from rfl,B8];refine Yd.mk (BH ?_).symm;have h0:=hP _ (by simp:(a.1,b.1)∈_);have h1:=hP _ (by simp:(a.2.1,b.2.1)∈_);have h2:=hP _ (by simp:(a.2.2,b.2.2)∈_);dsimp only at h0 h1 h2;unfold IL;omega
 obtain⟨r,e,rfl⟩:=key;exact e
def oZ(a:N3): ¬IL a a:=by unfold IL;omega
def zf{a b c:N3}:IL a b->IL b c->IL a c:=by unfold IL;omega
def yk(a b:N3):a=b\/IL a b\/IL b a:=by
 obtain⟨a1,a2,a3⟩:=a;obtain⟨b1,b2,b3⟩:=b;unfold IL;simp only[LC];omega
abbrev J6(a b:Bl):Prop:=IL a.1 b.1
theorem ahP{S:A3 D7}{L:A3 H3}(I:C9 S L){f g:D7}(mf:f∈S)(mg:g∈S)(e:f.1.1=g.1.1):f.1=g.1:=by
 have le:∀{f g:D7},f∈S->g∈S->f.1.1=g.1.1->f.1.2<=g.1.2:=λ{f g} mf mg e=>by
  obtain⟨f1,_,f3,f4⟩:=I.Ea f mf;obtain⟨p,mp⟩:=List.exists_mem_of_ne_nil f.2 (λe=>by rw[e] at f3;simp at f3);obtain⟨vp,tp⟩:=(f4 p).1 mp;have:=vp.1 g.1 (I.Ea g mg).1;unfold val at this tp;rw[e] at tp;grind
 exact Prod.ext e<|Rat.le_antisymm (le mf mg e)<|le mg mf e.symm
def LS(L:A3 H3):Prop:=∃o,∀k∈L,val k o<0
def yB(o:∀h∈l,CS h)(hl:l.length<=50):
  Yd (λr=>(r.2=13/\ ¬EA (l.map rh))\/(r.2=12/\EA (l.map rh)/\ ¬LS (l.map rh))\/(r.2=0/\C9 r.1 (l.map rh))) (XU l):=by
 have JI:=CS.JI o;have pr:=CS.W9 o;have ll:(l.map rh).length=l.length:=Bw _;unfold XU;refine Yd.bd (akM o (by omega)) (Yd.Ak (agB JI (by omega) (by omega) (by omega) pr) λb hb=>?_);refine Yd.cond (λhc=>Yd.mk<| .inl ⟨rfl,λc=>?_⟩) λhc=>?_
 ·rw[hb.2 c] at hc;cases hc
 ·have hB:EA (l.map rh):=hb.1 (by simpa using hc);refine Yd.Ak (xQ JI (by omega) (by omega) (by omega) pr) λr hr=>?_
  rcases hr.PU pr hB with⟨e,h⟩|⟨e,h⟩
  ·rw[e];exact Yd.mk<| .inr<| .inr ⟨rfl,h⟩
  ·rw[e];exact Yd.mk<| .inr<| .inl ⟨rfl,hB,h⟩
def Asc(l:A3 Bl):Prop:=∀A x y C,l=A++x::y::C->J6 x y
def ym{A:A3 Bl}{x y:Bl}{C:A3 Bl}(e:l=A++x::y::C)(h:Asc (A++[x]))(b:J6 x y):Asc (A++[x]++[y]):=by
 intro A' x' y' C' e';rcases List.eq_nil_or_concat C' with rfl|⟨D,z,rfl⟩
 ·have e2:A++[x]++[y]=(A'++[x'])++[y']:=by rw[e'];simp
  obtain⟨e3,e4⟩:=Yg e2 rfl;obtain⟨_,e5⟩:=Yg e3 rfl;cases e4;cases e5;exact b
 ·have e2:A++[x]++[y]=(A'++x'::y'::D)++[z]:=by rw[e'];simp
  obtain⟨e3,_⟩:=Yg e2 rfl;exact h A' x' y' D e3
def ag6(o:∀h∈l,CS h)(hc:Wj l=some 0)(hl:l.length<=32):
  Yd (λr=>(r.2=11/\ ¬Asc l)\/(Asc l/\((r.2=13/\ ¬EA (l.map rh))\/(r.2=12/\EA (l.map rh)/\ ¬LS (l.map rh))\/(C9 r.1 (l.map rh)/\r.2=bif decide (r.1.length<l.length) then 1 else 0)))) (Sg l):=by
 unfold Sg;rw[BH (show¬32<(l.length:Int) by omega),B8,hc];refine Yd.bd rfl ?_;show Yd _ (lp _ _ 0);refine Yd.each l (λ(_:Unit) i=>i) (λA _=>Asc A) (λA x C s k hA hP next=>?_) (λs k hP=>?_) (s0:=()) (λA x y C e=>by cases A<;>cases e) (by omega)
 ·rw[Cg hA,BM];obtain rfl|⟨B,y,rfl⟩:A=[]\/∃B y,A=B++[y]:=(List.eq_nil_or_concat A).imp id λ⟨B,y,h⟩=>⟨B,y,by rw[h,List.concat_eq_append]⟩
  ·exact Yd.bd (CP hA (by omega)) (next () λA' x' y' C' e=>by
    have:=congrArg List.length e;simp at this;omega)
  ·have i1:A8 l (B.length:Int)=some y:=by rw[K9,hA];simp
   have i2:=Bq hA;have al:=Dn hA;have f:=CP hA (by omega);obtain⟨v,v1,v2⟩:=ahY y.1 x.1;have en:(B++[y]).length=B.length+1:=by simp
   have nx:=next ()
   have Hw:=ym (l:=l) (A:=B) (x:=y) (y:=x) (C:=C) (by rw[hA];simp) hP
   generalize (B++[y]).length=m at*
   subst en;have hpos:decide ((0:Int)<((B.length+1:Nat):Int))=true:=Ab (by omega);rw[hpos,show gd true true=true from rfl,DC rfl];refine Yd.bd (x:=(B.length:Int)) (by rw[Ad ⟨by omega,by omega⟩];exact congrArg some (by omega)) ?_;rw[DC rfl];refine Yd.bd i1 ?_;rw[DC rfl];refine Yd.bd i2 ?_;rw[DC rfl];refine Yd.bd v1 ?_;rw[JO];refine Yd.cond (λhv=>Yd.mk<| .inl ⟨rfl,λc=>?_⟩) λhv=>?_
   ·have:=v2.2 (c B y x C (by rw[hA];simp));have:=AZ hv;omega
   ·have:=Ay hv;exact Yd.bd f (nx (Hw (v2.1 (by omega))))
 ·rw[Ce,B8];refine Yd.Ak (yB o (by omega)) λr hr=>?_
  rcases hr with⟨e,h⟩|⟨e,h1,h2⟩|⟨e,h⟩
  ·rw[e];exact Yd.mk<| .inr ⟨hP,.inl ⟨rfl,h⟩⟩
  ·rw[e];exact Yd.mk<| .inr ⟨hP,.inr<| .inl ⟨rfl,h1,h2⟩⟩
  ·rw[e];have hd:decide ((r.1.length:Int)<(l.length:Int))=decide (r.1.length<l.length):=GW.2 (by omega);rw[hd];show Yd _ (cond (decide<|r.1.length<l.length) (some (r.1,1))<|some (r.1,0));cases hq:decide (r.1.length<l.length)
   ·exact Yd.mk (.inr ⟨hP,.inr (.inr ⟨h,by dsimp only;rw[hq];rfl⟩)⟩)
   ·exact Yd.mk (.inr ⟨hP,.inr (.inr ⟨h,by dsimp only;rw[hq];rfl⟩)⟩)
def agq{n:Int}(h: -999999999<=n/\n<=999999999):Yd (λp=>Er p n/\p.2.length<=1) (Qs n):=by
 obtain⟨F,hF⟩:∃F,18446744073709551616=F+2:=⟨18446744073709551614,rfl⟩;unfold Qs;rw[hF];show Yd _ (cond (!decide (n=0)) _ _);refine Yd.cond (λhc=>?_) λhc=>?_
 ·have h0:n≠0:=by simpa using hc
  have rm:n.tmod 1000000000=n:=by
   rcases Int.le_total 0 n with g|g
   ·exact Int.tmod_eq_of_lt g (by omega)
   ·have h2:=Int.tmod_eq_of_lt (a:= -n) (b:=1000000000) (by omega) (by omega);rw[Int.neg_tmod] at h2;omega
  have dv:n.tdiv 1000000000=0:=by
   have:=Int.mul_tdiv_add_tmod n 1000000000;rw[rm] at this;omega
  refine Yd.bd (x:=n) (by show some (n.tmod 1000000000)=_;rw[rm]) ?_;refine Yd.jn (λd=>d=(n.natAbs:Int)) ?_ λk7 h7=>Yd.cond (λhc=>Yd.bd (Ad ⟨by omega,by omega⟩) (h7 _ (by have:=AZ hc;omega))) λhc=>h7 _ (by have:=Ay hc;omega)
  rintro d rfl;refine Yd.bd (x:=[(n.natAbs:Int)]) (yo (by simp)) (Yd.bd (x:=0) (by show AE (n.tdiv 1000000000)=_;rw[dv];rfl) ?_);show Yd _ (bd (KT (decide<|n<0) [(n.natAbs:Int)]) _);refine Yd.Ak (Po (z:=n) (λx mx=>?_) (by simp) ?_) λp hp=>Yd.mk hp
  ·rw[Be.1 mx];exact⟨by omega,by show _<(1000000000:Int);omega⟩
  ·have e:AF [(n.natAbs:Int)]=(n.natAbs:Int):=by show(n.natAbs:Int)+1000000000*0=_;omega
   rw[e];cases hn:decide (n<0)
   ·have:=Ay hn;simp only[B8];omega
   ·have:=AZ hn;simp only[BM];omega
 ·have h0:n=0:=by simpa using hc
  subst h0;exact Yd.Ak (Po (z:=0) (λx mx=>by cases mx) (by simp) rfl) λp hp=>Yd.mk ⟨hp.1,CX hp.2 (by simp)⟩
def agP(n:Int):BG (n:Rat)=CU n:=by
 unfold BG;rw[VQ,Ye];simp
def kd{n:Int}(h:F9 n=false):UK n=some (BG (n:Rat)):=by
 obtain⟨p,e,h1,h2⟩:=agq<|Vk h
 unfold UK;rw[e,ED,mY h1 (by omega),agP];rfl
end
section
variable{h:Bl}(o:CS h)
include o
theorem TE:OX h=some (Bt (rh h).1):=by
 unfold OX Of;rw[kd o.x,ED,kd o.y,ED,kd o.z];rfl
theorem gI{p:Q3}{n:Nat}(hp:Cj n p)(hn:n<=5000):XK h (Bt p)=some (BG<|val (rh h) p)/\lv (3*n+44) (val (rh h) p):=by
 have l:=o.lvn (n:=9) (by omega);have d:=ZI l hp;refine⟨?_,FK (lvs d o.Le) (by omega)⟩;unfold XK;rw[TE o,ED,iL l hp (by omega),ED];have e:=Tp d o.Le (by omega) (by omega);rw[<-o.txt] at e;rw[e];rfl
theorem pH{p:Q3}{n:Nat}(hp:Cj n p)(hn:n<=5000):Uf h (Bt p)=some (val (rh h) p).num.sign:=by
 obtain⟨e,l⟩:=gI o hp hn;unfold Uf;rw[e,ED,Vv l (by omega)];rfl
end
section
variable{l:A3 Bl}{p:Q3}{M:A3 H3}{n:Nat}{α:Type}{x:α}{C:A3 Q3}{A:A3 α}{S:A3 D7}
def ala{x:Rat}(hx:lv n x)(h0:x≠0)(hn:n<=18000):Pb (BG x)=some (BG x⁻¹):=by
 have o:lv 1 (1:Rat):=Jy (d:=1) (.inl rfl) 1;have key:Yd (λr=>r=BG x⁻¹) (Pb<|BG x):=by
  unfold Pb;refine Yd.Ak (RG (NP hx) (by omega) (by omega)) ?_;rintro⟨q1,q2⟩ ⟨⟨b1,b2⟩,b3,b4⟩;dsimp only at*;have hf:=bV b2 b1 (λe=>h0<|M0.1 e) (by omega) (by omega);rw[eL] at hf;exact Yd.bd hf<|Yd.mk rfl
 obtain⟨r,e,rfl⟩:=key;exact e
def xI{x:Rat}(hx:lv n x)(hn:n<=18000):UT (BG x)=some (decide<|x=0):=by
 unfold UT;rw[Xm x<|ZH hx hn]
theorem oU(a b c:Q3):AG a (AS b c)=E0 a b c:=by unfold E0 AG AS;grind
def afs{a b c:Bl}(oa:CS a)(ob:CS b)(oc:CS c):
  aW a b c=some (bif decide (E0 (rh a).1 (rh b).1 (rh c).1=0) then(([],[],[]),false) else(Bt<|I8 (rh a) (rh b)<|rh c,true)):=by
 have la:=oa.lvn (n:=9) (by omega);have lb:=ob.lvn (n:=9) (by omega);have lc:=oc.lvn (n:=9) (by omega);have bc':=Ow lb lc;have ca':=Ow lc la;have ab':=Ow la lb;have ld:=ZI la bc';unfold aW kn;rw[TE oa,ED,TE ob,ED,TE oc,ED,Vm lb lc (by omega),ED,iL la bc' (by omega),ED,ED,xI ld (by omega),ED,oU];rw[oU] at ld;cases hd:decide (E0 (rh a).1 (rh b).1 (rh c).1=0)
 ·have s1:=Vl bc' oa.Le (by omega);have s2:=Vl ca' ob.Le (by omega);have s3:=Vl ab' oc.Le (by omega);rw[<-oa.txt] at s1;rw[<-ob.txt] at s2;rw[<-oc.txt] at s3;have t1:=Rx bc' oa.Le;have t2:=Rx ca' ob.Le;have t3:=Rx ab' oc.Le;have t4:=fE t1 t2;have t5:=fE t4 t3;have h0:=Ay hd;simp only[B8];rw[ED,s1,ED,Vm lc la (by omega),ED,s2,ED,pI t1 t2 (by omega),ED,Vm la lb (by omega),ED,s3,ED,pI t4 t3 (by omega),ED,ala ld h0 (by omega),ED,Vl t5 (lvi ld h0) (by omega)]
  rfl
 ·rfl
def akj{a b c:Bl}(oa:CS a)(ob:CS b)(oc:CS c)(h0:E0 (rh a).1 (rh b).1 (rh c).1≠0):Cj 500 (I8 (rh a) (rh b)<|rh c):=by
 have la:=oa.lvn (n:=9) (by omega);have lb:=ob.lvn (n:=9) (by omega);have lc:=oc.lvn (n:=9) (by omega);have ld:=ZI la<|Ow lb lc
 rw[oU] at ld;exact Pv (Rx (fE (fE (Rx (Ow lb lc) oa.Le)<|Rx (Ow lc la) ob.Le)<|Rx (Ow la lb) oc.Le)<|lvi ld h0) (by omega)
def wu(o:∀h∈l,CS h)(hl:l.length<=100000000){d:Q3}(hd:Cj n d)(hn:n<=5000):Yd (λb=>b=true↔∃h∈l,0<AG (rh h).1 d) (Ua l<|Bt d):=by
 unfold Ua;refine Yd.each l (λ(_:Unit) i=>i) (λA _=>∀h∈A,¬0<AG (rh h).1 d) (λA x C s k hA hP next=>?_) (λs k hP=>?_) (s0:=()) (by simp) (by omega)
 ·rw[Cg hA,BM];have ox:=o x<|at_mem hA
  have l9:=ox.lvn (n:=9) (by omega);refine Yd.bd (Bq hA) (Yd.bd (TE ox) (Yd.bd (iL l9 hd (by omega)) (Yd.bd (Vv (ZI l9 hd) (by omega)) ?_)));rw[Xz];refine Yd.cond (λhc=>Yd.mk ⟨λ_=>⟨x,at_mem hA,AZ hc⟩,λ_=>rfl⟩) λhc=>Yd.bd (CP hA hl)<|next () λh mh=>?_
  rcases BR.1 mh with m|m
  ·exact hP h m
  ·rw[Be.1 m];exact Ay hc
 ·rw[Ce,B8];exact Yd.mk ⟨λc=>(by cases c),λ⟨h,mh,c⟩=>absurd c<|hP h mh⟩
def alv:BG (-1)=[45,49]:=A4
def aoP(u v:Q3):Aj (AS u v) (-1)=AS v u:=(Ut u v).symm
def aeD(o:∀h∈l,CS h)(hl:l.length<=50):Yd (λb=>b=true↔EA (l.map rh)) (aN l):=by
 have bi:EA (l.map rh)↔(∃f∈l,∃g∈l,AS (rh f).1 (rh g).1≠o3)/\∀f∈l,∀g∈l,AS (rh f).1 (rh g).1≠o3->∃h∈l,0<AG (rh h).1 (AS (rh f).1 (rh g).1):=by
  rw[alh];have mm:∀{h:Bl},h∈l->rh h∈l.map rh:=λmh=>BI.2 ⟨_,mh,rfl⟩
  constructor
  ·rintro⟨⟨f,mf,g,mg,c⟩,h⟩;obtain⟨a,ma,rfl⟩:=BI.1 mf;obtain⟨b,mb,rfl⟩:=BI.1 mg;refine⟨⟨a,ma,b,mb,c⟩,λx mx y my c=>?_⟩;obtain⟨k,mk,c⟩:=h _ (mm mx) _ (mm my) c;obtain⟨z,mz,rfl⟩:=BI.1 mk;exact⟨z,mz,c⟩
  ·rintro⟨⟨f,mf,g,mg,c⟩,h⟩;refine⟨⟨_,mm mf,_,mm mg,c⟩,λx mx y my c=>?_⟩;obtain⟨a,ma,rfl⟩:=BI.1 mx;obtain⟨b,mb,rfl⟩:=BI.1 my;obtain⟨z,mz,c⟩:=h a ma b mb c;exact⟨_,mm mz,c⟩
 rw[show(λb:Bool=>b=true↔EA (l.map rh))=λb:Bool=>b=true↔(∃f∈l,∃g∈l,AS (rh f).1 (rh g).1≠o3)/\∀f∈l,∀g∈l,AS (rh f).1 (rh g).1≠o3->∃h∈l,0<AG (rh h).1 (AS (rh f).1 (rh g).1) from funext λb=>propext (by rw[bi])];unfold aN;refine Yd.each l (λ(s:Bool) i=>(s,i)) (λA s=>(s=true↔∃f∈A,∃g∈A,AS (rh f).1 (rh g).1≠o3)/\∀f∈A,∀g∈A,AS (rh f).1 (rh g).1≠o3->∃h∈l,0<AG (rh h).1 (AS (rh f).1 (rh g).1)) (λA x C s k hA hP next=>?_) (λs k hP=>?_) (s0:=false) (by simp) (by omega)
 ·dsimp only;rw[Cg hA,BM];have al:=Dn hA;have mx:=at_mem hA;have mA:∀y∈A,y∈l:=λy my=>by rw[hA];exact G3 _ my
  refine Yd.each A (λ(t:Bool) i=>(t,i)) (λB t=>(t=true↔(∃f∈A,∃g∈A,AS (rh f).1 (rh g).1≠o3)\/∃g∈B,AS (rh x).1 (rh g).1≠o3)/\∀g∈B,AS (rh x).1 (rh g).1≠o3->(∃h∈l,0<AG (rh h).1 (AS (rh x).1 (rh g).1))/\∃h∈l,0<AG (rh h).1 (AS (rh g).1 (rh x).1)) (λB y D t k2 hB hQ FN=>?_) (λt k2 hQ=>?_) (s0:=s) (by simpa using hP.1) (by omega)
  ·dsimp only;rw[Cg hB,BM];have my:=mA y<|at_mem hB
   have hB':l=B++y::(D++x::C):=by rw[hA,hB];simp
   refine Yd.jn (λt:Bool=>(t=true↔(∃f∈A,∃g∈A,AS (rh f).1 (rh g).1≠o3)\/∃g∈B++[y],AS (rh x).1 (rh g).1≠o3)/\∀g∈B++[y],AS (rh x).1 (rh g).1≠o3->(∃h∈l,0<AG (rh h).1 (AS (rh x).1 (rh g).1))/\∃h∈l,0<AG (rh h).1 (AS (rh g).1 (rh x).1)) (λt ht=>Yd.bd (CP hB (by omega))<|FN t ht) λk8 h8=>?_
   have lx:=(o x mx).lvn (n:=9) (by omega);have ly:=(o y my).lvn (n:=9) (by omega);have lc:=Ow lx ly;refine Yd.bd (Bq hA) (Yd.bd (TE<|o x mx) (Yd.bd (Bq hB') (Yd.bd (TE<|o y my) (Yd.bd (Vm lx ly (by omega)) (Yd.bd (pG lc (by omega)) ?_)))));have sp:∀{P:Bl->Prop},(∀g∈B++[y],P g)↔(∀g∈B,P g)/\P y:=λ{P}=>by simp[or_imp,forall_and]
   have ex:∀{P:Bl->Prop},(∃g∈B++[y],P g)↔(∃g∈B,P g)\/P y:=λ{P}=>by simp[YV,exists_or]
   rw[sp] at h8;rw[ex] at h8;refine Yd.cond (λhc=>h8 _ ?_) λhc=>?_
   ·have:=AZ hc;exact⟨by rw[hQ.1];simp[this],hQ.2,λc=>absurd this c⟩
   ·have h0:=Ay hc;refine Yd.Ak (wu o (by omega) lc (by omega)) λb hb=>?_
    cases b with
    |false=>
     show Yd _ (some false);refine Yd.mk ⟨λc=>(by cases c),λc=>?_⟩;have:=hb.2<|c.2 x mx y my h0
     cases this
    |true=>
     show Yd _ (bd (OZ [45,49]<|Bt<|AS (rh x).1 (rh y).1) _);have l1:lv 1 (-1:Rat):=Jy (d:= -1) (.inr rfl) 1;have sc:=Vl lc l1 (by omega);rw[alv,aoP] at sc;refine Yd.bd sc ?_;show Yd _ (bd (Ua l _) _);refine Yd.Ak (wu o (by omega) (Ow ly lx) (by omega)) λb' B2=>?_
     cases b' with
     |false=>
      refine Yd.mk ⟨λc=>(by cases c),λc=>?_⟩;have:=B2.2 (c.2 y my x mx λe=>h0 (by rw[Ut,e,qG]));cases this
     |true=>
      refine h8 true ⟨⟨λ_=> .inr<| .inr h0,λ_=>rfl⟩,hQ.2,λ_=>⟨hb.1 rfl,B2.1 rfl⟩⟩
  ·dsimp only;rw[Ce,B8];refine Yd.bd (CP hA (by omega))<|next t ⟨?_,?_⟩
   ·rw[hQ.1];constructor
    ·rintro(⟨f,mf,g,mg,c⟩|⟨g,mg,c⟩)
     ·exact⟨f,by simp[mf],g,by simp[mg],c⟩
     ·exact⟨x,by simp,g,by simp[mg],c⟩
    ·rintro⟨f,mf,g,mg,c⟩;rcases BR.1 mf with mf|mf<;>rcases BR.1 mg with mg|mg
     ·exact .inl ⟨f,mf,g,mg,c⟩
     ·rw[Be.1 mg] at c;exact .inr ⟨f,mf,λe=>c (by rw[Ut,e,qG])⟩
     ·rw[Be.1 mf] at c;exact .inr ⟨g,mg,c⟩
     ·rw[Be.1 mf,Be.1 mg] at c;exact absurd Te c
   ·intro f mf g mg c;rcases BR.1 mf with mf|mf<;>rcases BR.1 mg with mg|mg
    ·exact hP.2 f mf g mg c
    ·rw[Be.1 mg] at c⊢;exact(hQ.2 f mf λe=>c (by rw[Ut,e,qG])).2
    ·rw[Be.1 mf] at c⊢;exact(hQ.2 g mg c).1
    ·rw[Be.1 mf,Be.1 mg] at c;exact absurd Te c
 ·dsimp only;rw[Ce,B8];exact Yd.mk ⟨λc=>⟨hP.1.1 c,hP.2⟩,λc=>hP.1.2 c.1⟩
structure Srt(l r:A3 Bl):Prop where
 Hw:r.Pairwise J6
 sub:∀h∈r,h∈l
 le:∀h∈l,∃k∈r,k.1=h.1/\rq k.2<=rq h.2
def Srt.least{r:A3 Bl}(s:Srt l r):MD (l.map rh) (r.map rh):=by
 refine⟨λg mg=>?_,λg mg=>?_⟩
 ·obtain⟨h,mh,rfl⟩:=BI.1 mg;exact BI.2 ⟨h,s.sub h mh,rfl⟩
 ·obtain⟨h,mh,rfl⟩:=BI.1 mg;obtain⟨k,mk,e,c⟩:=s.le h mh;exact⟨rh k,BI.2 ⟨k,mk,rfl⟩,by show rn k.1=rn h.1;rw[e],c⟩
theorem agX(o:∀h∈l,CS h)(hl:l.length<=50):Yd (λr=>Srt l r/\r.length<=l.length) (ar l):=by
 unfold ar;refine Yd.each l (λ(s:A3 Bl) i=>(s,i)) (λA s=>Srt A s/\s.length<=A.length) (λA x C s k hA hP next=>?_) (λs k hP=>?_) (s0:=[]) ⟨⟨List.Pairwise.nil,by simp,by simp⟩,by simp⟩ (by omega)
 ·dsimp only;rw[Cg hA,BM];have al:=Dn hA;have mx:=at_mem hA;have ox:=o x mx;obtain⟨S,sl⟩:=hP;have os:∀h∈s,CS h:=λh mh=>o h (by rw[hA];exact G3 _<|S.sub h mh)
  refine Yd.jn (λs'=>Srt (A++[x]) s'/\s'.length<=(A++[x]).length) (λs' h'=>Yd.bd (CP hA (by omega))<|next s' h') λk5 h5=>?_
  have put:∀B D:A3 Bl,s=B++D->(∀h∈B,J6 h x)->(∀h∈D,J6 x h)->Srt (A++[x]) ((B++[x])++D)/\((B++[x])++D).length<=(A++[x]).length:=λB D e hb hd=>by
   have sa:=S.Hw;rw[e] at sa;obtain⟨a1,a2,a3⟩:=Kk.1 sa;refine⟨⟨Kk.2 ⟨Kk.2 ⟨a1,Ta _ _,λh mh y my=>by rw[Be.1 my];exact hb h mh⟩,a2,λh mh y my=>?_⟩,λh mh=>?_,λh mh=>?_⟩,?_⟩
   ·rcases BR.1 mh with m|m
    ·exact a3 h m y my
    ·rw[Be.1 m];exact hd y my
   ·have:h∈s\/h=x:=by rw[e];simp at mh⊢;rcases mh with m|m|m<;>simp[m]
    rcases this with m|m
    ·exact G3 _<|S.sub h m
    ·rw[m];simp
   ·rcases BR.1 mh with m|m
    ·obtain⟨k,mk,c⟩:=S.le h m;rw[e] at mk;exact⟨k,by simp at mk⊢;rcases mk with m|m<;>simp[m],c⟩
    ·rw[Be.1 m];exact⟨x,by simp,rfl,FM⟩
   ·rw[e] at sl;simp at sl⊢;omega
  refine Yd.each s (λ(_:Unit) i=>i) (λB _=>∀h∈B,J6 h x) (λB h D t k7 hB hQ FN=>?_) (λt k7 hQ=>?_) (s0:=()) (by simp) (by omega)
  ·have hg:gd (decide<|(B.length:Int)<(s.length:Int)) true=true:=by rw[Cg hB];rfl
   have bl:=Dn hB;have mh:=at_mem hB;rw[DC hg];refine Yd.bd (Bq hB) ?_;rw[DC hg];refine Yd.bd (Bq hB) ?_;rw[DC hg];refine Yd.bd (Bq hA) ?_;rw[DC hg];refine Yd.bd (lF h.1 x.1) ?_;rw[Cg hB,JO];refine Yd.cond (λhc=>Yd.bd (CP hB (by omega))<|FN () λg mg=>?_) λhc=>?_
   ·rcases BR.1 mg with m|m
    ·exact hQ g m
    ·rw[Be.1 m];exact AZ hc
   ·have Lh:=Ay hc;rw[Cg hB] at hg;rw[DC hg];refine Yd.bd (Bq hB) ?_;rw[DC hg];refine Yd.bd (Bq hB) ?_;rw[DC hg];refine Yd.bd (Bq hA) ?_;rw[JO];refine Yd.cond (λhe=>?_) λhe=>?_
    ·have he:=AZ he;have lx:=ox.Le;have lh:=(os h mh).Le;have cmp:bt x.2 h.2=some ((rh x).2-(rh h).2).num.sign:=by
      have e:=Tp lx lh (by omega) (by omega);rw[<-ox.txt,<-(os h mh).txt] at e;unfold bt;rw[e,ED,Vv (lvs lx lh) (by omega)];rfl
     refine Yd.bd (Bq hA)<|Yd.bd (Bq hB)<|Yd.bd (Bq hB)<|Yd.bd cmp ?_
     rw[sign_neg];refine Yd.jn (λs'=>Srt (A++[x]) s'/\s'.length<=(A++[x]).length) (λs' h'=>h5 s' h') λk35 Hv=>Yd.cond (λhc=>?_) λhc=>?_
     ·refine Yd.bd (Bq hA) (Yd.bd (Bq hB)<|Yd.bd (Bq hB) ?_);have hx:(h.1,x.2)=x:=by rw[he]
      have st:s.set ((B.length:Int)).toNat (h.1,x.2)=B++x::D:=by rw[hx,CA,hB];simp
      rw[st];have hlt:rq x.2<rq h.2:=by have h9:=AZ hc;change rq x.2-rq h.2<0 at h9;grind
      have sa:=S.Hw;rw[hB] at sa;obtain⟨a1,a2,a3⟩:=Kk.1 sa;obtain⟨a4,a5⟩:=Ki.1 a2;refine Hv _ ⟨⟨Kk.2 ⟨a1,Ki.2 ⟨λy my=>?_,a5⟩,λy my z mz=>?_⟩,λy my=>?_,λy my=>?_⟩,?_⟩
      ·show IL x.1 y.1;rw[<-he];exact a4 y my
      ·rcases Ag.1 mz with e|m
       ·rw[e];show IL y.1 x.1;rw[<-he];exact a3 y my h (by simp)
       ·exact a3 y my z<|Bi _ m
      ·have:y∈s\/y=x:=by rw[hB];simp at my⊢;rcases my with m|m|m<;>simp[m]
       rcases this with m|m
       ·exact G3 _<|S.sub y m
       ·rw[m];simp
      ·rcases BR.1 my with m|m
       ·obtain⟨g,mg,c1,c2⟩:=S.le y m;rw[hB] at mg;rcases BR.1 mg with mg|mg
        ·exact⟨g,by simp[mg],c1,c2⟩
        ·rcases Ag.1 mg with e|mg
         ·rw[e] at c1 c2;exact⟨x,by simp,by rw[<-c1,he],TQ (F3 hlt) c2⟩
         ·exact⟨g,by simp[mg],c1,c2⟩
       ·rw[Be.1 m];exact⟨x,by simp,rfl,FM⟩
      ·rw[hB] at sl;simp at sl⊢;omega
     ·have KN:rq h.2<=rq x.2:=by have h9:=Ay hc;change¬rq x.2-rq h.2<0 at h9;grind
      refine Hv _ ⟨⟨S.Hw,λy my=>G3 _<|S.sub y my,λy my=>?_⟩,by simp;omega⟩;rcases BR.1 my with m|m
      ·exact S.le y m
      ·rw[Be.1 m];exact⟨h,mh,he,KN⟩
    ·have hne:=Ay he;have hxh:J6 x h:=((yk h.1 x.1).resolve_left hne).resolve_left Lh;have s1:Br s 0 (B.length:Int)=some B:=by
      rw[EO (by omega) (by omega) (by omega),hB];simp
     have s2:Br s (B.length:Int) (s.length:Int)=some (h::D):=by
      rw[EO (by omega) (by omega) (by omega)];simp;rw[hB];simp
     have a0:∀(u v:A3 Bl),u.length+v.length<=100->BC 40 u v=some (u++v):=λu v huv=>by
      unfold BC;rw[Ab (show(u.length+v.length)*40<=140737488355328 by omega),Ab (show u.length+v.length<=9223372036854775807 by omega)];rfl
     have dl:s.length=B.length+(D.length+1):=by rw[hB];simp
     refine Yd.bd s1 (Yd.bd (a0 [] B (by simp;omega)) (Yd.bd (Bq hA) (Yd.bd (a0 _ _ (by simp;omega)) (Yd.bd s2 (Yd.bd (a0 _ _ (by simp;omega))<|h5 _ ?_)))));rw[I4];refine put B (h::D) hB hQ λy my=>?_
     rcases Ag.1 my with e|m
     ·rw[e];exact hxh
     ·have sa:=S.Hw;rw[hB] at sa;exact zf hxh<|(Ki.1 (Kk.1 sa).2.1).1 y m
  ·have hg:gd (decide<|(s.length:Int)<(s.length:Int)) true=false:=by rw[Ce];rfl
   rw[Ef hg,Ef hg,Ef hg,Ef hg];rw[Ce,Q7,B8];rw[Ce] at hg;rw[Ef hg,Ef hg,Ef hg,Q7,B8];have s1:Br s 0 (s.length:Int)=some s:=by rw[EO (by omega) (by omega) (by omega)];simp
   have s2:Br s (s.length:Int) (s.length:Int)=some []:=by rw[EO (by omega) (by omega) (by omega)];simp
   have a0:∀(u v:A3 Bl),u.length+v.length<=100->BC 40 u v=some (u++v):=λu v huv=>by
    unfold BC;rw[Ab (show(u.length+v.length)*40<=140737488355328 by omega),Ab (show u.length+v.length<=9223372036854775807 by omega)];rfl
   refine Yd.bd s1 (Yd.bd (a0 [] s (by simp;omega)) (Yd.bd (Bq hA) (Yd.bd (a0 _ _ (by simp;omega)) (Yd.bd s2 (Yd.bd (a0 _ _ (by simp;omega))<|h5 _ ?_)))));rw[I4];exact put s [] (by simp) hQ (by simp)
 ·dsimp only;rw[Ce,B8];exact Yd.mk hP
theorem af4(o:∀h∈l,CS h)(hl:l.length<=100000000)(hp:Cj n p)(hn:n<=5000):Yd (λb=>b=true↔Mem (l.map rh) p) (aV l<|Bt p):=by
 have mm:∀{h:Bl},h∈l->rh h∈l.map rh:=λmh=>BI.2 ⟨_,mh,rfl⟩
 unfold aV;refine Yd.each l (λ(_:Unit) i=>i) (λA _=>∀h∈A,val (rh h) p<=0) (λA x C s k hA hP next=>?_) (λs k hP=>?_) (s0:=()) (by simp) (by omega)
 ·rw[Cg hA,BM];refine Yd.bd (Bq hA)<|Yd.bd (pH (o x<|at_mem hA) hp hn) ?_
  rw[Xz];refine Yd.cond (λhc=>Yd.mk ⟨λc=>(by cases c),λc=>?_⟩) λhc=>Yd.bd (CP hA hl)<|next () λh mh=>?_
  ·have:=c _ (mm<|at_mem hA);have:=AZ hc
   grind
  ·rcases BR.1 mh with m|m
   ·exact hP h m
   ·rw[Be.1 m];have:=Ay hc;grind
 ·rw[Ce,B8];refine Yd.mk ⟨λ_ g mg=>?_,λ_=>rfl⟩;obtain⟨h,mh,rfl⟩:=BI.1 mg;exact hP h mh
def af0(hl:C.length<=100000000)(hC:∀q∈C,Cj n q)(hp:Cj n p)(hn:n<=5000):UG (C.map Bt) (Bt p)=some (decide<|p∈C):=by
 have key:Yd (λb=>b=decide (p∈C)) (UG (C.map Bt)<|Bt p):=by
  unfold UG;refine Yd.each (C.map Bt) (λ(_:Unit) i=>i) (λA _=>Bt p∉A) (λA x D s k hA hP next=>?_) (λs k hP=>?_) (s0:=()) (by simp) (by simp;omega)
  ·rw[Cg hA,BM];refine Yd.bd (Bq hA) (Yd.cond (λhc=>Yd.mk (Ab ?_).symm) λhc=>Yd.bd (CP hA (by simp;omega))<|next () λc=>?_)
   ·obtain⟨q,mq,e⟩:=BI.1 (at_mem hA);have e2:=AZ hc;have:q=p:=an4 (hC q mq) hp (by omega) (by omega) (by rw[e,e2]);rw[<-this];exact mq
   ·rcases BR.1 c with m|m
    ·exact hP m
    ·exact Ay hc (Be.1 m).symm
  ·rw[Ce,B8];exact Yd.mk (BH λc=>hP<|BI.2 ⟨p,c,rfl⟩).symm
 obtain⟨r,e,rfl⟩:=key;exact e
def w6{l:A3 α}:l.Sublist (A++[x])↔l.Sublist A\/∃r,l=r++[x]/\r.Sublist A:=by
 rw[Yq];constructor
 ·rintro⟨u,v,rfl,h1,h2⟩;cases h2 with
  |cons _ h2=>rw[List.sublist_nil.1 h2,JQ];exact .inl h1
  |cons_cons _ h2=>rw[List.sublist_nil.1 h2];exact .inr ⟨u,rfl,h1⟩
 ·rintro(h|⟨r,rfl,h⟩)
  ·exact⟨l,[],by simp,h,by simp⟩
  ·exact⟨r,[x],rfl,h,Rm _⟩
def lW{a b c:α}:[c,b,a].Sublist (A++[x])↔[c,b,a].Sublist A\/(a=x/\[c,b].Sublist A):=by
 rw[w6];refine or_congr Iff.rfl ⟨?_,?_⟩
 ·rintro⟨r,e,h⟩;have e2:[c,b]++[a]=r++[x]:=e;obtain⟨e3,e4⟩:=Yg e2 rfl;cases e4;rw[<-e3] at h;exact⟨rfl,h⟩
 ·rintro⟨rfl,h⟩;exact⟨[c,b],rfl,h⟩
def lX{b c:α}:[c,b].Sublist (A++[x])↔[c,b].Sublist A\/(b=x/\c∈A):=by
 rw[w6];refine or_congr Iff.rfl ⟨?_,?_⟩
 ·rintro⟨r,e,h⟩;have e2:[c]++[b]=r++[x]:=e;obtain⟨e3,e4⟩:=Yg e2 rfl;cases e4;rw[<-e3] at h;exact⟨rfl,Yo.1 h⟩
 ·rintro⟨rfl,h⟩;exact⟨[c],rfl,Yo.2 h⟩
def Met(a b c:Bl)(p:Q3):Prop:=E0 (rh a).1 (rh b).1 (rh c).1≠0/\p=I8 (rh a) (rh b) (rh c)
def Tri(A:A3 Bl)(p:Q3):Prop:=∃a b c,[c,b,a].Sublist A/\Met a b c p
def Duo(x:Bl)(B:A3 Bl)(p:Q3):Prop:=∃b c,[c,b].Sublist B/\Met x b c p
def Uno(x y:Bl)(D:A3 Bl)(p:Q3):Prop:=∃c∈D,Met x y c p
def aiA{A:A3 Bl}{x:Bl}:Tri (A++[x]) p↔Tri A p\/Duo x A p:=by
 constructor
 ·rintro⟨a,b,c,h,m⟩;rcases lW.1 h with h2|⟨e,h2⟩
  ·exact .inl ⟨a,b,c,h2,m⟩
  ·rw[e] at m;exact .inr ⟨b,c,h2,m⟩
 ·rintro(⟨a,b,c,h,m⟩|⟨b,c,h,m⟩)
  ·exact⟨a,b,c,lW.2<| .inl h,m⟩
  ·exact⟨x,b,c,lW.2<| .inr ⟨rfl,h⟩,m⟩
def ajM{x:Bl}{B:A3 Bl}{y:Bl}:Duo x (B++[y]) p↔Duo x B p\/Uno x y B p:=by
 constructor
 ·rintro⟨b,c,h,m⟩;rcases lX.1 h with h2|⟨e,h2⟩
  ·exact .inl ⟨b,c,h2,m⟩
  ·rw[e] at m;exact .inr ⟨c,h2,m⟩
 ·rintro(⟨b,c,h,m⟩|⟨c,h,m⟩)
  ·exact⟨b,c,lX.2<| .inl h,m⟩
  ·exact⟨y,c,lX.2<| .inr ⟨rfl,h⟩,m⟩
def mQ{x y:Bl}{D:A3 Bl}{z:Bl}:Uno x y (D++[z]) p↔Uno x y D p\/Met x y z p:=by
 unfold Uno;simp[BR,YV,exists_or]
def Crs(l:A3 Bl)(X:Q3->Prop)(out:A3 T3):Prop:=
 ∃C:A3 Q3,out=C.map Bt/\C.Nodup/\(∀p∈C,Cj 500 p)/\C.length<=l.length*(l.length*l.length)/\∀p,p∈C↔Mem (l.map rh) p/\X p
def Crs.congr{X Y:Q3->Prop}{out:A3 T3}(h:Crs l X out)(e:∀p,X p↔Y p):Crs l Y out:=by
 obtain⟨C,c1,c2,c3,c4,c5⟩:=h;exact⟨C,c1,c2,c3,c4,λp=>by rw[c5,e]⟩
def aeF(o:∀h∈l,CS h)(hl:l.length<=50):Yd (λr=>Crs l (Tri l) r) (aL l):=by
 have aqf:l.length*(l.length*l.length)<=125000:=Gv hl<|Gv hl hl
 have inl:∀{A C:A3 Bl} {x:Bl},l=A++x::C->(∀y∈A,y∈l):=λh y my=>by rw[h];exact G3 _ my
 unfold aL;refine Yd.each l (λ(s:A3 T3) i=>(s,i)) (λA s=>Crs l (Tri A) s) (λA x C s k hA hP next=>?_) (λs k hP=>?_) (s0:=[]) ⟨[],rfl,List.nodup_nil,by simp,by simp,λp=>by simp[Tri]⟩ (by omega)
 ·dsimp only;rw[Cg hA,BM];have al:=Dn hA;refine Yd.each A (λ(t:A3 T3) i=>(t,i)) (λB t=>Crs l (λp=>Tri A p\/Duo x B p) t) (λB y D t k2 hB hQ FN=>?_) (λt k2 hQ=>?_) (s0:=s) (hP.congr λp=>by simp[Duo]) (by omega)
  ·dsimp only;rw[Cg hB,BM];have bl:=Dn hB;have hB':l=B++y::(D++x::C):=by rw[hA,hB];simp
   refine Yd.each B (λ(u:A3 T3) i=>(u,i)) (λE u=>Crs l (λp=>(Tri A p\/Duo x B p)\/Uno x y E p) u) (λE z F u k3 hE hR NO=>?_) (λu k3 hR=>?_) (s0:=t) (hQ.congr λp=>by simp[Uno]) (by omega)
   ·dsimp only;rw[Cg hE,BM];have el:=Dn hE;have hE':l=E++z::(F++y::(D++x::C)):=by rw[hB',hE];simp
    have ox:=o x<|at_mem hA
    have oy:=o y<|at_mem hB'
    have oz:=o z<|at_mem hE'
    refine Yd.jn (λu'=>Crs l (λp=>(Tri A p\/Duo x B p)\/Uno x y (E++[z]) p) u') (λu' h'=>Yd.bd (CP hE (by omega))<|NO u' h') λMj BO=>?_
    refine Yd.bd (Bq hA)<|Yd.bd (Bq hB')<|Yd.bd (Bq hE')<|Yd.bd (afs ox oy oz) ?_
    obtain⟨W,w1,w2,w3,w4,w5⟩:=hR;by_cases hd:E0 (rh x).1 (rh y).1 (rh z).1=0
    ·rw[Ab hd,BM];refine BO u ⟨W,w1,w2,w3,w4,λp=>?_⟩;rw[w5];dsimp only;rw[mQ];have: ¬Met x y z p:=λm=>m.1 hd
     simp[this]
    ·rw[BH hd,B8];have lp:=akj ox oy oz hd;have hm:∀p,Met x y z p↔p=I8 (rh x) (rh y) (rh z):=λp=>⟨λm=>m.2,λe=>⟨hd,e⟩⟩
     have hv:Mem (l.map rh) (I8 (rh x) (rh y)<|rh z)->∀q,q∈W++[I8 (rh x) (rh y)<|rh z]↔Mem (l.map rh) q/\((Tri A q\/Duo x B q)\/Uno x y (E++[z]) q):=λhc q=>by
      rw[BR,w5,mQ,hm,Be];constructor
      ·rintro(⟨a,b⟩|e)
       ·exact⟨a,b.imp id .inl⟩
       ·rw[e];exact⟨hc,.inr<| .inr rfl⟩
      ·rintro⟨a,b|b|b⟩
       ·exact .inl ⟨a,.inl b⟩
       ·exact .inl ⟨a,.inr b⟩
       ·exact .inr b
     generalize I8 (rh x) (rh y) (rh z)=v at*
     refine Yd.Ak (af4 o (by omega) lp (by omega)) λb hb=>?_
     cases b with
     |false=>
      refine BO u ⟨W,w1,w2,w3,w4,λp=>?_⟩;rw[w5];dsimp only;rw[mQ,hm];constructor
      ·rintro⟨a,b⟩;exact⟨a,b.imp id .inl⟩
      ·rintro⟨a,b|b|b⟩
       ·exact⟨a,.inl b⟩
       ·exact⟨a,.inr b⟩
       ·rw[b] at a;have:=hb.2 a;cases this
     |true=>
      have hc:=hb.1 rfl;show Yd _ (bd (UG u<|Bt v) _);rw[w1];refine Yd.bd (af0 (by omega) w3 lp (by omega)) ?_;by_cases hw:v∈W
      ·rw[Ab hw];refine BO _ ⟨W,rfl,w2,w3,w4,λp=>?_⟩;have:=hv hc p;rw[<-this,BR,Be];exact⟨.inl,λh=>h.elim id λe=>by rw[e];exact hw⟩
      ·rw[BH hw];show Yd _ (bd (BC 48 _ _) _);have nd:(W++[v]).Nodup:=by
        rw[Rl];exact⟨w2,by simp,λa ma b mb e=>hw (by rw[Be.1 mb] at e;rw[<-e];exact ma)⟩
       refine Yd.bd (app_1 (by omega) (by rw[Bw];omega)) (BO _ ⟨W++[v],by simp,nd,λp mp=>?_,?_,hv hc⟩)
       ·rcases BR.1 mp with m|m
        ·exact w3 p m
        ·rw[Be.1 m];exact lp
       ·have e:l.length=(l.map rh).length:=(Bw _).symm;rw[e];refine nO nd λp mp=>?_
        obtain⟨a,b⟩:=(hv hc p).1 mp;have met:∀{a b c:Bl},a∈l->b∈l->c∈l->Met a b c p->Ba (l.map rh) p:=λ{a' b' c'} ma mb mc m=>
         Xw.2 ⟨a,_,BI.2 ⟨_,ma,rfl⟩,_,BI.2 ⟨_,mb,rfl⟩,_,BI.2 ⟨_,mc,rfl⟩,m.1,m.2⟩
        rcases b with(⟨a',b',c',s,m⟩|⟨b',c',s,m⟩)|⟨c',mc,m⟩
        ·exact met (inl hA _ (s.subset (by simp))) (inl hA _ (s.subset (by simp))) (inl hA _ (s.subset (by simp))) m
        ·exact met (at_mem hA) (inl hB' _ (s.subset (by simp))) (inl hB' _ (s.subset (by simp))) m
        ·refine met (at_mem hA) (at_mem hB') ?_ m;rcases BR.1 mc with mc|mc
         ·exact inl hE' _ mc
         ·rw[Be.1 mc];exact at_mem hE'
   ·dsimp only;rw[Ce,B8];exact Yd.bd (CP hB (by omega)) (FN u (hR.congr λp=>by rw[ajM,or_assoc]))
  ·dsimp only;rw[Ce,B8];exact Yd.bd (CP hA (by omega)) (next t (hQ.congr λp=>by rw[aiA]))
 ·dsimp only;rw[Ce,B8];exact Yd.mk hP
def ajs:Mem (l.map rh) p/\Tri l p↔Ba (l.map rh) p:=by
 rw[agH];refine and_congr Iff.rfl ⟨?_,?_⟩
 ·rintro⟨a,b,c,s,m⟩;exact⟨rh a,rh b,rh c,s.map rh,m.1,m.2⟩
 ·rintro⟨a,b,c,s,m⟩;obtain⟨r,hr,e⟩:=List.sublist_map_iff.1 s
  match r,e with
  |[c',b',a'],e=>
   simp only[LD,YX,Yf,and_true] at e;obtain⟨rfl,rfl,rfl⟩:=e;exact⟨a',b',c',hr,m⟩
def aiD(hC:∀p∈C,Cj 500 p)(hl:C.length<=100000000):
  Yd (λr=>(r<3/\∃m:Q3,m≠o3/\∃c,∀p∈C,AG m p=c)\/(r=3/\∃a∈C,∃b∈C,∃c∈C,∃d∈C,E0 (As b a) (As c a) (As d a)≠0)) (bM<|C.map Bt):=by
 unfold bM;rw[Bw];cases C with
 |nil=>exact Yd.mk (.inl ⟨by decide,_,YF,0,by simp⟩)
 |cons a T=>
  rw[BH (show¬((a::T).length:Int)=0 by simp;omega),B8];refine Yd.from (a::T) (λ(s:T3×T3×Int) i=>(s.1,s.2.1,s.2.2,i)) (λA s=>∃u n:Q3,I9 a (a::T) A u n s.2.2/\(s.2.2=1->s.1=Bt u/\Cj 1001 u)/\(s.2.2=2->s.2.1=Bt n/\Cj 4005 n)) (λA p D s k hA hP next=>?_) (λs k hP=>?_) [a] T (s0:=(([],[],[]),([],[],[]),0)) rfl ⟨o3,o3,.inl ⟨rfl,by simp⟩,λh=>by simp at h,λh=>by simp at h⟩ (by omega)
  ·dsimp only;rw[Cg hA,BM];have mp:=at_mem hA;have lp:=hC p mp;have la:=hC a Dm;have ld:=yD lp la;obtain⟨u,n,h,h1,h2⟩:=hP;refine Yd.jn (λs':T3×T3×Int=>∃u n:Q3,I9 a (a::T) (A++[p]) u n s'.2.2/\(s'.2.2=1->s'.1=Bt u/\Cj 1001 u)/\(s'.2.2=2->s'.2.1=Bt n/\Cj 4005 n)) (λs' h'=>Yd.bd (CP hA hl)<|next s' h') λk6 h6=>?_
   have ix:A8 ((a::T).map Bt) (A.length:Int)=some (Bt p):=by
    have:=Bq hA;rw[K9] at this⊢;rw[GX,this];rfl
   refine Yd.bd ix (Yd.bd (x:=Bt a) rfl (Yd.bd (zX lp la (by omega)) ?_));have as2:s.2.2=0\/s.2.2=1\/s.2.2=2:=by rcases h with⟨e,_⟩|⟨e,_⟩|⟨e,_⟩<;>simp[e]
   obtain⟨s1,s2,dim⟩:=s;dsimp only at*;rcases as2 with rfl|rfl|rfl
   ·rw[show gd (decide<|(0:Int)=0) true=true from rfl,DC rfl];refine Yd.bd (pG ld (by omega)) ?_;by_cases e:As p a=o3
    ·rw[Ab e];exact h6 (s1,s2,0) ⟨u,n,h.s0 e,λh=>by simp at h,λh=>by simp at h⟩
    ·rw[BH e];exact h6 (Bt<|As p a,s2,1) ⟨_,n,h.s01 mp e,λ_=>⟨rfl,Pv ld (by omega)⟩,λh=>by simp at h⟩
   ·obtain⟨e1,l1⟩:=h1 rfl;subst e1;have lc:=Ow l1 ld;show Yd _ (bd (Ms (Bt u)<|Bt<|As p a) _);refine Yd.bd (Vm l1 ld (by omega)) ?_;rw[show gd (decide<|(1:Int)=1) true=true from rfl,DC rfl];refine Yd.bd (pG lc (by omega)) ?_;by_cases e:AS u (As p a)=o3
    ·rw[Ab e];exact h6 (Bt u,s2,1) ⟨u,n,h.s1 e,λ_=>⟨rfl,l1⟩,λh=>by simp at h⟩
    ·rw[BH e];show Yd _ (bd (Ms (Bt u)<|Bt<|As p a) _);exact Yd.bd (Vm l1 ld (by omega)) (h6 (Bt u,Bt<|AS u<|As p a,2) ⟨u,_,h.Dk mp e,λh=>by simp at h,λ_=>⟨rfl,Pv lc (by omega)⟩⟩)
   ·obtain⟨e1,l1⟩:=h2 rfl;subst e1;show Yd _ (bd (R0 (Bt n)<|Bt<|As p a) _);refine Yd.bd (iL l1 ld (by omega)) ?_;rw[show gd (decide<|(2:Int)=2) true=true from rfl,DC rfl];refine Yd.bd (xI (ZI l1 ld) (by omega)) ?_;by_cases e:AG n (As p a)=0
    ·rw[Ab e];exact h6 (s1,Bt n,2) ⟨u,n,h.s2 e,λh=>by simp at h,λ_=>⟨rfl,l1⟩⟩
    ·rw[BH e];obtain⟨b,mb,c,mc,hd⟩:=h.s3 e;exact Yd.mk<| .inr ⟨rfl,a,Dm,b,mb,c,mc,p,mp,hd⟩
  ·dsimp only;rw[Ce,B8];obtain⟨u,n,h,_⟩:=hP;obtain⟨m,m0,hm⟩:=h.flat;refine Yd.mk<| .inl ⟨?_,m,m0,_,hm⟩
   rcases h with⟨e,_⟩|⟨e,_⟩|⟨e,_⟩<;>rw[e]<;>decide
def GP(C:A3 Q3)(h:H3):Nat:=(C.filter λp=>decide<|val h p=0).length
structure Jq(hs:A3 Bl)(p:Q3)(o:A3 Int):Prop where
 nd:o.Nodup
 iff:∀j:Int,j∈o↔∃(m:Nat) (h:Bl),j=(m:Int)/\hs[m]? =some h/\val (rh h) p=0
def Jq.len{hs:A3 Bl}{o:A3 Int}(h:Jq hs p o):o.length<=hs.length:=by
 have:=MR (l:=o) (T:=(List.range hs.length).map λm:Nat=>(m:Int)) h.nd λj mj=>by
  obtain⟨m,x,e,hx,_⟩:=(h.iff j).1 mj;exact BI.2 ⟨m,P5.2 (EC.1 hx).1,e.symm⟩
 simpa using this
def Jq.at{hs:A3 Bl}{p:Q3}{o:A3 Int}(h:Jq hs p o){m:Nat}{x:Bl}(hx:hs[m]? =some x):(m:Int)∈o↔val (rh x) p=0:=by
 rw[h.iff];constructor
 ·rintro⟨m',y,e,hy,t⟩;have:m=m':=by omega
  subst this;rw[hx] at hy;cases hy;exact t
 ·intro t;exact⟨m,x,rfl,hx,t⟩
def ae6(o:∀h∈l,CS h)(hl:l.length<=50)(hp:Cj 500 p):Yd (λr=>Jq l p r) (aU l<|Bt p):=by
 unfold aU;refine Yd.each l (λ(s:A3 Int) i=>(s,i)) (λA s=>Jq A p s) (λA x C s k hA hP next=>?_) (λs k hP=>?_) (s0:=[]) ⟨List.nodup_nil,λj=>by simp⟩ (by omega)
 ·dsimp only;rw[Cg hA,BM];have al:=Dn hA;have sl:=hP.len;have Ed:∀j:Int,(∃(m:Nat) (h:Bl),j=(m:Int)/\(A++[x])[m]? =some h/\val (rh h) p=0)↔j∈s\/(j=(A.length:Int)/\val (rh x) p=0):=λj=>by
   rw[hP.iff];constructor
   ·rintro⟨m,h,e,hm,t⟩;by_cases hlt:m<A.length
    ·rw[IQ hlt] at hm;exact .inl ⟨m,h,e,hm,t⟩
    ·have hb:=(EC.1 hm).1;have em:m=A.length:=by simp at hb;omega
     subst em;rw[LM<|Az _] at hm;simp at hm;rw[hm];exact .inr ⟨e,t⟩
   ·rintro(⟨m,h,e,hm,t⟩|⟨e,t⟩)
    ·exact⟨m,h,e,by rw[IQ (EC.1 hm).1];exact hm,t⟩
    ·exact⟨A.length,x,e,by simp,t⟩
  refine Yd.jn (λs':A3 Int=>Jq (A++[x]) p s') (λs' h'=>Yd.bd (CP hA (by omega))<|next s' h') λk5 h5=>?_
  refine Yd.bd (Bq hA) (Yd.bd (pH (o x<|at_mem hA) hp (by omega)) ?_);rw[sign_zero];refine Yd.cond (λhc=>Yd.bd (app_1 (by omega) (by omega))<|h5 _ ⟨?_,λj=>?_⟩) λhc=>h5 _ ⟨hP.nd,λj=>?_⟩
  ·rw[Rl];refine⟨hP.nd,by simp,λa ma b mb e=>?_⟩;obtain⟨m,h,e1,hm,_⟩:=(hP.iff a).1 ma;rw[Be.1 mb] at e;have:=(EC.1 hm).1;omega
  ·rw[BR,Be,Ed];simp[AZ hc]
  ·rw[Ed];simp[Ay hc]
 ·dsimp only;rw[Ce,B8];exact Yd.mk hP
def vE{a b:A3 Int}(hb:b.Nodup)(ha:a.length<=100)(hbl:b.length<=100):UR a b=some (a.filter λx=>decide<|x∈b):=by
 have key:Yd (λr=>r=a.filter λx=>decide<|x∈b) (UR a b):=by
  unfold UR;refine Yd.each a (λ(s:A3 Int) i=>(s,i)) (λA s=>s=A.filter λx=>decide<|x∈b) (λA x C s k hA hP next=>?_) (λs k hP=>?_) (s0:=[]) rfl (by omega)
  ·dsimp only;rw[Cg hA,BM];have al:=Dn hA;have sl:s.length<=A.length:=by rw[hP];exact TY _ _
   refine Yd.each b (λ(t:A3 Int) i=>(t,i)) (λB t=>t=s++(bif decide (x∈B) then [x] else [])) (λB y D t k2 hB hQ FN=>?_) (λt k2 hQ=>?_) (s0:=s) (by simp) (by omega)
   ·dsimp only;rw[Cg hB,BM];refine Yd.jn (λt':A3 Int=>t'=s++(bif decide (x∈B++[y]) then [x] else [])) (λt' h'=>Yd.bd (CP hB (by omega))<|FN t' h') λk8 h8=>?_
    refine Yd.bd (Bq hA)<|Yd.bd (Bq hB)<|Yd.cond (λhc=>?_) λhc=>h8 _ ?_
    ·have e:=AZ hc;have Lh:x∉B:=λmx=>by
      rw[hB,Rl] at hb;exact hb.2.2 x mx y Dm e
     have t0:t=s:=by rw[hQ];simp[Lh]
     refine Yd.bd (Bq hA) (Yd.bd (app_1 (by omega) (by rw[t0];omega))<|h8 _ ?_);rw[t0,Ab (show x∈B++[y] by simp[e])];rfl
    ·have e:=Ay hc;rw[hQ];have:decide (x∈B++[y])=decide (x∈B):=GW.2 (by simp[e]);rw[this]
   ·dsimp only;rw[Ce,B8];refine Yd.bd (CP hA (by omega))<|next t ?_
    rw[hQ,hP,Rn];cases hd:decide (x∈b)<;>simp[hd]
  ·dsimp only;rw[Ce,B8];exact Yd.mk hP
 obtain⟨r,e,rfl⟩:=key;exact e
abbrev ZL:=A3<|Q3×A3 Int
def ahR(o:∀h∈l,CS h)(hl:l.length<=50)(hC:∀p∈C,Cj 500 p)(hn:C.length<=1000000):
  Yd (λr=>r.1=(l.filter λh=>decide<|3<=GP C (rh h))/\r.2.1=C.map Bt/\∃Z:ZL,Z.map (·.1)=C/\r.2.2=Z.map (·.2)/\∀z∈Z,Jq r.1 z.1 z.2) (bN l<|C.map Bt):=by
 have cm:(C.map Bt).length=C.length:=Bw _;unfold bN;refine Yd.each l (λ(s:A3 Bl×A3 T3×A3 (A3 Int)) i=>(s,i)) (λA s=>s.1=(A.filter λh=>decide<|3<=GP C (rh h))/\s.2.2=[]) (λA x D s k hA hP next=>?_) (λs k hP=>?_) (s0:=([],[],[])) ⟨rfl,rfl⟩ (by omega)
 ·dsimp only;rw[Cg hA,BM];have al:=Dn hA;have ox:=o x<|at_mem hA
  refine Yd.jn (λs':A3 Bl×A3 T3×A3 (A3 Int)=>s'.1=((A++[x]).filter λh=>decide<|3<=GP C (rh h))/\s'.2.2=[]) (λs' h'=>Yd.bd (CP hA (by omega))<|next s' h') λk5 h5=>?_
  refine Yd.each C (λ(t:Int) i=>(t,i)) (λB t=>t=(GP B (rh x):Int)) (λB p E t k7 hB hQ FN=>?_) (λt k7 hQ=>?_) (s0:=0) rfl (by omega)
  ·dsimp only;rw[cm,Cg hB,BM];have bl:=Dn hB;have ix:A8 (C.map Bt) (B.length:Int)=some (Bt p):=by
    have:=Bq hB;rw[K9] at this⊢;rw[GX,this];rfl
   have cb:GP B (rh x)<=B.length:=TY _ _;refine Yd.jn (λt':Int=>t'=(GP (B++[p]) (rh x):Int)) (λt' h'=>Yd.bd (CP hB (by omega))<|FN t' h') λJe BJ=>?_
   have ca:GP (B++[p]) (rh x)=GP B (rh x)+bif decide (val (rh x) p=0) then 1 else 0:=by
    unfold GP;rw[Rn,ES];cases hd:decide (val (rh x) p=0)<;>simp[hd]
   refine Yd.bd (Bq hA) (Yd.bd ix (Yd.bd (pH ox (hC p<|at_mem hB) (by omega)) ?_));rw[sign_zero];refine Yd.cond (λhc=>Yd.bd (Ad ⟨by omega,by omega⟩) (BJ _ (by rw[ca,hc,hQ];simp))) λhc=>BJ _ (by rw[ca,hc,hQ];simp)
  ·dsimp only;rw[cm,Ce,B8];have e:decide (3<=t)=decide (3<=GP C (rh x)):=GW.2 (by omega);rw[e];have fl:s.1.length<=A.length:=by rw[hP.1];exact TY _ _
   refine Yd.cond (λhc=>Yd.bd (Bq hA) (Yd.bd (app_1 (by omega) (by omega))<|h5 _ ⟨?_,hP.2⟩)) λhc=>h5 _ ⟨?_,hP.2⟩
   ·rw[Rn,hP.1];simp[AZ hc]
   ·rw[Rn,hP.1];simp[Ay hc]
 ·dsimp only;rw[Ce,B8];have os:∀h∈s.1,CS h:=λh mh=>o h (by rw[hP.1] at mh;exact(Hf.1 mh).1)
  have sl:s.1.length<=l.length:=by rw[hP.1];exact TY _ _
  refine Yd.each C (λ(t:A3 (A3 Int)) i=>((s.1,C.map Bt,t),i)) (λB t=>∃Z:ZL,Z.map (·.1)=B/\t=Z.map (·.2)/\∀z∈Z,Jq s.1 z.1 z.2) (λB p E t k7 hB hQ FN=>?_) (λt k7 hQ=>?_) (s0:=s.2.2) ⟨[],rfl,by rw[hP.2];rfl,by simp⟩ (by omega)
  ·dsimp only;rw[cm,Cg hB,BM];have bl:=Dn hB;have ix:A8 (C.map Bt) (B.length:Int)=some (Bt p):=by
    have:=Bq hB;rw[K9] at this⊢;rw[GX,this];rfl
   obtain⟨Z,z1,z2,z3⟩:=hQ;have tl:t.length=B.length:=by rw[z2,<-z1,Bw,Bw]
   refine Yd.bd ix (Yd.Ak (ae6 os (by omega)<|hC p<|at_mem hB) λr hr=>Yd.bd (app_1 (by omega) (by omega)) (Yd.bd (CP hB (by omega)) (FN _ ⟨Z++[(p,r)],by simp[z1],by simp[z2],λz mz=>?_⟩)));rcases BR.1 mz with m|m
   ·exact z3 z m
   ·rw[Be.1 m];exact hr
  ·dsimp only;rw[cm,Ce,B8];exact Yd.mk ⟨hP.1,rfl,hQ⟩
structure Rel(K:Bl->Prop)(l A:A3 Bl)(T:A3 Int)(hv:A3 Bl):Prop where
 len:T.length=l.length
 Hw:hv.Pairwise J6
 mem:∀h,h∈hv↔h∈A/\K h
 at_:∀(j:Nat) (x:Bl),A[j]? =some x->∃t:Int,T[j]? =some t/\((¬K x/\t= -1)\/(K x/\∃m:Nat,t=(m:Int)/\hv[m]? =some x))
def dO{hv:A3 Bl}(h:hv.Pairwise J6):hv.Nodup:=List.Pairwise.imp (λ{a b} (k:J6 a b) (e:a=b)=>oZ b.1 (by rw[e] at k;exact k)) h
def mC{l:A3 α}(h:l.Nodup){i j:Nat}(hi:l[i]? =some x)(hj:l[j]? =some x):i=j:=by
 obtain⟨b1,e1⟩:=EC.1 hi;obtain⟨b2,e2⟩:=EC.1 hj;have p:=Yu.1 h;rcases Nat.lt_trichotomy i j with c|c|c
 ·exact absurd (e1.trans e2.symm)<|p i j b1 b2 c
 ·exact c
 ·exact absurd (e2.trans e1.symm)<|p j i b2 b1 c
def YA(u v:A3 Bl)(h:u.length+v.length<=1000):BC 40 u v=some (u++v):=by
 unfold BC;rw[Ab (show(u.length+v.length)*40<=140737488355328 by omega),Ab (show u.length+v.length<=9223372036854775807 by omega)];rfl
def gi{l:A3 α}{i:Nat}(h:i<l.length):A8 l (i:Int)=some l[i]:=by rw[K9];exact Fe h
def aaO(l:A3 Bl)(Z:ZL)(cs:A3 T3)(r:A3 Bl×A3 T3×A3 (A3 Int)):Prop:=r.1.Pairwise J6/\(∀h,h∈r.1↔h∈l/\3<=GP (Z.map (·.1)) (rh h))/\r.2.1=cs/\∃Z':ZL,Z'.map (·.1)=Z.map (·.1)/\r.2.2=Z'.map (·.2)/\∀z∈Z',Jq r.1 z.1 z.2
def alE(hl:l.length<=60)(Ht:l.Nodup){Z:ZL}(hZ:Z.length<=100000000)(Gm:∀z∈Z,Jq l z.1 z.2){cs:A3 T3}
 (hd:∀x∈l,∀y∈l,3<=GP (Z.map (·.1)) (rh x)->3<=GP (Z.map (·.1)) (rh y)->x.1=y.1->x=y):
  Yd (aaO l Z cs) (bX l cs<|Z.map (·.2)):=by
 have zm:(Z.map (·.2)).length=Z.length:=Bw _;have zl:∀z∈Z,z.2.length<=60:=λz mz=>CX (Gm z mz).len hl
 unfold bX;refine Yd.bd (x:=List.replicate l.length 0) (by rw[PO (by omega) (by omega) (by omega)];simp) ?_;refine Yd.each l (λ(s:A3 Int×A3 Bl) i=>(s.1,s.2,i)) (λA s=>Rel (λx=>3<=GP (Z.map (·.1)) (rh x)) l A s.1 s.2) (λA x C s k hA hP next=>?_) (λs k hP=>?_) (s0:=(List.replicate l.length 0,[])) ⟨by simp,List.Pairwise.nil,by simp,by simp⟩ (by omega)
 ·dsimp only;rw[Cg hA,BM];have al:=Dn hA;have mx:=at_mem hA;have lx:l[A.length]? =some x:=by rw[hA];simp
  have hxA:x∉A:=λc=>by
   rw[hA,Rl] at Ht;exact Ht.2.2 x c x Dm rfl
  obtain⟨t9,hv⟩:=s;dsimp only at hP⊢;have L2:hv.length<=A.length:=MR (dO hP.Hw) λh mh=>((hP.mem h).1 mh).1
  refine Yd.jn (λs':A3 Int×A3 Bl=>Rel (λx=>3<=GP (Z.map (·.1)) (rh x)) l (A++[x]) s'.1 s'.2) (λs' h'=>Yd.bd (CP hA (by omega))<|next s' h') λk7 h7=>?_
  refine Yd.each Z (λ(t:Int) i=>(t,i)) (λB t=>t=(GP (B.map (·.1)) (rh x):Int)) (λB z E t k9 hB hQ FN=>?_) (λt k9 hQ=>?_) (s0:=0) rfl (by omega)
  ·dsimp only;rw[zm,Cg hB,BM];have bl:=Dn hB;have mz:=at_mem hB;have ix:A8 (Z.map (·.2)) (B.length:Int)=some z.2:=by
    have:=Bq hB;rw[K9] at this⊢;rw[GX,this];rfl
   have cb:GP (B.map (·.1)) (rh x)<=B.length:=by
    have:=TY (λp=>decide<|val (rh x) p=0)<|B.map (·.1)
    rw[Bw] at this;exact this
   refine Yd.jn (λt':Int=>t'=(GP ((B++[z]).map (·.1)) (rh x):Int)) (λt' h'=>Yd.bd (CP hB hZ)<|FN t' h') λIe Bm=>?_
   have ca:GP ((B++[z]).map (·.1)) (rh x)=GP (B.map (·.1)) (rh x)+bif decide (val (rh x) z.1=0) then 1 else 0:=by
    unfold GP;rw[LJ,Rn,ES];cases hd:decide (val (rh x) z.1=0)<;>simp[hd]
   refine Yd.bd ix (Yd.bd (vE (b:=[(A.length:Int)]) (by simp) (by have:=zl z mz;omega) (by simp)) ?_);have hlen:decide ((0:Int)<((z.2.filter λx=>decide<|x∈[(A.length:Int)]).length:Int))=decide (val (rh x) z.1=0):=by
    rw[GW,<-(Gm z mz).at lx];constructor
    ·intro h;obtain⟨y,my⟩:=List.exists_mem_of_length_pos (show 0<(z.2.filter λx=>decide<|x∈[(A.length:Int)]).length by omega);obtain⟨m1,m2⟩:=Hf.1 my;have:y=(A.length:Int):=by simpa using m2
     rw[<-this];exact m1
    ·intro h;have:=List.length_pos_of_mem (Hf.2 ⟨h,by simp⟩:(A.length:Int)∈z.2.filter λx=>decide<|x∈[(A.length:Int)]);omega
   rw[hlen];refine Yd.cond (λhc=>Yd.bd (Ad ⟨by omega,by omega⟩) (Bm _ (by rw[ca,hc,hQ];simp))) λhc=>Bm _ (by rw[ca,hc,hQ];simp)
  ·dsimp only;rw[zm,Ce,B8];have hi:A.length<t9.length:=by rw[hP.len];omega
   refine Yd.bd (gi hi)<|Yd.bd (gi hi) ?_
   have setAt:∀(v:Int) (j:Nat),j≠A.length->(t9.set A.length v)[j]? =t9[j]? :=λv j hj=>by rw[Vc<|Ne.symm hj]
   refine Yd.cond (λhc=>h7 _ ?_) λhc=>?_
   ·have hk: ¬3<=GP (Z.map (·.1)) (rh x):=by have:=AZ hc;omega
    rw[CA];refine⟨by simp[hP.len],hP.Hw,λh=>?_,λj y hj=>?_⟩
    ·rw[hP.mem,BR,Be];constructor
     ·rintro⟨a,b⟩;exact⟨.inl a,b⟩
     ·rintro⟨a|a,b⟩
      ·exact⟨a,b⟩
      ·rw[a] at b;exact absurd b hk
    ·by_cases hj2:j<A.length
     ·rw[IQ hj2] at hj;rw[setAt _ _ (by omega)];exact hP.at_ j y hj
     ·have:j=A.length:=by have:=(EC.1 hj).1;simp at this;omega
      subst this;simp at hj;exact⟨-1,by rw[Rp hi],.inl ⟨by rw[<-hj];exact hk,rfl⟩⟩
   ·have hk:3<=GP (Z.map (·.1)) (rh x):=by have:=Ay hc;omega
    have fin:∀B D:A3 Bl,hv=B++D->(∀h∈B,J6 h x)->(∀h∈D,J6 x h)->Yd (aaO l Z cs)
      (B6 (λMk (Bp:A3 Int×Int)=>
         cond (decide<|Bp.2<(A.length:Int)) (
          jn (λ(s43:(A3 Int))=>
           bd (AE<|Bp.2+1) λKF=>
           Mk (s43,KF)
          ) λk44=>
          bd (A8 Bp.1 Bp.2) λKx=>
          bd (A8 Bp.1 Bp.2) λKC=>
          cond (decide<|(B.length:Int)<=KC) (
           bd (A8 Bp.1 Bp.2) λHH=>
           bd (A8 Bp.1 Bp.2) λG7=>
           bd (AE<|G7+1) λHI=>
           bd (A8 Bp.1 Bp.2) λJ9=>
           bd (A8 Bp.1 Bp.2) λIg=>
           k44 (Bp.1.set (Bp.2).toNat HI)
          ) (
           k44 Bp.1
          )
         ) (
          bd (A8 Bp.1 (A.length:Int)) λHp=>
          bd (A8 Bp.1 (A.length:Int)) λML=>
          bd (Br hv 0 (B.length:Int)) λx66=>
          bd (BC 40 ([]:A3 ((Int×Int×Int)×A9)) x66) λx68=>
          bd (A8 l (A.length:Int)) λx70=>
          bd (BC 40 x68 ([x70]:A3 ((Int×Int×Int)×A9))) λx72=>
          bd (Br hv (B.length:Int) (hv.length:Int)) λIh=>
          bd (BC 40 x72 Ih) λx76=>
          k7 ((Bp.1.set ((A.length:Int)).toNat (B.length:Int)),x76)
         )
        ) ((t9.set ((A.length:Int)).toNat<| -1),0)):=λB D e hb hdd=>by
     rw[CA];have bl:B.length<=hv.length:=by rw[e];simp
     have dl:hv.length=B.length+D.length:=by rw[e];simp
     refine Yd.each A (λ(T:A3 Int) i=>(T,i)) (λG T=>T.length=l.length/\∀j:Nat,T[j]? =(if j<G.length then((t9.set A.length<| -1)[j]?).map (λt=>bif decide ((B.length:Int)<=t) then t+1 else t) else(t9.set A.length<| -1)[j]?)) (λG y E T Mk hG hT NO=>?_) (λT Mk hT=>?_) (s0:=t9.set A.length<| -1) ⟨by simp[hP.len],λj=>by simp⟩ (by omega)
     ·dsimp only;rw[Cg hG,BM];have gl:=Dn hG;have yA:A[G.length]? =some y:=by rw[hG];simp
      obtain⟨t,t1,t2⟩:=hP.at_ _ _ yA;have T0:T[G.length]? =some t:=by rw[hT.2,if_neg (by omega),setAt _ _ (by omega),t1]
      have tb: -1<=t/\t<=1000:=by
       rcases t2 with⟨_,e⟩|⟨_,m,e,hm⟩
       ·omega
       ·have:=(EC.1 hm).1;omega
      have iT:A8 T (G.length:Int)=some t:=by rw[K9];exact T0
      have gT:G.length<T.length:=(EC.1 T0).1;refine Yd.jn (λT':A3 Int=>T'.length=l.length/\∀j:Nat,T'[j]? =(if j<(G++[y]).length then((t9.set A.length<| -1)[j]?).map (λt=>bif decide ((B.length:Int)<=t) then t+1 else t) else(t9.set A.length<| -1)[j]?)) (λT' h'=>Yd.bd (CP hG (by omega))<|NO T' h') λk44 Hu=>?_
      have z0:(t9.set A.length<| -1)[G.length]? =some t:=by rw[setAt _ _ (by omega),t1]
      refine Yd.bd iT (Yd.bd iT (Yd.cond (λhc=>Yd.bd iT (Yd.bd iT (Yd.bd (Ad ⟨by omega,by omega⟩) (Yd.bd iT (Yd.bd iT (Hu _ ⟨by simp[hT.1],λj=>?_⟩)))))) λhc=>Hu _ ⟨hT.1,λj=>?_⟩))
      ·rw[CA];by_cases hj:j=G.length
       ·subst hj;rw[Rp gT,if_pos (by simp),z0];simp only[P6,hc,BM]
       ·rw[Vc<|Ne.symm hj,hT.2];have:(j<G.length)=(j<(G++[y]).length):=propext (by simp;omega);simp only[this]
      ·by_cases hj:j=G.length
       ·subst hj;rw[T0,if_pos (by simp),z0];simp only[P6,hc,B8]
       ·rw[hT.2];have:(j<G.length)=(j<(G++[y]).length):=propext (by simp;omega);simp only[this]
     ·dsimp only;rw[Ce,B8];have iT:A.length<T.length:=by rw[hT.1];omega
      have s1:Br hv 0 (B.length:Int)=some B:=by
       rw[EO (by omega) (by omega) (by omega),e];simp
      have s2:Br hv (B.length:Int) (hv.length:Int)=some D:=by
       rw[EO (by omega) (by omega) (by omega)];simp;rw[e];simp
      refine Yd.bd (gi iT) (Yd.bd (gi iT) (Yd.bd s1 (Yd.bd (YA [] B (by simp;omega)) (Yd.bd (Bq hA) (Yd.bd (YA _ _ (by simp;omega)) (Yd.bd s2 (Yd.bd (YA _ _ (by simp;omega))<|h7 _ ?_)))))));dsimp only;rw[I4];have sa:=hP.Hw;rw[e] at sa;obtain⟨a1,a2,a3⟩:=Kk.1 sa;refine⟨by simp[hT.1],Kk.2 ⟨Kk.2 ⟨a1,Ta _ _,λh mh y my=>by rw[Be.1 my];exact hb h mh⟩,a2,λh mh y my=>?_⟩,λh=>?_,λj y hj=>?_⟩
      ·rcases BR.1 mh with m|m
       ·exact a3 h m y my
       ·rw[Be.1 m];exact hdd y my
      ·have hm:=hP.mem h;rw[e,BR] at hm;simp only[BR,Be];constructor
       ·rintro((m|m)|m)
        ·exact⟨.inl (hm.1<| .inl m).1,(hm.1<| .inl m).2⟩
        ·rw[m];exact⟨.inr rfl,hk⟩
        ·exact⟨.inl (hm.1<| .inr m).1,(hm.1<| .inr m).2⟩
       ·rintro⟨m|m,hkh⟩
        ·rcases hm.2 ⟨m,hkh⟩ with m|m
         ·exact .inl<| .inl m
         ·exact .inr m
        ·exact .inl<| .inr m
      ·
       by_cases hj2:j<A.length
       ·rw[IQ hj2] at hj;obtain⟨t,t1,t2⟩:=hP.at_ j y hj;rw[Vc (by omega),hT.2,if_pos hj2,setAt _ _ (by omega),t1];refine⟨_,rfl,?_⟩;rcases t2 with⟨n,e2⟩|⟨n,m,e2,hm⟩
        ·left;refine⟨n,?_⟩;rw[e2];dsimp only;rw[decide_eq_false (by omega)];rfl
        ·right;refine⟨n,?_⟩;rw[e] at hm;by_cases hbm:B.length<=m
         ·refine⟨m+1,by rw[e2];dsimp only;rw[decide_eq_true (by omega)];rfl,?_⟩;rw[LM hbm] at hm;rw[LM (by simp<;>omega)];have:m+1-(B++[x]).length=m-B.length:=by simp
          rw[this];exact hm
         ·refine⟨m,by rw[e2];dsimp only;rw[decide_eq_false (by omega)];rfl,?_⟩;rw[IQ (by omega)] at hm;rw[Gw,IQ (by omega)];exact hm
       ·have:j=A.length:=by have:=(EC.1 hj).1;simp at this;omega
        subst this;simp at hj;refine⟨(B.length:Int),by rw[Rp iT],.inr ⟨by rw[<-hj];exact hk,B.length,rfl,?_⟩⟩;rw[Gw,LM<|Az _];simp[hj]
    refine Yd.each hv (λ(_:Unit) i=>i) (λB _=>∀h∈B,J6 h x) (λB h D t KD hB hQ2 NO=>?_) (λt KD hQ2=>?_) (s0:=()) (by simp) (by omega)
    ·have hg:gd (decide<|(B.length:Int)<(hv.length:Int)) true=true:=by rw[Cg hB];rfl
     have bl:=Dn hB;have mh:=at_mem hB;rw[DC hg];refine Yd.bd (Bq hB) ?_;rw[DC hg];refine Yd.bd (Bq hB) ?_;rw[DC hg];refine Yd.bd (Bq hA) ?_;rw[DC hg];refine Yd.bd (lF h.1 x.1) ?_;rw[Cg hB,JO];refine Yd.cond (λhc=>Yd.bd (CP hB (by omega))<|NO () λg mg=>?_) λhc=>fin B (h::D) hB hQ2 λy my=>?_
     ·rcases BR.1 mg with m|m
      ·exact hQ2 g m
      ·rw[Be.1 m];exact AZ hc
     ·have Lh:=Ay hc;obtain⟨hA',hK⟩:=(hP.mem h).1 mh;have hne:h.1≠x.1:=λe=>hxA (by
       rw[<-hd h (by rw[hA];exact G3 _ hA') x mx hK hk e];exact hA')
      have hxh:J6 x h:=((yk h.1 x.1).resolve_left hne).resolve_left Lh;rcases Ag.1 my with e|m
      ·rw[e];exact hxh
      ·have sa:=hP.Hw;rw[hB] at sa;exact zf hxh<|(Ki.1 (Kk.1 sa).2.1).1 y m
    ·have hg:gd (decide<|(hv.length:Int)<(hv.length:Int)) true=false:=by rw[Ce];rfl
     rw[Ef hg,Ef hg,Ef hg,Ef hg];rw[Ce,Q7,B8];exact fin hv [] (by simp) hQ2 (by simp)
 ·dsimp only;rw[Ce,B8];obtain⟨t9,hv⟩:=s;dsimp only at hP⊢;have hvn:=dO hP.Hw;have look:∀(j:Nat) (x:Bl),l[j]? =some x->∃t:Int,A8 t9 (j:Int)=some t/\((¬3<=GP (Z.map (·.1)) (rh x)/\t= -1)\/(3<=GP (Z.map (·.1)) (rh x)/\∃m:Nat,t=(m:Int)/\hv[m]? =some x)):=λj x hj=>by
   obtain⟨t,t1,t2⟩:=hP.at_ j x hj;exact⟨t,by rw[K9];exact t1,t2⟩
  refine Yd.each Z (λ(t:A3 (A3 Int)) i=>((hv,cs,t),i)) (λB t=>∃Z':ZL,Z'.map (·.1)=B.map (·.1)/\t=Z'.map (·.2)/\∀z∈Z',Jq hv z.1 z.2) (λB z E t k81 hB hQ FN=>?_) (λt k81 hQ=>?_) (s0:=[]) ⟨[],rfl,rfl,by simp⟩ (by omega)
  ·dsimp only;rw[zm,Cg hB,BM];have bl:=Dn hB;have mz:=at_mem hB;have oz:=Gm z mz;have ix:A8 (Z.map (·.2)) (B.length:Int)=some z.2:=by
    have:=Bq hB;rw[K9] at this⊢;rw[GX,this];rfl
   obtain⟨Z',z1,z2,z3⟩:=hQ;have tl:t.length=B.length:=by rw[z2,Bw,<-Bw (f:=λz:Q3×A3 Int=>z.1),z1,Bw]
   have zz:=zl z mz;refine Yd.each z.2 (λ(u:A3 Int) i=>(u,i)) (λG u=>u.length<=G.length/\u.Nodup/\∀j':Int,j'∈u↔∃(j m:Nat) (x:Bl),(j:Int)∈G/\l[j]? =some x/\j'=(m:Int)/\hv[m]? =some x) (λG j E u k84 hG hU NO=>?_) (λu k84 hU=>?_) (s0:=[]) ⟨by simp,List.nodup_nil,by simp⟩ (by omega)
   ·dsimp only;refine Yd.bd ix ?_;rw[Cg hG,BM];have gl:=Dn hG;obtain⟨n,x,e,hx,tx⟩:=(oz.iff j).1<|at_mem hG
    subst e;obtain⟨tv,tv1,tv2⟩:=look n x hx;refine Yd.jn (λu':A3 Int=>u'.length<=(G++[(n:Int)]).length/\u'.Nodup/\∀j':Int,j'∈u'↔∃(j m:Nat) (x:Bl),(j:Int)∈G++[(n:Int)]/\l[j]? =some x/\j'=(m:Int)/\hv[m]? =some x) (λu' h'=>Yd.bd (CP hG (by omega))<|NO u' h') λk89 h89=>?_
    refine Yd.bd ix<|Yd.bd (Bq hG)<|Yd.bd tv1<|Yd.bd tv1 ?_
    have split:∀j':Int,(∃(j m:Nat) (x:Bl),(j:Int)∈G++[(n:Int)]/\l[j]? =some x/\j'=(m:Int)/\hv[m]? =some x)↔j'∈u\/∃m:Nat,j'=(m:Int)/\hv[m]? =some x:=λj'=>by
     rw[hU.2.2];constructor
     ·rintro⟨j,m,y,mj,hy,e,hm⟩;rcases BR.1 mj with mj|mj
      ·exact .inl ⟨j,m,y,mj,hy,e,hm⟩
      ·have:j=n:=by have:=Be.1 mj;omega
       rw[this,hx] at hy;cases hy;exact .inr ⟨m,e,hm⟩
     ·rintro(⟨j,m,y,mj,hy,e,hm⟩|⟨m,e,hm⟩)
      ·exact⟨j,m,y,G3 _ mj,hy,e,hm⟩
      ·exact⟨n,m,x,by simp,hx,e,hm⟩
    rcases tv2 with⟨hk,e⟩|⟨hk,m,e,hm⟩
    ·rw[e,show decide ((0:Int)<= -1)=false from rfl,B8];refine h89 _ ⟨by simp;omega,hU.2.1,λj'=>?_⟩;rw[split];refine⟨.inl,λh=>h.elim id λ⟨m,_,hm⟩=>?_⟩;exact absurd ((hP.mem x).1<|Km hm).2 hk
    ·rw[e,decide_eq_true (show(0:Int)<=(m:Int) by omega),BM];rw[e] at tv1;refine Yd.bd ix (Yd.bd (Bq hG) (Yd.bd tv1 (Yd.bd tv1 (Yd.bd (app_1 (by omega) (by omega)) (h89 _ ⟨by simp;omega,?_,λj'=>?_⟩)))))
     ·rw[Rl];refine⟨hU.2.1,by simp,λa ma b mb e2=>?_⟩;rw[Be.1 mb] at e2;obtain⟨j,m',y,mj,hy,e3,Jl⟩:=(hU.2.2 a).1 ma;have:m'=m:=by omega
      rw[this,hm] at Jl;cases Jl;have hjn:j=n:=mC Ht hy hx;have hnG:(n:Int)∉G:=λc=>by
       have:=oz.nd;rw[hG,Rl] at this;exact this.2.2 _ c _ Dm rfl
      rw[hjn] at mj;exact hnG mj
     ·rw[BR,Be,split];refine or_congr Iff.rfl ⟨λh=>⟨m,h,hm⟩,λ⟨m',h,Jl⟩=>?_⟩;have:m'=m:=mC hvn Jl hm;rw[h,this]
   ·dsimp only;refine Yd.bd ix ?_;rw[Ce,B8];refine Yd.bd (app_1 (by omega) (by omega)) (Yd.bd (CP hB hZ) (FN _ ⟨Z'++[(z.1,u)],by simp[z1],by simp[z2],λy my=>?_⟩));rcases BR.1 my with m|m
    ·exact z3 y m
    ·rw[Be.1 m];refine⟨hU.2.1,λj'=>?_⟩;rw[hU.2.2];constructor
     ·rintro⟨j,m,x,mj,hx,e,hm⟩;exact⟨m,x,e,hm,(oz.at hx).1 mj⟩
     ·rintro⟨m,x,e,hm,tx⟩;obtain⟨ml,_⟩:=(hP.mem x).1<|Km hm
      obtain⟨j,hj⟩:=Ym.1 ml;exact⟨j,m,x,(oz.at hj).2 tx,hj,e,hm⟩
  ·dsimp only;rw[zm,Ce,B8];exact Yd.mk ⟨hP.Hw,hP.mem,rfl,hQ⟩
abbrev Pn:=A3 Bl×A3 T3×A3 (A3 Int)
structure RS(s:Pn)(M:A3 H3)(Z:ZL):Prop where
 ok:∀h∈s.1,CS h
 Hw:s.1.Pairwise J6
 fac:∀k,k∈s.1.map rh↔k∈M/\3<=GP (Z.map (·.1)) k
 cor:s.2.1=Z.map (λz=>Bt z.1)
 on:s.2.2=Z.map (·.2)
 nd:(Z.map (·.1)).Nodup
 mem:∀p,p∈Z.map (·.1)↔Ba M p
 Gm:∀z∈Z,Jq s.1 z.1 z.2
def MD.refl(M:A3 H3):MD M M:=⟨λ_ h=>h,λh mh=>⟨h,mh,rfl,FM⟩⟩
def RS.PU{s:Pn}{Z:ZL}(R:RS s M Z)(I:C9 S M)(k:H3):k∈s.1.map rh↔k∈S.map (·.1):=by
 rw[R.fac,Xe I (MD.refl M) R.mem R.nd];rfl
def RS.F0{s:Pn}{Z:ZL}(R:RS s M Z){z:Q3×A3 Int}(mz:z∈Z):Ba M z.1:=(R.mem z.1).1<|BI.2 ⟨z,mz,rfl⟩
def RS.len{s:Pn}{Z:ZL}(R:RS s M Z):s.1.length<=M.length:=by
 have nb:(s.1.map rh).Nodup:=Nx.2 (Ve (λ{x y} mx my h e=>by
  rw[Vs (R.ok x mx) (R.ok y my) e] at h;exact oZ _ h) R.Hw)
 have:=MR nb λx mx=>((R.fac x).1 mx).1
 rwa [Bw] at this
def RS.apj{s:Pn}{Z:ZL}(R:RS s M Z)(h:M.length<=20):Z.length<=8000:=by
 have:=nO R.nd λp mp=>(R.mem p).1 mp
 rw[Bw] at this;have:=Gv h<|Gv h h
 omega
def ti(o:∀h∈l,CS h)(hl:l.length<=50):
  Yd (λr=>(r.2=13/\ ¬EA (l.map rh))\/(r.2=12/\EA (l.map rh)/\ ¬LS (l.map rh))\/(r.2=0/\EA (l.map rh)/\LS (l.map rh)/\r.1.1.Pairwise J6/\(∀S,C9 S (l.map rh)->∀h,h∈r.1.1↔h∈l/\rh h∈S.map (·.1))/\∃Z,RS r.1 (l.map rh) Z)) (Uc l):=by
 unfold Uc;refine Yd.Ak (aeD o hl) λb hb=>Yd.cond (λhc=>Yd.mk<| .inl ⟨rfl,λc=>?_⟩) λhc=>?_
 ·rw[hb.2 c] at hc;cases hc
 have hB:EA (l.map rh):=hb.1 (by simpa using hc);refine Yd.Ak (agX o hl) λs ⟨S,sl⟩=>?_
 have os:∀h∈s,CS h:=λh mh=>o h<|S.sub h mh
 have L:=S.least;refine Yd.Ak (aeF os (by omega)) λr hr=>?_
 obtain⟨C,c1,c2,c3,c4,c5⟩:=hr;have aqf:s.length*(s.length*s.length)<=125000:=Gv (show s.length<=50 by omega) (Gv (show s.length<=50 by omega) (show s.length<=50 by omega));have cv:∀p,p∈C↔Ba (s.map rh) p:=λp=>by rw[c5,ajs]
 rw[c1];refine Yd.Ak (aiD c3 (by omega)) λd hd=>?_
 rcases hd with⟨d3,m,m0,c,hm⟩|⟨rfl,a,ma,b,mb,c,mc,d,md,as3⟩
 ·rw[Ab d3,BM];exact Yd.mk<| .inr<| .inl ⟨rfl,hB,aeg hB m0 λp hp=>hm p<|(cv p).2<|(L.F0 p).2 hp⟩
 ·rw[show decide ((3:Int)<3)=false from rfl,B8];have mem:∀{p},p∈C->Mem (l.map rh) p:=λmp=>((L.F0 _).1<|(cv _).1 mp).1
  have hi:LS (l.map rh):=ajB (λk mk=>(CS.W9 o k mk).nz) (mem ma) (mem mb) (mem mc) (mem md) as3;obtain⟨w,_,hw⟩:=yB o hl;have I:C9 w.1 (l.map rh):=by
   rcases hw with⟨_,h⟩|⟨_,_,h⟩|⟨_,h⟩
   ·exact absurd hB h
   ·exact absurd hi h
   ·exact h
  refine Yd.Ak (ahR os (by omega) c3 (by omega)) λD ⟨d1,d2,Z,z1,z2,z3⟩=>?_
  have R:RS D (l.map rh) Z:=by
   refine⟨λh mh=>?_,?_,λk=>?_,?_,z2,by rw[z1];exact c2,λp=>by rw[z1,cv,L.F0],z3⟩
   ·rw[d1] at mh;exact os h (Hf.1 mh).1
   ·rw[d1];exact S.Hw.filter _
   ·rw[z1,d1,<-show _↔k∈l.map rh/\3<=GP C k from Xe I (MD.refl _) (λp=>by rw[cv,L.F0]) c2 k,Xe I L cv c2];constructor
    ·intro mk;obtain⟨x,mx,e⟩:=BI.1 mk;obtain⟨m1,m2⟩:=Hf.1 mx;rw[<-e];exact⟨BI.2 ⟨x,m1,rfl⟩,AZ m2⟩
    ·rintro⟨mk,h3⟩;obtain⟨x,mx,e⟩:=BI.1 mk;rw[<-e] at h3⊢;exact BI.2 ⟨x,Hf.2 ⟨mx,Ab h3⟩,rfl⟩
   ·rw[d2,<-z1,TR];rfl
  refine Yd.mk<| .inr<| .inr ⟨rfl,hB,hi,R.Hw,λF hF h=>⟨λmh=>?_,λ⟨mh,mf⟩=>?_⟩,Z,R⟩
  ·have mr:rh h∈D.1.map rh:=BI.2 ⟨h,mh,rfl⟩;obtain⟨g,mg,e⟩:=BI.1 ((R.fac<|rh h).1 mr).1;rw[<-Vs (o g mg) (R.ok h mh) e];exact⟨mg,by rw[e];exact(R.PU hF _).1 mr⟩
  ·obtain⟨g,mg,e⟩:=BI.1 ((R.PU hF _).2 mf);rw[<-Vs (R.ok g mg) (o h mh) e];exact mg
def alZ{h:H3}(I:C9 S M)(hM:Jb 14 (h::M))(hlen:M.length<=60)(hp:∀g∈h::M,IZ g.1)(hi:LS (h::M)):∃S',C9 S' (h::M):=by
 obtain⟨r,_,⟨_,hr⟩|⟨_,hr⟩⟩:=Yd.uN I hM (by omega) hlen (hp h Dm).nz λa ma b mb=>dC (hp a ma)<|hp b mb
 ·exact⟨_,hr⟩
 ·exact absurd hi hr
def ajH{S':A3 D7}{h:H3}(I:C9 S M)(I':C9 S' (h::M)){f:D7}(mf:f∈S')(hm:f.1∈M):f.1∈S.map (·.1):=by
 obtain⟨z,mz,tz,hc⟩:=zZ I' mf;obtain⟨o,ho⟩:=I.int;obtain⟨g,mg,tg⟩:=I.cover z (λk mk=>mz k<|Bi _ mk) ⟨f.1,hm,tz⟩;have g1:=(I.Ea g mg).1;have:=ou ho I.nz I.norm hm g1 (hc g.1 (Bi _ g1) tg) tz tg;exact BI.2 ⟨g,mg,this.symm⟩
end
section
variable(n:Int)(k:H3)(Z:ZL)
def Ik(a b:A3 Int):A3 Int:=a.filter λx=>decide<|x∈b
def JV(z w:Q3×A3 Int):ZL:=bif decide (val k z.1<0)&&decide (0<val k w.1)&&decide (2<=(Ik z.2 w.2).length) then [(FC k z.1 w.1,Ik z.2 w.2++[n])] else []
def LW(z:Q3×A3 Int):ZL:=(bif decide (val k z.1<0) then [z] else [])++(bif decide (val k z.1=0) then [(z.1,z.2++[n])] else [])
def JU(z:Q3×A3 Int):ZL:=LW n k z++Z.flatMap (JV n k z)
end
def Yy{α β:Type}{f:α->A3 β}{w:Nat}:∀{l:A3 α},(∀x∈l,(f x).length<=w)->(l.flatMap f).length<=l.length*w
 |[],_=>by simp
 |x::l,h=>by
  have:=Yy (l:=l) λy my=>h y<|Bi _ my
  have:=h x Dm;rw[P7,ES,DF,Rc];omega
def wY(n:Int)(k:H3)(z:Q3×A3 Int):(LW n k z).length<=2:=by
 unfold LW;cases decide (val k z.1<0)<;>cases decide (val k z.1=0)<;>simp
def wZ(n:Int)(k:H3)(z w:Q3×A3 Int):(JV n k z w).length<=1:=by
 unfold JV;cases decide (val k z.1<0)&&decide (0<val k w.1)&&decide (2<=(Ik z.2 w.2).length)<;>simp
def wW(n:Int)(k:H3)(Z:ZL)(z:Q3×A3 Int):(JU n k Z z).length<=2+Z.length:=by
 unfold JU;rw[ES];have:=wY n k z;have:=Yy (l:=Z) (f:=JV n k z) (w:=1) λw _=>wZ n k z w
 omega
def YG{a b:A3 Int}{x:Int}:x∈Ik a b↔x∈a/\x∈b:=by unfold Ik;simp
section
variable{s:Pn}{M:List H3}{Z:ZL}{S:List D7}{h:Bl}
variable{y:Q3×A3 Int}{n:Int}{z:Q3×A3 Int}
def aaP(S:A3 D7)(k:H3)(z w:Q3):Prop:=val k z<0/\0<val k w/\∃f∈S,∃g∈S,f.1≠g.1/\val f.1 z=0/\val f.1 w=0/\val g.1 z=0/\val g.1 w=0
theorem dz(R:RS s M Z)(I:C9 S M){w:Q3×A3 Int}(mz:z∈Z)(mw:w∈Z)(my:y∈JV n (rh h) z w):y=(FC (rh h) z.1 w.1,Ik z.2 w.2++[n])/\aaP S (rh h) z.1 w.1:=by
 unfold JV at my;cases hd:decide (val (rh h) z.1<0)&&decide (0<val (rh h) w.1)&&decide (2<=(Ik z.2 w.2).length) with
 |false=>rw[hd] at my;cases my
 |true=>
  rw[hd] at my;rw[BU,BU,Ev,Ev,Ev] at hd;obtain⟨⟨h0,h1⟩,h2⟩:=hd;have nd:(Ik z.2 w.2).Nodup:=(R.Gm z mz).nd.sublist List.filter_sublist;refine⟨Be.1 my,h0,h1,?_⟩
  match e:Ik z.2 w.2,h2,nd with
  |i::j::r,_,nd=>
   have mi:i∈Ik z.2 w.2:=by rw[e];simp
   have mj:j∈Ik z.2 w.2:=by rw[e];simp
   have Jm:i≠j:=λc=>by rw[c] at nd;simp at nd
   obtain⟨i1,i2⟩:=YG.1 mi;obtain⟨j1,j2⟩:=YG.1 mj;obtain⟨a,x,rfl,hx,tx⟩:=((R.Gm z mz).iff i).1 i1;obtain⟨b,y',rfl,hy,ty⟩:=((R.Gm z mz).iff j).1 j1;have tx':=((R.Gm w mw).at hx).1 i2;have Jd:=((R.Gm w mw).at hy).1 j2;obtain⟨f,mf,ef⟩:=BI.1<|(R.PU I<|rh x).1<|BI.2 ⟨x,Km hx,rfl⟩
   obtain⟨g,mg,eg⟩:=BI.1<|(R.PU I<|rh y').1<|BI.2 ⟨y',Km hy,rfl⟩
   refine⟨f,mf,g,mg,λc=>?_,by rw[ef];exact tx,by rw[ef];exact tx',by rw[eg];exact ty,by rw[eg];exact Jd⟩;rw[ef,eg] at c;have:=Vs (R.ok x<|Km hx) (R.ok y'<|Km hy) c;rw[this] at hx;have:=mC (dO R.Hw) hx hy;exact Jm (by omega)
theorem wX{k:H3}(my:y∈LW n k z):(y=z/\val k z.1<0)\/(y=(z.1,z.2++[n])/\val k z.1=0):=by
 unfold LW at my;rw[BR] at my;rcases my with my|my
 ·cases hd:decide (val k z.1<0) with
  |false=>rw[hd] at my;cases my
  |true=>rw[hd] at my;exact .inl ⟨Be.1 my,AZ hd⟩
 ·cases hd:decide (val k z.1=0) with
  |false=>rw[hd] at my;cases my
  |true=>rw[hd] at my;exact .inr ⟨Be.1 my,AZ hd⟩
theorem Y4(R:RS s M Z)(I:C9 S M)(mz:z∈Z)(my:y∈JU n (rh h) Z z):
  (y=z/\val (rh h) z.1<0)\/(y=(z.1,z.2++[n])/\val (rh h) z.1=0)\/∃w∈Z,y=(FC (rh h) z.1 w.1,Ik z.2 w.2++[n])/\aaP S (rh h) z.1 w.1:=by
 unfold JU at my;rw[BR] at my;rcases my with my|my
 ·rcases wX my with c|c
  ·exact .inl c
  ·exact .inr<| .inl c
 ·obtain⟨w,mw,my⟩:=NB.1 my;exact .inr<| .inr ⟨w,mw,dz R I mz mw my⟩
theorem afg(R:RS s M Z)(I:C9 S M)(n:Int):((Z.flatMap<|JU n (rh h) Z).map (·.1)).Nodup:=by
 have zp:Z.Pairwise λa b=>a.1≠b.1:=Nx.1 R.nd
 refine Nx.2<|List.pairwise_flatMap.2 ⟨λz mz=>?_,?_⟩
 ·unfold JU;rw[Kk];refine⟨?_,List.pairwise_flatMap.2 ⟨λw mw=>?_,?_⟩,λx mx y my=>?_⟩
  ·unfold LW;by_cases c:val (rh h) z.1=0
   ·rw[BH (show¬val (rh h) z.1<0 by rw[c];exact Rat.lt_irrefl),Ab c];simp
   ·rw[BH c];cases decide (val (rh h) z.1<0)<;>simp
  ·unfold JV;cases decide (val (rh h) z.1<0)&&decide (0<val (rh h) w.1)&&decide (2<=(Ik z.2 w.2).length)<;>simp
  ·refine Ve (λ{a b} ma mb ne x mx y my e=>?_) zp;obtain⟨ex,x0,x1,f,mf,g,mg,hne,a1,a2,a3,a4⟩:=dz R I mz ma mx;obtain⟨ey,y0,y1,_⟩:=dz R I mz mb my;rw[ex,ey] at e;exact ne (xJ I (R.F0 mz) (R.F0 ma) (R.F0 mz) (R.F0 mb) x0 x1 y0 y1 mf mg hne a1 a2 a3 a4 e).2
  ·obtain⟨w,mw,my⟩:=NB.1 my;obtain⟨ey,y0,y1,_⟩:=dz R I mz mw my;have ex:x.1=z.1:=by
    rcases wX mx with⟨e,_⟩|⟨e,_⟩<;>rw[e]
   rw[ex,ey];exact λe=>oY (R.F0 mz) (R.F0 mw) (R.F0 mz) y0 y1 e.symm
 ·refine Ve (λ{a b} ma mb ne x mx y my e=>?_) zp;have Ed:∀{z y:Q3×A3 Int},(y=z/\val (rh h) z.1<0)\/(y=(z.1,z.2++[n])/\val (rh h) z.1=0)->y.1=z.1:=λ{z y} c=>by
   rcases c with⟨e,_⟩|⟨e,_⟩<;>rw[e]
  rcases or_assoc.2 (Y4 R I ma mx) with cx|⟨w,mw,ex,x0,x1,f,mf,g,mg,hne,a1,a2,a3,a4⟩
  ·rcases or_assoc.2 (Y4 R I mb my) with cy|⟨v,mv,ey,y0,y1,_⟩
   ·rw[Ed cx,Ed cy] at e;exact ne e
   ·rw[Ed cx,ey] at e;exact oY (R.F0 mb) (R.F0 mv) (R.F0 ma) y0 y1 e.symm
  ·rcases or_assoc.2 (Y4 R I mb my) with cy|⟨v,mv,ey,y0,y1,_⟩
   ·rw[Ed cy,ex] at e;exact oY (R.F0 ma) (R.F0 mw) (R.F0 mb) x0 x1 e
   ·rw[ex,ey] at e;exact ne (xJ I (R.F0 ma) (R.F0 mw) (R.F0 mb) (R.F0 mv) x0 x1 y0 y1 mf mg hne a1 a2 a3 a4 e).1
theorem aio(R:RS s M Z)(I:C9 S M)(hz:(rh h).1≠o3)(p:Q3):p∈(Z.flatMap<|JU (s.1.length:Int) (rh h) Z).map (·.1)↔Ba (rh h::M) p:=by
 constructor
 ·intro mp;obtain⟨y,my,rfl⟩:=BI.1 mp;obtain⟨z,mz,my⟩:=NB.1 my;rcases Y4 R I mz my with⟨e,hv⟩|⟨e,hv⟩|⟨w,mw,e,h0,h1,f,mf,g,mg,hne,a1,a2,a3,a4⟩
  ·rw[e];exact dW (R.F0 (z:=z) mz)<|F3 hv
  ·rw[e];show Ba _ z.1;exact dW (R.F0 (z:=z) mz) (by rw[hv];exact FM)
  ·rw[e];show Ba _ (FC (rh h) z.1 w.1);exact(ajL I (R.F0 mz) (R.F0 mw) h0 h1 mf mg hne a1 a2 a3 a4).1
 ·intro hp;have Ed:∀z∈Z,val (rh h) z.1<=0->z.1∈(Z.flatMap<|JU (s.1.length:Int) (rh h) Z).map (·.1):=λz mz hv=>by
   by_cases h0:val (rh h) z.1=0
   ·refine BI.2 ⟨(z.1,z.2++[(s.1.length:Int)]),NB.2 ⟨z,mz,?_⟩,rfl⟩;unfold JU LW;rw[Ab h0];simp
   ·refine BI.2 ⟨z,NB.2 ⟨z,mz,?_⟩,rfl⟩;unfold JU LW;rw[Ab (show val (rh h) z.1<0 by grind)];simp
  rcases afw I hp with hv|⟨u,v,hu,hv,h0,h1,e,f,mf,g,mg,hne,a1,a2,a3,a4⟩
  ·obtain⟨z,mz,rfl⟩:=BI.1 ((R.mem p).2 hv);exact Ed z mz<|hp.1 _ Dm
  ·obtain⟨z,mz,rfl⟩:=BI.1 ((R.mem u).2 hu);obtain⟨w,mw,rfl⟩:=BI.1<|(R.mem v).2 hv
   refine BI.2 ⟨(FC (rh h) z.1 w.1,Ik z.2 w.2++[(s.1.length:Int)]),NB.2 ⟨z,mz,?_⟩,e.symm⟩;have two:2<=(Ik z.2 w.2).length:=by
    obtain⟨x,mx,ex⟩:=BI.1<|(R.PU I f.1).2<|BI.2 ⟨f,mf,rfl⟩
    obtain⟨y,my,ey⟩:=BI.1<|(R.PU I g.1).2<|BI.2 ⟨g,mg,rfl⟩
    obtain⟨a,ha⟩:=Ym.1 mx;obtain⟨b,hb⟩:=Ym.1 my;rw[<-ex] at a1 a2;rw[<-ey] at a3 a4;have m1:(a:Int)∈Ik z.2 w.2:=YG.2 ⟨((R.Gm z mz).at ha).2 a1,((R.Gm w mw).at ha).2 a2⟩;have m2:(b:Int)∈Ik z.2 w.2:=YG.2 ⟨((R.Gm z mz).at hb).2 a3,((R.Gm w mw).at hb).2 a4⟩;have HM:a≠b:=λc=>hne (by rw[<-ex,<-ey];rw[c,hb] at ha;cases ha;rfl)
    have:=MR (l:=[(a:Int),(b:Int)]) (T:=Ik z.2 w.2) (by simp;omega) (by
     intro x mx;rcases Ag.1 mx with e|mx
     ·rw[e];exact m1
     ·rw[Be.1 mx];exact m2)
    exact this
   unfold JU;refine PA _<|NB.2 ⟨w,mw,?_⟩
   unfold JV;rw[Ab h0,Ab h1,Ab two];simp
theorem ain(R:RS s M Z)(I:C9 S M)(hm:∀x∈s.1,rh x∈M)(my:y∈Z.flatMap (JU (s.1.length:Int) (rh h) Z)):Jq (s.1++[h]) y.1 y.2:=by
 have up:∀{p:Q3} {o:A3 Int},Jq s.1 p o->∀j:Int,(∃(m:Nat) (x:Bl),j=(m:Int)/\(s.1++[h])[m]? =some x/\val (rh x) p=0)↔j∈o\/(j=(s.1.length:Int)/\val (rh h) p=0):=λ{p o} ho j=>by
  rw[ho.iff];constructor
  ·rintro⟨m,x,e,hx,t⟩;by_cases hlt:m<s.1.length
   ·rw[IQ hlt] at hx;exact .inl ⟨m,x,e,hx,t⟩
   ·have hb:=(EC.1 hx).1;have em:m=s.1.length:=by simp at hb;omega
    subst em;rw[LM<|Az _] at hx;simp at hx;rw[hx];exact .inr ⟨e,t⟩
  ·rintro(⟨m,x,e,hx,t⟩|⟨e,t⟩)
   ·exact⟨m,x,e,by rw[IQ (EC.1 hx).1];exact hx,t⟩
   ·exact⟨s.1.length,h,e,by simp,t⟩
 have fresh:∀{p:Q3} {o:A3 Int},Jq s.1 p o->(s.1.length:Int)∉o:=λ{p o} ho c=>by
  obtain⟨m,x,e,hx,_⟩:=(ho.iff _).1 c;have:=(EC.1 hx).1;omega
 have put:∀{p:Q3} {o:A3 Int},Jq s.1 p o->val (rh h) p=0->Jq (s.1++[h]) p (o++[(s.1.length:Int)]):=λ{p o} ho t=>by
  refine⟨?_,λj=>?_⟩
  ·rw[Rl];refine⟨ho.nd,by simp,λa ma b mb e=>fresh ho ?_⟩;rw[Be.1 mb] at e;rw[<-e];exact ma
  ·rw[up ho,BR,Be];simp[t]
 obtain⟨z,mz,my⟩:=NB.1 my;rcases Y4 R I mz my with⟨e,hv⟩|⟨e,hv⟩|⟨w,mw,e,h0,h1,f,mf,g,mg,hne,a1,a2,a3,a4⟩
 ·rw[e];refine⟨(R.Gm z mz).nd,λj=>?_⟩;rw[up<|R.Gm z mz];refine⟨.inl,λc=>c.elim id λ⟨_,t⟩=>?_⟩;rw[t] at hv;exact absurd hv (by grind)
 ·rw[e];exact put (R.Gm z mz) hv
 ·rw[e];have ho:Fw (val (rh h) z.1) (val (rh h) w.1)=true:=Jt.2<| .inl ⟨h0,h1⟩
  refine put ⟨(R.Gm z mz).nd.sublist List.filter_sublist,λj=>?_⟩<|YE ho
  rw[YG];constructor
  ·rintro⟨j1,j2⟩;obtain⟨m,x,e,hx,t⟩:=((R.Gm z mz).iff j).1 j1;rw[e] at j2;exact⟨m,x,e,hx,(RB (R.F0 mz).1 (R.F0 mw).1 ho<|hm x<|Km hx).2 ⟨t,((R.Gm w mw).at hx).1 j2⟩⟩
  ·rintro⟨m,x,e,hx,t⟩;obtain⟨t1,t2⟩:=(RB (R.F0 mz).1 (R.F0 mw).1 ho<|hm x<|Km hx).1 t;rw[e];exact⟨((R.Gm z mz).at hx).2 t1,((R.Gm w mw).at hx).2 t2⟩
end
section
variable{S:A3 D7}{l b:A3 Bl}{α:Type}{M:A3 H3}{s:Pn}{Z:ZL}
def ab5(l:A3 Bl)(r:Int):Prop:=(r=11/\ ¬Asc l)\/(Asc l/\((r=13/\ ¬EA (l.map rh))\/(r=12/\EA (l.map rh)/\ ¬LS (l.map rh))\/(EA (l.map rh)/\LS (l.map rh)/\∃b:A3 Bl,b.Pairwise J6/\(∀S,C9 S (l.map rh)->∀h,h∈b↔h∈l/\rh h∈S.map (·.1))/\r=bif decide (b.length<l.length) then 1 else 0)))
def ado(o:∀h∈l,CS h)(hc:aG l=some 0)(hl:l.length<=32):
  Yd (ab5 l) (It l):=by
 unfold It;rw[BH (show¬32<(l.length:Int) by omega),B8,hc];refine Yd.bd rfl ?_;show Yd _ (lp _ _ 1);have fin:Asc l->∀k:Int->A6 Int,Yd (ab5 l)
   (bd (Uc l) λBg=>cond ((decide<|Bg.2=0)&&(decide<|(Bg.1.1.length:Int)<(l.length:Int))) (some 1)<|some Bg.2):=λhP _=>by
  refine Yd.Ak (ti o (by omega)) λr hr=>?_
  rcases hr with⟨e,h⟩|⟨e,h1,h2⟩|⟨e,h1,h2,h3,h4,_⟩
  ·rw[e];exact Yd.mk<| .inr ⟨hP,.inl ⟨rfl,h⟩⟩
  ·rw[e];exact Yd.mk<| .inr ⟨hP,.inr<| .inl ⟨rfl,h1,h2⟩⟩
  ·rw[e];have hd:decide ((r.1.1.length:Int)<(l.length:Int))=decide (r.1.1.length<l.length):=GW.2 (by omega);rw[hd];show Yd _ (cond (decide<|r.1.1.length<l.length) (some 1)<|some 0);cases hq:decide (r.1.1.length<l.length)
   ·exact Yd.mk (.inr ⟨hP,.inr (.inr ⟨h1,h2,r.1.1,h3,h4,by rw[hq];rfl⟩)⟩)
   ·exact Yd.mk (.inr ⟨hP,.inr (.inr ⟨h1,h2,r.1.1,h3,h4,by rw[hq];rfl⟩)⟩)
 cases l with
 |nil=>
  obtain⟨F,hF⟩:∃F,18446744073709551616=F+1:=⟨18446744073709551615,rfl⟩;rw[hF];exact fin (λA x y C e=>by cases A<;>cases e) λ_=>none
 |cons a T=>
  refine Yd.from (a::T) (λ(_:Unit) i=>i) (λA _=>A≠[]/\Asc A) (λA x C s k hA hP next=>?_) (λs k hP=>?_) [a] T (s0:=()) rfl ⟨by simp,λA x y C e=>by
    have:=congrArg List.length e;simp at this;omega⟩ (by omega)
  ·rw[Cg hA,BM];obtain⟨h0,hP⟩:=hP;obtain rfl|⟨B,y,rfl⟩:A=[]\/∃B y,A=B++[y]:=(List.eq_nil_or_concat A).imp id λ⟨B,y,h⟩=>⟨B,y,by rw[h,List.concat_eq_append]⟩
   ·exact absurd rfl h0
   ·have i1:A8 (a::T) (B.length:Int)=some y:=by rw[K9,hA];simp
    have i2:=Bq hA;have al:=Dn hA;have f:=CP hA (by omega);have en:(B++[y]).length=B.length+1:=by simp
    have nx:=next ()
    have Hw:=ym (l:=a::T) (A:=B) (x:=y) (y:=x) (C:=C) (by rw[hA];simp) hP
    generalize (B++[y]).length=m at*
    subst en;refine Yd.bd (x:=(B.length:Int)) (by rw[Ad ⟨by omega,by omega⟩];exact congrArg some (by omega))<|Yd.bd i1<|Yd.bd i2<|Yd.bd (lF y.1 x.1) ?_
    refine Yd.cond (λhv=>Yd.mk<| .inl ⟨rfl,λc=>?_⟩) λhv=>Yd.bd f (nx ⟨by simp,Hw (by simpa using hv)⟩)
    have:=c B y x C (by rw[hA];simp);have h9: ¬IL y.1 x.1:=by simpa using hv
    exact h9 this
  ·rw[Ce,B8];exact fin hP.2 k
def aiI(o:∀h∈l,CS h)(I:C9 S (l.map rh))(hb:b.Pairwise J6)(hm:∀h,h∈b↔h∈l/\rh h∈S.map (·.1)):b.length=S.length:=by
 have nS:(S.map (·.1)).Nodup:=Nx.2<|I.U9.imp λh=>h
 have nb:(b.map rh).Nodup:=Nx.2 (Ve (λ{x y} mx my h e=>by
  rw[Vs (o x ((hm x).1 mx).1) (o y ((hm y).1 my).1) e] at h;exact oZ _ h) hb)
 have h1:=MR nb λx mx=>by
  obtain⟨h,mh,rfl⟩:=BI.1 mx;exact((hm h).1 mh).2
 have h2:=MR nS λx mx=>by
  obtain⟨f,mf,rfl⟩:=BI.1 mx;obtain⟨h,mh,e⟩:=BI.1 (I.Ea f mf).1;refine BI.2 ⟨h,(hm h).2 ⟨mh,?_⟩,e⟩;rw[e];exact BI.2 ⟨f,mf,rfl⟩
 rw[Bw,Bw] at h1 h2;omega
def QL{β:Type}{l A C:A3 α}{x:α}(f:α->β)(h:l=A++x::C):A8 (l.map f) (A.length:Int)=some (f x):=by
 have:=Bq h;rw[K9] at this⊢;rw[GX,this];rfl
def uB(I:C9 S M){f:D7}(mf:f∈S){p:Q3}(mp:p∈f.2):Ba M p:=(((I.Ea f mf).2.2.2 p).1 mp).1
def yt(M:A3 H3)(h:Bl)(r:Pn×Bool):Prop:=(r.2=true/\(∃Z',RS r.1 (rh h::M) Z')/\∃S',C9 S' (rh h::M))\/(r.2=false/\ ¬LS (rh h::M))
def amG{k:H3}(R:RS s M Z)(I:C9 S M)(hz:k.1≠o3)(hn:∀a∈k::M,∀b∈k::M,QW a b->a=b)(ho:∀z∈Z,val k z.1<=0):RS s (k::M) Z/\C9 S (k::M):=by
 have hf:∀f∈S,∀p∈f.2,val k p<=0:=λf mf p mp=>by
  obtain⟨z,mz,e⟩:=BI.1<|(R.mem p).2<|uB I mf mp
  rw[<-e];exact ho z mz
 have I':=I.out hz hn hf;have hv:=λp=>(R.mem p).trans (xY I.bdd (λq=>wV I hf) p).symm
 exact⟨⟨R.ok,R.Hw,λg=>(R.PU I g).trans<|Xe I' (MD.refl _) hv R.nd g,R.cor,R.on,R.nd,hv,R.Gm⟩,I'⟩
def Kv(W:ZL):A3 T3×A3 (A3 Int):=(W.map<|λz=>Bt z.1,W.map (·.2))
def oS(W:ZL)(z:Q3×A3 Int):Kv (W++[z])=((Kv W).1++[Bt z.1],(Kv W).2++[z.2]):=by unfold Kv;simp
def yY(W:ZL):(Kv W).1.length=W.length/\(Kv W).2.length=W.length:=by unfold Kv;simp
def yn{b:Nat}{s:A3 α}(hb:b<=1000)(hs:s.length<=100000000):BC b [] s=some s:=by
 unfold BC;have h1:(([]:A3 α).length+s.length)*b<=140737488355328:=CX (Gv (show([]:A3 α).length+s.length<=100000000 by simp;omega) hb) (by omega);rw[Ab h1,Ab (show([]:A3 α).length+s.length<=9223372036854775807 by simp;omega)];rfl
theorem afX{h:Bl}(R:RS s M Z)(I:C9 S M)(oh:CS h)(hM:Jb 14 M)(hp:∀g∈M,IZ g.1)(hlen:M.length<=20):
  Yd (yt M h) (bY s h):=by
 have hM':Jb 14 (rh h::M):=λg mg=>(Ag.1 mg).elim (λe=>by rw[e];exact⟨oh.lvn (by omega),oh.Le⟩)<|hM g
 have hp':∀g∈rh h::M,IZ g.1:=λg mg=>(Ag.1 mg).elim (λe=>by rw[e];exact oh.qI)<|hp g
 have hnm:∀a∈rh h::M,∀b∈rh h::M,QW a b->a=b:=λa ma b mb=>dC (hp' a ma)<|hp' b mb
 have hz:(rh h).1≠o3:=oh.qI.nz;have zl:=R.apj hlen;have zv:∀z∈Z,Cj 500 z.1:=λz mz=>Pv (gH hM<|R.F0 mz) (by omega)
 have sl:=R.len;obtain⟨hs,cs,os⟩:=s;have ecs:cs=Z.map (λz=>Bt z.1):=R.cor;have eos:os=Z.map (·.2):=R.on;subst ecs eos;have cl:(Z.map λz=>Bt z.1).length=Z.length:=Bw _;unfold bY;dsimp only at sl⊢;refine Yd.each Z (λ(t:A3 A9×Bool×Bool) i=>(t.1,t.2.1,t.2.2,i)) (λA t=>t=(A.map<|λz=>BG<|val (rh h) z.1,A.any<|λz=>decide<|val (rh h) z.1<0,A.any<|λz=>decide<|0<val (rh h) z.1)) (λA z C t k hA hP next=>?_) (λt k hP=>?_) (s0:=([],false,false)) rfl (by omega)
 ·dsimp only;rw[cl,Cg hA,BM];have mz:=at_mem hA;have al:=Dn hA;obtain⟨vv,vl⟩:=gI oh (zv z mz) (by omega);have sg:=Vv vl (by omega);rw[hP];dsimp only;refine Yd.bd (QL _ hA) (Yd.bd vv (Yd.bd (app_1 (by omega) (by rw[Bw];omega)) ?_));have fin:∀B7 BD:Int,(A.any (λz=>decide<|val (rh h) z.1<0)=false->B7=(val (rh h) z.1).num.sign)->(A.any (λz=>decide<|0<val (rh h) z.1)=false->BD=(val (rh h) z.1).num.sign)->
    Yd (yt M h) (bd (AE<|(A.length:Int)+1) λBS=>k (A.map (λz=>BG<|val (rh h) z.1)++[BG<|val (rh h) z.1],(A.any (λz=>decide<|val (rh h) z.1<0)||decide (B7<0)),(A.any (λz=>decide<|0<val (rh h) z.1)||decide (0<BD)),BS)):=λB7 BD e1 e2=>by
   refine Yd.bd (CP hA (by omega))<|next (_,_,_) ?_
   refine Prod.ext (by simp)<|Prod.ext ?_ ?_
   ·dsimp only;rw[VO];cases c:A.any (λz=>decide<|val (rh h) z.1<0) with
    |true=>rfl
    |false=>rw[e1 c,sign_neg];simp
   ·dsimp only;rw[VO];cases c:A.any (λz=>decide<|0<val (rh h) z.1) with
    |true=>rfl
    |false=>rw[e2 c,Xz];simp
  refine Yd.Aa (λg1=>⟨_,sg,Yd.Aa (λg2=>⟨_,sg,fin _ _ (λ_=>rfl) λ_=>rfl⟩) λg2=>fin _ _ (λ_=>rfl) λc=>?_⟩) λg1=>Yd.Aa (λg2=>⟨_,sg,fin _ _ (λc=>?_) λ_=>rfl⟩) λg2=>fin _ _ (λc=>?_) λc=>?_
  ·rw[c] at g2;cases g2
  ·rw[c] at g1;cases g1
  ·rw[c] at g1;cases g1
  ·rw[c] at g2;cases g2
 ·dsimp only;rw[cl,Ce,B8,hP];dsimp only;refine Yd.cond (λhin=>Yd.mk<| .inr ⟨rfl,?_⟩) λhin=>Yd.cond (λZg=>Yd.mk<| .inl ⟨rfl,?_⟩) λZg=>?_
  ·refine I.empty λf mf p mp=>?_
   obtain⟨z,mz,e⟩:=BI.1<|(R.mem p).2<|uB I mf mp
   rw[<-e,<-YS];intro c;rw[F6,VY] at hin;exact hin z mz<|Ab c
  ·rw[F6,VY] at Zg;have:=amG R I hz hnm λz mz=>YS.1 λc=>Zg z mz<|Ab c
   exact⟨⟨_,this.1⟩,_,this.2⟩
  ·rw[VZ,VU] at hin Zg;obtain⟨zi,mzi,hzi⟩:=hin;obtain⟨zo,mzo,hzo⟩:=Zg;have hzi:=AZ hzi;have hzo:=AZ hzo;have hin:LS (rh h::M):=by
    obtain⟨o,ho⟩:=I.int;obtain⟨q,q1,q2⟩:=qJ ho (R.F0 mzi).1 hzi;exact⟨q,λg mg=>(Ag.1 mg).elim (λe=>by rw[e];exact q2)<|q1 g⟩
   obtain⟨S',I'⟩:=alZ I hM' (by omega) hp' hin;have nw:∀W:ZL,W.length<=100000000->(Kv W).1.length<=100000000/\(Kv W).2.length<=100000000:=λW hW=>by rw[(yY W).1,(yY W).2];exact⟨hW,hW⟩
   refine Yd.each Z (λ(t:A3 T3×A3 (A3 Int)) i=>(t.1,t.2,i)) (λA t=>t=Kv (A.flatMap<|JU (hs.length:Int) (rh h) Z)) (λA z C t MK hA hQ next=>?_) (λt MK hQ=>?_) (s0:=([],[])) rfl (by omega)
   ·dsimp only;rw[Cg hA,BM];have mz:=at_mem hA;have al:=Dn hA;have wl:(A.flatMap<|JU (hs.length:Int) (rh h) Z).length<=8000*8002:=by
     have:=Yy (l:=A) (f:=JU (hs.length:Int) (rh h) Z) (w:=8002) λz _=>by have:=wW (hs.length:Int) (rh h) Z z;omega
     exact CX this (Gv (by omega)<|Az _)
    generalize hW:A.flatMap (JU (hs.length:Int) (rh h) Z)=W at wl hQ
    obtain⟨vv,vl⟩:=gI oh (zv z mz) (by omega);have sg:=Vv vl (by omega);have iv:=QL (λz:Q3×A3 Int=>BG<|val (rh h) z.1) hA;have ic:=QL (λz:Q3×A3 Int=>Bt z.1) hA;have io:=QL (λz:Q3×A3 Int=>z.2) hA;have zo:=(R.Gm z mz).len;have zn:z.2.length<=100:=by dsimp only at zo;omega
    refine Yd.bd iv<|Yd.bd iv<|Yd.bd sg ?_
    refine Yd.jn (λt':A3 T3×A3 (A3 Int)=>t'=Kv (W++bif decide (val (rh h) z.1<0) then [z] else [])) (λt' h'=>?_) λKD El=>?_
    ·refine Yd.bd iv (Yd.bd iv<|Yd.bd sg ?_);refine Yd.jn (λt':A3 T3×A3 (A3 Int)=>t'=Kv (W++LW (hs.length:Int) (rh h) z)) (λt2 h2=>?_) λk47 IJ=>?_
     ·refine Yd.each Z (λ(t:A3 T3×A3 (A3 Int)) i=>(t.1,t.2,i)) (λB t=>t=Kv (W++(LW (hs.length:Int) (rh h) z++B.flatMap (JV (hs.length:Int) (rh h) z)))) (λB w D u k62 hB hU FN=>?_) (λu k62 hU=>?_) (s0:=t2) (by rw[h2];simp) (by omega)
      ·dsimp only;rw[Cg hB,BM];have mw:=at_mem hB;have bl:=Dn hB;have el:(LW (hs.length:Int) (rh h) z++B.flatMap (JV (hs.length:Int) (rh h) z)).length<=8002:=by
        rw[ES];have:=wY (hs.length:Int) (rh h) z;have:=Yy (l:=B) (f:=JV (hs.length:Int) (rh h) z) (w:=1) λw _=>wZ _ _ _ _
        omega
       generalize hV:LW (hs.length:Int) (rh h) z++B.flatMap (JV (hs.length:Int) (rh h) z)=V at el hU
       obtain⟨ww,wl2⟩:=gI oh (zv w mw) (by omega);have sgw:=Vv wl2 (by omega);have jv:=QL (λz:Q3×A3 Int=>BG<|val (rh h) z.1) hB;have jc:=QL (λz:Q3×A3 Int=>Bt z.1) hB;have jo:=QL (λz:Q3×A3 Int=>z.2) hB;have wo:=(R.Gm w mw).len;have wn:w.2.length<=100:=by dsimp only at wo;omega
       have fl:LW (hs.length:Int) (rh h) z++(B++[w]).flatMap (JV (hs.length:Int) (rh h) z)=V++JV (hs.length:Int) (rh h) z w:=by rw[<-hV];simp
       refine Yd.jn (λt':A3 T3×A3 (A3 Int)=>t'=Kv (W++(V++JV (hs.length:Int) (rh h) z w))) (λt' h'=>Yd.bd (CP hB (by omega)) (FN (_,_) (by rw[fl,<-h']))) λk65 h65=>?_
       refine Yd.bd io<|Yd.bd jo<|Yd.bd (vE (R.Gm w mw).nd zn wn)<|Yd.bd iv<|Yd.bd iv<|Yd.bd sg ?_
       have two:decide ((2:Int)<=((List.filter (λx=>decide<|x∈w.2) z.2).length:Int))=decide (2<=(Ik z.2 w.2).length):=GW.2 (by unfold Ik;omega);rw[sign_neg,two];by_cases h0:val (rh h) z.1<0
       ·have g1:gd (decide<|val (rh h) z.1<0) true=true:=by rw[Ab h0];rfl
        rw[DC g1];refine Yd.bd jv ?_;rw[DC g1];refine Yd.bd jv ?_;rw[DC g1];refine Yd.bd sgw ?_;rw[Xz];refine Yd.cond (λhc=>?_) λhc=>h65 _ (by rw[hU];unfold JV;rw[hc];simp)
        have h1:0<val (rh h) w.1:=by
         rw[BU,BU] at hc;exact AZ hc.1.2
        have B0:=lvs vl wl2;have hne:val (rh h) z.1-val (rh h) w.1≠0:=by grind
        have hdv:=L0 vl<|lvi B0 hne
        rw[<-P0] at hdv;have hwz:=yD (zv w mw)<|zv z mz
        have hsc:=Rx hwz hdv;refine Yd.bd iv (Yd.bd iv (Yd.bd iv (Yd.bd iv (Yd.bd jv (Yd.bd jv (Yd.bd (Tp vl wl2 (by omega) (by omega)) (Yd.bd (apF vl B0 (by omega) (by omega) hne) (Yd.bd ic (Yd.bd jc (Yd.bd ic (Yd.bd (zX (zv w mw) (zv z mz) (by omega)) (Yd.bd (Vl hwz hdv (by omega)) (Yd.bd (pI (zv z mz) hsc (by omega)) ?_)))))))))))));have wv:(W++V).length<=100000000:=by rw[ES];omega
        rw[hU];refine Yd.bd (app_1 (by omega) (nw _ wv).1) (Yd.bd (app_1 (by omega) ?_) (Yd.bd (app_1 (by omega) (nw _ wv).2)<|h65 _ ?_))
        ·have:=TY (λx=>decide<|x∈w.2) z.2;omega
        ·unfold JV;rw[hc,BM,<-Gw,oS];rfl
       ·have g1:gd (decide<|val (rh h) z.1<0) true=false:=by rw[BH h0];rfl
        rw[Ef g1,Ef g1,Ef g1];rw[BH h0,Q7,Q7,B8];refine h65 _ (by rw[hU];unfold JV;rw[BH h0];simp)
      ·dsimp only;rw[Ce,B8];refine Yd.bd (CP hA (by omega))<|next (_,_) ?_
       rw[List.flatMap_append,hW];simp only[P7,List.flatMap_nil,JQ];exact hU
     ·have eq0:decide ((val (rh h) z.1).num.sign=0)=decide (val (rh h) z.1=0):=sign_zero _;rw[eq0,h'];have wv:(W++bif decide (val (rh h) z.1<0) then [z] else []).length<=100000000:=by
       rw[ES];cases decide (val (rh h) z.1<0)<;>simp<;>omega
      refine Yd.cond (λhc=>Yd.bd ic (Yd.bd (app_1 (by omega) (nw _ wv).1) (Yd.bd io (Yd.bd (yn (by omega) (by omega)) (Yd.bd (app_1 (by omega) (by omega)) (Yd.bd (app_1 (by omega) (nw _ wv).2)<|IJ _ ?_)))))) λhc=>IJ _ ?_
      ·unfold LW;rw[hc,BM,<-Gw,oS]
      ·unfold LW;rw[hc,B8,JQ]
    ·rw[sign_neg,hQ];refine Yd.cond (λhc=>Yd.bd ic (Yd.bd (app_1 (by omega) (nw W (by omega)).1) (Yd.bd io (Yd.bd (yn (by omega) (by omega)) (Yd.bd (app_1 (by omega) (nw W (by omega)).2)<|El _ ?_))))) λhc=>El _ ?_
     ·rw[hc,BM,oS]
     ·rw[hc,B8,JQ]
   ·dsimp only;rw[Ce,B8,hQ];have hvn:=dO R.Hw;have hsl:hs.length<=20:=by omega
    have sM:∀x∈hs,rh x∈M:=λx mx=>((R.fac<|rh x).1<|BI.2 ⟨x,mx,rfl⟩).1
    have Mh:h∉hs:=λc=>by
     have:=(R.F0 mzo).1 _<|sM h c
     grind
    have Zm:=λp=>aio (s:=(hs,_,_)) R I hz p
    have Zn:=afg (s:=(hs,_,_)) (h:=h) R I (hs.length:Int);have Zo:=λy=>ain (s:=(hs,_,_)) (h:=h) R I sM (y:=y)
    dsimp only at Zm Zo
    generalize hW:Z.flatMap (JU (hs.length:Int) (rh h) Z)=W at Zm Zn Zo
    have Wl:W.length<=100000000:=by
     have:=Yy (l:=Z) (f:=JU (hs.length:Int) (rh h) Z) (w:=8002) λz _=>by have:=wW (hs.length:Int) (rh h) Z z;omega
     rw[hW] at this;exact CX this (CX (Gv zl<|Az _) (by omega))
    have F:=Xe I' (MD.refl _) Zm Zn;have lM:∀x∈hs++[h],rh x∈rh h::M:=λx mx=>(BR.1 mx).elim (λm=>Bi _<|sM x m) λm=>by rw[Be.1 m];exact Dm
    have lo:∀x∈hs++[h],CS x:=λx mx=>(BR.1 mx).elim (R.ok x) λm=>by rw[Be.1 m];exact oh
    refine Yd.bd (YA [] hs (by simp;omega)) (Yd.bd (YA _ _ (by simp;omega)) ?_);rw[I4];refine Yd.Ak (alE (l:=hs++[h]) (by simp;omega) ?_ Wl Zo (cs:=(Kv W).1) λx mx y my cx cy e=>?_) λr hr=>Yd.mk<| .inl ⟨rfl,?_,S',I'⟩
    ·rw[Rl];exact⟨hvn,by simp,λa ma b mb e=>Mh (by rw[<-Be.1 mb,<-e];exact ma)⟩
    ·obtain⟨f,mf,ef⟩:=BI.1 ((F<|rh x).2 ⟨lM x mx,cx⟩);obtain⟨g,mg,eg⟩:=BI.1<|(F<|rh y).2 ⟨lM y my,cy⟩
     have:=ahP I' mf mg (by rw[ef,eg];show rn x.1=rn y.1;rw[e]);rw[ef,eg] at this;exact Vs (lo x mx) (lo y my) this
    ·obtain⟨r1,r2,r3,Z',e1,e2,e3⟩:=hr;refine⟨Z',λx mx=>lo x ((r2 x).1 mx).1,r1,λk=>?_,?_,e2,by rw[e1];exact Zn,λp=>by rw[e1];exact Zm p,e3⟩
     ·rw[e1];constructor
      ·intro mk;obtain⟨x,mx,e⟩:=BI.1 mk;rw[<-e];exact⟨lM x ((r2 x).1 mx).1,((r2 x).1 mx).2⟩
      ·rintro⟨mk,ck⟩;rcases Ag.1 mk with e|mk'
       ·rw[e] at ck⊢;exact BI.2 ⟨h,(r2 h).2 ⟨by simp,ck⟩,rfl⟩
       ·obtain⟨f,mf,ef⟩:=BI.1 ((F k).2 ⟨mk,ck⟩);have:=ajH I I' mf (by rw[ef];exact mk');rw[ef] at this;obtain⟨x,mx,e⟩:=BI.1<|(R.PU I k).2 this
        rw[<-e] at ck⊢;exact BI.2 ⟨x,(r2 x).2 ⟨G3 _ mx,ck⟩,rfl⟩
     ·rw[r3];unfold Kv;have:W.map (λz=>Bt z.1)=(W.map (·.1)).map Bt:=by rw[TR];rfl
      dsimp only;rw[this,<-e1,TR];rfl
def ae0{F:A3 D7}(o:∀h∈l,CS h)(hl:l.length<=50)(I:C9 F (l.map rh)):Yd (λr=>∃Z,RS r (l.map rh) Z) (ax l):=by
 unfold ax;refine Yd.Ak (ti o hl) λx hx=>Yd.mk ?_
 rcases hx with⟨_,h⟩|⟨_,_,h⟩|⟨_,_,_,_,_,h⟩
 ·exact absurd I.bdd h
 ·exact absurd I.int h
 ·exact h
def adn(R:RS s (l.map rh) Z)(I:C9 S (l.map rh))(ol:∀h∈l,CS h)(ob:∀h∈b,CS h)(hlen:l.length+b.length<=20):
  Yd (λr=>r.2=true↔LS (b.map rh++l.map rh)) (ah s b):=by
 unfold ah;refine Yd.each b (λ(t:Pn×Bool) i=>(t.1,t.2,i)) (λA t=>(t.2=true/\∃N S Z,(∀k,k∈N↔k∈A.map rh\/k∈l.map rh)/\N.length=A.length+l.length/\RS t.1 N Z/\C9 S N)\/(t.2=false/\ ¬LS (b.map rh++l.map rh))) (λA h C t k hA hP next=>?_) (λt k hP=>?_) (s0:=(s,true)) (.inl ⟨rfl,l.map rh,S,Z,by simp,by simp,R,I⟩) (by omega)
 ·dsimp only;rw[Cg hA,JO];have al:=Dn hA;rcases hP with⟨e,N,T,Y,n1,n2,R1,I1⟩|⟨e,hn⟩
  ·rw[e,BM];have oh:=ob h<|at_mem hA
   have sub:∀g∈rh h::N,g∈b.map rh++l.map rh:=λg mg=>by
    rcases Ag.1 mg with e|mg
    ·rw[e];exact G3 _<|BI.2 ⟨h,at_mem hA,rfl⟩
    ·rcases(n1 g).1 mg with m|m
     ·obtain⟨x,mx,e⟩:=BI.1 m;exact G3 _ (BI.2 ⟨x,by rw[hA];exact G3 _ mx,e⟩)
     ·exact PA _ m
   have JI:Jb 14 N:=λg mg=>by
    rcases BR.1 (sub g<|Bi _ mg) with m|m
    ·exact CS.JI ob g m
    ·exact CS.JI ol g m
   have pr:∀g∈N,IZ g.1:=λg mg=>by
    rcases BR.1 (sub g<|Bi _ mg) with m|m
    ·exact CS.W9 ob g m
    ·exact CS.W9 ol g m
   refine Yd.bd (Bq hA) (Yd.Ak (afX R1 I1 oh JI pr (by omega)) λr hr=>Yd.bd (CP hA (by omega))<|next r ?_);rcases hr with⟨e1,⟨Z',R'⟩,S',I'⟩|⟨e1,hn⟩
   ·refine .inl ⟨e1,_,S',Z',λk=>?_,by simp;omega,R',I'⟩;rw[Ag,n1,LJ,BR];simp only[LD,YX,Be];constructor
    ·rintro(a|a|a)
     ·exact .inl<| .inr a
     ·exact .inl<| .inl a
     ·exact .inr a
    ·rintro((a|a)|a)
     ·exact .inr<| .inl a
     ·exact .inl a
     ·exact .inr<| .inr a
   ·exact .inr ⟨e1,λ⟨q,hq⟩=>hn ⟨q,λg mg=>hq g<|sub g mg⟩⟩
  ·rw[e,B8];exact Yd.mk ⟨λc=>(by cases c),λc=>absurd c hn⟩
 ·dsimp only;rw[Ce,Q7,B8];refine Yd.mk ?_;rcases hP with⟨e,N,T,Y,n1,n2,R1,I1⟩|⟨e,hn⟩
  ·refine⟨λ_=>?_,λ_=>e⟩;obtain⟨q,hq⟩:=I1.int;exact⟨q,λg mg=>hq g<|(n1 g).2<|BR.1 mg⟩
  ·exact⟨λc=>(by rw[e] at c;cases c),λc=>absurd c hn⟩
def aee(I:C9 S (l.map rh))(ol:∀h∈l,CS h)(ob:∀h∈b,CS h)(hlen:l.length+b.length<=20):
  Yd (λr=>r=true↔LS (b.map rh++l.map rh)) (bO l b):=by
 unfold bO;exact Yd.Ak (ae0 ol (by omega) I) λs ⟨Z,R⟩=>Yd.Ak (adn R I ol ob hlen) λr hr=>Yd.mk hr
abbrev GD:=A3 Bl
def Small(l:GD):Prop:=(∀h∈l,in3 h.1)/\l.length<=10/\∀h∈l,h.2.length<=14
def OkB(l:GD)(S:A3 D7):Prop:=(∀h∈l,CS h)/\C9 S (l.map rh)/\∀k∈l.map rh,k∈S.map (·.1)
def agE{l:GD}(I:C9 S (l.map rh))(h: ¬S.length<l.length):∀k∈l.map rh,k∈S.map (·.1):=λk mk=>CC λc=>by
 have nS:(k::S.map (·.1)).Nodup:=List.nodup_cons.2 ⟨c,Nx.2<|I.U9.imp λh=>h⟩;have:=MR nS λx mx=>(Ag.1 mx).elim (λe=>by rw[e];exact mk) λm=>by
  obtain⟨f,mf,rfl⟩:=BI.1 m;exact(I.Ea f mf).1
 simp at this;omega
def dL{l:GD}(hs:Small l):∃k,Sg l=some k/\It l=some k.2/\(k.2=0->OkB l k.1):=by
 obtain⟨hi,l10,short⟩:=hs;obtain⟨c,c1,c2,c3⟩:=abw (λh mh=>⟨hi h mh,short h mh⟩) (by omega);have d32:decide ((32:Int)<(l.length:Int))=false:=BH (by omega);by_cases h0:c=0
 ·subst h0;have o:=c3 rfl;obtain⟨k,k1,k2⟩:=ag6 o c1 (by omega);obtain⟨r,r1,r2⟩:=ado o c2 (by omega);have kr:k.2=r:=by
   rcases k2 with⟨e,h⟩|⟨h,k2⟩<;>rcases r2 with⟨e',h'⟩|⟨h',r2⟩
   ·rw[e,e']
   ·exact absurd h' h
   ·exact absurd h h'
   ·rcases k2 with⟨e,n⟩|⟨e,n1,n2⟩|⟨I,e⟩<;>rcases r2 with⟨e',n'⟩|⟨e',n1',n2'⟩|⟨n1',n2',b',p1,p2,e'⟩
    ·rw[e,e']
    ·exact absurd n1' n
    ·exact absurd n1' n
    ·exact absurd n1 n'
    ·rw[e,e']
    ·exact absurd n2' n2
    ·exact absurd I.bdd n'
    ·exact absurd I.int n2'
    ·rw[e,e',aiI o I p1<|p2 _ I]
  refine⟨k,k1,by rw[kr];exact r1,λz=>?_⟩;rcases k2 with⟨e,h⟩|⟨h,⟨e,_⟩|⟨e,_⟩|⟨I,e⟩⟩
  ·rw[e] at z;cases z
  ·rw[e] at z;cases z
  ·rw[e] at z;cases z
  ·refine⟨o,I,agE I λc=>?_⟩;rw[e,Ab c] at z;cases z
 ·refine⟨([],c),?_,?_,λz=>absurd z h0⟩
  ·unfold Sg;rw[d32,B8,c1];show cond (!decide (c=0)) _ _=_;rw[BH h0];rfl
  ·unfold It;rw[d32,B8,c2];show cond (!decide (c=0)) _ _=_;rw[BH h0];rfl
def Yd.adz(h:S.length<=1000):Yd (λr=>r=S.map (·.1)) (Sa S):=by
 unfold Sa;refine Yd.each S (λ(t:A3 H3) i=>(t,i)) (λA t=>t=A.map (·.1)) (λA f C t k hA hP next=>?_) (λt k hP=>?_) (s0:=[]) rfl (by omega)
 ·dsimp only;have al:=Dn hA;rw[Cg hA,BM];exact Yd.bd (Bq hA) (Yd.bd (app_1 (by omega) (by rw[hP,Bw];omega)) (Yd.bd (CP hA (by omega)) (next _ (by rw[hP];simp))))
 ·dsimp only;rw[Ce,B8];exact Yd.mk hP
def WM(y x:GD):Prop:= ¬LS (y.map rh++x.map rh)
def QK(f:GD->Int):A3 GD->Int
 |[]=>0
 |x::l=>if f x=0 then QK f l else f x
def mG{f:GD->Int}{x:GD}{C:A3 GD}(hx:f x≠0):∀{A:A3 GD},(∀y∈A,f y=0)->QK f (A++x::C)=f x
 |[],_=>by rw[I4,QK,if_neg hx]
 |y::A,h=>by
  rw[Q9,QK,if_pos<|h y Dm];exact mG hx λz mz=>h z<|Bi _ mz
def nD{f:GD->Int}:∀{A:A3 GD},(∀y∈A,f y=0)->QK f A=0
 |[],_=>rfl
 |y::A,h=>by
  rw[QK,if_pos<|h y Dm];exact nD λz mz=>h z<|Bi _ mz
def T6{A:A3 α}{x:α}{p:α->Prop}(h:∀y∈A,p y)(hx:p x):∀y∈A++[x],p y:=λy my=>(BR.1 my).elim (h y) λm=>by rw[Be.1 m];exact hx
def We(f:GD->Int)(l:A3 GD)(v:Int):Prop:=(QK f l≠0/\v=QK f l)\/(QK f l=0/\((v=16/\ ¬l.Pairwise WM)\/(v=0/\l.Pairwise WM)))
theorem We.same{f:GD->Int}{l:A3 GD}{v w:Int}(a:We f l v)(b:We f l w):v=w:=by
 unfold We at a b;grind
def ke{l:A3 GD}(hl:l.length<=64)(hs:∀x∈l,Small x):Yd (We (λx=>(It x).getD 0) l) (Qn l):=by
 have cb:∀x∈l,It x=some ((It x).getD 0):=λx mx=>by
  obtain⟨k,_,e,_⟩:=dL<|hs x mx
  rw[e];rfl
 unfold Qn;rw[BH (show¬(64:Int)<(l.length:Int) by omega),B8];refine Yd.each l (λ(_:Unit) i=>i) (λA _=>∀y∈A,(It y).getD 0=0) (λA x C s k hA hP next=>?_) (λs k hP=>?_) (s0:=()) (by simp) (by omega)
 ·rw[Cg hA,BM];refine Yd.bd (Bq hA) (Yd.bd (cb x<|at_mem hA) (Yd.cond (λhc=>Yd.mk<| .inl ?_) λhc=>Yd.bd (CP hA (by omega)) (next () (T6 hP (by simpa using hc)))));have hx:(It x).getD 0≠0:=by simpa using hc
  have:=mG (f:=λx=>(It x).getD 0) (C:=C) hx hP;rw[hA,this];exact⟨hx,rfl⟩
 ·rw[Ce,B8];have f0:=nD (f:=λx=>(It x).getD 0) hP;refine Yd.each l (λ(_:Unit) i=>i) (λA _=>A.Pairwise WM) (λA x C s k hA hQ next=>?_) (λs k hQ=>?_) (s0:=()) List.Pairwise.nil (by omega)
  ·rw[Cg hA,BM];have al:=Dn hA;have mx:=at_mem hA;obtain⟨kx,_,ex,hx⟩:=dL<|hs x mx
   obtain⟨ox,Ix,_⟩:=hx (by have:=hP x mx;rw[ex] at this;exact this);refine Yd.each A (λ(_:Unit) i=>i) (λB _=>∀y∈B,WM y x) (λB y D s k2 hB hU FN=>?_) (λs k2 hU=>?_) (s0:=()) (by simp) (by omega)
   ·rw[Cg hB,BM];have my:y∈l:=by rw[hA];exact G3 _<|at_mem hB
    obtain⟨ky,_,ey,hy⟩:=dL<|hs y my
    obtain⟨oy,_,_⟩:=hy (by have:=hP y my;rw[ey] at this;exact this);have iy:A8 l (B.length:Int)=some y:=Bq (C:=D++x::C) (by rw[hA,hB];simp);have s1:=(hs x mx).2.1;have s2:=(hs y my).2.1;refine Yd.bd (Bq hA) (Yd.bd iy (Yd.Ak (aee Ix ox oy (by omega)) λr hr=>Yd.cond (λhc=>Yd.mk<| .inr ⟨f0,.inl ⟨rfl,λc=>?_⟩⟩) λhc=>Yd.bd (CP hB (by omega))<|FN ()<|T6 hU λc=>?_))
    ·rw[hA] at c;exact(Kk.1 c).2.2 y (at_mem hB) x Dm<|hr.1 hc
    ·rw[hr.2 c] at hc;cases hc
   ·rw[Ce,B8];exact Yd.bd (CP hA (by omega)) (next () (Kk.2 ⟨hQ,Ta _ _,λy my z mz=>by rw[Be.1 mz];exact hU y my⟩))
  ·rw[Ce,B8];exact Yd.mk<| .inr ⟨f0,.inr ⟨rfl,hQ⟩⟩
def aga{l:A3 GD}(hl:l.length<=64)(hs:∀x∈l,Small x):Yd (λr=>We (λx=>(It x).getD 0) l r.2) (Mp l):=by
 unfold Mp;rw[BH (show¬(64:Int)<(l.length:Int) by omega),B8];refine Yd.each l (λ(t:A3 (A3 D7)) i=>(t,i)) (λA t=>(∀y∈A,(It y).getD 0=0)/\∃W:A3 (GD×A3 D7),A=W.map (·.1)/\t=W.map (·.2)/\∀w∈W,OkB w.1 w.2) (λA x C t k hA hP next=>?_) (λt k hP=>?_) (s0:=[]) ⟨by simp,[],rfl,rfl,by simp⟩ (by omega)
 ·dsimp only;rw[Cg hA,BM];have al:=Dn hA;obtain⟨kx,e1,e2,hx⟩:=dL<|hs x<|at_mem hA
  have ge:(It x).getD 0=kx.2:=by rw[e2];rfl
  obtain⟨h0,W,w1,w2,w3⟩:=hP;have tl:t.length=A.length:=by rw[w1,w2,Bw,Bw]
  refine Yd.bd (Bq hA) (Yd.bd e1 (Yd.cond (λhc=>Yd.mk<| .inl ?_) λhc=>Yd.bd (app_1 (by omega) (by omega)) (Yd.bd (CP hA (by omega))<|next _ ?_)))
  ·have hx:(It x).getD 0≠0:=by rw[ge];simpa using hc
   have:=mG (f:=λx=>(It x).getD 0) (C:=C) hx h0;rw[hA,this];exact⟨hx,ge.symm⟩
  ·have z:kx.2=0:=by simpa using hc
   exact⟨T6 h0<|ge.trans z,W++[(x,kx.1)],by rw[w1];simp,by rw[w2];simp,T6 w3<|hx z⟩
 ·dsimp only;rw[Ce,B8];obtain⟨h0,W,w1,w2,w3⟩:=hP;have f0:=nD (f:=λx=>(It x).getD 0) h0;have wl:W.length<=64:=by rw[w1,Bw] at hl;exact hl
  rw[w2];have ml:(W.map (·.2)).length=W.length:=Bw _;refine Yd.each W (λ(_:Unit) i=>i) (λA _=>(A.map (·.1)).Pairwise WM) (λA x C s k hA hQ next=>?_) (λs k hQ=>?_) (s0:=()) List.Pairwise.nil (by omega)
  ·rw[ml,Cg hA,BM];have al:=Dn hA;have mx:=at_mem hA;obtain⟨ox,Ix,fx⟩:=w3 x mx;have sb:Br (W.map (·.2)) 0 (A.length:Int)=some (A.map (·.2)):=by
    rw[EO (by omega) (by omega) (by rw[ml];omega),hA];simp
   refine Yd.bd (QL _ hA)<|Yd.bd sb ?_
   have ma:(A.map (·.2)).length=A.length:=Bw _;refine Yd.each A (λ(_:Unit) i=>i) (λB _=>∀y∈B,WM y.1 x.1) (λB y D s k2 hB hU FN=>?_) (λs k2 hU=>?_) (s0:=()) (by simp) (by omega)
   ·rw[ma,Cg hB,BM];have my:y∈W:=by rw[hA];exact G3 _<|at_mem hB
    obtain⟨oy,Iy,fy⟩:=w3 y my;have s1:=(hs x.1 (by rw[w1];exact BI.2 ⟨x,mx,rfl⟩)).2.1;have s2:=(hs y.1 (by rw[w1];exact BI.2 ⟨y,my,rfl⟩)).2.1;have ly:=Iy.len;rw[Bw] at ly;have fw:∀k∈y.2.map (·.1),k∈y.1.map rh:=λk mk=>by
     obtain⟨f,mf,rfl⟩:=BI.1 mk;exact(Iy.Ea f mf).1
    have JI:Jb 14 (y.2.map (·.1)++x.1.map rh):=λg mg=>(BR.1 mg).elim (λm=>CS.JI oy g<|fw g m)<|CS.JI ox g
    have pr:∀g∈y.2.map (·.1)++x.1.map rh,IZ g.1:=λg mg=>(BR.1 mg).elim (λm=>CS.W9 oy g<|fw g m)<|CS.W9 ox g
    refine Yd.bd (QL _ hB) (Yd.Ak (Yd.adz (by omega)) λH eH=>?_);rw[eH];refine Yd.Ak (Yd.si Ix JI (by omega) (by simp;omega) (λh mh=>(pr h<|G3 _ mh).nz) λa ma b mb=>dC (pr a ma)<|pr b mb) λr hr=>?_
    have hr:r.2=true↔LS (y.1.map rh++x.1.map rh):=by
     rcases hr with⟨e,N,n1,_,n3⟩|⟨e,hn⟩
     ·refine⟨λ_=>?_,λ_=>e⟩;obtain⟨q,hq⟩:=n3.int;exact⟨q,λg mg=>hq g<|(n1 g).2<|(BR.1 mg).imp (fy g) id⟩
     ·refine⟨λc=>(by rw[e] at c;cases c),λ⟨q,hq⟩=>absurd ⟨q,λg mg=>hq g ?_⟩ hn⟩;exact BR.2<|(BR.1 mg).imp (fw g) id
    refine Yd.cond (λhc=>Yd.mk<| .inr ⟨f0,.inl ⟨rfl,λc=>?_⟩⟩) λhc=>Yd.bd (CP hB (by omega))<|FN ()<|T6 hU λc=>?_
    ·rw[w1,hA,LJ,LD] at c;exact(Kk.1 c).2.2 y.1 (BI.2 ⟨y,at_mem hB,rfl⟩) x.1 Dm<|hr.1 hc
    ·rw[hr.2 c] at hc;cases hc
   ·rw[ma,Ce,B8];refine Yd.bd (CP hA (by omega))<|next () ?_
    rw[LJ];refine Kk.2 ⟨hQ,Ta _ _,λy my z mz=>?_⟩;obtain⟨w,mw,rfl⟩:=BI.1 my;rw[Be.1 mz];exact hU w mw
  ·rw[ml,Ce,B8];exact Yd.mk (.inr ⟨f0,.inr ⟨rfl,by rw[w1];exact hQ⟩⟩)
def adh{l:GD}{n k:Nat}(hn:n<=100000000):Yd (λb=>b=true->l.length<=n/\∀h∈l,h.2.length<=k) (aM l (n:Int) (k:Int)):=by
 unfold aM;refine Yd.cond (λ_=>Yd.mk λc=>by cases c) λhc=>?_
 have hl:l.length<=n:=by have:=Ay hc;omega
 refine Yd.each l (λ(_:Unit) i=>i) (λA _=>∀h∈A,h.2.length<=k) (λA x C u k hA hP next=>?_) (λu k hP=>?_) (s0:=()) (by simp) (by omega)
 ·rw[Cg hA,BM];refine Yd.bd (Bq hA) (Yd.cond (λ_=>Yd.mk λc=>by cases c) λhc=>Yd.bd (CP hA (by omega))<|next ()<|T6 hP ?_);have:=Ay hc;omega
 ·rw[Ce,B8];exact Yd.mk λ_=>⟨hl,hP⟩
def dY{l:A3 GD}{n:Nat}(hn:n<=100000000):Yd (λb=>b=true->l.length<=n/\∀x∈l,x.length<=10/\∀h∈x,h.2.length<=14) (Ub l (n:Int)):=by
 unfold Ub;refine Yd.cond (λ_=>Yd.mk λc=>by cases c) λhc=>?_
 have hl:l.length<=n:=by have:=Ay hc;omega
 refine Yd.each l (λ(_:Unit) i=>i) (λA _=>∀x∈A,x.length<=10/\∀h∈x,h.2.length<=14) (λA x C u k hA hP next=>?_) (λu k hP=>?_) (s0:=()) (by simp) (by omega)
 ·rw[Cg hA,BM];refine Yd.bd (Bq hA) (Yd.Ak (adh (n:=10) (k:=14) (by omega)) λb hb=>Yd.cond (λ_=>Yd.mk λc=>by cases c) λhc=>Yd.bd (CP hA (by omega))<|next ()<|T6 hP<|hb ?_);simpa using hc
 ·rw[Ce,B8];exact Yd.mk λ_=>⟨hl,hP⟩
end
section
variable{s:List UInt8}(h:s.length<=100)
include h
theorem wB:Yd (λk=>0<=k/\k<=(s.length:Int)) (L5 s):=by
 unfold L5;refine Yd.each s (λ(_:Unit) i=>i) (λA _=>True) (λA x C u k hA _ next=>?_) (λu k _=>?_) (s0:=()) trivial (by omega)
 ·have al:=Dn hA;rw[Cg hA,BM];exact Yd.bd (Bq hA) (Yd.cond (λ_=>Yd.mk ⟨by omega,by omega⟩) λ_=>Yd.bd (CP hA (by omega))<|next () trivial)
 ·rw[Ce,B8];exact Yd.mk ⟨by omega,by omega⟩
theorem amT:Yd (λr=>r.length<=100) (bo s):=by
 unfold bo;exact Yd.Ak (wB h) λk hk=>Yd.bd (EO (by omega) (by omega) (by omega)) (Yd.mk (by rw[H9,DI];omega))
theorem an8:Yd (λr=>r.length<=100) (br s):=by
 unfold br;refine Yd.Ak (wB h) λk hk=>Yd.cond (λ_=>Yd.mk (by decide)) λhc=>?_
 have:=Ay hc;exact Yd.bd (Ad ⟨by omega,by omega⟩) (Yd.bd (EO (by omega) (by omega) (by omega)) (Yd.mk (by rw[H9,DI];omega)))
theorem ao2:Yd (λ_=>True) (bu s):=by
 unfold bu Jr;have fin:∀r:Int,(r<0->0<s.length)->Yd (λ_=>True) (cond (decide<|r<0) (bd (Br s 1 (s.length:Int)) λx4=>some x4)<|some s):=λr hr=>Yd.cond (λhc=>by
  have:=hr<|AZ hc
  exact Yd.bd (EO (by omega) (by omega) (by omega))<|Yd.mk trivial) λ_=>Yd.mk trivial
 refine Yd.Ak (S:=λr=>r<0->0<s.length) (Yd.cond (λ_=>Yd.mk λc=>absurd c<|Int.lt_irrefl 0) λ_=>?_) fin;cases s with
 |nil=>exact Yd.mk λc=>absurd c (by decide)
 |cons x t=>
  rw[Ab (show(0:Int)<((x::t).length:Int) by simp),show gd true true=true from rfl,DC rfl];exact Yd.bd (x:=x) rfl (Yd.cond (λ_=>Yd.mk λ_=>by simp) λ_=>Yd.mk λ_=>by simp)
end
def Yd.opT{α ρ:Type}{R:ρ->Prop}{S:α->Prop}{g:Bool}{d:α}{e:A6 α}{K:α->A6 ρ}(he:Yd S e)(hd:S d)(k:∀x,S x->Yd R (K x)):Yd R (Trn.Aa g d e K):=by
 obtain⟨x,e,hx⟩:=he;exact Yd.Aa (λ_=>⟨x,e,k x hx⟩) λ_=>k d hd
def an3{s:A9}(h:s.length<=14):Yd (λ_=>True) (bp s 5):=by
 obtain⟨c,_,c2,_⟩:=ur h;unfold bp;refine Yd.bd (x:=10) rfl<|Yd.bd (x:=12) rfl ?_
 exact Yd.opT (S:=λ_=>True) ⟨c,c2,trivial⟩ trivial λ_ _=>Yd.opT (amT (by omega)) (by decide) λ_ h7=>Yd.opT (ao2 h7) trivial λ_ _=>Yd.opT (an8 (by omega)) (by decide) λ_ _=>Yd.mk trivial
def afr{h:Bl}(hi:in3 h.1)(hl:h.2.length<=14):Yd (λ_=>True) (ai h 999 5):=by
 obtain⟨c,_,c2,_⟩:=sJ hi hl;obtain⟨f,f1,_⟩:=an3 hl;unfold ai;refine Yd.bd c2 ?_;have fin:∀x3:Bool,Yd (λ_=>True) (cond ((!decide (c=0))||(!x3)) (some false) (B6 (λk7 (s6:Int)=>
   cond (decide<|s6<3) (
    bd (A8 ([h.1.1,h.1.2.1,h.1.2.2]:A3 Int) s6) λx9=>
    bd (AE<|0-999) λAx=>
    Aa (gd (decide<|x9<Ax) false) (0) (A8 ([h.1.1,h.1.2.1,h.1.2.2]:A3 Int) s6) λBf=>
    cond (((decide<|x9<Ax)||(decide<|999<Bf))) (
     some false
    ) (
     bd (AE<|s6+1) λBK=>
     k7 BK
    )
   ) (
    some true
   )
  ) 0)):=λx3=>Yd.cond (λ_=>Yd.mk trivial) λ_=>by
  refine Yd.each [h.1.1,h.1.2.1,h.1.2.2] (λ(_:Unit) i=>i) (λB _=>True) (λB x D t k2 hB hQ next=>?_) (λt k2 hQ=>?_) (s0:=()) trivial (by simp)
  ·have bl:=Dn hB;rw[show [h.1.1,h.1.2.1,h.1.2.2].length=3 from rfl] at bl;rw[Ab (show(B.length:Int)<3 by omega),BM];refine Yd.bd (Bq hB)<|Yd.bd (x:= -999) rfl ?_
   have nx:=Yd.bd (K:=λBK=>k2 BK) (CP hB (by simp))<|next () trivial
   exact Yd.Aa (λ_=>⟨x,Bq hB,Yd.cond (λ_=>Yd.mk trivial) λ_=>nx⟩) λ_=>Yd.cond (λ_=>Yd.mk trivial) λ_=>nx
  ·rw[show decide ((([h.1.1,h.1.2.1,h.1.2.2].length:Nat):Int)<3)=false from rfl,B8];exact Yd.mk trivial
 exact Yd.Aa (λ_=>⟨f,f1,fin f⟩) λ_=>fin false
def ahO{l:A3 GD}(hl:l.length<=3)(hs:∀x∈l,Small x):Yd (λ_=>True) (bn l 3 5):=by
 unfold bn;refine Yd.Ak (dY (n:=3) (by omega)) λb hb=>Yd.cond (λ_=>Yd.mk trivial) λ_=>?_
 refine Yd.each l (λ(_:Unit) i=>i) (λA _=>True) (λA x C s k hA hP next=>?_) (λs k hP=>?_) (s0:=()) trivial (by omega)
 ·rw[Cg hA,BM];obtain⟨h1,h2,h3⟩:=hs x<|at_mem hA
  refine Yd.each x (λ(_:Unit) i=>i) (λB _=>True) (λB y D s k2 hB hU FN=>?_) (λs k2 hU=>?_) (s0:=()) trivial (by omega)
  ·refine Yd.bd (Bq hA) ?_;rw[Cg hB,BM];exact Yd.bd (Bq hA) (Yd.bd (Bq hB) (Yd.Ak (afr (h1 y<|at_mem hB)<|h3 y<|at_mem hB) λr _=>Yd.cond (λ_=>Yd.mk trivial) λ_=>Yd.bd (CP hB (by omega))<|FN () trivial))
  ·refine Yd.bd (Bq hA) ?_;rw[Ce,B8];exact Yd.bd (CP hA (by omega))<|next () trivial
 ·rw[Ce,B8];exact Yd.Ak (ke (by omega) hs) λ_ _=>Yd.mk trivial
def aix{l:A3 GD}(hi:∀x∈l,∀h∈x,in3 h.1):Yd (λr=>r=false->64<l.length\/(l.length<=3/\∀x∈l,Small x)) (bQ l 3):=by
 unfold bQ;refine Yd.cond (λhc=>?_) λhc=>?_
 ·have hl:=AZ hc;have big:64<l.length:=by omega
  refine Yd.Aa (λ_=>⟨_,EO (by omega) (by omega) (by omega),?_⟩) λ_=>?_
  ·refine Yd.Aa (λ_=>?_) λ_=>Yd.mk λ_=> .inl big
   obtain⟨r,r1,_⟩:=dY (l:=(l.take (1:Int).toNat).drop (0:Int).toNat) (n:=1) (by omega);exact⟨r,r1,Yd.mk λ_=> .inl big⟩
  ·refine Yd.Aa (λ_=>?_) λ_=>Yd.mk λ_=> .inl big
   obtain⟨r,r1,_⟩:=dY (l:=([]:A3 GD)) (n:=1) (by omega);exact⟨r,r1,Yd.mk λ_=> .inl big⟩
 ·refine Yd.Ak (dY (n:=3) (by omega)) λb hb=>?_
  cases b with
  |false=>exact Yd.mk λc=>by cases c
  |true=>
   obtain⟨h3,hb⟩:=hb rfl;have hs:∀x∈l,Small x:=λx mx=>⟨hi x mx,hb x mx⟩
   obtain⟨v,v1,_⟩:=ke (by omega) hs;obtain⟨f,f1,_⟩:=ahO h3 hs;refine Yd.Aa (λ_=>⟨v,v1,?_⟩) λ_=>Yd.Aa (λ_=>⟨f,f1,Yd.mk λ_=> .inr ⟨h3,hs⟩⟩) λ_=>Yd.mk λ_=> .inr ⟨h3,hs⟩
   exact Yd.Aa (λ_=>⟨f,f1,Yd.mk λ_=> .inr ⟨h3,hs⟩⟩) λ_=>Yd.mk λ_=> .inr ⟨h3,hs⟩
def acN(ha:Ss=some true)(l:A3 GD)(hi:∀x∈l,∀h∈x,in3 h.1):Sb l=some true:=by
 have key:Yd (λr=>r=true) (Sb l):=by
  have aw:Yd (λr=>r=true) (bd (some true) λx4=>some x4):=Yd.mk rfl;unfold Sb;rw[ha];refine Yd.Ak (aix hi) λg hg=>Yd.cond (λ_=>aw) λhc=>?_
  have same:∃c,Wo l=some c/\Qn l=some c:=by
   rcases hg hc with h|⟨h3,hs⟩
   ·refine⟨5,?_,?_⟩
    ·unfold Wo Mp;rw[Ab (show(64:Int)<(l.length:Int) by omega)];rfl
    ·unfold Qn;rw[Ab (show(64:Int)<(l.length:Int) by omega)];rfl
   ·obtain⟨v,v1,v2⟩:=ke (by omega) hs;obtain⟨w,w1,w2⟩:=aga (by omega) hs;refine⟨v,?_,v1⟩;unfold Wo;rw[w1,v2.same w2];rfl
  obtain⟨c,c1,c2⟩:=same;refine Yd.bd c1<|Yd.bd c2 ?_
  rw[Ab rfl];exact Yd.mk rfl
 obtain⟨r,e,rfl⟩:=key;exact e
abbrev IK:A3 Bl:=[((-1,0,0),[48]),((0,-1,0),[48]),((0,0,-1),[48]),((0,0,1),[52]),((0,1,0),[51]),((1,0,0),[50])]
abbrev bxC:A3 Bl:=[((-1,0,0),[45,49]),((0,-1,0),[45,49]),((0,0,-1),[45,49]),((0,0,1),[53]),((0,1,0),[52]),((1,0,0),[51])]
abbrev bxD:A3 Bl:=[((-1,0,0),[45,50]),((0,-1,0),[48]),((0,0,-1),[48]),((0,0,1),[49]),((0,1,0),[49]),((1,0,0),[51])]
def aqm:jt [IK]=some ([50,52],0):=A4
def ar2:km [IK] [bxC]=some ([[((-1,0,0),[45,49]),((0,-1,0),[45,49]),((0,0,-1),[45,49]),((0,0,1),[52]),((0,1,0),[51]),((1,0,0),[50])]],0):=A4
def aqt:kR [IK] [bxC]=some ([[((-1,0,0),[48]),((0,-1,0),[48]),((0,0,-1),[48]),((0,0,1),[52]),((0,1,0),[51]),((1,0,0),[49])],[((-1,0,0),[45,49]),((0,-1,0),[48]),((0,0,-1),[48]),((0,0,1),[52]),((0,1,0),[49]),((1,0,0),[50])],[((-1,0,0),[45,49]),((0,-1,0),[45,49]),((0,0,-1),[48]),((0,0,1),[49]),((0,1,0),[51]),((1,0,0),[50])]],0):=A4
end Trn
