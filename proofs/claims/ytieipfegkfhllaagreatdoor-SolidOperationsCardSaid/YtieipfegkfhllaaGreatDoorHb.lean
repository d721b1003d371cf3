/-
  Part of the proof of SolidOperations.
-/
import Derived.Test.YtieipfegkfhllaaGreatDoorHa
set_option maxRecDepth 100000
set_option maxHeartbeats 20000000
set_option linter.all false
open Go Go.RowKit Go.Proofs Go.Proofs.Tryz
namespace Trn
section
variable{r s:Int×A3 Int}{x y:Int}
theorem wX(hr:Cg r x)(hs:Cg s y)(hx:DB x=true)(hy:DB y=true)(h0:0<y):Yd (λq=>Cg q.1 (x/y)/\Cg q.2 (x%y)) (Xg r s):=by
 unfold Xg;have hm0:=Lw x (show y≠0 by omega);have hm1:=LK x h0;have hdm:=Oi x y;refine Ad (λhc=>?_)<|λhc=>?_
 ·let⟨hc,h3⟩:=EB hc;let⟨h1,h2⟩:=EB hc;rw[WE] at h1 h2;rw[GA,Il] at h3;rcases hr with⟨_,e1,i1⟩|⟨h0,_⟩
  ·rcases hs with⟨_,e2,i2⟩|⟨h0,_⟩
   ·rw[e1] at h3;rw[e1,e2];unfold Cp at i1 i2;have t1:=Int.tmod_add_mul_tdiv x y;have hsm:=wu (x:=x) h0;have q1:Gl x y=some (x.tdiv y):=by unfold Gl;rw[Bu A4];refine EO ?_;have a1:=Int.natAbs_tdiv_le_natAbs x y;exact⟨A4,A4⟩
    have q2:Fu x y=some (x.tmod y):=by unfold Fu;rw[Bu A4];rfl
    have b2:(0<=x->0<=x.tmod y/\x.tmod y<y)/\(x<0-> -y<x.tmod y/\x.tmod y<=0):=by refine⟨λh=>⟨Int.tmod_nonneg y h,Int.tmod_lt_of_pos x h0⟩,λh=>?_⟩;have h5:=Int.tmod_lt_of_pos (-x) h0;have h6:=Int.tmod_nonneg y (show 0<= -x by omega);rw[Int.neg_tmod] at h5 h6;omega
    refine A6 q1<|A6 q2<|DJ (λs=>s.1=x/y/\s.2=x%y) (λs ⟨s1,s2⟩=>AU ⟨.inl ⟨rfl,s1,?_⟩,.inl ⟨rfl,s2,?_⟩⟩)<|λk hk=>Ad (λhd=>?_)<|λhd=>?_
    ·unfold Cp;omega
    ·unfold Cp;omega
    ·have hd:=As hd;let⟨e3,e4⟩:=pg (x:=x) (q:=x.tdiv y-1) (r:=x.tmod y+y) h0 (by rw[U3,Lr];omega) A4 A4;refine A6 BC<|A6 BC<|hk _ ⟨e3,e4⟩
    ·grind
   ·grind
  ·grind
 ·have l1:=hr.len hx;have l2:=hs.len hy;refine Aq (QL hr) λp ⟨p1,p2,p3,p4⟩=>Aq (QL hs) λq ⟨q1,q2,q3,q4⟩=>?_
  have hq0:q.2≠[]:=λe=>by rw[e] at q3;simp[AN] at q3;omega
  refine Aq (wW p2 q2 hq0 A4 A4) λd ⟨⟨d1,d2⟩,d3,d4⟩=>Aq (Tp d1 p.1) λQ hQ=>Aq (Tp d3 p.1) λR hR=>?_
  rw[d2,p3,q3,p1] at hQ;rw[d4,p3,q3,p1] at hR;have ey:(y.natAbs:Int)=y:=A4;rw[ey] at hQ hR;have am0:=Lw (x.natAbs:Int) (show y≠0 by omega);have am1:=LK (x.natAbs:Int) h0;have adm:=Oi (x.natAbs:Int) y;refine A6 (Vs hR)<|DJ (λs=>Cg s.1 (x/y)/\Cg s.2 (x%y)) (λs hs=>AU hs)<|λk hk=>Ad (λhd=>?_)<|λhd=>?_
  ·have hd:=As hd;have It:(bif decide (x<0) then -((x.natAbs:Int)%y) else(x.natAbs:Int)%y)<0:=AK;by_cases hx0:x<0
   ·rw[B5 hx0] at hQ hR It;simp[BH] at hQ hR It;have J8:(x.natAbs:Int)= -x:=A4;rw[J8] at hQ hR It am0 am1 adm;let⟨e3,e4⟩:=pg (x:=x) (q:= -(-x/y)-1) (r:= -(-x%y)+y) h0 (by rw[U3,Lr,Int.mul_neg];omega) A4 A4;have hof:OL 1=some (1,[]):=rfl;have h1r:Cg (1,[]) 1:= .inl ⟨rfl,rfl,by unfold Cp;omega⟩;have at5:DB (-(-x/y))=true:=by refine Wb ?_ hx;have:=(wu (x:= -x) h0).1 A4;omega
    have at4:DB (-(-x%y))=true:=by refine Wb ?_ hy;omega
    refine A6 hof (Aq (aBl hQ h1r at5 rfl) λa ha=>Aq (gp hR hs (by have:=hR.len at4;omega) A4) λb hb=>hk _ ⟨?_,?_⟩)
    ·rwa [e3] at ha
    ·rwa [e4] at hb
   ·grind
  ·have hd:=Bg hd;refine hk _ ?_;by_cases hx0:x<0
   ·rw[B5 hx0] at hQ hR hd;simp only[BH] at hQ hR hd;have J8:(x.natAbs:Int)= -x:=A4;rw[J8] at hQ hR hd am0 am1 adm;have hz: -x%y=0:=AK;let⟨e3,e4⟩:=pg (x:=x) (q:= -(-x/y)) (r:= -(-x%y)) h0 (by rw[Int.mul_neg];omega) A4 A4;rw[e3] at hQ;rw[e4] at hR;exact⟨hQ,hR⟩
   ·grind
theorem qC(hr:Cg r x)(hs:Cg s y)(hx:DB x=true)(hy:DB y=true)(h0:y≠0):Yd (λq=>Cg q<|x.fdiv y) (Y6 r s):=by
 unfold Y6;refine A6 (Vs hs)<|DJ (λt=>∃a b:Int,Cg t.1 a/\Cg t.2 b/\DB a=true/\DB b=true/\0<b/\a/b=x.fdiv y) ?_<|λk hk=>Ad (λhd=>?_)<|λhd=>?_
 ·rintro t ⟨a,b,h1,h2,h3,h4,h5,h6⟩;refine Aq (wX h1 h2 h3 h4 h5) λq ⟨hq,_⟩=>AU ?_
  rwa [h6] at hq
 ·have hd:=As hd;have hn:y<0:=AK;refine Aq (S5 hr) λa ha=>Aq (S5 hs) λb hb=>hk _ ⟨-x,-y,ha,hb,by rw[pR];exact hx,by rw[pR];exact hy,A4,?_⟩
  rw[<-Int.fdiv_eq_ediv_of_nonneg _ (show 0<= -y by omega),Int.neg_fdiv_neg]
 ·grind
def kD(r:Int×A3 Int):Int:=if r.2=[] then r.1 else r.1*AN r.2
def Cg.val{z:Int}(h:Cg r z):kD r=z:=by
 unfold kD;rcases h with⟨h1,h2,_⟩|⟨h0,_,_,_,h4,_⟩
 ·rw[if_pos h1,h2]
 ·rw[if_neg h0,h4]
def muG(a b:Nat):Nat:=if b=0 then 0 else Nat.log2 (a*b)+1+(if a<b then 1 else 0)
def aaA{m n:Nat}(h:m<=n):Nat.log2 m<=Nat.log2 n:=by
 by_cases h0:m=0
 ·subst h0;simp
 ·exact qJ<|Cu ((Nat.le_log2 h0).1<|BM _) h
theorem ot{a b:Nat}(hb:b≠0):muG b (a%b)<muG a b:=by
 have hlt:=OS a (show b>0 by omega);unfold muG;rw[if_neg hb];by_cases h0:a%b=0
 ·grind
 ·rw[if_neg h0,if_neg (show¬b<a%b by omega)];by_cases J8:a<b
  ·rw[if_pos J8,SH J8,MN];omega
  ·rw[if_neg J8];have h1:2*(a%b)<=a:=by have:=Nat.mod_add_div a b;have h2:1<=a/b:=(Nat.one_le_div_iff A4).2 A4;have h3:b*1<=b*(a/b):=Zc _ h2;omega
   have h2:2*(b*(a%b))<=a*b:=by have:=Zc b h1;rw[Nat.mul_left_comm,MN b a] at this;exact this
   have h3:b*(a%b)≠0:=Nat.mul_ne_zero hb h0;have h4:=aaA h2;have h5:Nat.log2 (2*(b*(a%b)))=Nat.log2 (b*(a%b))+1:=by rw[Nat.log2_two_mul h3]
   omega
def qt{a b:Nat}(ha:Nat.log2 a<1099511627776)(hb:Nat.log2 b<1099511627776):muG a b<18446744073709551616:=by
 unfold muG;have h1:a<2^(Nat.log2 a+1):=Nat.lt_log2_self;have h2:b<2^(Nat.log2 b+1):=Nat.lt_log2_self;have h3:Nat.log2 (a*b)<Nat.log2 a+1+(Nat.log2 b+1):=by
  by_cases h0:a*b=0
  ·rw[h0];simp;omega
  ·rw[Qa h0,Mu];exact Nat.mul_lt_mul'' h1 h2
 split
 ·omega
 ·split<;>omega
theorem aa2(hr:Cg r x)(hs:Cg s y)(hx:DB x=true)(hy:DB y=true):Yd (λq=>Cg q (Int.gcd x y:Int)) (fO r s):=by
 unfold fO;refine Aq (qD hr) λa ha=>Aq (qD hs) λb hb=>?_
 have hx':=Fa hx;have hy':=Fa hy;refine EP (λt:(Int×A3 Int)×(Int×A3 Int)=>∃a b:Nat,Cg t.1 (a:Int)/\Cg t.2 (b:Int)/\Nat.gcd a b=Int.gcd x y/\DB a=true/\DB b=true) (λt:(Int×A3 Int)×(Int×A3 Int)=>muG (kD t.1).natAbs (kD t.2).natAbs) ?_ _ _ ⟨x.natAbs,y.natAbs,ha,hb,rfl,by simpa[DB] using hx,by simpa[DB] using hy⟩ ?_
 ·rintro next ⟨p,q⟩ ⟨a,b,h1,h2,h3,h4,h5⟩ hn
  simp only at h1 h2 hn⊢;refine A6 (Vs h2)<|Ad (λhc=>?_)<|λhc=>?_
  ·have hb0:b≠0:=λe=>by subst e;simp at hc
   refine Aq (wX h1 h2 h4 h5 A4) λd ⟨_,hd⟩=>?_
   have hd':Cg d.2 ((a%b:Nat):Int):=AK;have hlt:=OS a (show b>0 by omega);refine hn _ ⟨b,a%b,h2,hd',?_,h5,Wb A4 h5⟩ ?_
   ·rw[<-h3,SB b<|a%b,<-Nat.gcd_rec,SB]
   ·dsimp only;rw[h2.val,hd'.val,h1.val];exact ot hb0
  ·have hb0:b=0:=by rw[WK,Hn] at hc;have:=Int.sign_eq_zero_iff_zero.1 hc;omega
   subst hb0;refine AU ?_;rw[Nat.gcd_zero_right] at h3;rw[<-h3];exact h1
 ·dsimp only;rw[ha.val,hb.val];exact qt (by show Nat.log2 x.natAbs<_;omega) (by show Nat.log2 y.natAbs<_;omega)
end
end Trn
namespace Go.Proofs
section
open Go.Shelf
def nB:Go.Shelf.Ren:=⟨fun|166=>258|169=>259|240=>301|276=>332|n=>n,fun|0=>0|3=>3|9=>9|5=>5|72=>310|70=>307|37=>308|4=>4|20=>20|75=>256|80=>238|164=>366|n=>n,fun|n=>n⟩
def amt:Go.Proofs.Lays.n166 prog nB:={
 mixed:=Trn.A7
 f166:=func258.trans<|congrArg some Trn.A7
 f240:=func301.trans<|congrArg some Trn.A7
 f276:=func332.trans<|congrArg some Trn.A7
 t0:=underlying0
 a0:=isAgg0
 z0:=sizeOf0
 v0:=zeroValue0
 t3:=underlying3
 a3:=isAgg3
 z3:=sizeOf3
 v3:=zeroValue3
 t4:=underlying4
 a4:=isAgg4
 z4:=sizeOf4
 v4:=zeroValue4
 t9:=underlying9
 a9:=isAgg9
 z9:=sizeOf9
 v9:=zeroValue9
 t20:=underlying20
 a20:=isAgg20
 z20:=sizeOf20
 v20:=zeroValue20
 t37:=underlying308
 a37:=isAgg308
 z37:=sizeOf308
 v37:=zeroValue308
 t70:=underlying307
 a70:=isAgg307
 z70:=sizeOf307
 v70:=zeroValue307
 t72:=underlying310
 a72:=isAgg310
 z72:=sizeOf310
 v72:=zeroValue310
 t75:=underlying256
 a75:=isAgg256
 z75:=sizeOf256
 v75:=zeroValue256
 t164:=underlying366
 a164:=isAgg366
 z164:=sizeOf366
 v164:=zeroValue366}
def adb:Builder.Extra prog nB:={
 sizeBuilder:=Trn.A7
 liesBuilder:=Trn.A7
 t5:=underlying5
 a5:=isAgg5
 z5:=sizeOf5
 v5:=zeroValue5
 infoByte:=Trn.A7
 cellsByte:=Trn.A7
 sizeByte:=Trn.A7
 neB5:=by decide}
end
end Go.Proofs
namespace Trn
section
open Go.Shelf
variable[D:DR]
variable{x c y:Int}{r:Int×Int}
def yT{l s:AD}{r:AD×Int×Unit}(hm:Vu l s=some r):JG prog 258 [] (.I8 310 5<|lB l) (.I8 310 5<|lB r.1) [TS s] [TI .i64 r.2.1,tF r.2.2]:=ajS (ρ:=nB) amt adb A7 hm
def aiU{l r:AD}(hm:Yc l=some r):JG prog 259 [] (.I8 310 5<|lB l) .gone [] [TS r]:=ahx (ρ:=nA) amr ada A7 hm
def index_one(c:UInt8):∀s:AD,Lib.index s [c]= -1\/0<=Lib.index s [c]
 |[]=> .inl rfl
 |b::l=>by have:=Lib.index_ge (b::l) [c];omega
def alJ(c b:UInt8)(l:AD):Lib.cut (b::l) [c]=if c==b then([],l,true) else(b::(Lib.cut l [c]).1,(Lib.cut l [c]).2.1,(Lib.cut l [c]).2.2):=by
 have e:Lib.index (b::l) [c]=if c==b then 0 else if Lib.index l [c]== -1 then -1 else Lib.index l [c]+1:=by simp[Lib.index,List.isPrefixOf]
 unfold Lib.cut;rw[e];by_cases h:(c==b)=true
 ·simp[h]
 ·simp only[Bool.not_eq_true] at h;simp only[h];rcases index_one c l with h1|h1
  ·simp[h1]
  ·have h2: ¬Lib.index l [c]= -1:=A4;have h3:(0:Int)<=Lib.index l [c]+1:=A4;have h4:(Lib.index l [c]+1).toNat=(Lib.index l [c]).toNat+1:=A4;simp[h1,h2,h3,h4]
def gI(c:UInt8):∀(s pre:AD),cutAt c pre s=(pre.reverse++(Lib.cut s [c]).1,(Lib.cut s [c]).2.1,(Lib.cut s [c]).2.2)
 |[],pre=>by
  have:Lib.cut [] [c]=([],[],false):=by unfold Lib.cut;simp[Lib.index]
  simp[cutAt,this]
 |b::l,pre=>by
  rw[alJ];unfold cutAt;by_cases h:(c==b)=true
  ·have h':(b==c)=true:=by rw[QZ] at h⊢;exact h.symm
   simp[h,h']
  ·have h':(b==c)=false:=by
    cases e:(b==c) with
    |false=>rfl
    |true=>exact absurd (by rw[QZ] at e⊢;exact e.symm) h
   simp only[Bool.not_eq_true] at h;simp[h,h',gI c l (b::pre)]
def arJ{w:AR}{H:HV}(sub:∀r o,H r=some o->w.heap[r]? =some o)(gl:LR prog H):∃m,w.cell? ⟨0,0,none⟩=some (.int .i64 m):=by have hT:(prog.globals[0]?).map (·.type)=some 3:=A7;have:=gl 0 3 hT;have hu:prog.underlying 3=some (.int .i64):=A7;unfold Sa at this;rw[hu] at this;let⟨m,E,fr,e⟩:=this;exact⟨m,by simp[World.cell?,sub _ _ e]⟩
def abl{x y:AD}{r:AD×AD×Bool}(hm:jV x y=some r):AS 141 [TS x,TS y] [TS r.1,TS r.2.1,Aw r.2.2]:=by
 match y,hm with
 |[c],hm=>
  obtain⟨hb,rfl⟩:=HJ hm;have hb:x.length<4294967281:=Fa hb;refine Ro A7 λw H vs sub gl ha=>?_
  obtain⟨u,v,rfl,hu,hv⟩:=Tw ha;have hu:u= .string ⟨x.toArray⟩:=hu;have hv:v= .string ⟨#[c]⟩:=hv;subst hu;subst hv;let⟨m,hm⟩:=arJ sub gl;refine(strings_Cut ⟨x.toArray⟩ ⟨#[c]⟩ m w (by simpa[ByteArray.size] using hb) hm).mono ?_;rintro e w' ⟨rfl,n,rfl⟩;refine⟨_,rfl,⟨⟨rfl,rfl,rfl,BM _,λ_ _=>rfl⟩,H5.of<|UA _ _⟩,_,rfl,_,_,rfl,?_,_,_,rfl,?_,_,_,rfl,?_,rfl⟩
  ·rw[gI];rfl
  ·rw[gI];rfl
  ·rw[gI];rfl
def aen(w:AR)(e:Ap)(s:ByteArray):FV w.heap.size w (Lib.bytesWorld w e s):=⟨⟨by unfold Lib.bytesWorld World.freeze;split<;>rfl,by unfold Lib.bytesWorld World.freeze;split<;>rfl,by unfold Lib.bytesWorld World.freeze;split<;>rfl,by rw[Lib.bytesWorld_size];omega,λk hk=>Lib.bytesWorld_at_old w e s k hk⟩,H5.of (by unfold Lib.bytesWorld World.freeze;split<;>exact Qb _)⟩
def wB:∀(l:AD) (acc:Nat),l.all Du=true->Lib.decFrom acc l=some (l.foldl (λn b=>10*n+(b.toNat-48)) acc)
 |[],acc,_=>rfl
 |b::l,acc,h=>by rw[OT,C6] at h;let⟨h1,h2⟩:=h;unfold Du at h1;rw[C6] at h1;have h3:=Fa h1.1;have h4:=Fa h1.2;unfold Lib.decFrom Lib.digitVal;rw[if_pos ⟨h3,h4⟩];simp only[iL];rw[wB l _ h2,MN]
def agt{s:AD}(h0:s.isEmpty=false)(h:s.all Du=true):Lib.atoi s=some (BS s:Int):=by
 match s,h0,h with
 |b::l,_,h=>
  have hb:Du b=true:=by rw[OT,C6] at h;exact h.1
  unfold Du at hb;rw[C6] at hb;have h3:=Fa hb.1;have h5:(b==45)=false:=by
   cases e:b==45 with
   |false=>rfl
   |true=>rw[QZ] at e;subst e;exact absurd h3 Lg
  have h6:(b==43)=false:=by
   cases e:b==43 with
   |false=>rfl
   |true=>rw[QZ] at e;subst e;exact absurd h3 Lg
  have hd:Lib.decNat (b::l)=some (BS (b::l)):=by unfold Lib.decNat;rw[if_neg AV];exact wB _ 0 h
  show(if(b==45)=true then(Lib.decNat l).map λ(m:Nat)=> -(m:Int) else if(b==43)=true then(Lib.decNat l).map λ(m:Nat)=>(m:Int) else(Lib.decNat (b::l)).map λ(m:Nat)=>(m:Int))=_;rw[h5,h6,hd]
  rfl
def aoJ{x:AD}{r:Int×Unit}(hm:aM x=some r):AS 207 [TS x] [TI .i64 r.1,tF r.2]:=by
 obtain⟨hb,rfl⟩:=HJ hm;rw[C6,C6] at hb;let⟨⟨h1,h2⟩,h3⟩:=hb;have h1:x.isEmpty=false:=by simpa using h1
 have h2:=Fa h2;refine Ro A7 λw H vs sub gl ha=>?_
 obtain⟨u,rfl,hu⟩:=PY ha;have hu:u= .string ⟨x.toArray⟩:=hu;subst hu;refine(strconv_Atoi ⟨x.toArray⟩ (BS x:Int) (by simpa[ByteArray.size] using h2) (agt h1 h3) w).mono ?_;rintro e w' ⟨rfl,t,rfl⟩;exact⟨_,rfl,aen w 5 t,_,rfl,_,_,rfl,rfl,_,_,rfl,rfl,rfl⟩
def nH:BA AW->Sem AW:=λargs=>do
 let(x,y,b)<-Extern.MathBitsCarry.three "Sub64" args
 pure (Extern.MathBitsCarry.pair ((x+Extern.MathBitsCarry.m64-y-b)%Extern.MathBitsCarry.m64)<|if x<y+b then 1 else 0)
def aiX{P:CO}(X Y k:Nat)(hk:k<=1)(w:AR):(nH #[.int .u64 (X:Int),.int .u64 (Y:Int),.int .u64 (k:Int)]).run P w=.ok (Extern.MathBitsCarry.pair ((X+18446744073709551616-Y-k)%18446744073709551616)<|if X<Y+k then 1 else 0) w:=by have:k=0\/k=1:=A4;rcases this with rfl|rfl<;>rfl
def Rn(h:HB x=true):∃n:Nat,x=n/\n<18446744073709551616:=by unfold HB at h;rw[C6,Hn,Hn] at h;obtain⟨n,rfl⟩:=F2 h.1;exact⟨n,rfl,A4⟩
def xE(h:(decide (c=0)||decide (c=1))=true):∃k:Nat,c=k/\k<=1:=by
 rw[Qh,Hn,Hn] at h;rcases h with rfl|rfl
 ·exact⟨0,rfl,A4⟩
 ·exact⟨1,rfl,A4⟩
def xm{H:HV}{τ σ υ:Ty}{vs:A3 AW}(h:Ed H [τ,σ,υ] vs):∃v u t,vs=[v,u,t]/\τ.ok H v/\σ.ok H u/\υ.ok H t:=by let⟨v,rest,e,hv,hr⟩:=h;let⟨u,t,e2,hu,ht⟩:=Tw hr;subst e2;exact⟨v,u,t,e,hv,hu,ht⟩
def alv(M X Y k:Nat)(hY:Y<M)(hk:k<=1):(((X+M-Y-k)%M:Nat):Int)=((X:Int)-Y-k)%(M:Int):=by have:((X+M-Y-k:Nat):Int)=((X:Int)-Y-k)+M:=A4;rw[Int.natCast_emod,this,Int.add_emod_right]
def sub_lt(X Y k:Nat):((if X<Y+k then 1 else 0:Nat):Int)=bif decide ((X:Int)<Y+k) then 1 else 0:=by
 by_cases h:X<Y+k
 ·have h':(X:Int)<(Y:Int)+(k:Int):=A4;simp[h,h']
 ·have h': ¬(X:Int)<(Y:Int)+(k:Int):=A4;simp[h,h']
def Tu(hm:Lq x y c=some r):qd prog 270 [TI .u64 x,TI .u64 y,TI .u64 c] [TI .u64 r.1,TI .u64 r.2]:=by
 unfold Lq at hm;cases hb:((HB x&&HB y)&&(decide (c=0)||decide (c=1)))
 ·rw[hb] at hm;cases hm
 rw[hb] at hm;have hm:=E9 hm;subst hm;rw[C6,C6] at hb;let⟨⟨h1,h2⟩,h3⟩:=hb;obtain⟨X,rfl,hX⟩:=Rn h1;obtain⟨Y,rfl,hY⟩:=Rn h2;obtain⟨k,rfl,hk⟩:=xE h3;refine⟨λw H vs ha=>?_⟩;obtain⟨u,v,t,rfl,hu,hv,ht⟩:=xm ha;have hu:u= .int .u64 (X:Int):=hu;have hv:v= .int .u64 (Y:Int):=hv;have ht:t= .int .u64 (k:Int):=ht;subst hu;subst hv;subst ht;refine⟨.tuple #[.int .u64<|((X:Int)+Y+k)%18446744073709551616,.int .u64<|((X:Int)+Y+k)/18446744073709551616],w,?_,⟨Below.refl _ _,BM _⟩,?_⟩
 ·rw[run_callFunc_extern func270 A7 A7 A7 (e:=add64Entry) A7];show Result.andThen ((add64Entry #[.int .u64 (X:Int),.int .u64 (Y:Int),.int .u64 (k:Int)]).run prog w) _=_;rw[run_add64 _ _ _ A4 A4 A4 A4 w]
  rfl
 ·exact⟨_,rfl,_,_,rfl,rfl,_,_,rfl,rfl,rfl⟩
def pc(hm:S8 x y c=some r):qd prog 272 [TI .u64 x,TI .u64 y,TI .u64 c] [TI .u64 r.1,TI .u64 r.2]:=by
 unfold S8 at hm;cases hb:((HB x&&HB y)&&(decide (c=0)||decide (c=1)))
 ·rw[hb] at hm;cases hm
 rw[hb] at hm;have hm:=E9 hm;subst hm;rw[C6,C6] at hb;let⟨⟨h1,h2⟩,h3⟩:=hb;obtain⟨X,rfl,hX⟩:=Rn h1;obtain⟨Y,rfl,hY⟩:=Rn h2;obtain⟨k,rfl,hk⟩:=xE h3;refine⟨λw H vs ha=>?_⟩;obtain⟨u,v,t,rfl,hu,hv,ht⟩:=xm ha;have hu:u= .int .u64 (X:Int):=hu;have hv:v= .int .u64 (Y:Int):=hv;have ht:t= .int .u64 (k:Int):=ht;subst hu;subst hv;subst ht;refine⟨Extern.MathBitsCarry.pair ((X+18446744073709551616-Y-k)%18446744073709551616)<|if X<Y+k then 1 else 0,w,?_,⟨Below.refl _ _,BM _⟩,?_⟩
 ·rw[run_callFunc_extern func272 A7 A7 A7 (e:=nH) A7];show Result.andThen ((nH #[.int .u64 (X:Int),.int .u64 (Y:Int),.int .u64 (k:Int)]).run prog w) _=_;rw[aiX _ _ _ hk w]
  rfl
 ·refine⟨_,rfl,_,_,rfl,?_,_,_,rfl,?_,rfl⟩
  ·exact congrArg (Value.int .u64)<|alv 18446744073709551616 X Y k hY hk
  ·exact congrArg (Value.int .u64)<|sub_lt X Y k
def gM(hm:QY x y=some r):AS 209 [TI .u64 x,TI .u64 y] [TI .u64 r.1,TI .u64 r.2]:=by
 unfold QY at hm;cases hb:(HB x&&HB y)
 ·rw[hb] at hm;cases hm
 rw[hb] at hm;have hm:=E9 hm;subst hm;rw[C6] at hb;obtain⟨X,rfl,hX⟩:=Rn hb.1;obtain⟨Y,rfl,hY⟩:=Rn hb.2;refine Ro A7 λw H vs sub gl ha=>?_
 obtain⟨u,v,rfl,hu,hv⟩:=Tw ha;have hu:u= .int .u64 (X:Int):=hu;have hv:v= .int .u64 (Y:Int):=hv;subst hu;subst hv;refine(bits_Mul64 X Y hX hY w).mono ?_;rintro e w' ⟨rfl,rfl⟩;exact⟨_,rfl,FV.refl _ _,_,rfl,_,_,rfl,congrArg (Value.int .u64) (by rw[Int.natCast_ediv,SE];rfl),_,_,rfl,congrArg (Value.int .u64) (by rw[Int.natCast_emod,SE];rfl),rfl⟩
def vW:∀(f n:Nat),n<2^f->Lib.bitLenAux f n=Nt n
 |0,n,h=>by
  have:n=0:=by simpa using h
  subst this;rfl
 |f+1,n,h=>by
  unfold Lib.bitLenAux Nt;by_cases h0:n=0
  ·subst h0;rfl
  ·rw[if_neg h0,vW f (n/2) (by rw[Qc] at h;omega)];have hb:Nat.beq n 0=false:=by
    cases e:Nat.beq n 0 with
    |false=>rfl
    |true=>exact absurd (EA e) h0
   rw[hb];unfold Nt;by_cases h1:n/2=0
   ·have:n=1:=A4;subst this;rfl
   ·have hb2:Nat.beq (n/2) 0=false:=by
     cases e:Nat.beq (n/2) 0 with
     |false=>rfl
     |true=>exact absurd (EA e) h1
    rw[hb2];show 1+(Nat.log2 (n/2)+1)=Nat.log2 n+1
    conv=>rhs;rw[Nat.log2_def,if_pos A4]
    omega
def bitLen_eq{n:Nat}(h:n<18446744073709551616):Lib.bitLen n=Nt n:=vW 64 n h
def am6{r:Int}(hm:ZE x=some r):AS 202 [TI .u64 x] [TI .i64 r]:=by
 unfold ZE at hm;cases hb:HB x
 ·rw[hb] at hm;cases hm
 rw[hb] at hm;have hm:=E9 hm;subst hm;obtain⟨X,rfl,hX⟩:=Rn hb;refine Ro A7 λw H vs sub gl ha=>?_
 obtain⟨u,rfl,hu⟩:=PY ha;have hu:u= .int .u64 (X:Int):=hu;subst hu;refine(bits_Len64 (X:Int) w A4 A4).mono ?_;rintro e w' ⟨rfl,rfl⟩;exact⟨_,rfl,FV.refl _ _,congrArg (Value.int .i64) (by rw[Ce,bitLen_eq hX])⟩
def ab0{r:Int}(hm:Wd x=some r):AS 281 [TI .u64 x] [TI .i64 r]:=by
 unfold Wd at hm;cases hb:HB x
 ·rw[hb] at hm;cases hm
 rw[hb] at hm;have hm:=E9 hm;subst hm;obtain⟨X,rfl,hX⟩:=Rn hb;refine Ro A7 λw H vs sub gl ha=>?_
 obtain⟨u,rfl,hu⟩:=PY ha;have hu:u= .int .u64 (X:Int):=hu;subst hu;refine(bits_LeadingZeros64 (X:Int) w A4 A4).mono ?_;rintro e w' ⟨rfl,rfl⟩;exact⟨_,rfl,FV.refl _ _,congrArg (Value.int .i64) (by rw[Ce,bitLen_eq hX])⟩
end
section
variable{k:Nat}{x y:Rat}{z:Int}{n j:Nat}{r:Int×A3 Int}{a b:Nat}
def aoO:Bool:=(List.range 19).all λk=>decide<|Y7 (10,[]) (k:Int)=some ((10:Int)^k,[])
def aik:aoO=true:=A7
def aiv(h:k<=18):Y7 (10,[]) (k:Int)=some ((10:Int)^k,[]):=by
 have:=Dk.1 aik k<|Qg.2 A4
 exact As this
theorem fI:∀(l:AD) (n:Nat),l.foldl (λn b=>10*n+(b.toNat-48)) n=n*10^l.length+BS l
 |[],n=>by simp[BS]
 |b::l,n=>by
  have e:BS (b::l)=(b.toNat-48)*10^l.length+BS l:=by show l.foldl (λn b=>10*n+(b.toNat-48)) (10*0+(b.toNat-48))=_;rw[fI l,Nat.mul_zero,Pc]
  rw[iL,fI l,e,Kc,E7,Qc];have:10*n*10^l.length=n*(10^l.length*10):=AK;omega
def YI(l m:AD):BS (l++m)=BS l*10^m.length+BS m:=by show(l++m).foldl _ 0=_;rw[ZZ,fI m];rfl
theorem aj2{b:UInt8}(h:Du b=true):b.toNat-48<=9:=by simp_all [Du]
def QV:∀(l:AD),l.all Du=true->BS l<10^l.length
 |[],_=>by simp[BS]
 |b::l,h=>by rw[OT] at h;let⟨h1,h2⟩:=EB h;have:=QV l h2;have hb:=aj2 h1;show(b::l).foldl _ 0<_;rw[iL,fI l,E7,Qc];have:(10*0+(b.toNat-48))*10^l.length<=9*10^l.length:=LN _ A4;omega
def PX(h:z.natAbs<10^n)(hn:n<=1000000):DB z=true:=by
 unfold DB;refine Ik ?_;rcases LL z.natAbs with h0|h0
 ·rw[h0];exact Ik AV|>Fa
 ·have h1:(10:Nat)^n<=(2^4)^n:=Nat.pow_le_pow_left A4 n;rw[<-Nat.pow_mul] at h1;have:Nat.log2 z.natAbs<4*n:=(Qa A4).2 A4;omega
theorem akY{s:AD}(h:Ht s=some z):Yd (λq=>Cg q z) (fE s):=by
 have core:∀(ds:AD) (neg:Bool) (w:Int),(ds.all Du&&Nat.blt ds.length 1000000)=true->w=(bif neg then -(BS ds:Int) else(BS ds:Int))->Yd (λq=>Cg q w) (lp 18446744073709551616 (λ(k6:(AD×(Int×A3 Int))->AA _) (s5:AD×(Int×A3 Int))=>cond (decide<|(0:Int)<(s5.1.length:Int)) (bd (C7 s5.1 0<|mn_ (18:Int) (s5.1.length:Int)) λx8=>bd (aM x8) λB9=>bd (OL (10:Int)) λBJ=>bd (Y7 BJ<|mn_ (18:Int) (s5.1.length:Int)) λBh=>bd (TR s5.2 Bh) λBV=>bd (OL B9.1) λBl=>bd (TT BV Bl) λBw=>bd (C7 s5.1 (mn_ (18:Int) (s5.1.length:Int)) (s5.1.length:Int)) λDW=>k6 (DW,Bw)) (cond neg (bd (OF s5.2) λCo=>some Co) (some s5.2))) (ds,(0,[]))):=by
  intro ds neg w hds hw;let⟨hd,hl⟩:=EB hds;have hl:ds.length<1000000:=Fa hl;refine EP (λt:AD×(Int×A3 Int)=>t.1.all Du=true/\t.1.length<=ds.length/\∃v:Nat,Cg t.2 (v:Int)/\v<10^(ds.length-t.1.length)/\v*10^t.1.length+BS t.1=BS ds)
   (λt:AD×(Int×A3 Int)=>t.1.length) ?_ _ _ ⟨hd,BM _,0,.inl ⟨rfl,rfl,by unfold Cp;omega⟩,by dsimp;rw[Nat.sub_self];decide,by dsimp;omega⟩ (by dsimp;omega)
  rintro next ⟨ss,r⟩ ⟨h1,h2,v,h3,h4,h5⟩ hn
  dsimp only at h1 h2 h3 h4 h5 hn⊢;have hsv:DB (v:Int)=true:=PX (n:=ds.length-ss.length) (by simpa using h4) A4;refine Ad (λhc=>?_)<|λhc=>?_
  ·have hc:=As hc;obtain⟨m,hm,hm1,hm2,hm3⟩:∃m:Nat,mn_ 18 (ss.length:Int)=(m:Int)/\m<=18/\m<=ss.length/\0<m:=by
    unfold mn_;by_cases h:(ss.length:Int)<18
    ·grind
    ·rw[Bu h];exact⟨18,rfl,A4,A4,A4⟩
   rw[hm];have hss:ss=ss.take m++ss.drop m:=(Oj m ss).symm;have hall:=h1;rw[hss,iJ] at hall;let⟨a1,a2⟩:=EB hall;have hlt:(ss.take m).length=m:=AK;have hld:(ss.drop m).length=ss.length-m:=Ii;have Km:=YI (ss.take m)<|ss.drop m
   rw[<-hss,hld] at Km;have hb:=QV _ a1;rw[hlt] at hb;have avG:BS (ss.take m)<10^18:=Jn hb<|KD A4 hm1
   have avd:(10:Nat)^m<=10^18:=KD A4 hm1;have arC:((10:Int)^m)=((10^m:Nat):Int):=AK;have hat:aM (ss.take m)=some ((BS (ss.take m):Int),()):=by unfold aM;have e1:(ss.take m).isEmpty=false:=AK;have e2:Nat.ble (ss.take m).length 18=true:=Ik A4;rw[e1,e2,a1];rfl
   refine A6 (E6 A4 A4 A4) ?_;have e0:(ss.take ((m:Nat):Int).toNat).drop ((0:Int)).toNat=ss.take m:=AV;rw[e0];refine A6 hat<|A6 (show OL 10=some (10,[]) from rfl)<|A6 (aiv hm1) ?_
   have hp:0<(10:Nat)^m:=Nat.pow_pos A4;have hrp:Cg ((10:Int)^m,[]) ((10^m:Nat):Int):= .inl ⟨rfl,by dsimp only;exact arC,by unfold Cp;omega⟩;have CW:(10:Nat)^18<10^19:=Lg;have at3:DB ((10^m:Nat):Int)=true:=PX (n:=19) (by simp[GB];omega) A4;refine Aq (aa1 h3 hrp hsv at3) λq hq=>?_
   refine A6 (show OL (BS (ss.take m):Int)=some ((BS (ss.take m):Int),[]) from rfl) ?_;have hrd:Cg ((BS (ss.take m):Int),[]) (BS (ss.take m):Int):= .inl ⟨rfl,rfl,by unfold Cp;omega⟩;have atv:ds.length-(ss.drop m).length=(ds.length-ss.length)+m:=by rw[hld];omega
   have O5:v*10^m+BS (ss.take m)<10^(ds.length-(ss.drop m).length):=by rw[atv,Mu];have:(v+1)*10^m<=10^(ds.length-ss.length)*10^m:=LN _ A4;rw[Kc,Mv] at this;omega
   have at2:DB ((v:Int)*((10^m:Nat):Int))=true:=by rw[<-SE];exact PX (n:=ds.length-(ss.drop m).length) (by simp only[GB];omega) A4
   have hlq:=hq.len at2;refine Aq (gp hq hrd A4 AV) λq2 hq2=>?_
   refine A6 (E6 A4 A4 A4) ?_;have e1:(ss.take ((ss.length:Nat):Int).toNat).drop ((m:Nat):Int).toNat=ss.drop m:=AV;rw[e1];refine hn _ ⟨a2,by dsimp;omega,v*10^m+BS (ss.take m),?_,O5,?_⟩ (by dsimp;omega)
   ·grind
   ·grind
  ·have hc:=Bg hc;have h0:ss=[]:=LP A4;subst h0;have h5:v=BS ds:=by simpa[BS] using h5
   subst h5;subst hw;cases neg
   ·exact Ad (λh=>by cases h)<|λ_=>AU h3
   ·exact Ad (λ_=>Aq (S5 h3) λq hq=>AU hq) (λh=>by cases h)
 have hp:∀b:Bool,(decide ((([45]:AD).length:Int)<=(s.length:Int))&&(s.take 1==[45]))=b->OB s [45]=some b:=by
  intro b hb;unfold OB;cases hc:decide ((([45]:AD).length:Int)<=(s.length:Int)) with
  |false=>rw[hc] at hb;rw[Qe] at hb;subst hb;rfl
  |true=>rw[hc] at hb;have hc:=As hc;show bd (C7 s 0<|(([45]:AD).length:Int)) _=_;rw[E6 A4 A4 hc];exact congrArg some hb
 have pre:∀(b:Bool) (ds:AD),OB s [45]=some b->(b=true->s=45::ds)->(b=false->ds=s)->(ds.all Du&&Nat.blt ds.length 1000000)=true->z=(bif b then -(BS ds:Int) else(BS ds:Int))->Yd (λq=>Cg q z) (fE s):=by
  intro b ds e1 e2 e2' e3 e4;unfold fE;refine A6 (x:=b) ?_<|A6 (x:=ds) ?_<|core ds b z e3 e4
  ·unfold kc;rw[e1];rfl
  ·unfold T7 XM;rw[e1];cases b
   ·rw[e2' rfl];rfl
   ·rw[e2 rfl];show bd (bd (C7 (45::ds) 1 (((45::ds:AD).length:Nat):Int)) _) _=_;rw[E6 A4 (by rw[E7];omega)<|Int.le_refl _];show some _=some _;simp
 unfold Ht at h;split at h
 ·rename_i ds;obtain⟨hb,rfl⟩:=HJ h;refine pre true ds (hp true ?_) (λ_=>rfl) (λh=>by cases h) hb rfl;rw[B5 (show((([45]:AD).length:Nat):Int)<=(((45::ds:AD).length:Nat):Int) by simp[E7,ZS];omega)]
  rfl
 ·rename_i hne;obtain⟨hb,rfl⟩:=HJ h;refine pre false s (hp false ?_) (λh=>by cases h) (λ_=>rfl) hb rfl;cases s with
  |nil=>rfl
  |cons c l=>
   have:c≠45:=λe=>hne l (by rw[e])
   have h2:((c::l).take 1==[45])=false:=by simp[this]
   rw[h2,iF]
def aix(h0:n≠0)(h1:2^k<=n)(h2:n<2^(k+1)):Nat.log2 n=k:=(Nat.log2_eq_iff h0).2 ⟨h1,h2⟩
theorem ajX{w:A3 Int}{t:Nat}(hw:okW w)(hl:w.length=k+1)(ht:w.getD k 0=(t:Int))(h0:t≠0):((AN w).toNat).log2=64*k+t.log2:=by
 have hs:AN w=AN (w.take k)+B0 k*(t:Int):=by have:AN (w.take<|k+1)=AN w:=AK;rw[<-this,FC,ht]
 let⟨b0,b1⟩:=Gh<|MI hw k
 rw[E1,EV A4] at b1;rw[pj] at hs b1;let⟨L,hL⟩:=F2 b0;rw[hL] at hs b1;have e:(AN w).toNat=L+2^(64*k)*t:=AK;have hL':L<2^(64*k):=AK;let⟨l1,l2⟩:=Ye h0;have hp:0<2^(64*k):=Nat.two_pow_pos _;have m1:2^(64*k)*2^t.log2<=2^(64*k)*t:=Zc _ l1;have m2:2^(64*k)*(t+1)<=2^(64*k)*2^(t.log2+1):=Zc _ l2;rw[<-Mu] at m1 m2;rw[Nat.mul_add,Nat.mul_one] at m2;have hp2:0<2^(64*k+t.log2):=Nat.two_pow_pos _;rw[e];exact aix A4 A4 (by rw[LG];omega)
theorem akb(h:Cg r z)(hz:DB z=true):lR r=some (bif decide (z=0) then 0 else(Nat.log2 z.natAbs:Int)+1):=by
 refine GJ ?_;unfold lR;have hlen:=h.len hz;refine Aq (QL h) ?_;rintro⟨neg,w⟩ ⟨_,hw,hv,hl⟩;dsimp only at hw hv hl⊢;refine Ad (λhc=>?_)<|λhc=>?_
 ·have hc:=As hc;have h0:w=[]:=LP A4;subst h0;have:z=0:=by have:(0:Int)=(z.natAbs:Int):=hv;omega
  subst this;exact AU rfl
 ·have hc:=Bg hc;obtain⟨k,hk⟩:∃k,w.length=k+1:=⟨w.length-1,A4⟩;have e1:((w.length:Int)-1)=((k:Nat):Int):=A4;rw[e1];have ht:=Fp hw.1 k;let⟨t,ht'⟩:=F2 ht.1;have h0:t≠0:=by intro e;subst e;refine hw.2 ?_;rw[List.getLast?_eq_getElem?,show w.length-1=k from by omega];rw[JL,Gj A4] at ht';rw[Gj A4];simpa using ht'
  have XE:=ajX hw.1 hk ht' h0;rw[hv,Ce] at XE;have hz0:z≠0:=by
   intro e;subst e;have:=Td hw.1 (by intro e;rw[e] at hk;simp at hk) hw.2;have hp:=Lm<|w.length-1
   rw[hv] at this;simp at this;omega
  have ht2:t<2^64:=AK;have aoq:ZE (t:Int)=some ((t.log2:Int)+1):=by
   unfold ZE HB;rw[B5 (show(0:Int)<=(t:Int) by omega),B5 (show((t:Nat):Int)<18446744073709551616 by omega)];show some ((Nt ((t:Nat):Int).toNat:Nat):Int)=_;have:Nt t=Nat.log2 t+1:=by
    unfold Nt;have:Nat.beq t 0=false:=by
     cases hb:Nat.beq t 0 with
     |false=>rfl
     |true=>exact absurd (EA hb) h0
    rw[this];rfl
   rw[Ce,this];rfl
  have hlt:t.log2<64:=(Qa h0).2 ht2;refine A6 BC<|A6 BC<|A6 BC<|A6 (Bf A4) ?_
  rw[ht'];refine A6 aoq<|A6 BC<|AU ?_
  rw[Bu hz0,XE];simp only[Ar];omega
theorem Cg.one(h:Cg r z):((List.isEmpty r.2)&&decide (r.1=(1:Int)))=decide (z=1):=by grind [Cg]
theorem akZ{s:Int×A3 Int}{x y:Int}(hr:Cg r x)(hs:Cg s y)(hx:DB x=true)(hy:DB y=true)(h0:y≠0):Yd (λq=>Cg q.1 ((x:Rat)/(y:Rat)).num/\Cg q.2 (((x:Rat)/(y:Rat)).den:Int)) (nP r s):=by
 unfold nP;have en:((x:Rat)/(y:Rat)).num=(y.sign*x)/(Int.gcd y x:Int):=by rw[<-OW,iE]
 have ed:(((x:Rat)/(y:Rat)).den:Int)=(y.natAbs:Int)/(Int.gcd y x:Int):=by rw[<-OW,iD,if_neg h0];rfl
 rw[en,ed];refine A6 (Vs hs)<|DJ (λt=>Cg t.1 (y.sign*x)/\Cg t.2 (y.natAbs:Int)) ?_<|λk hk=>Ad (λhd=>?_)<|λhd=>?_
 ·rintro⟨a,b⟩ ⟨ha,hb⟩;dsimp only at ha hb⊢;have hg:Int.gcd (y.sign*x) (y.natAbs:Int)=Int.gcd y x:=by
   rw[Int.gcd_comm];unfold Int.gcd;rw[Mw,GB]
   congr 1
   rcases WH y 0 with h|h|h
   ·grind
   ·grind
   ·grind
  have hg0:0<Int.gcd y x:=iq _ h0;have sa:DB (y.sign*x)=true:=Wb (y:=x) (by
   rw[Mw];rcases WH y 0 with h|h|h
   ·grind
   ·grind
   ·rw[WO h];simp) hx
  have sb:DB (y.natAbs:Int)=true:=Wb (y:=y) AV hy;rw[Cg.one hb];refine Ad (λhc=>?_)<|λhc=>?_
  ·have hc:=As hc;have h1:Int.gcd y x=1:=by unfold Int.gcd;rw[show y.natAbs=1 from by omega,Nat.gcd_one_left]
   rw[h1];refine AU ⟨?_,?_⟩
   ·grind
   ·grind
  ·refine Aq (aa2 ha hb sa sb) λg hgr=>?_
   rw[hg] at hgr;have sg:DB (Int.gcd y x:Int)=true:=Wb (y:=y) (by rw[GB];exact Nat.le_of_dvd A4<|Nat.gcd_dvd_left _ _) hy
   refine Aq (qC ha hgr sa sg A4) λp hp=>Aq (qC hb hgr sb sg A4) λq hq=>AU ⟨?_,?_⟩
   ·grind
   ·grind
 ·have hd:=As hd;have hn:y<0:=AK;refine Aq (S5 hr) λa ha=>Aq (S5 hs) λb hb=>hk _ ⟨?_,?_⟩
  ·grind
  ·grind
 ·grind
def aad:∀(f n:Nat) (acc:AD),n<f->bM f n acc=Lib.decDigits n++acc
 |0,n,_,h=>by omega
 |f+1,n,acc,h=>by
  unfold bM;by_cases h1:n<10
  ·rw[show Nat.blt n 10=true from Ik h1,Lib.decDigits_one h1];rfl
  ·have:Nat.blt n 10=false:=by
    cases hb:Nat.blt n 10 with
    |false=>rfl
    |true=>exact absurd (Fa hb) h1
   rw[this];show bM f (n/10) _=_;rw[aad f (n/10) _ A4]
   conv=>rhs;rw[Lib.decDigits,dif_neg h1]
   simp
def WX(n:Nat):B2 n=Lib.decDigits n:=by unfold B2;rw[aad _ _ _ A4];simp
def OP(h:n<10):B2 n=[UInt8.ofNat<|48+n]:=by rw[WX,Lib.decDigits_one h]
def Rp(h: ¬n<10):B2 n=B2 (n/10)++[UInt8.ofNat<|48+n%10]:=by rw[WX,WX,Lib.decDigits,dif_neg h]
theorem MK:∀(k n:Nat),0<k->n<10^k->(B2 n).length<=k
 |0,_,h,_=>by omega
 |k+1,n,_,h=>by
  by_cases h1:n<10
  ·rw[OP h1];simp
  ·rw[Rp h1,Dg];rcases LL k with h0|h0
   ·grind
   ·have:=MK k (n/10) h0 (by rw[Qc] at h;omega);simp;omega
def IL(k r:Nat):AD:=List.replicate (k-(B2 r).length) 48++B2 r
def aip{r:Nat}(hk:0<k)(hr:r/10<10^k):IL (k+1) r=IL k (r/10)++[UInt8.ofNat<|48+r%10]:=by
 unfold IL;by_cases h:r<10
 ·rw[show r/10=0 from by omega,OP h,OP (show 0<10 by omega),show r%10=r from by omega];have:List.replicate (k+1-1) (48:UInt8)=List.replicate (k-1) 48++[48]:=by rw[show k+1-1=(k-1)+1 from by omega,List.replicate_succ']
  simp only[IE];rw[this];rfl
 ·rw[Rp h,Dg,IE,show k+1-((B2<|r/10).length+1)=k-(B2<|r/10).length from by omega,Hm]
def na:∀(k q r:Nat),0<q->0<k->r<10^k->B2 (q*10^k+r)=B2 q++IL k r
 |0,_,_,_,h,_=>by omega
 |k+1,q,r,hq,_,hr=>by
  rw[Qc] at hr⊢;have hp:0<10^k:=Nat.pow_pos A4;have NH:10^k<=q*10^k:=Nat.le_mul_of_pos_left _ hq;rw[<-Nat.mul_assoc];rw[Rp A4,show(q*10^k*10+r)/10=q*10^k+r/10 from by omega,show(q*10^k*10+r)%10=r%10 from by omega];rcases LL k with h0|h0
  ·subst h0;have h9:r<10:=by simpa using hr
   rw[show r/10=0 from by omega,Nat.pow_zero,Nat.mul_one,U8];unfold IL;rw[OP h9,show r%10=r from by omega];rfl
  ·rw[na k q (r/10) hq h0 A4,aip h0 A4,Hm]
def zt(c:Nat):kE [48] c=List.replicate c 48:=by
 induction c with
 |zero=>rfl
 |succ c ih=>rw[List.replicate_succ,<-ih];rfl
def Norm.pos{w:A3 Int}(h:Norm w)(h0:w≠[]):0<AN w:=by
 have:=Td h.1 h0 h.2;have:=Lm<|w.length-1
 omega
def ahi{r:Nat}(h:r<1000000000000000000):(B2 r).length<=18:=MK 18 r A4 (by simpa using h)
def alG{l:A3 AD}{x:AD}(h:l[n]? =some x):(l.drop n).reverse.flatten=(l.drop<|n+1).reverse.flatten++x:=by let⟨hn,e⟩:=FP.1 h;rw[UK hn,e,List.reverse_cons,List.flatten_append];simp
theorem zI{l:A3 AD}(h:∀x∈l,x.length<=18):l.flatten.length<=18*l.length:=by induction l<;>grind
theorem ahN(h:Cg r z)(hz:DB z=true):Yd (λs=>s=Cd z) (l7 r):=by
 unfold l7;have hlen:=h.len hz;refine Ad (λhc=>?_)<|λhc=>?_
 ·rcases h with⟨h1,h2,h3⟩|⟨h1,_⟩
  ·have e:aK z=some (Cd z):=by
    unfold aK;have:He z=true:=by unfold Cp at h3;unfold He;rw[B5 h3.1,B5 h3.2];rfl
    rw[this];rfl
   rw[h2];exact A6 e<|AU rfl
  ·grind
 have NH:z.natAbs≠0:=by
  rcases h with⟨h1,_⟩|⟨h0,h1,h2,h3,h4,h5⟩
  ·rw[h1] at hc;simp at hc
  ·grind
 have XE:Nat.log2 z.natAbs<1099511627776:=Fa hz;refine Aq (QL h) ?_;rintro⟨neg,w0⟩ ⟨p1,p2,p3,p4⟩;dsimp only at p1 p2 p3 p4⊢;refine EP (λt:A3 Int×A3 AD=>Norm t.1/\(∀x∈t.2,x.length<=18)/\∃v:Nat,AN t.1=(v:Int)/\v<=z.natAbs/\t.2.length+(if v=0 then 0 else Nat.log2 v+1)<=Nat.log2 z.natAbs+1/\B2 z.natAbs=(if v=0 then [] else B2 v)++t.2.reverse.flatten)
  (λt:A3 Int×A3 AD=>if AN t.1=0 then 0 else Nat.log2 (AN t.1).toNat+1) ?_ _ _ ⟨p2,AV,z.natAbs,p3,BM _,by dsimp only;rw[if_neg NH];simp,by dsimp only;rw[if_neg NH];simp⟩ (by dsimp only;rw[p3,Ce];split<;>omega)
 rintro next ⟨w,l⟩ ⟨h1,h2,v,h3,h4,h5,h6⟩ hn
 dsimp only at h1 h2 h3 h4 h5 h6 hn⊢;refine Ad (λhd=>?_)<|λhd=>?_
 ·have hd:=As hd;have hw0:w≠[]:=by intro e;rw[e] at hd;simp at hd
  have I3:v≠0:=by have:=h1.pos hw0;omega
  rw[if_neg I3] at h5 h6;have hwl:w.length<=w0.length:=h1.len (by have:=(Gh p2.1).2;omega);have rT:Norm ([1000000000000000000]:A3 Int):=⟨by rw[PT];exact⟨⟨A4,by unfold BB;omega⟩,ZB⟩,AV⟩;refine Aq (wW h1 rT AV A4 AV) ?_;rintro⟨q,m⟩ ⟨⟨d1,d2⟩,d3,d4⟩;dsimp only at d1 d2 d3 d4⊢;have evb:AN ([1000000000000000000]:A3 Int)=1000000000000000000:=by simp[AN]
  rw[evb,h3] at d2 d4;have d2:AN q=((v/1000000000000000000:Nat):Int):=by rw[d2];rfl
  have d4:AN m=((v%1000000000000000000:Nat):Int):=by rw[d4];rfl
  have hml:v%1000000000000000000<1000000000000000000:=OS _ A4
  generalize hR:v%1000000000000000000=R at*
  refine DJ (λs=>s=B2 R) ?_ ?_
  rotate_left
  ·intro k hk;refine Ad (λhe=>?_)<|λhe=>?_
   ·have he:=As he;have hm1:m.length<=1:=d3.len (n:=1) (by rw[d4];unfold B0;unfold BB;omega);obtain⟨x,rfl⟩:∃x,m=[x]:=by
     cases m with
     |nil=>simp at he
     |cons x t=>cases t with
      |nil=>exact⟨x,rfl⟩
      |cons _ _=>simp at hm1
    have ex:x=(R:Int):=by rw[<-d4];simp[AN]
    subst ex;have ef:jI (R:Int) 10=some (B2 R):=by
     unfold jI HB;rw[B5 (show(0:Int)<=(R:Int) by omega),B5 (show((R:Nat):Int)<18446744073709551616 by omega)]
     rfl
    exact A6 (show AB [(R:Int)] 0=some (R:Int) from rfl)<|A6 ef<|hk _ rfl
   ·have he:=Bg he;have hm0:m=[]:=LP A4;subst hm0;have:R=0:=by have:(0:Int)=(R:Int):=d4;omega
    subst this;exact hk _ rfl
  rintro s rfl;have hsl:=ahi hml;refine DJ (λs=>s.length<=18/\B2 v=(if v/1000000000000000000=0 then [] else B2 (v/1000000000000000000))++s) ?_ ?_
  rotate_left
  ·intro k hk;refine Ad (λhe=>?_)<|λhe=>?_
   ·have he:=As he;have hq0:v/1000000000000000000≠0:=by intro e;have:=d1.pos (by intro e';rw[e'] at he;simp at he);rw[d2,e] at this;simp at this
    have er:jH [48] ((18:Int)-((B2 R).length:Int))=some (List.replicate (18-(B2 R).length) 48):=by
     unfold jH;rw[B5 (show(0:Int)<=(18:Int)-((B2 R).length:Int) by omega),B5 (show(18:Int)-((B2 R).length:Int)<=64 by omega)];show some (kE [48] ((18:Int)-((B2 R).length:Int)).toNat)=_;rw[zt]
     congr 2
     omega
    have es:IK (List.replicate (18-(B2 R).length) 48) (B2 R)=some (IL 18 R):=by unfold IK;rw[B5 (by rw[Nl];omega)];rfl
    refine A6 BC<|A6 er<|A6 es<|hk _ ⟨?_,?_⟩
    ·unfold IL;rw[Dg,Nl];omega
    ·rw[if_neg hq0];have:=na 18 (v/1000000000000000000) R A4 A4 (by simpa using hml);rw[show(10:Nat)^18=1000000000000000000 from rfl] at this;rw[<-this]
     congr 1
     omega
   ·have he:=Bg he;have hq:q=[]:=LP A4;subst hq;have hq0:v/1000000000000000000=0:=by have:(0:Int)=((v/1000000000000000000:Nat):Int):=d2;omega
    refine hk _ ⟨hsl,?_⟩;rw[if_pos hq0,KC]
    congr 1
    omega
  rintro s ⟨s1,s2⟩;have ea:BG 16 l [s]=some (l++[s]):=by unfold BG;simp only[IE];rw[B5 A4,B5 A4];rfl
  have ack:v/1000000000000000000≠0->Nat.log2 (v/1000000000000000000)+1<=Nat.log2 v:=by
   intro hne;have:=(Ye hne).1;have h2:2^(Nat.log2 (v/1000000000000000000)+1)<=v:=by rw[Qc];omega
   exact qJ h2
  refine A6 ea<|hn _ ⟨d1,?_,v/1000000000000000000,d2,A4,?_,?_⟩ ?_
  ·grind
  ·grind
  ·grind
  ·grind
 ·have hd:=Bg hd;have hw0:w=[]:=LP A4;subst hw0;have I3:v=0:=by have:(0:Int)=(v:Int):=h3;omega
  subst I3;rw[if_pos rfl] at h5 h6;rw[KC] at h6;have hfl:=zI (l:=l.reverse)<|λx hx=>h2 x<|List.mem_reverse.1 hx
  rw[List.length_reverse] at hfl;have bw:∀a b:AD,a.length+b.length<=140737488355328->Vu a b=some (a++b,(b.length:Int),()):=by intro a b J8;unfold Vu;rw[show Nat.ble (a.length+b.length) 140737488355328=true from Ik J8];rfl
  refine DJ (λs=>s.length<=1/\s++B2 z.natAbs=Cd z) ?_ ?_
  rotate_left
  ·intro k hk;cases It:decide (z<0) with
   |true=>
    rw[It] at p1;subst p1;have et:Cd z=45::B2 z.natAbs:=by unfold Cd;rw[It];rfl
    refine Ad (λ_=>A6 (bw [] [45] AV) (hk ([]++[45]) ⟨AV,by rw[et];rfl⟩)) (λh=>by cases h)
   |false=>
    rw[It] at p1;subst p1;have et:Cd z=B2 z.natAbs:=by unfold Cd;rw[It];rfl
    exact Ad (λh=>by cases h) (λ_=>hk [] ⟨AV,by rw[et];rfl⟩)
  rintro pre ⟨e1,e2⟩;refine A6 BC ?_;refine EP (λt:AD×Int=> -1<=t.2/\t.2<l.length/\t.1=pre++(l.drop (t.2+1).toNat).reverse.flatten) (λt:AD×Int=>(t.2+1).toNat) ?_ _ _ ⟨BZ,BZ,?_⟩ BZ
  rotate_left
  ·dsimp only;rw[show((l.length:Int)-1+1).toNat=l.length from by omega,SG];simp
  rintro FE ⟨b,i⟩ ⟨g1,g2,g3⟩ IV;dsimp only at g1 g2 g3 IV⊢;refine Ad (λhp=>?_)<|λhp=>?_
  ·have hp:=As hp;obtain⟨n,rfl⟩:=F2 hp;have HT:n<l.length:=A4;have ex:AB l (n:Int)=some l[n]:=by show l[n]? =_;exact Gj HT
   have avb:l[n].length<=18:=h2 _<|Ly HT
   have atr:=zI (l:=(l.drop (((n:Nat):Int)+1).toNat).reverse)<|λx hx=>h2 x<|UF<|List.mem_reverse.1 hx
   rw[List.length_reverse,Ii] at atr;refine A6 ex (A6 ex (A6 (bw b l[n] (by rw[g3,Dg];omega))<|A6 BC<|IV _ ⟨BZ,BZ,?_⟩ BZ));dsimp only;rw[show(((n:Nat):Int)-1+1).toNat=n from by omega,g3,show(((n:Nat):Int)+1).toNat=n+1 from by omega,alG (x:=l[n])<|Gj HT,Hm]
  ·have hp:=Bg hp;have hi:i= -1:=A4;subst hi;have g3:b=pre++l.reverse.flatten:=g3;have eb:b=Cd z:=by rw[g3,<-h6,e2]
   have hne:(!b.isEmpty)=true:=by
    rw[eb];have hd:B2 z.natAbs≠[]:=λe=>by
     by_cases h:z.natAbs<10
     ·rw[OP h] at e;cases e
     ·rw[Rp h] at e;simp at e
    unfold Cd;cases decide (z<0) with
    |true=>rfl
    |false=>
     show(!(B2 z.natAbs).isEmpty)=true;cases h:B2 z.natAbs with
     |nil=>exact absurd h hd
     |cons _ _=>rfl
   refine A6 (show Yc b=some b by unfold Yc;rw[hne];rfl)<|AU ?_
   exact eb
def Fz(n:Nat)(k:Nat):Prop:=Nat.log2 n<k
def alm(ha:Fz a j)(hb:Fz b k):Fz (a*b) (j+k+1):=by
 unfold Fz at*;by_cases h0:a=0
 ·subst h0;simp
 by_cases h1:b=0
 ·subst h1;simp
 have h2:=(Ye h0).2;have h3:=(Ye h1).2;have h4:a*b<2^(Nat.log2 a+1)*2^(Nat.log2 b+1):=Nat.mul_lt_mul'' h2 h3;rw[<-Mu] at h4;have:=(Qa<|Nat.mul_ne_zero h0 h1).2 h4;omega
theorem als(ha:Fz a k)(hb:Fz b k):Fz (a+b) (k+1):=by
 unfold Fz at*;by_cases h0:a+b=0
 ·rw[h0];simp
 have h2:a<2^k:=by
  by_cases h:a=0
  ·grind
  ·exact(Qa h).1 ha
 have h3:b<2^k:=by
  by_cases h:b=0
  ·grind
  ·exact(Qa h).1 hb
 exact(Qa h0).2 (by rw[Qc];omega)
def ajd(h:a<=b)(hb:Fz b k):Fz a k:=Nat.lt_of_le_of_lt (aaA h) hb
theorem R4(h:Fz z.natAbs k)(hk:k<=1099511627776):DB z=true:=by(simp_all [Fz,DB]<;>omega)
theorem Tl{q:Rat}(h:F8 q=true):Fz q.num.natAbs 68719476736/\Fz q.den 68719476736:=by simp_all [F8,Fz]
theorem Jr{q:Rat}(h:Fz q.den k):Fz ((q.den:Int)).natAbs k:=by grind
def Qo{a b:Int}(ha:Fz a.natAbs 68719476736)(hb:Fz b.natAbs 68719476736):Fz (a*b).natAbs 137438953473:=by rw[Mw];exact alm ha hb
def ant{a b:Int}(ha:Fz a.natAbs 137438953473)(hb:Fz b.natAbs 137438953473):Fz (a+b).natAbs 137438953474:=ajd (Int.natAbs_add_le a b) (als ha hb)
def aao{x y:Int}(hx:Fz x.natAbs j)(hy:Fz y.natAbs k)(hj:j<=1099511627776)(hk:k<=1099511627776):T5 x y=some (x+y):=by unfold T5;rw[R4 hx hj,R4 hy hk];rfl
def UQ{x y:Int}(hx:Fz x.natAbs j)(hy:Fz y.natAbs k)(hj:j<=1099511627776)(hk:k<=1099511627776):KJ x y=some (x*y):=by unfold KJ;rw[R4 hx hj,R4 hy hk];rfl
def anj{x y:Int}(hx:Fz x.natAbs j)(hy:Fz y.natAbs k)(hj:j<=1099511627776)(hk:k<=1099511627776):bP x y=some (Us x y):=by unfold bP;rw[R4 hx hj,R4 hy hk];rfl
def pH{x y:Int}(hx:Fz x.natAbs j)(hy:Fz y.natAbs k)(hj:j<=1099511627776)(hk:k<=1099511627776)(h0:y≠0):Ot x y=some ((x:Rat)/(y:Rat)):=by unfold Ot;rw[R4 hx hj,R4 hy hk,Bu h0];rfl
def yr(q:Rat):mkq q.num q.den=some q:=by obtain⟨d,hd⟩:∃d,q.den=d+1:=⟨q.den-1,by have:=q.den_pos;omega⟩;unfold mkq;have hr:=q.reduced;unfold Nat.Coprime at hr;rw[hd] at hr⊢;show EN (Nat.beq (Nat.gcd q.num.natAbs<|d+1) 1) (mkRat q.num<|d+1)=_;rw[hr,<-hd,WA];rfl
def gS(x y:Rat):(((x.num*y.den+y.num*x.den:Int)):Rat)/(((x.den:Int)*(y.den:Int):Int):Rat)=x+y:=by have h:=Rat.mkRat_add_mkRat x.num y.num x.den_nz y.den_nz;rw[WA,WA,Rat.mkRat_eq_div] at h;rw[h,<-SE];rfl
def gR(x y:Rat):(((x.num*y.num:Int)):Rat)/(((x.den:Int)*(y.den:Int):Int):Rat)=x*y:=by have h:=Rat.mkRat_mul_mkRat x.num y.num x.den y.den;rw[WA,WA,Rat.mkRat_eq_div] at h;rw[h,<-SE];rfl
def xe(h:x.den=1):x=(x.num:Rat):=by have h1:=WA x;rw[h] at h1;rw[<-Rat.mkRat_one,h1]
def Nn(x:Rat):(x.den:Int)≠0:=by have:=x.den_pos;omega
def akt(x:Rat):lU x=some (-x):=by
 unfold lU;show bd (mkq (-x.num) x.den) _=_;have:=yr<| -x
 rw[Rat.neg_num,Rat.neg_den] at this;rw[this];rfl
def ahd(z:Int):n9 z=some (z:Rat):=by unfold n9;show bd (mkq z 1) _=_;have:=yr (z:Rat);rw[SD,U9] at this;rw[show((1:Nat):Int)=1 from rfl] at this;rw[this];rfl
def aky(hx:F8 x=true)(hy:F8 y=true):lZ x y=some (x+y):=by
 let⟨a1,a2⟩:=Tl hx;let⟨b1,b2⟩:=Tl hy;have aaW:(bd (KJ x.num (y.den:Int)) λB9=>bd (KJ y.num (x.den:Int)) λBJ=>bd (T5 B9 BJ) λBh=>bd (KJ (x.den:Int) (y.den:Int)) λBV=>bd (Ot Bh BV) λBl=>some Bl)=some (x+y):=by rw[UQ a1 (Jr b2) A4 A4];show bd (KJ y.num (x.den:Int)) _=_;rw[UQ b1 (Jr a2) A4 A4];show bd (T5 _ _) _=_;rw[aao (Qo a1<|Jr b2) (Qo b1<|Jr a2) A4 A4];show bd (KJ (x.den:Int) (y.den:Int)) _=_;rw[UQ (Jr a2) (Jr b2) A4 A4];show bd (Ot _ _) _=_;rw[pH (ant (Qo a1<|Jr b2)<|Qo b1<|Jr a2) (Qo (Jr a2)<|Jr b2) A4 A4<|WB (Nn x)<|Nn y,gS];rfl
 unfold lZ;by_cases h1:x.den=1
 ·by_cases h2:y.den=1
  ·have e1:Ll x=some true:=by unfold Ll;rw[B5 h1]
   have e2:Ll y=some true:=by unfold Ll;rw[B5 h2]
   rw[e1,e2];show bd (T5 x.num y.num) _=_;rw[aao a1 b1 A4 A4];show some ((x.num+y.num:Int):Rat)=_;rw[Rat.intCast_add,<-xe h1,<-xe h2]
  ·have e1:Ll x=some true:=by unfold Ll;rw[B5 h1]
   have e2:Ll y=some false:=by unfold Ll;rw[Bu h2]
   rw[e1,e2];exact aaW
 ·have e1:Ll x=some false:=by unfold Ll;rw[Bu h1]
  rw[e1];exact aaW
def aku(hx:F8 x=true)(hy:F8 y=true):lV x y=some (x*y):=by let⟨a1,a2⟩:=Tl hx;let⟨b1,b2⟩:=Tl hy;unfold lV;rw[UQ a1 b1 A4 A4];show bd (KJ (x.den:Int) (y.den:Int)) _=_;rw[UQ (Jr a2) (Jr b2) A4 A4];show bd (Ot _ _) _=_;rw[pH (Qo a1 b1) (Qo (Jr a2)<|Jr b2) A4 A4<|WB (Nn x)<|Nn y,gR];rfl
theorem alh(y:Rat):F8 (-y)=F8 y:=by simp_all [F8]
def aks(hx:F8 x=true)(hy:F8 y=true):lS x y=some (x-y):=by unfold lS;show bd (M4 x<| -y) _=_;unfold M4;rw[hx,alh,hy];show some (x+ -y)=_;rw[qM]
def akv(hx:F8 x=true)(h0:x≠0):lW x=some x⁻¹ :=by let⟨a1,a2⟩:=Tl hx;unfold lW;rw[pH (Jr a2) a1 A4 A4 (by intro e;exact h0<|Nd.1 e),Rat.inv_def,OW];rfl
theorem ali(h:F8 y=true)(h0:y≠0):F8 y⁻¹ =true:=by(simp_all [F8]<;>grind)
def akw(hx:F8 x=true)(hy:F8 y=true)(h0:y≠0):lX x y=some (x/y):=by
 unfold lX;have e1:bE y=some y⁻¹ :=by unfold bE;rw[hy,Bu h0];rfl
 have e2:GH x y⁻¹ =some (x*y⁻¹):=by unfold GH;rw[hx,ali hy h0];rfl
 rw[e1];show bd (GH x y⁻¹) _=_;rw[e2,Pa];rfl
def akx(hx:F8 x=true)(hy:F8 y=true):lY x y=some (bif decide (x<y) then -1 else bif decide (y<x) then 1 else 0):=by let⟨a1,a2⟩:=Tl hx;let⟨b1,b2⟩:=Tl hy;unfold lY;rw[UQ a1 (Jr b2) A4 A4];show bd (KJ y.num (x.den:Int)) _=_;rw[UQ b1 (Jr a2) A4 A4];show bd (bP _ _) _=_;rw[anj (Qo a1<|Jr b2) (Qo b1<|Jr a2) A4 A4];show some (Us _ _)=_;unfold Us;have e1:decide (x.num*(y.den:Int)<y.num*(x.den:Int))=decide (x<y):=Ha.2 (Rat.lt_iff x y).symm;have e2:decide (y.num*(x.den:Int)<x.num*(y.den:Int))=decide (y<x):=Ha.2 (Rat.lt_iff y x).symm;rw[e1,e2]
theorem ajG(hx:F8 x=true)(hy:F8 y=true):lF x y=some (decide<|x=y):=by
 unfold lF;have e:Oy x y=some (bif decide (x<y) then -1 else bif decide (y<x) then 1 else 0):=by unfold Oy;rw[hx,hy];rfl
 rw[e];show some (decide<|(bif decide (x<y) then(-1:Int) else bif decide (y<x) then 1 else 0)=0)=_
 congr 1
 by_cases h1:x<y
 ·grind
 ·grind
end
section
open Go.Shelf
variable[D:DR]{P:Program}{ρ:Ren}
def xI(cs:BA AW)(n:Nat):(Builtin.zeroCells cs n).size=n*cs.size:=by simp[Builtin.zeroCells]
def ajC(L:Lays8.n4 P ρ){α:Type}{f:α->Ty}{sz:Nat}{i0:TypeInfo}{z:AW}(hi0:P.info? (ρ.t 25)=some i0)(hz0:i0.zero=some z)(hs:i0.size=sz)(hs0:0<sz)(hz:z.cells.size=sz)(hb:i0.bytes<=1000)
  (hc:Gi P (ρ.f 4)=true){x r:A3 α}{n:Int}(hm:aL x n=some r):Eg P (ρ.f 4) [TN f x,TI .i64 n] (.fr (ρ.t 25) sz<|lT f r):=by
 obtain⟨hg,rfl⟩:=HJ hm;rw[C6,C6] at hg;let⟨⟨h1,h2⟩,h3⟩:=hg;have h2:=As h2;have h3:=As h3;have hx:=WE.1 h1;subst hx;refine⟨hc,λw H vs sub gl ha=>?_⟩;obtain⟨v,u,rfl,hv,hu⟩:=Tw ha;have hv:v= .slice none 0 0:=hv.2 rfl;have hu:u= .int .i64 n:=hu;subst hv hu;obtain⟨m,rfl⟩:∃m:Nat,n=(m:Int):=⟨n.toNat,A4⟩;show Calls P (ρ.f 4) #[.slice none 0 0,.int .i64 m] w _;rcases LL m with h0|h0
 ·subst h0;refine(Any8.slices_Grow_room L none 0 0 0 w (BM _) A4 A4 A4).mono ?_;rintro e w' ⟨rfl,rfl⟩;exact⟨_,rfl,FV.refl _ _,H,λ_ _=>rfl,sub,[],World.ownsRow_nil w' _ _ _,rfl,λb h=>by simp[Value.ownBlock] at h⟩
 ·refine(Any8.slices_Grow_grow L i0 z hi0 hz0 A4 none 0 0 m [] w (BM _) A4 (Cu (HK (show 0+m<=100000000 by omega) hb) A4) A4 AV (λ_=>rfl) (λa h=>by cases h)).mono ?_;rintro e w' ⟨rfl,rfl⟩;have hG:=grownCap_ge w (0+m) 0<|ρ.t 25
  have hM:=grownCap_le_maxLen w (0+m) 0 (ρ.t 25) (by unfold maxLen;omega)
  generalize grownCap w (0+m) 0 (ρ.t 25)=G at*
  generalize ho:Obj.cells (([]:A3 AW).toArray++Builtin.zeroCells z.cells (0+m-0)++Builtin.zeroCells z.cells (G-(0+m))) (ρ.t 25)=o
  have ac2:∀k,k<w.heap.size->(w.drew.alloc o).heap[k]? =w.heap[k]? :=λk hk=>Below.heap_alloc w.drew o k hk
  refine⟨_,rfl,⟨⟨rfl,rfl,rfl,(FV.alloc (w:=w.drew) o).size,ac2⟩,?_⟩,H,λ_ _=>rfl,λr o hr=>?_,[],⟨AV,.inr ⟨w.heap.size,G,_,rfl,FY _,(Lv w.drew o).trans<|congrArg some ho.symm,FY _,hM,?_,by simp[lT]⟩⟩,rfl,λb hb=>?_⟩
  ·exact H5.of<|Qb _
  ·have:=sub r o hr;rw[ac2 r (by
    rcases Hk r w.heap.size with h|h
    ·exact h
    ·rw[ie h] at this;cases this)]
   exact this
  ·rw[Array.size_append,Array.size_append,xI,xI,hz];simp only[iN,ZS,Pc,Nat.sub_zero];rw[<-Kc]
   congr 1;omega
  ·have e:b=w.heap.size:=by simp[Value.ownBlock] at hb;exact hb.symm
   subst e;refine⟨BM _,?_⟩;cases hH:H w.heap.size with
   |none=>rfl
   |some o=>have:=sub _ o hH;rw[ie<|BM _] at this;cases this
end
end Trn
namespace P5
section
open Go.Shelf Go.Sort Go.Lib
def agl(w:World)(T:TypeId)(nd:Nat)(hs:nd<=24):Holds (λ(b:UInt8)=>Value.int .u8 (b.toNat:Int)) (w.alloc<| .cells zeros24 T) w.heap.size 0 (Array.replicate nd (0:UInt8)):=λj hj=>by
 have hj':j<nd:=by simpa using hj
 refine⟨?_,World.frozen?_alloc_new _ _ _ _⟩;rw[World.cell?_alloc_new,Nat.zero_add,zeros24_at _ Trn.A4,getElem!_pos _ j hj];simp
def al9(w:World)(o:Obj)(dk:Array UInt8)(k:Nat):∃os,(putRow (λ(b:UInt8)=>Value.int .u8 (b.toNat:Int)) (w.alloc o) w.heap.size 0 dk).drewN k=Go.Sort.grow (w.drewN k) os:=by rw[alloc_eq_grow];let⟨os',_,e⟩:=putRow_grow_new (λ(b:UInt8)=>Value.int .u8 (b.toNat:Int)) w #[o] w.heap.size 0 dk (Nat.le_refl _);exact⟨os',by rw[e];rfl⟩
set_option maxHeartbeats 6400000 in
set_option maxRecDepth 100000 in
def ahe(u:Nat)(hu64:u<18446744073709551616)(w:World)
  (htab:Lib.TabIs prog w "internal/strconv.uint64pow10" .u64 Lib.pow10Tab):Calls prog 297 #[.int .u64 u,.int .i64 10] w λe w'=>e= .returned (.string ⟨(Lib.decDigits u).toArray⟩)/\∃k os,w'=Go.Sort.grow (w.drewN k) os:=by
 have L:=yw;have mixed:=L.mixed;have t2:prog.underlying 3=some (.int .i64):=L.t3;have t446:prog.underlying 360=some (.array 24 5):=L.t171;have a446:∀w:World,(isAgg 360).run prog w= .ok true w:=L.a171;have z446:∀w:World,(Go.sizeOf 360).run prog w= .ok 24 w:=L.z171;have v446:=L.v171;have v446:∀w:World,(zeroValue 360).run prog w= .ok (.agg #[.int .u8 0,.int .u8 0,.int .u8 0,.int .u8 0,.int .u8 0,.int .u8 0,.int .u8 0,.int .u8 0,.int .u8 0,.int .u8 0,.int .u8 0,.int .u8 0,.int .u8 0,.int .u8 0,.int .u8 0,.int .u8 0,.int .u8 0,.int .u8 0,.int .u8 0,.int .u8 0,.int .u8 0,.int .u8 0,.int .u8 0,.int .u8 0]) w:=v446;have t9:=L.t9;have t154:prog.underlying 308=some (.slice 5):=L.t37;have e283:∀args w,(callFunc 326 args).run prog w= .ok (.enter 326 args) w:=enters_of L.f283 Trn.A7 rfl;have e284:∀args w,(callFunc 327 args).run prog w= .ok (.enter 327 args) w:=enters_of L.f284 Trn.A7 rfl;have e285:∀args w,(callFunc 328 args).run prog w= .ok (.enter 328 args) w:=enters_of L.f285 Trn.A7 rfl;by_cases hs:u<100
 ·go_enter func297,ntmps297
  go_wp2_with (go_at_fn (326);refine(internal_strconv_small u hs _).mono ?_;rintro e w' ⟨rfl,rfl⟩)
  go_ret
  exact⟨rfl,0,#[],by simp[World.drewN_zero]⟩
 ·have hu1:1<=u:=Trn.A4;have hnd20:Lib.nDigits u<=20:=by have:=Lib.numDigits_eq u hu1 hu64;split at this<;>omega
  have hb3:Lib.nDigits u<=23:=Trn.A4;have hal:prog.arrayLen 360=24:=by simp[Program.arrayLen,t446]
  have hsl:∀W,(Instr.sliceAt 360 (.pointer<|some ⟨w.heap.size,0,none⟩) none (some<| .int .i64 (Lib.nDigits u:Int)) none).run prog W= .ok (.slice (some ⟨w.heap.size,0,none⟩) (Lib.nDigits u) 24) W:=λW=>by
   rw[run_sliceAt_array_h W 360 ⟨w.heap.size,0,none⟩ (by simp[Program.arrayLen,Program.elem,t446]) .i64 (Lib.nDigits u:Int) Trn.A4 (by rw[hal];omega)]
   go_simp
  have hH0:=agl w 360 (Lib.nDigits u) Trn.A4;have hfmt:=internal_strconv_formatBase10 w.heap.size 0 24 u (Array.replicate (Lib.nDigits u) 0) (w.alloc<| .cells Lib.zeros24 360) hH0 (by rw[Array.size_replicate];exact Lib.lt_pow_nDigits u) hu64 (by rw[Array.size_replicate];omega);rw[Array.size_replicate] at hfmt;have HH0:=Lib.hid hH0;clear hH0 hal
  go_enter func297,ntmps297
  go_wp2_with (first
   |(go_at_fn (327);refine(Any.internal_strconv_numDigits {L with} u hu1 hu64 _<|Lib.tabIs_alloc htab _).mono ?_;rintro e w' ⟨rfl,rfl⟩))
  go_at_fn (328)
  refine hfmt.mono ?_;rintro e w' ⟨rfl,k,v',dk,rfl,hF⟩;have hcv:(convert 308 9<| .slice (some ⟨w.heap.size,0,none⟩) (Lib.nDigits u) 24).run prog ((putRow (λ(b:UInt8)=>Value.int .u8 (b.toNat:Int)) (w.alloc<| .cells Lib.zeros24 360) w.heap.size 0 dk).drewN k)= .ok (.string ⟨(Lib.decDigits u).toArray⟩) ((putRow (λ(b:UInt8)=>Value.int .u8 (b.toNat:Int)) (w.alloc<| .cells Lib.zeros24 360) w.heap.size 0 dk).drewN k):=by
   have h:=run_convert_bytes_back (P:=prog) ((putRow (λ(b:UInt8)=>Value.int .u8 (b.toNat:Int)) (w.alloc<| .cells Lib.zeros24 360) w.heap.size 0 dk).drewN k) 308 9 5 ⟨w.heap.size,0,none⟩ 24 (Lib.decDigits u) L.t37 L.t5 L.t9 (λj hj=>by rw[Lib.row_is_numeral hF j hj,Lib.add_plain,World.cell?_drewN];exact cell?_putRow (λ(b:UInt8)=>Value.int .u8 (b.toNat:Int)) _ w.heap.size 0 _ dk HH0.out (by rw[hF.size,Array.size_replicate]) j (by rw[hF.size];rw[Lib.decDigits_length] at hj;exact hj))
   rw[Lib.decDigits_length] at h;exact h
  go_wp2
  go_ret
  let⟨os,eo⟩:=al9 w (.cells Lib.zeros24 360) dk k;exact⟨rfl,k,os,eo⟩
set_option maxHeartbeats 6400000 in
set_option maxRecDepth 100000 in
def aft(u:Nat)(hu64:u<18446744073709551616)(w:World)
  (htab:Lib.TabIs prog w "internal/strconv.uint64pow10" .u64 Lib.pow10Tab):Calls prog 256 #[.int .u64 u,.int .i64 10] w λe w'=>e= .returned (.string ⟨(Lib.decDigits u).toArray⟩)/\∃k os,w'=Go.Sort.grow (w.drewN k) os:=by
 have L:=yw;have mixed:=L.mixed;have e316:∀args w,(callFunc 297 args).run prog w= .ok (.enter 297 args) w:=enters_of func297 Trn.A7 rfl;have h:=ahe u hu64 w htab
 go_enter func256,ntmps256
 go_wp2_with (go_at_fn (297);refine h.mono ?_;rintro e w' ⟨rfl,k,os,rfl⟩)
 go_ret
 exact⟨rfl,k,os,rfl⟩
def wy(w:World):∀k,(w.drewN k).os=w.os/\(w.drewN k).tape=w.tape/\(w.drewN k).output=w.output/\(w.drewN k).heap=w.heap
 |0=>⟨rfl,rfl,rfl,rfl⟩
 |k+1=>wy w.drew k
def xH{w:World}{k:Nat}{os:Array Obj}:Below w.heap.size w (Go.Sort.grow (w.drewN k) os):=by
 let⟨h1,h2,h3,h4⟩:=wy w k;refine⟨h1,h2,h3,?_,λi hi=>?_⟩
 ·show w.heap.size<=((w.drewN k).heap++os).size;rw[h4,Array.size_append];omega
 ·show((w.drewN k).heap++os)[i]? =_;rw[h4,Array.getElem?_append_left hi]
end
end P5
namespace Trn
section
variable{α ρ σ:Type}{r:ρ}
def Uf(x:α)(K:α->AA ρ):bd (some x) K=K x:=rfl
def acq{n:Nat}(h:n<=9223372036854775807):AH (n:Int)=some (n:Int):=by unfold AH He;rw[B5 (show(-9223372036854775808:Int)<=(n:Int) by omega),B5 (show(n:Int)<=9223372036854775807 by omega)];rfl
def abJ{σ ρ α:Type}(L:A3 α)(Bd:(σ->AA ρ)->α->σ->AA ρ)(K:σ->AA ρ)(B:((σ×Int)->AA ρ)->σ×Int->AA ρ)(o:Nat)
  (jY:∀k u (i:Nat) x,L[i]? =some x->B k (u,((i+o:Nat):Int))=Bd (λu'=>k (u',((i+1+o:Nat):Int))) x u)
  (hend:∀k u,B k (u,((L.length+o:Nat):Int))=K u):∀(F i:Nat) (u:σ),i<=L.length->L.length-i<F->lp F B (u,((i+o:Nat):Int))=Jc (L.drop i) Bd u K
 |0,i,u,_,h=>by omega
 |F+1,i,u,hi,hF=>by
  show B (lp F B) (u,_)=_;rcases Hk i L.length with h|h
  ·rw[UK h];show _=Bd (λs=>Jc (L.drop<|i+1) Bd s K) L[i] u;rw[jY _ _ i L[i]<|Gj h]
   congr 1
   funext u'
   exact abJ L Bd K B o jY hend F (i+1) u' A4 A4
  ·have:i=L.length:=A4;subst this;rw[hend,SG];rfl
def aa8(L:A3 α)(Bd:(σ->AA ρ)->α->σ->AA ρ)(K:σ->AA ρ)(o:Nat){B:((σ×Int)->AA ρ)->σ×Int->AA ρ}{z:Int}{F:Nat}{u:σ}(hz:z=(o:Int))(hF:L.length<F)(hm:Jc L Bd u K=some r)
 (jY:∀k u (i:Nat) x,L[i]? =some x->B k (u,((i+o:Nat):Int))=Bd (λu'=>k (u',((i+1+o:Nat):Int))) x u)
 (hend:∀k u,B k (u,((L.length+o:Nat):Int))=K u):lp F B (u,z)=some r:=by
 have h:=abJ L Bd K B o jY hend F 0 u (FY _) hF;rw[Pc] at h;rw[hz,h];exact hm
theorem zC{b:Bool}{x r:α}(h:EN b x=some r):b=true/\x=r:=by grind [EN]
def JT(l:A3 α)(i:Nat):AB l (i:Int)=l[i]? :=rfl
theorem aek{c0:A3 V3}{L:A3 (V3)}(ho:Vh c0=some L)(Bd:(σ->AA ρ)->V3->σ->AA ρ)(K:σ->AA ρ)(u:σ)(hm:Jc L Bd u K=some r):kU c0 Bd K u=some r:=by
 obtain⟨hb,rfl⟩:=zC ho;have hb:c0.length<4000000000:=Fa hb;unfold kU;refine aa8 c0 Bd K 0 rfl A4 hm ?_ ?_
 ·intro k u i x hx;have hi:i<c0.length:=(FP.1 hx).1;dsimp only;rw[B5 (show((i+0:Nat):Int)<(c0.length:Int) by omega)];rw[BH,JT,U8,hx,Uf];refine congrArg (λf=>Bd f x u)<|funext λu'=>?_
  rw[show(((i:Nat):Int)+1)=((i+1+0:Nat):Int) from by omega,acq A4,Uf]
 ·grind
def yc{l:A3 α}{i:Nat}{x:α×α}(h:(S3 l)[i]? =some x):l[i]? =some x.1/\l[(i+1)%l.length]? =some x.2/\i<l.length:=by
 cases l with
 |nil=>simp[S3] at h
 |cons a l=>
  unfold S3 at h;rw[qS] at h;let⟨h1,h2⟩:=h;have hi:i<(a::l).length:=(FP.1 h1).1;refine⟨h1,?_,hi⟩;simp only[E7] at hi⊢;rcases Hk i l.length with h3|h3
  ·rw[SH A4,List.getElem?_cons_succ];rw[MX h3] at h2;exact h2
  ·have:i=l.length:=A4;subst this;rw[Nat.mod_self];rw[N4<|BM _,Nat.sub_self] at h2;exact h2
theorem fM(l:A3 α):(S3 l).length=l.length:=by(simp_all [S3]<;>grind)
def af5{c0:A3 V3}{L:A3 ((V3×V3))}(ho:Vn c0=some L)(Bd:(σ->AA ρ)->(V3×V3)->σ->AA ρ)(K:σ->AA ρ)(u:σ)(hm:Jc L Bd u K=some r):lD c0 Bd K u=some r:=by
 obtain⟨hb,rfl⟩:=zC ho;have hb:c0.length<1000000000:=Fa hb;unfold lD;refine aa8 (S3 c0) Bd K 0 rfl (by rw[fM];omega) hm ?_ ?_
 ·intro k u i x hx;let⟨h1,h2,hi⟩:=yc hx;dsimp only;rw[B5 (show((i+0:Nat):Int)<(c0.length:Int) by omega)];have ef:AH (((i:Nat):Int)+1)=some ((i+1+0:Nat):Int):=by rw[show(((i:Nat):Int)+1)=((i+1+0:Nat):Int) from by omega,acq A4]
  have er:Fu ((i+1+0:Nat):Int) (c0.length:Int)=some (((i+1)%c0.length:Nat):Int):=by unfold Fu;rw[Bu A4,Ar,Int.tmod_eq_emod_of_nonneg A4];rfl
  rw[BH,JT,U8,h1,Uf,ef,Uf,er,Uf,JT,h2,Uf];refine congrArg (λf=>Bd f (x.1,x.2) u)<|funext λu'=>?_
  rw[Uf]
 ·intro k u;dsimp only;rw[Bu (by rw[fM];omega)];rfl
end
section
variable{P:Program}
variable{α:Type}{dep:Nat}{T:Ap}{n:Nat}{fs:A3 (Ap×Nat)}{IP:α->A3 Ty}{eb:α->α->Bool}{f:α->Ty}{off:Nat}
structure JU(P:CO)(T:Ap){α:Type}[DecidableEq α](f:α->Ty)(n:Nat)(agg:Bool)(dep:Nat):Prop where
 lay:Bq P T n agg=true
 sz:∀x,(f x).n=n
 ag:∀x,(f x).agg=agg
 eq:∀(d:Nat) (H:HV) (u v:AW) (x y:α),(f x).ok H u->(f y).ok H v->∀w:AR,(Op.equalIn (d+dep) T u v).run P w= .ok (decide<|x=y) w
 chk:∀(d:Nat) (e:Bool) (H:HV) (u:AW) (x:α),(f x).ok H u->∀w:AR,(Instr.checkKey e (d+dep) T u).run P w= .ok () w
 uniq:∀(H:HV) (u v:AW) (x:α),(f x).ok H u->(f x).ok H v->u=v
 leaf:∀(H:HV) (u:AW) (x:α),(f x).ok H u->∀c∈u.cells.toList,∀m,Instr.sameBits m c c=true
theorem toList_inj{a b:AD}:((⟨a.toArray⟩:ByteArray).toList==(⟨b.toArray⟩:ByteArray).toList)=decide (a=b):=by
 rw[ByteArray.toList_eq,ByteArray.toList_eq];show(a.toArray.toList==b.toArray.toList)=_;simp[List.toList_toArray];by_cases h:a=b
 ·subst h;simp
 ·grind
def aj0(hl:Bq P T 1 false=true)(hu:P.underlying T=some .string):JU P T TS 1 false 1 where
 lay:=hl
 sz _:=rfl
 ag _:=rfl
 eq d H u v x y K0 Jd w:=by have K0:u= .string ⟨x.toArray⟩:=K0;have Jd:v= .string ⟨y.toArray⟩:=Jd;subst K0;subst Jd;rw[run_equalIn_string w d T _ _ hu,toList_inj]
 chk d e H u x K0 w:=by have K0:u= .string ⟨x.toArray⟩:=K0;subst K0;simp[Instr.checkKey,Ev hu]
 uniq H u v x h1 h2:=Eq.trans h1<|Eq.symm h2
 leaf H u x h c hc m:=by
  have h:u= .string ⟨x.toArray⟩:=h;subst h;have hc:c= .string ⟨x.toArray⟩:=by simpa[Value.cells] using hc
  subst hc;simp[Instr.sameBits];rw[beq_toListBytes];simp
def aoh{k:IntKind}(hl:Bq P T 1 false=true)(hu:P.underlying T=some (.int k)):JU P T (TI k) 1 false 1 where
 lay:=hl
 sz _:=rfl
 ag _:=rfl
 eq d H u v x y K0 Jd w:=by
  have K0:u= .int k x:=K0;have Jd:v= .int k y:=Jd;subst K0;subst Jd;rw[run_equalIn_int w d T k k _ _ hu]
  rfl
 chk d e H u x K0 w:=by have K0:u= .int k x:=K0;subst K0;simp[Instr.checkKey,Ev hu]
 uniq H u v x h1 h2:=Eq.trans h1<|Eq.symm h2
 leaf H u x h c hc m:=by
  have h:u= .int k x:=h;subst h;have hc:c= .int k x:=by simpa[Value.cells] using hc
  subst hc;simp[Instr.sameBits]
def JU.r9[DecidableEq α]{agg:Bool}{XF:Nat}(h:JU P T f n agg dep)(hd:dep<=XF):JU P T f n agg XF where
 lay:=h.lay
 sz:=h.sz
 ag:=h.ag
 eq d H u v x y h1 h2 w:=by rw[show d+XF=(d+(XF-dep))+dep from by omega];exact h.eq _ H u v x y h1 h2 w
 chk d e H u x h1 w:=by rw[show d+XF=(d+(XF-dep))+dep from by omega];exact h.chk _ e H u x h1 w
 uniq:=h.uniq
 leaf:=h.leaf
inductive Rows(P:CO){α:Type}(dep:Nat):A3 (Ap×Nat)->Nat->(α->A3 Ty)->(α->α->Bool)->Prop where
 |nil {off:Nat}:Rows P dep [] off (λ_=>[]) (λ_ _=>true)
 |cons {T:Ap} {off n:Nat} {agg:Bool} {β:Type} [DecidableEq β] {g:β->Ty} {acc:α->β} {fs:A3 (Ap×Nat)} {IP:α->A3 Ty} {eb:α->α->Bool}:
   JU P T g n agg dep->Rows P dep fs (off+n) IP eb->Rows P dep ((T,off)::fs) off (λx=>g (acc x)::IP x) (λx y=>decide (acc x=acc y)&&eb x y)
def eqL(d:Nat)(xs ys:BA AW):A3 (Ap×Nat)->Sem Bool
 |[]=>pure true
 |(T,o)::fs=>do
  let a<-part T xs o
  let b<-part T ys o
  let r<-Op.equalIn d T a b
  if(!r)=true then pure false else eqL d xs ys fs
def Q2(e:Bool)(d:Nat)(xs:BA AW):A3 (Ap×Nat)->Sem Unit
 |[]=>pure ()
 |(T,o)::fs=>do
  let a<-part T xs o
  Instr.checkKey e d T a
  Q2 e d xs fs
def o8{agg:Bool}{τ:Ty}{l:A3 Ty}{H:HV}{cs:BA AW}(hl:Bq P T n agg=true)(hn:τ.n=n)(ha:τ.agg=agg)(h:DQ H (τ::l) (cs.toList.drop off))(ho:off<=cs.size):∃v,(∀w,(part T cs off).run P w= .ok v w)/\τ.ok H v/\DQ H l (cs.toList.drop<|off+n)/\off+n<=cs.size:=by
 have hlen:=Mt h;rw[Ii,Fg] at hlen;have hc:CS (τ::l)=τ.n+CS l:=rfl;rw[hc,hn] at hlen;have hle:off+n<=cs.size:=A4;let⟨v,rest,e,hv,hr⟩:=h;have hs:=τ.shape hv;have e1:(cs.toList.drop off).take n=v.cells.toList:=by rw[e,<-hn,<-hs.size,<-Fg,iG]
 refine⟨v,λw=>?_,hv,?_,hle⟩
 ·rw[oi hl hle,e1];have:=hs.eq;rw[ha] at this;rw[Array.toArray_toList];exact congrArg (λz=>Result.ok z w) this.symm
 ·rw[<-FZ,e,<-hn,<-hs.size,<-Fg,ZO];exact hr
theorem am7(h:Rows P dep fs off IP eb):∀(d:Nat) (H:HV) (cs ds:BA AW) (x y:α),DQ H (IP x) (cs.toList.drop off)->DQ H (IP y) (ds.toList.drop off)->off<=cs.size->off<=ds.size->∀w:AR,(eqL (d+dep) cs ds fs).run P w= .ok (eb x y) w:=by
 induction h with
 |nil=>intro d H cs ds x y _ _ _ _ w;rfl
 |cons hk hr ih=>
  intro d H cs ds x y h1 h2 o1 o2 w;let⟨u,p1,k1,r1,s1⟩:=o8 hk.lay (hk.sz _) (hk.ag _) h1 o1;let⟨v,p2,k2,r2,s2⟩:=o8 hk.lay (hk.sz _) (hk.ag _) h2 o2;unfold eqL;simp only[E0,p1,p2,hk.eq d H u v _ _ k1 k2,Dn];split
  ·rename_i hb;rw[GA] at hb;rw[hb];rfl
  ·grind
def akE(h:Rows P dep fs off IP eb):∀(d:Nat) (e:Bool) (H:HV) (cs:BA AW) (x:α),DQ H (IP x) (cs.toList.drop off)->off<=cs.size->∀w:AR,(Q2 e (d+dep) cs fs).run P w= .ok () w:=by
 induction h with
 |nil=>intro d e H cs x _ _ w;rfl
 |cons hk hr ih=>intro d e H cs x h1 o1 w;let⟨u,p1,k1,r1,s1⟩:=o8 hk.lay (hk.sz _) (hk.ag _) h1 o1;unfold Q2;simp[E0,p1,hk.chk d e H u _ k1,Dn];exact ih d e H cs x r1 s1 w
def aiZ(h:Rows P dep fs off IP eb):∀(H:HV) (cs ds:A3 AW) (x:α),DQ H (IP x) cs->DQ H (IP x) ds->cs=ds:=by
 induction h with
 |nil=>intro H cs ds x h1 h2;exact Eq.trans h1<|Eq.symm h2
 |cons hk hr ih=>rintro H cs ds x ⟨u,r1,e1,k1,o1⟩ ⟨v,r2,e2,k2,o2⟩;rw[e1,e2,hk.uniq H u v _ k1 k2,ih H r1 r2 x o1 o2]
theorem aia(h:Rows P dep fs off IP eb):∀(H:HV) (cs:A3 AW) (x:α),DQ H (IP x) cs->∀c∈cs,∀m,Instr.sameBits m c c=true:=by
 induction h with
 |nil=>intro H cs x h1 c hc;rw[show cs=[] from h1] at hc;cases hc
 |cons hk hr ih=>
  rintro H cs x ⟨u,r1,e1,k1,o1⟩ c hc m;rw[e1] at hc;rcases Bs.1 hc with hc|hc
  ·exact hk.leaf H u _ k1 c hc m
  ·grind
def xr(d:Nat)(e:Ap)(c:Nat)(xs ys:BA AW):∀is:A3 Nat,Op.eqItems d e c xs ys is=eqL d xs ys (is.map λi=>(e,i*c))
 |[]=>rfl
 |i::is=>by unfold Op.eqItems;rw[MO];unfold eqL;simp[xr d e c xs ys is]
def aJ(fs:A3 Field):Bool:=fs.all λf=>decide<|f.name≠ "_"
def wj(d:Nat)(xs ys:BA AW):∀fs:A3 Field,aJ fs=true->Op.eqFields d xs ys fs=eqL d xs ys (fs.map λf=>(f.type,f.offset))
 |[],_=>rfl
 |f::fs,h=>by unfold aJ at h;rw[OT,C6,Hn] at h;unfold Op.eqFields;rw[if_pos h.1,MO];unfold eqL;simp[wj d xs ys fs h.2]
def ahs(e:Bool)(d:Nat)(t:Ap)(xs:BA AW){w:AR}(ht:P.underlying t=some (.struct<|P.fieldsOf t))(hn:aJ (P.fieldsOf t).toList=true):(Instr.checkKey e (d+1) t<| .agg xs).run P w=(Q2 e d xs<|(P.fieldsOf t).toList.map λf=>(f.type,f.offset)).run P w:=by
 simp only[Instr.checkKey,E0,Kd ht,Dn];rw[<-Array.forIn_toList]
 generalize (P.fieldsOf t).toList=fs at hn
 clear ht
 induction fs generalizing w with
 |nil=>simp[Q2]
 |cons f fs ih=>
  unfold aJ at hn;rw[OT,C6,Hn] at hn;simp only[List.forIn_cons,MO,Q2,E0,Sem.run_ite,if_pos hn.1]
  generalize (part f.type xs f.offset).run P w=r1
  cases r1 with
  |ok a w1=>
   simp only[Dn]
   generalize (Instr.checkKey e d f.type a).run P w1=r2
   cases r2 with
   |ok b w2=>simp only[Dn,KB];exact ih hn.2
   |halt x w2=>simp[Result.andThen]
  |halt x w1=>simp[Result.andThen]
def ajQ(em:Bool)(d:Nat){t e:Ap}{c:Nat}(xs:BA AW){w:AR}(hu:P.underlying t=some (.array n e))(hi:∀w,(Go.sizeOf e).run P w= .ok c w):(Instr.checkKey em (d+1) t<| .agg xs).run P w=(Q2 em d xs<|(List.range n).map λi=>(e,i*c)).run P w:=by
 simp only[Instr.checkKey,E0,Kd hu,Dn];simp only[Std.Legacy.Range.forIn_eq_forIn_range',Std.Legacy.Range.size,Nat.sub_zero,Nat.add_one_sub_one,Nat.div_one,List.range_eq_range']
 generalize List.range' 0 n=is
 induction is generalizing w with
 |nil=>simp[Q2]
 |cons j is ih=>
  simp[List.forIn_cons,MO,Q2,E0,hi,Dn]
  generalize (part e xs<|j*c).run P w=r1
  cases r1 with
  |ok a w1=>
   simp[Dn]
   generalize (Instr.checkKey em d e a).run P w1=r2
   cases r2 with
   |ok b w2=>simp[Dn,KB];exact ih
   |halt x w2=>simp[Result.andThen]
  |halt x w1=>simp[Result.andThen]
def abN[DecidableEq α](hl:Bq P T n true=true)(hf:∀x,f x=DF (IP x))(hn:∀x,CS (IP x)=n)
 (hr:Rows P dep fs 0 IP eb)(he:∀x y,eb x y=decide (x=y))
 (h1:∀(d:Nat) (xs ys:BA AW) (w:AR),(Op.equalIn (d+1) T (.agg xs)<| .agg ys).run P w=(eqL d xs ys fs).run P w)
 (h2:∀(e:Bool) (d:Nat) (xs:BA AW) (w:AR),(Instr.checkKey e (d+1) T<| .agg xs).run P w=(Q2 e d xs fs).run P w):JU P T f n true (dep+1) where
 lay:=hl
 sz x:=by rw[hf];exact hn x
 ag x:=by rw[hf];rfl
 eq d H u v x y hu hv w:=by rw[hf] at hu hv;obtain⟨cs,rfl,k1⟩:=hu;obtain⟨ds,rfl,k2⟩:=hv;rw[<-LG,h1,am7 hr d H cs ds x y k1 k2 (FY _)<|FY _,he]
 chk d e H u x hu w:=by rw[hf] at hu;obtain⟨cs,rfl,k1⟩:=hu;rw[<-LG,h2,akE hr d e H cs x k1<|FY _]
 uniq H u v x hu hv:=by
  rw[hf] at hu hv;obtain⟨cs,rfl,k1⟩:=hu;obtain⟨ds,rfl,k2⟩:=hv
  congr 1
  exact Array.ext'<|aiZ hr H _ _ x k1 k2
 leaf H u x hu c hc m:=by rw[hf] at hu;obtain⟨cs,rfl,k1⟩:=hu;exact aia hr H _ x k1 c hc m
def oH[DecidableEq α](hl:Bq P T n true=true)(hf:∀x,f x=DF (IP x))(hn:∀x,CS (IP x)=n)
 (hr:Rows P dep fs 0 IP eb)(he:∀x y,eb x y=decide (x=y))
 (ht:P.underlying T=some (.struct<|P.fieldsOf T))(hs:P.stoodInHeld T=false)(hnm:aJ (P.fieldsOf T).toList=true)(Ky:(P.fieldsOf T).toList.map (λf=>(f.type,f.offset))=fs):JU P T f n true (dep+1):=abN hl hf hn hr he (λd xs ys w=>by rw[run_equalIn_struct w d T xs ys ht hs,wj d xs ys _ hnm,Ky]) (λe d xs w=>by rw[ahs e d T xs ht hnm,Ky])
def z6{E:Ap}{k c:Nat}{i:TypeInfo}[DecidableEq α](hl:Bq P T n true=true)(hf:∀x,f x=DF (IP x))(hn:∀x,CS (IP x)=n)
 (hr:Rows P dep fs 0 IP eb)(he:∀x y,eb x y=decide (x=y))
 (ht:P.underlying T=some (.array k E))(hi:P.info? E=some i)(hc:P.cellsOf E=c)(Ky:(List.range k).map (λi=>(E,i*c))=fs):JU P T f n true (dep+1):=abN hl hf hn hr he (λd xs ys w=>by rw[run_equalIn_array w d xs ys ht hi,xr,hc,Ky]) (λe d xs w=>by rw[ajQ e d xs ht (c:=c) (λw=>by rw[run_sizeOf w hi,<-hc]),Ky])
def JU.key[DecidableEq α](h:JU P T f n true dep)(hd:dep<=10000)(hk:∃ud,P.underlying T=some ud/\∀u v,Instr.sameNow ud u v=none):SO P T f where
 eq H u v x y h1 h2 w:=by have:=h.eq (10000-dep) H u v x y h1 h2 w;rw[show 10000-dep+dep=10000 from by omega] at this;exact this
 check H u x h1 e w:=by have:=h.chk (10000-dep) e H u x h1 w;rw[show 10000-dep+dep=10000 from by omega] at this;exact this
 kind:=hk
 bits H u v x h1 h2:=by
  have:=h.uniq H u v x h1 h2;subst this;have hs:=(f x).shape h1;have ha:=hs.eq;rw[h.ag] at ha;have hl:=h.leaf H u x h1;rw[ha] at hl⊢;show Instr.sameBits (9999+1) (.agg u.cells) (.agg u.cells)=true;simp only[Instr.sameBits,beq_self_eq_true,Lt];rw[Dk];intro p hp;have:p.1=p.2/\p.1∈u.cells.toList:=by let⟨i,hi⟩:=Zf.1 hp;rw[qS] at hi;let⟨h5,h6⟩:=hi;rw[h5] at h6;exact⟨E9 h6,LO h5⟩
  let⟨e1,e2⟩:=this;rw[<-e1];exact hl p.1 e2 _
def JU.eqs[DecidableEq α](h:JU P T f n true dep)(hd:dep<=10000)(hg:P.eqGuardType P.depth T=false):UZ P T f where
 run H u v x y h1 h2 w:=by have:=h.eq (10000-dep) H u v x y h1 h2 w;rw[show 10000-dep+dep=10000 from by omega] at this;exact this
 guard H u v x y h1 h2 o p q w:=by have a1:=((f x).shape h1).eq;have a2:=((f y).shape h2).eq;rw[h.ag] at a1 a2;rw[a1,a2];exact run_eqGuard_agg w o T p q _ _ hg
 agg:=h.ag
end
def bF:JU prog 35 TS 1 false 1:=aj0 A7 A7
def kt3:JU prog 3 (TI .i64) 1 false 1:=aoh A7 A7
def sH:JU prog 34 MR 3 true 2:=
 z6 (k:=3) (E:=3) (c:=1) (fs:=[(3,0),(3,1),(3,2)]) A7 (λ_=>rfl) (λ_=>rfl)
  (Rows.cons (acc:=λx:Int×Int×Int=>x.1) kt3<|Rows.cons (acc:=λx:Int×Int×Int=>x.2.1) kt3<|Rows.cons (acc:=λx:Int×Int×Int=>x.2.2) kt3 Rows.nil)
  (λx y=>by let⟨a,b,c⟩:=x;let⟨a',b',c'⟩:=y;simp[Qj,ZR]) A7 (i:=(prog.info? 3).get A7) A7 A7 rfl
def aqa:JU prog 127 NQ 4 true 3:=
 oH (fs:=[(34,0),(35,3)]) A7 (λ_=>rfl) (λ_=>rfl)
  (Rows.cons (acc:=λx:(Int×Int×Int)×AD=>x.1) sH<|Rows.cons (acc:=λx:(Int×Int×Int)×AD=>x.2) (bF.r9 A4) Rows.nil)
  (λx y=>by let⟨a,b⟩:=x;let⟨a',b'⟩:=y;simp[Qj,ZR]) A7 A7 A7 A7
def acU:JU prog 52 Ca 3 true 2:=
 z6 (k:=3) (E:=35) (c:=1) (fs:=[(35,0),(35,1),(35,2)]) A7 (λ_=>rfl) (λ_=>rfl)
  (Rows.cons (acc:=λx:AD×AD×AD=>x.1) bF<|Rows.cons (acc:=λx:AD×AD×AD=>x.2.1) bF<|Rows.cons (acc:=λx:AD×AD×AD=>x.2.2) bF Rows.nil)
  (λx y=>by let⟨a,b,c⟩:=x;let⟨a',b',c'⟩:=y;simp[Qj,ZR]) A7 (i:=(prog.info? 35).get A7) A7 A7 rfl
def acW:JU prog 37 Af 4 true 3:=
 oH (fs:=[(34,0),(35,3)]) A7 (λ_=>rfl) (λ_=>rfl)
  (Rows.cons (acc:=λx:(Int×Int×Int)×AD=>x.1) sH<|Rows.cons (acc:=λx:(Int×Int×Int)×AD=>x.2) (bF.r9 A4) Rows.nil)
  (λx y=>by let⟨a,b⟩:=x;let⟨a',b'⟩:=y;simp[Qj,ZR]) A7 A7 A7 A7
def asB:JU prog 69 L6 7 true 4:=
 oH (fs:=[(37,0),(52,4)]) A7 (λ_=>rfl) (λ_=>rfl)
  (Rows.cons (acc:=λx:HfZ×CX=>x.1) acW<|Rows.cons (acc:=λx:HfZ×CX=>x.2) (acU.r9 A4) Rows.nil)
  (λx y=>by let⟨a,b⟩:=x;let⟨a',b'⟩:=y;simp[Qj,ZR]) A7 A7 A7 A7
def abu:SO prog 127 NQ:=aqa.key A4 ⟨.struct<|prog.fieldsOf 127,A7,λ_ _=>rfl⟩
def rW:UZ prog 34 MR:=sH.eqs A4 A7
def jh:UZ prog 52 Ca:=acU.eqs A4 A7
def arN:UZ prog 37 Af:=acW.eqs A4 A7
def arL:UZ prog 69 L6:=asB.eqs A4 A7
def Acc{Y:Type}(b:Nat)(B:A3 Y->AA (A3 Y)):Prop:=∀s r,B s=some r->∃ys,r=s++ys/\((s.length*b<=140737488355328->r.length*b<=140737488355328))/\∀s',(s'.length+ys.length)*b<=140737488355328->B s'=some (s'++ys)
section
variable{Y:Type}{b:Nat}
variable{X:Type}{B:X->A3 Y->AA (A3 Y)}
def Acc.some:Acc (Y:=Y) b λs=>Option.some s:=λs r h=>by cases h;exact⟨[],AV,id,λs' _=>by simp⟩
def Acc.none:Acc (Y:=Y) b λ_=>Option.none:=λs r h=>by cases h
def Acc.bdc{e:AA X}{K:X->A3 Y->AA (A3 Y)}(h:∀x,Acc b<|K x):Acc b λs=>bd e λx=>K x s:=λs r hr=>by let⟨x,he,hr⟩:=No hr;let⟨ys,h1,h2,h3⟩:=h x s r hr;exact⟨ys,h1,h2,λs' hs=>by rw[he];exact h3 s' hs⟩
def Acc.gc{c:Bool}{K:A3 Y->AA (A3 Y)}(h:Acc b K):Acc b λs=>gC c (K s):=λs r hr=>by
 cases c with
 |false=>cases hr
 |true=>exact h s r hr
theorem Acc.cond{c:Bool}{A B:A3 Y->AA (A3 Y)}(h:Acc b A)(k:Acc b B):Acc b λs=>cond c (A s) (B s):=by cases c<;>simp_all [Acc]
def Acc.arO{c:A3 Y->Bool}{A B:A3 Y->AA (A3 Y)}(hc:∀s,c s=c [])(h:Acc b A)(k:Acc b B):Acc b λs=>_root_.cond (c s) (A s) (B s):=by
 have e:(λs=>_root_.cond (c s) (A s)<|B s)=λs=>_root_.cond (c []) (A s) (B s):=by funext s;rw[hc s]
 rw[e];exact Acc.cond h k
def Acc.app{e:Y}{K:A3 Y->AA (A3 Y)}(hb:Nat.ble 1 b=true)(h:Acc b K):Acc b λs=>bd (BG b s [e]) λx=>K x:=λs r hr=>by
 have hb:=Fa hb;let⟨x,hx,hr⟩:=No hr;have acn:∀s:A3 Y,(s.length+1)*b<=140737488355328->BG b s [e]=Option.some (s++[e]):=λs hs=>by
  unfold BG;have h1:s.length+1<=9223372036854775807:=by have:=Nat.le_mul_of_pos_right (s.length+1) (show 0<b by omega);omega
  simp[hs,h1]
 have hxs:x=s++[e]/\(s.length+1)*b<=140737488355328:=by
  by_cases hc:(s.length+1)*b<=140737488355328
  ·rw[acn s hc] at hx;exact⟨(E9 hx).symm,hc⟩
  ·unfold BG at hx;simp[hc] at hx
 obtain⟨rfl,Sj⟩:=hxs;let⟨ys,h1,h2,h3⟩:=h _ r hr;refine⟨e::ys,by rw[h1];simp,λ_=>h2 (by simpa using Sj),λs' hs=>?_⟩;have DN:(s'.length+1+ys.length)*b<=140737488355328:=by
  have:s'.length+(e::ys).length=s'.length+1+ys.length:=by simp;omega
  rwa [this] at hs
 show bd (BG b s' [e]) (λx=>K x)=_;rw[acn s'<|Cu (LN b A4) DN];show K (s'++[e])=_;rw[h3 (s'++[e]) (by simpa using DN)];simp
def zX{X:Type}{B:X->A3 Y->AA (A3 Y)}(hB:∀x,Acc b<|B x):∀{l:A3 X} {s r:A3 Y},Py B l s=Option.some r->s.length*b<=140737488355328->∃Ys:A3 (A3 Y),Ys.length=l.length/\r=s++Ys.flatten/\r.length*b<=140737488355328/\
  ∀p∈l.zip Ys,∀s',(s'.length+p.2.length)*b<=140737488355328->B p.1 s'=Option.some (s'++p.2)
 |[],s,r,h,hs=>by cases h;exact⟨[],rfl,AV,hs,AV⟩
 |x::l,s,r,h,hs=>by
  let⟨s1,hx,h⟩:=No h;let⟨ys,h1,h2,h3⟩:=hB x s s1 hx;let⟨Ys,k1,k2,k3,k4⟩:=zX hB h<|h2 hs
  refine⟨ys::Ys,by simp[k1],by rw[k2,h1];simp,k3,?_⟩;intro p hp;rw[List.zip_cons_cons,Ao] at hp;rcases hp with rfl|hp
  ·exact h3
  ·exact k4 p hp
def zG{X:Type}{B:X->A3 Y->AA (A3 Y)}:∀{q:A3 (X×A3 Y)} {s:A3 Y},(∀p∈q,∀s',(s'.length+p.2.length)*b<=140737488355328->B p.1 s'=Option.some (s'++p.2))->(s++(q.map (·.2)).flatten).length*b<=140737488355328->Py B (q.map (·.1)) s=Option.some (s++(q.map (·.2)).flatten)
 |[],s,_,_=>by simp[Py]
 |p::q,s,h,hl=>by
  have hl':(s.length+p.2.length+((q.map (·.2)).flatten).length)*b<=140737488355328:=by simpa[LG] using hl
  show bd (B p.1 s) _=_;rw[h p AV s<|Cu (LN b A4) hl'];show Py B (q.map (·.1)) (s++p.2)=_;rw[zG (λp' hp'=>h p' (by simp[hp'])) (by simpa[LG] using hl')];simp
def akL{Z:Type}:∀{l π:A3 X} {Zs:A3 Z},π.Perm l->Zs.length=l.length->∃q:A3 (X×Z),q.Perm (l.zip Zs)/\q.map (·.1)=π:=by
 intro l π Zs hp
 induction hp generalizing Zs with
 |nil=>intro h;exact⟨[],AV,rfl⟩
 |cons x hp ih=>
  intro h;cases Zs with
  |nil=>simp at h
  |cons z Zs=>obtain⟨q,h1,h2⟩:=ih (by simpa using h);exact⟨(x,z)::q,by simpa using h1,by simp[h2]⟩
 |swap x y l=>
  intro h
  match Zs,h with
  |z1::z2::Zs,h=>
   refine⟨(y,z2)::(x,z1)::l.zip Zs,by simpa using List.Perm.swap _ _ _,?_⟩;have:Zs.length=l.length:=by simpa using h
   simp[List.map_fst_zip,this]
 |trans h1 h2 ih1 ih2=>
  intro h;obtain⟨q2,a1,a2⟩:=ih2 h;obtain⟨q1,b1,b2⟩:=ih1 (Zs:=q2.map (·.2)) (by rw[BY,<-a2,BY]);refine⟨q1,b1.trans ?_,b2⟩;have:(List.zip (q2.map (·.1))<|q2.map (·.2))=q2:=by rw[List.zip_map'];simp
  rw[<-a2,this];exact a1
def alS(hB:∀x,Acc b<|B x){l π:A3 X}{r:A3 Y}(h:Py B l []=Option.some r)(hp:π.Perm l):∃r',Py B π []=Option.some r'/\r'.Perm r:=by
 let⟨Ys,h1,h2,h3,h4⟩:=zX hB h AV;let⟨q,q1,q2⟩:=akL hp h1;have hq:((q.map (·.2)).flatten).Perm r:=by rw[h2,KC];refine List.Perm.flatten ?_;have:=q1.map (·.2);rwa [List.map_snd_zip A4] at this
 refine⟨_,by rw[<-q2];exact zG (b:=b) (λp hp s' hs=>h4 p (q1.mem_iff.1 hp) s' hs) (by rw[KC,hq.length_eq];exact h3),?_⟩;simpa using hq
end
section
variable{α:Type}[DecidableEq α]{c:α×α->Option Int}
def wg{rk:α->Nat}:∀{s:A3 α} {x:α},(∀y∈s,∃v,c (x,y)=some v/\(v<0↔rk x<rk y))->s.Pairwise (λa b=>rk b<=rk a)->∃s',O3 (λa b=>c (a,b)) x s=some s'/\s'.Pairwise λa b=>rk b<=rk a
 |[],x,_,_=>⟨[x],rfl,AV⟩
 |y::s,x,h,hs=>by
  let⟨v,hv,hr⟩:=h y AV;let⟨hy,DN⟩:=JK.1 hs;cases hd:decide (v<0) with
  |true=>
   let⟨s',h1,h2⟩:=wg (λz hz=>h z<|C2 _ hz) DN;refine⟨y::s',?_,JK.2 ⟨λz hz=>?_,h2⟩⟩
   ·show bd (c (x,y)) _=_;rw[hv];show cond (decide<|v<0) _ _=_;rw[hd];show bd (O3 (λa b=>c (a,b)) x s) _=_;rw[h1];rfl
   ·rcases Ao.1 ((fQ h1).mem_iff.1 hz) with e|hz
    ·subst e;have:=hr.1<|As hd
     omega
    ·exact hy z hz
  |false=>
   refine⟨x::y::s,?_,JK.2 ⟨λz hz=>?_,hs⟩⟩
   ·show bd (c (x,y)) _=_;rw[hv];show cond (decide<|v<0) _ _=_;rw[hd];rfl
   ·have hn: ¬rk x<rk y:=λh=>by have:=hr.2 h;simp[this] at hd
    rcases Ao.1 hz with e|hz
    ·subst e;omega
    ·have:=hy z hz;omega
def vS{rk:α->Nat}:∀{l s:A3 α},(∀x∈s++l,∀y∈s++l,∃v,c (x,y)=some v/\(v<0↔rk x<rk y))->s.Pairwise (λa b=>rk b<=rk a)->∃s',Jc l (λnext x s=>bd (O3 (λa b=>c (a,b)) x s) next) s (λs=>some s.reverse)=some s'/\s'.Pairwise (λa b=>rk a<=rk b)
 |[],s,_,hs=>⟨s.reverse,rfl,List.pairwise_reverse.2 hs⟩
 |x::l,s,h,hs=>by
  let⟨s1,h1,h2⟩:=wg (c:=c) (rk:=rk) (s:=s) (x:=x) (λy hy=>h x AV y (by simp[hy])) hs;have hp:=fQ h1;let⟨s',h3,h4⟩:=vS (l:=l) (s:=s1) (λa ha b hb=>by
   have mem:∀z,z∈s1++l->z∈s++x::l:=λz hz=>by
    rcases Bs.1 hz with hz|hz
    ·rcases Ao.1 (hp.mem_iff.1 hz) with e|hz
     ·simp[e]
     ·simp[hz]
    ·simp[hz]
   exact h a (mem a ha) b<|mem b hb) h2
  refine⟨s',?_,h4⟩;show bd (O3 (λa b=>c (a,b)) x s) _=_;rw[h1];exact h3
def agK{l l' r:A3 α}(h:Ie l c=some r)(hp:l'.Perm l):Ie l' c=some r:=by
 let⟨h1,h2,h3,h4⟩:=YJ h;have mem:∀x∈l',x∈r:=λx hx=>h1.mem_iff.2<|hp.mem_iff.1 hx
 have key:∀x∈l',∀y∈l',∃v,c (x,y)=some v/\(v<0↔r.idxOf x<r.idxOf y):=λx hx y hy=>by
  let⟨v,hv⟩:=h3 x (hp.mem_iff.1 hx) y<|hp.mem_iff.1 hy
  exact⟨v,hv,fZ h2 (mem x hx) (mem y hy) hv⟩
 let⟨s',k1,k2⟩:=vS (c:=c) (rk:=λx=>r.idxOf x) (l:=l') (s:=[]) (by simpa using key) List.Pairwise.nil;have k1:jM (λa b=>c (a,b)) l'=some s':=k1;have e:s'=r:=xR h2 ((w7 k1).trans<|hp.trans h1.symm) k2;subst e;unfold Ie;rw[k1];show EN _ s'=_;have g1:Nat.blt l'.length 4611686018427387904=true:=by rw[hp.length_eq];exact Ik h4
 have g2:totB c l'=true:=Dk.2 λx hx=>Dk.2 λy hy=>by let⟨v,hv,_⟩:=key x hx y hy;rw[hv];rfl
 rw[g1,g2,h2];rfl
end
def adI{x4:_}{r:_}(hm:Sx (λ(x7:HfZ×V3) (s6:(A3<|HfZ×CX))=>bd (Xb x7.2) λx9=>cond (x9) (some s6) (bd (VK x7.2) λBJ=>cond (!decide (BJ.2=(0:Int))) (none) (bd (BG 88 s6 ([((x7.1.1,x7.1.2),BJ.1)]:A3 (HfZ×CX))) λBb=>some Bb))) x4 [] (λ(s6:(A3<|HfZ×CX))=>bd (Ie s6<|λx=>bn x.1 x.2) λBi=>some (Bi,(0:Int)))=some r):∀π,π.Perm x4->Sx (λ(x7:HfZ×V3) (s6:(A3<|HfZ×CX))=>bd (Xb x7.2) λx9=>cond (x9) (some s6) (bd (VK x7.2) λBJ=>cond (!decide (BJ.2=(0:Int))) (none) (bd (BG 88 s6 ([((x7.1.1,x7.1.2),BJ.1)]:A3 (HfZ×CX))) λBb=>some Bb))) π [] (λ(s6:(A3<|HfZ×CX))=>bd (Ie s6<|λx=>bn x.1 x.2) λBi=>some (Bi,(0:Int)))=some r:=by
 intro π hπ;let⟨s,hs,hr⟩:=No hm;let⟨s',DN,hp⟩:=alS (b:=88) (by
  intro x
  repeat' (first|exact Acc.some|exact Acc.none|refine Acc.app rfl ?_|refine Acc.arO (λ_=>rfl) ?_ ?_|(refine Acc.bdc<|λx=>?_)|fail)) hs hπ
 unfold Sx;rw[DN];let⟨y,hy,hr⟩:=No hr;show bd (Ie s' _) _=_;rw[agK hy hp];exact hr
end Trn
namespace P5
section
open Go.Shelf Go.Lib
def aeo(m n:Nat)(h:n<=m):(⟨(List.replicate m (48:UInt8)).toArray⟩:ByteArray).extract 0 n=⟨(List.replicate n 48).toArray⟩:=by apply ByteArray.ext;rw[ByteArray.data_extract];apply Array.ext';simp[List.take_replicate,Nat.min_eq_left h]
set_option maxHeartbeats 4000000 in
set_option maxRecDepth 1000000 in
def aru(n:Nat)(h2:2<=n)(h:n<=64)(w:World):Calls prog 257 #[.string ⟨#[48]⟩,.int .i64 n] w λe w'=>e= .returned (.string ⟨(List.replicate n 48).toArray⟩)/\∃k,w'=w.drewN k:=by
 have e317:∀args w,(callFunc 298 args).run prog w= .ok (.enter 298 args) w:=enters_of func298 Trn.A7 rfl;have e232:∀args w,(callFunc 205 args).run prog w= .ok (.enter 205 args) w:=enters_of func205 Trn.A7 rfl;have hmul:=λw=>bits_Mul 1 n Trn.A4 Trn.A4 w
 have hp:=λs w=>strings_HasPrefix s ⟨#[48]⟩ w
 go_enter func257,ntmps257
 go_wp2_with (first|(go_at_fn (298);refine(hmul _).mono ?_;rintro e w' ⟨rfl,rfl⟩)|(go_at_fn (205);refine(hp _ _).mono ?_;rintro e w' ⟨rfl,rfl⟩))
 go_ret
 refine⟨?_,0,by simp[World.drewN_zero]⟩;have hm:n%18446744073709551616=n:=Nat.mod_eq_of_lt Trn.A4;show Ending.returned (Value.string<|ByteArray.extract _ 0<|n%18446744073709551616)=_;rw[hm]
 congr 2
 exact aeo 64 n h
end
end P5
namespace Trn
section
open Go.Shelf
variable[D:DR]
variable{cur:BA AW}
theorem ahb{k n:Nat}{ps qs xs:A3 AW}{w:AR}{blk:Nat}{E:Ap}[Inhabited<|Fin n](hl:xs.length=n*k)(hb:w.heap[blk]? =some (.cells cur E (0,0)))(ht:cur.toList=ps++(xs++qs)):Go.Sort.HoldsK (λi:Fin n=>chunk k xs i) k w blk ps.length (Array.ofFn λi:Fin n=>i):=by
 unfold Go.Sort.HoldsK Go.Sort.Holds;intro j hj;rw[Go.Sort.size_flatK,WC] at hj;have M6:cur[ps.length+j]? =xs[j]? :=by rw[<-Pq,ht,N4 A4,Nat.add_sub_cancel_left,MX A4]
 have hk:0<k:=(LL k).elim (λe=>by subst e;simp at hj) id;have hi:j/k<n:=Nat.div_lt_of_lt_mul (by rw[MN];exact hj);refine⟨?_,by simp[World.frozen?,hb]⟩;rw[Go.Sort.get_flatK _ _ _ _ (by simpa using hj)];rw[ZV hb,M6];have e1:(Array.ofFn λi:Fin n=>i)[j/k]! =⟨j/k,hi⟩:=by rw[KA (Array.ofFn λi:Fin n=>i) (j/k) (by simpa using hi)];simp
 rw[e1];have hg:=y8 hl hj;have hlt:j%k<(chunk k xs<|j/k).length:=by rw[Th hl hi];exact OS _ hk
 show xs[j]? =some (id (chunk k xs<|j/k)[j%k]!);rw[<-hg,KA (chunk k xs<|j/k) (j%k) hlt,Gj hlt];rfl
theorem adP{α:Type}[Inhabited α]{enc:α->A3 AW}{k:Nat}{w:AR}{blk off m:Nat}{dk:BA α}{os:BA Obj}{E:Ap}{fr:Nat×Nat}(hb:w.heap[blk]? =some (.cells cur E fr)):(sortWorldK enc k w blk off m dk os).heap[blk]? =some (.cells (Go.Sort.putCells id off (Go.Sort.flatK enc k dk) cur) E fr):=by
 unfold sortWorldK Go.Sort.grow Go.Sort.putRowK Go.Sort.putRow Go.Sort.mapBlock Go.Sort.ahead;simp only[iY,Array.size_modify,lt_of_heap hb,if_pos,UG,hb,Pf]
 rfl
theorem afe{ps xs qs:A3 AW}{d:BA AW}(h:cur.toList=ps++(xs++qs))(hd:d.size=xs.length):(Go.Sort.putCells id ps.length d cur).toList=ps++(d.toList++qs):=by
 have hs:cur.size=ps.length+(xs.length+qs.length):=by rw[<-Fg,h];simp
 apply WI;intro i;rw[Pq];unfold Go.Sort.putCells;rw[Array.getElem?_mapIdx,<-Pq,h];rcases Hk i ps.length with h1|h1
 ·rw[MX h1,MX h1];cases ps[i]? with
  |none=>rfl
  |some v=>simp;omega
 ·rw[N4 h1,N4 h1];rcases Hk (i-ps.length) xs.length with h2|h2
  ·rw[MX h2,MX (by simpa[hd] using h2),Gj h2,Pf,if_pos ⟨h1,A4⟩,Pq,ik A4,KA d _ A4];rfl
  ·have e3:d.toList.length=xs.length:=by rw[<-hd];exact Fg
   rw[N4 h2,N4 (by rw[e3];exact h2),e3];cases qs[i-ps.length-xs.length]? with
   |none=>rfl
   |some v=>simp;omega
end
section
open Go.Shelf
variable[D:DR]
variable{P:Program}{ρ:Ren}{A:Type}[DecidableEq A]{τ:A->Ty}{k:Nat}{c:A×A->Option Int}
set_option maxHeartbeats 1000000 in
theorem ah5(L:SlLaysF0.n6 P ρ)(aE:∀w,(isAgg<|ρ.t 24).run P w= .ok true w)(zE:∀w,(Go.sizeOf<|ρ.t 24).run P w= .ok k w)(hc:Gi P (ρ.f 6)=true)
  (hn:∀a,(τ a).n=k)(ha:∀a,(τ a).agg=true)(none:∀(p:AA Addr) (cap:Nat) (fv:AW) (w:AR),Calls P (ρ.f 6) #[.slice p 0 cap,fv] w λe w'=>e= .returned (.tuple #[])/\w'=w)
  {l r:A3 A}(hm:Ie l c=some r){ps qs:A3 AW}:JG P (ρ.f 6) [] (.Ez (ρ.t 24) ps qs<|lT τ l) (.Ez (ρ.t 24) ps qs<|lT τ r) [L3 P (λx:A×A=>[τ x.1,τ x.2]) (λx:Int=>[(TI .i64) x]) c] []:=by
 let⟨h1,h2,h3,h4⟩:=YJ hm;have hrl:r.length=l.length:=h1.length_eq;refine⟨hc,λw H v pv qv sub gl hp hq hs=>?_⟩;have hp:=ZC hp;subst hp;obtain⟨fv,rfl,hfv⟩:=PY hq;obtain⟨g,cap,F5,rfl,Qy,hf⟩:=hfv;obtain⟨blk,Eh,cur,xs,rfl,hblk,M6,Ax,hB,jd⟩:=hs;have hlen:(lT τ l).length=l.length:=BY ..;have Ud:(lT τ r).length=l.length:=by rw[BY,hrl]
 rw[hlen];have LV:∀b,Value.ownBlock (.slice (some ⟨blk,ps.length,.none⟩) l.length Eh)=some b->H b= .none:=λb hb=>by cases hb;exact hB
 by_cases hl0:l=[]
 ·subst hl0;have hr:r=[]:=List.Perm.eq_nil h1;subst hr;refine(none _ Eh _ w).mono ?_;rintro e w' ⟨rfl,rfl⟩;exact⟨_,rfl,H,(Tr.refl _ _).LV sub LV,⟨blk,Eh,cur,xs,rfl,hblk,M6,Ax,hB,jd⟩,λb hb=> .inl hb,#[],rfl,rfl⟩
 ·have hpos:0<l.length:=WN.2 hl0
  haveI:Inhabited (Fin l.length):=⟨⟨0,hpos⟩⟩
  let⟨GS,KX⟩:=Tc hn ha Ax
  let cf:Fin l.length->Fin l.length->Int:=λi j=>(c (l[i],l[j])).getD 0
  have tot:∀i j:Fin l.length,c (l[i],l[j])=some (cf i j):=λi j=>by
   let⟨v,hv⟩:=h3 _ (Ly i.2) _<|Ly j.2
   have hv:c (l[i],l[j])=some v:=hv;show c (l[i],l[j])=some ((c (l[i],l[j])).getD 0);rw[hv];rfl
  have Um:=Eg.can (D:=DR.strict)<|hf _ _<|tot ⟨0,hpos⟩ ⟨0,hpos⟩
  have hcmp:=xB (P:=P) (off:=ps.length) hn ha Ax sub gl hB Qy hf cf tot;have hd:(Array.ofFn λi:Fin l.length=>i).size=l.length:=WC;have main:=AnyQ.slices_SortFunc L k aE zE (λi:Fin l.length=>chunk k xs i) (λi=>Th GS i.2)
   (λi u hu=>Rx Ax u<|UF<|Qk hu) cf (yL hm tot) g cap blk ps.length Eh (Array.ofFn λi:Fin l.length=>i) w
   (λargs w=>PE Um args w) (by rw[hd];exact hcmp) (ahb GS hblk M6) (lt_of_heap hblk) (by rw[hd];exact h4)
  rw[hd] at main;refine main.mono ?_;rintro e w' ⟨rfl,d',m,os,Wu,rN,rfl⟩;let⟨hdz,hdr⟩:=xS hm tot Wu rN;have Ky:(Go.Sort.flatK (λi:Fin l.length=>chunk k xs i) k d').size=l.length*k:=by rw[Go.Sort.size_flatK,hdz]
  refine⟨_,rfl,H,Tr.LV (M:=λb=>Value.ownBlock (.slice (some ⟨blk,ps.length,.none⟩) l.length Eh)=some b) ⟨lC,rfl,rfl,rfl,?_,λi hi hne=>Xk hi (λe=>hne (by rw[e];rfl))⟩ sub LV,⟨blk,Eh,_,(Go.Sort.flatK (λi:Fin l.length=>chunk k xs i) k d').toList,by rw[Ud],adP hblk,afe M6 (by rw[Ky,GS]),?_,hB,jd⟩,λb hb=> .inl hb,#[],rfl,rfl⟩
  ·refine H5.of ?_;show w.drawn<=(sortWorldK _ k w blk _ m d' os).drawn;unfold sortWorldK Go.Sort.grow Go.Sort.putRowK Go.Sort.putRow Go.Sort.mapBlock Go.Sort.ahead;exact UA _ _
  ·refine df (by rw[Fg,Ky,hrl]) λi hi=>?_
   have hi2:i<d'.size:=A4;rw[nW (λi=>Th GS i.2) hi2];rw[KA d' i hi2];have e:r[i]=l[d'[i]]:=by
    have:r[i]? =(d'.toList.map λi=>l[i])[i]? :=by rw[hdr]
    rw[Gj hi,H9,Pq,ik hi2] at this;simpa using this
   rw[e];exact KX _ d'[i].2
end
section
variable[D:DR]
variable{l r:A3 V3}
theorem akC{l r:A3 (HfZ×CX)}{c:(HfZ×CX)×(HfZ×CX)->AA Int}(hm:Ie l c=some r):JG prog 69 [] (.buf 69 7<|lT L6 l) (.buf 69 7<|lT L6 r) [(L3 prog (λ(x:(HfZ×CX)×(HfZ×CX))=>[L6 x.1,L6 x.2])<|λ(x:Int)=>[(TI .i64) x]) c] []:=o0 (ρ:=wJ) aax (k:=7) isAgg69 sizeOf69 A7 (λ_=>rfl) (λ_=>rfl) (AnyF.slices_SortFunc_none aax) hm
theorem aiW{c:V3×V3->AA Int}(hm:Ie l c=some r):JG prog 174 [] (.buf 102 12<|lT B1 l) (.buf 102 12<|lT B1 r) [(L3 prog (λ(x:V3×V3)=>[B1 x.1,B1 x.2])<|λ(x:Int)=>[(TI .i64) x]) c] []:=o0 (ρ:=mT) gL (k:=12) isAgg102 sizeOf102 A7 (λ_=>rfl) (λ_=>rfl) (AnyF.slices_SortFunc_none gL) hm
theorem ahB{c:V3×V3->AA Int}(hm:Ie l c=some r){ps qs:A3 AW}:JG prog 174 [] (.Ez 102 ps qs<|lT B1 l) (.Ez 102 ps qs<|lT B1 r) [(L3 prog (λ(x:V3×V3)=>[B1 x.1,B1 x.2])<|λ(x:Int)=>[(TI .i64) x]) c] []:=ah5 (ρ:=mT) gL (k:=12) isAgg102 sizeOf102 A7 (λ_=>rfl) (λ_=>rfl) (AnyF.slices_SortFunc_none gL) hm
theorem af7{c:V3×V3->AA Bool}(hm:Yg l c=some r):jB prog 220 102 12 (lT B1 l) [(L3 prog (λ(x:V3×V3)=>[B1 x.1,B1 x.2])<|λ(x:Bool)=>[Aw x]) c] (lT B1 r):=
 ag1 (k:=12) A7 (λ_=>rfl) (λ_=>rfl) P5.ahm
  (P5.ahl func220 mixed rfl underlying3 isAgg3 sizeOf3 zeroValue3 underlying4 isAgg4 sizeOf4 underlying116 isAgg116 sizeOf116 isAgg102 sizeOf102 _ zeroValue102 (by rfl) Lg) hm
theorem aiV{l r:BdZ}{c:HfZ×HfZ->AA Int}(hm:Ie l c=some r):JG prog 227 [] (.buf 37 4<|lT Af l) (.buf 37 4<|lT Af r) [(L3 prog (λ(x:HfZ×HfZ)=>[Af x.1,Af x.2])<|λ(x:Int)=>[(TI .i64) x]) c] []:=o0 (ρ:=vj) zk (k:=4) isAgg37 sizeOf37 A7 (λ_=>rfl) (λ_=>rfl) (AnyF.slices_SortFunc_none zk) hm
theorem ao8{x r:A3 (A3<|PlZ×A3 V3)}{n:Int}(hm:aL x n=some r):Eg prog 97 [(TN<|TL C3) x,(TI .i64) n] (.fr 78 1<|lT (TL C3) r):=ajC (ρ:=wh) aot (i0:=(prog.info? 78).get A7) (z:= .slice none 0 0) (sz:=1) A7 A7 A7 Lg rfl (Fa A7) A7 hm
def abg{w:AR}{H:HV}(sub:∀r o,H r=some o->w.heap[r]? =some o)(gl:LR prog H):Lib.TabIs prog w "internal/strconv.uint64pow10" .u64 Lib.pow10Tab:=by
 obtain⟨g,hg,T,hT,e,hu⟩:∃g,prog.globalNamed "internal/strconv.uint64pow10" =some g/\∃T,(prog.globals[g]?).map (·.type)=some T/\∃e,prog.underlying T=some (.array 20 e):=by refine⟨((prog.globalNamed "internal/strconv.uint64pow10").getD 0),A7,((prog.globals[((prog.globalNamed "internal/strconv.uint64pow10").getD 0)]?).map (·.type)).getD 0,A7,251,A7⟩
 have:=gl g T hT;unfold Sa at this;rw[hu] at this;let⟨E,fr,e'⟩:=this;unfold Lib.TabIs World.var?;rw[hg];show(match w.heap[g]? with|some (.cells cs _ _)=>some cs|_=>none)=_;rw[sub _ _ e'];show some fA=_
 congr 1
def ao6{x:Int}{r:AD}(hm:aK x=some r):AS 255 [TI .i64 x] [TS r]:=by
 unfold aK at hm;cases hb:He x
 ·rw[hb] at hm;cases hm
 ·rw[hb] at hm;have hm:some (Cd x)=some r:=hm;cases hm;unfold He at hb;let⟨h1,h2⟩:=EB hb;have h1:=As h1;have h2:=As h2;refine Ro A7 λw H vs sub gl ha=>?_
  obtain⟨u,rfl,hu⟩:=PY ha;have hu:u= .int .i64 x:=hu;subst hu;refine(strconv_Itoa x h1 h2 w<|abg sub gl).mono ?_;rintro e w' ⟨rfl,k,os,rfl⟩;refine⟨_,rfl,⟨P5.xH,H5.of<|UA _ _⟩,?_⟩;show Value.string _=Value.string _
  congr 3
  unfold Cd Lib.itoa;by_cases h:x<0
  ·rw[if_pos h,B5 h,WX];rfl
  ·rw[if_neg h,Bu h,WX,show x.natAbs=x.toNat from by omega];rfl
def ao9{x y:Int}{r:AD}(hm:jI x y=some r):AS 256 [TI .u64 x,TI .i64 y] [TS r]:=by
 obtain⟨hb,rfl⟩:=HJ hm;let⟨hb,h3⟩:=EB hb;let⟨h1,h2⟩:=EB hb;have h1:=As h1;have h2:=As h2;have h3:=As h3;subst h3;obtain⟨n,rfl⟩:=F2 h1;refine Ro A7 λw H vs sub gl ha=>?_
 obtain⟨u,v,rfl,hu,hv⟩:=Tw ha;have hu:u= .int .u64 n:=hu;have hv:v= .int .i64 10:=hv;subst hu;subst hv;refine(P5.aft n A4 w<|abg sub gl).mono ?_;rintro e w' ⟨rfl,k,os,rfl⟩;refine⟨_,rfl,⟨P5.xH,H5.of<|UA _ _⟩,?_⟩;show Value.string _=Value.string _;rw[Ce,WX]
def ao5{x:AD}{y:Int}{r:AD}(hm:jH x y=some r):AS 257 [TS x,TI .i64 y] [TS r]:=by
 obtain⟨hb,rfl⟩:=HJ hm;let⟨hb,h3⟩:=EB hb;let⟨h1,h2⟩:=EB hb;have h1:=As h1;have h2:=As h2;have h3:=As h3;subst h3;obtain⟨n,rfl⟩:=F2 h1;refine Ro A7 λw H vs sub gl ha=>?_
 obtain⟨u,v,rfl,hu,hv⟩:=Tw ha;have hu:u= .string ⟨#[48]⟩:=hu;have hv:v= .int .i64 n:=hv;subst hu;subst hv;rw[Ce];rcases(show n=0\/n=1\/2<=n by omega) with h|h|h
 ·subst h;refine(strings_Repeat_zero ⟨#[48]⟩ w).mono ?_;rintro e w' ⟨rfl,rfl⟩;exact⟨_,rfl,FV.refl _ _,rfl⟩
 ·subst h;refine(strings_Repeat_one ⟨#[48]⟩ w).mono ?_;rintro e w' ⟨rfl,rfl⟩;exact⟨_,rfl,FV.refl _ _,rfl⟩
 ·refine(P5.aru n h A4 w).mono ?_;rintro e w' ⟨rfl,k,rfl⟩;refine⟨_,rfl,⟨⟨rfl,rfl,rfl,BM _,λ_ _=>rfl⟩,H5.of<|UA _ _⟩,?_⟩;show Value.string _=Value.string _;rw[zt]
end
end Trn
