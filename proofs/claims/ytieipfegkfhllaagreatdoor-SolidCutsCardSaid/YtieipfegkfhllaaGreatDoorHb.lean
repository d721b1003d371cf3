/- Part of SolidCuts. -/
import Derived.Test.YtieipfegkfhllaaGreatDoorHa
set_option maxRecDepth 100000
set_option maxHeartbeats 20000000
set_option linter.all false
open Go Go.RowKit Go.Proofs Go.Proofs.Tryz
namespace Trn
section
variable{r s:Int×A3 Int}{x y:Int}
theorem wG(hr:Ci r x)(hs:Ci s y)(hx:D9 x=true)(hy:D9 y=true)(h0:0<y):Yd (λq=>Ci q.1 (x/y)/\Ci q.2 (x%y)) (XZ r s):=by
 unfold XZ;have hm0:=Lu x (show y≠0 by omega);have hm1:=LI x h0;have hdm:=Ob x y;refine Ac (λhc=>?_)<|λhc=>?_
 .let⟨hc,h3⟩:=EA hc;let⟨h1,h2⟩:=EA hc;rw[W9] at h1 h2;rw[G5,Ij] at h3;rcases hr with⟨_,e1,i1⟩|⟨h0,_⟩
  .rcases hs with⟨_,e2,i2⟩|⟨h0,_⟩
   .rw[e1] at h3;rw[e1,e2];unfold Cb at i1 i2;have t1:=Int.tmod_add_mul_tdiv x y;have hsm:=wM (x:=x) h0;have q1:Gh x y=some (x.tdiv y):=by unfold Gh;rw[Bo A4];refine EW ?_;have a1:=Int.natAbs_tdiv_le_natAbs x y;exact⟨A4,A4⟩
    have q2:Fs x y=some (x.tmod y):=by unfold Fs;rw[Bo A4];rfl
    have b2:(0<=x->0<=x.tmod y/\x.tmod y<y)/\(x<0-> -y<x.tmod y/\x.tmod y<=0):=by refine⟨λh=>⟨Int.tmod_nonneg y h,Int.tmod_lt_of_pos x h0⟩,λh=>?_⟩;have h5:=Int.tmod_lt_of_pos (-x) h0;have h6:=Int.tmod_nonneg y (show 0<= -x by omega);rw[Int.neg_tmod] at h5 h6;omega
    refine A6 q1<|A6 q2<|DI (λs=>s.1=x/y/\s.2=x%y) (λs ⟨s1,s2⟩=>AU ⟨.inl ⟨rfl,s1,?_⟩,.inl ⟨rfl,s2,?_⟩⟩)<|λk hk=>Ac (λhd=>?_)<|λhd=>?_
    .unfold Cb;omega
    .unfold Cb;omega
    .have hd:=Ar hd;let⟨e3,e4⟩:=pQ (x:=x) (q:=x.tdiv y-1) (r:=x.tmod y+y) h0 (by rw[Tq,Ln];omega) A4 A4;refine A6 B9<|A6 B9<|hk _ ⟨e3,e4⟩
    .grind
   .grind
  .grind
 .have l1:=hr.len hx;have l2:=hs.len hy;refine Ap (QH hr) λp ⟨p1,p2,p3,p4⟩=>Ap (QH hs) λq ⟨q1,q2,q3,q4⟩=>?_
  have hq0:q.2≠[]:=λe=>by rw[e] at q3;simp[AN] at q3;omega
  refine Ap (wF p2 q2 hq0 A4 A4) λd ⟨⟨d1,d2⟩,d3,d4⟩=>Ap (Th d1 p.1) λQ hQ=>Ap (Th d3 p.1) λR hR=>?_
  rw[d2,p3,q3,p1] at hQ;rw[d4,p3,q3,p1] at hR;have ey:(y.natAbs:Int)=y:=A4;rw[ey] at hQ hR;have am0:=Lu (x.natAbs:Int) (show y≠0 by omega);have am1:=LI (x.natAbs:Int) h0;have adm:=Ob (x.natAbs:Int) y;refine A6 (Vo hR)<|DI (λs=>Ci s.1 (x/y)/\Ci s.2 (x%y)) (λs hs=>AU hs)<|λk hk=>Ac (λhd=>?_)<|λhd=>?_
  .have hd:=Ar hd;have Iq:(bif decide (x<0) then -((x.natAbs:Int)%y) else(x.natAbs:Int)%y)<0:=AL;by_cases hx0:x<0
   .rw[B4 hx0] at hQ hR Iq;simp[BI] at hQ hR Iq;have J4:(x.natAbs:Int)= -x:=A4;rw[J4] at hQ hR Iq am0 am1 adm;let⟨e3,e4⟩:=pQ (x:=x) (q:= -(-x/y)-1) (r:= -(-x%y)+y) h0 (by rw[Tq,Ln,Int.mul_neg];omega) A4 A4;have hof:OF 1=some (1,[]):=rfl;have h1r:Ci (1,[]) 1:= .inl ⟨rfl,rfl,by unfold Cb;omega⟩;have atG:D9 (-(-x/y))=true:=by refine WU ?_ hx;have:=(wM (x:= -x) h0).1 A4;omega
    have atE:D9 (-(-x%y))=true:=by refine WU ?_ hy;omega
    refine A6 hof (Ap (zh hQ h1r atG rfl) λa ha=>Ap (gY hR hs (by have:=hR.len atE;omega) A4) λb hb=>hk _ ⟨?_,?_⟩)
    .rwa [e3] at ha
    .rwa [e4] at hb
   .grind
  .have hd:=Bg hd;refine hk _ ?_;by_cases hx0:x<0
   .rw[B4 hx0] at hQ hR hd;simp only[BI] at hQ hR hd;have J4:(x.natAbs:Int)= -x:=A4;rw[J4] at hQ hR hd am0 am1 adm;have hz: -x%y=0:=AL;let⟨e3,e4⟩:=pQ (x:=x) (q:= -(-x/y)) (r:= -(-x%y)) h0 (by rw[Int.mul_neg];omega) A4 A4;rw[e3] at hQ;rw[e4] at hR;exact⟨hQ,hR⟩
   .grind
theorem pc(hr:Ci r x)(hs:Ci s y)(hx:D9 x=true)(hy:D9 y=true)(h0:y≠0):Yd (λq=>Ci q<|x.fdiv y) (Xz r s):=by
 unfold Xz;refine A6 (Vo hs)<|DI (λt=>∃a b:Int,Ci t.1 a/\Ci t.2 b/\D9 a=true/\D9 b=true/\0<b/\a/b=x.fdiv y) ?_<|λk hk=>Ac (λhd=>?_)<|λhd=>?_
 .rintro t ⟨a,b,h1,h2,h3,h4,h5,h6⟩;refine Ap (wG h1 h2 h3 h4 h5) λq ⟨hq,_⟩=>AU ?_
  rwa [h6] at hq
 .have hd:=Ar hd;have hn:y<0:=AL;refine Ap (Rx hr) λa ha=>Ap (Rx hs) λb hb=>hk _ ⟨-x,-y,ha,hb,by rw[pE];exact hx,by rw[pE];exact hy,A4,?_⟩
  rw[<-Int.fdiv_eq_ediv_of_nonneg _ (show 0<= -y by omega),Int.neg_fdiv_neg]
 .grind
def jt(r:Int×A3 Int):Int:=if r.2=[] then r.1 else r.1*AN r.2
def Ci.val{z:Int}(h:Ci r z):jt r=z:=by
 unfold jt;rcases h with⟨h1,h2,_⟩|⟨h0,_,_,_,h4,_⟩
 .rw[if_pos h1,h2]
 .rw[if_neg h0,h4]
def muG(a b:Nat):Nat:=if b=0 then 0 else Nat.log2 (a*b)+1+(if a<b then 1 else 0)
def aA2{m n:Nat}(h:m<=n):Nat.log2 m<=Nat.log2 n:=by
 by_cases h0:m=0
 .subst h0;simp
 .exact pn<|Ct ((Nat.le_log2 h0).1<|BK _) h
theorem oU{a b:Nat}(hb:b≠0):muG b (a%b)<muG a b:=by
 have hlt:=OL a (show b>0 by omega);unfold muG;rw[if_neg hb];by_cases h0:a%b=0
 .grind
 .rw[if_neg h0,if_neg (show¬b<a%b by omega)];by_cases J4:a<b
  .rw[if_pos J4,S9 J4,MJ];omega
  .rw[if_neg J4];have h1:2*(a%b)<=a:=by have:=Nat.mod_add_div a b;have h2:1<=a/b:=(Nat.one_le_div_iff A4).2 A4;have h3:b*1<=b*(a/b):=ZX _ h2;omega
   have h2:2*(b*(a%b))<=a*b:=by have:=ZX b h1;rw[Nat.mul_left_comm,MJ b a] at this;exact this
   have h3:b*(a%b)≠0:=Nat.mul_ne_zero hb h0;have h4:=aA2 h2;have h5:Nat.log2 (2*(b*(a%b)))=Nat.log2 (b*(a%b))+1:=by rw[Nat.log2_two_mul h3]
   omega
def qa{a b:Nat}(ha:Nat.log2 a<1099511627776)(hb:Nat.log2 b<1099511627776):muG a b<18446744073709551616:=by
 unfold muG;have h1:a<2^(Nat.log2 a+1):=Nat.lt_log2_self;have h2:b<2^(Nat.log2 b+1):=Nat.lt_log2_self;have h3:Nat.log2 (a*b)<Nat.log2 a+1+(Nat.log2 b+1):=by
  by_cases h0:a*b=0
  .rw[h0];simp;omega
  .rw[QV h0,Mp];exact Nat.mul_lt_mul'' h1 h2
 split
 .omega
 .split<;>omega
theorem zk(hr:Ci r x)(hs:Ci s y)(hx:D9 x=true)(hy:D9 y=true):Yd (λq=>Ci q (Int.gcd x y:Int)) (fG r s):=by
 unfold fG;refine Ap (pd hr) λa ha=>Ap (pd hs) λb hb=>?_
 have hx':=FT hx;have hy':=FT hy;refine EO (λt:(Int×A3 Int)×(Int×A3 Int)=>∃a b:Nat,Ci t.1 (a:Int)/\Ci t.2 (b:Int)/\Nat.gcd a b=Int.gcd x y/\D9 a=true/\D9 b=true) (λt:(Int×A3 Int)×(Int×A3 Int)=>muG (jt t.1).natAbs (jt t.2).natAbs) ?_ _ _ ⟨x.natAbs,y.natAbs,ha,hb,rfl,by simpa[D9] using hx,by simpa[D9] using hy⟩ ?_
 .rintro next ⟨p,q⟩ ⟨a,b,h1,h2,h3,h4,h5⟩ hn
  simp only at h1 h2 hn⊢;refine A6 (Vo h2)<|Ac (λhc=>?_)<|λhc=>?_
  .have hb0:b≠0:=λe=>by subst e;simp at hc
   refine Ap (wG h1 h2 h4 h5 A4) λd ⟨_,hd⟩=>?_
   have hd':Ci d.2 ((a%b:Nat):Int):=AL;have hlt:=OL a (show b>0 by omega);refine hn _ ⟨b,a%b,h2,hd',?_,h5,WU A4 h5⟩ ?_
   .rw[<-h3,S3 b<|a%b,<-Nat.gcd_rec,S3]
   .dsimp only;rw[h2.val,hd'.val,h1.val];exact oU hb0
  .have hb0:b=0:=by rw[WE,Hl] at hc;have:=Int.sign_eq_zero_iff_zero.1 hc;omega
   subst hb0;refine AU ?_;rw[Nat.gcd_zero_right] at h3;rw[<-h3];exact h1
 .dsimp only;rw[ha.val,hb.val];exact qa (by show Nat.log2 x.natAbs<_;omega) (by show Nat.log2 y.natAbs<_;omega)
end
end Trn
namespace Go.Proofs
section
open Go.Shelf
def mV:Go.Shelf.Ren:=⟨fun|166=>258|169=>259|240=>301|276=>332|n=>n,fun|0=>0|3=>3|9=>9|5=>5|72=>310|70=>307|37=>308|4=>4|20=>20|75=>256|80=>238|164=>366|n=>n,fun|n=>n⟩
def ame:Go.Proofs.Lays.n166 prog mV:={
 mixed:=Trn.A7
 f166:=func258.trans<|congrArg some Trn.A7
 f240:=func301.trans<|congrArg some Trn.A7
 f276:=func332.trans<|congrArg some Trn.A7
 t0:=underlying0
 a0:=isAgg0
 z0:=sizeOf0
 v0:=zeroValue0
 t3:=underlying3
 a3:=isAgg3
 z3:=sizeOf3
 v3:=zeroValue3
 t4:=underlying4
 a4:=isAgg4
 z4:=sizeOf4
 v4:=zeroValue4
 t9:=underlying9
 a9:=isAgg9
 z9:=sizeOf9
 v9:=zeroValue9
 t20:=underlying20
 a20:=isAgg20
 z20:=sizeOf20
 v20:=zeroValue20
 t37:=underlying308
 a37:=isAgg308
 z37:=sizeOf308
 v37:=zeroValue308
 t70:=underlying307
 a70:=isAgg307
 z70:=sizeOf307
 v70:=zeroValue307
 t72:=underlying310
 a72:=isAgg310
 z72:=sizeOf310
 v72:=zeroValue310
 t75:=underlying256
 a75:=isAgg256
 z75:=sizeOf256
 v75:=zeroValue256
 t164:=underlying366
 a164:=isAgg366
 z164:=sizeOf366
 v164:=zeroValue366}
def adM:Builder.Extra prog mV:={
 sizeBuilder:=Trn.A7
 liesBuilder:=Trn.A7
 t5:=underlying5
 a5:=isAgg5
 z5:=sizeOf5
 v5:=zeroValue5
 infoByte:=Trn.A7
 cellsByte:=Trn.A7
 sizeByte:=Trn.A7
 neB5:=by decide}
end
end Go.Proofs
namespace Trn
section
open Go.Shelf
variable[D:DR]
variable{x c y:Int}{r:Int×Int}
def yB{l s:AD}{r:AD×Int×Unit}(hm:Vq l s=some r):JB prog 258 [] (.I5 310 5<|lB l) (.I5 310 5<|lB r.1) [TS s] [TI .i64 r.2.1,sY r.2.2]:=ajR (ρ:=mV) ame adM A7 hm
def aiX{l r:AD}(hm:YW l=some r):JB prog 259 [] (.I5 310 5<|lB l) .gone [] [TS r]:=ahp (ρ:=mU) amd adL A7 hm
def index_one(c:UInt8):∀s:AD,Lib.index s [c]= -1\/0<=Lib.index s [c]
 |[]=> .inl rfl
 |b::l=>by have:=Lib.index_ge (b::l) [c];omega
def alH(c b:UInt8)(l:AD):Lib.cut (b::l) [c]=if c==b then([],l,true) else(b::(Lib.cut l [c]).1,(Lib.cut l [c]).2.1,(Lib.cut l [c]).2.2):=by
 have e:Lib.index (b::l) [c]=if c==b then 0 else if Lib.index l [c]== -1 then -1 else Lib.index l [c]+1:=by simp[Lib.index,List.isPrefixOf]
 unfold Lib.cut;rw[e];by_cases h:(c==b)=true
 .simp[h]
 .simp only[Bool.not_eq_true] at h;simp only[h];rcases index_one c l with h1|h1
  .simp[h1]
  .have h2: ¬Lib.index l [c]= -1:=A4;have h3:(0:Int)<=Lib.index l [c]+1:=A4;have h4:(Lib.index l [c]+1).toNat=(Lib.index l [c]).toNat+1:=A4;simp[h1,h2,h3,h4]
def fi(c:UInt8):∀(s pre:AD),cutAt c pre s=(pre.reverse++(Lib.cut s [c]).1,(Lib.cut s [c]).2.1,(Lib.cut s [c]).2.2)
 |[],pre=>by
  have:Lib.cut [] [c]=([],[],false):=by unfold Lib.cut;simp[Lib.index]
  simp[cutAt,this]
 |b::l,pre=>by
  rw[alH];unfold cutAt;by_cases h:(c==b)=true
  .have h':(b==c)=true:=by rw[QU] at h⊢;exact h.symm
   simp[h,h']
  .have h':(b==c)=false:=by cases e:(b==c) with|false=>rfl|true=>exact absurd (by rw[QU] at e⊢;exact e.symm) h
   simp only[Bool.not_eq_true] at h;simp[h,h',fi c l (b::pre)]
def ar9{w:AR}{H:HV}(sub:∀r o,H r=some o->w.heap[r]? =some o)(gl:LP prog H):∃m,w.cell? ⟨0,0,none⟩=some (.int .i64 m):=by have hT:(prog.globals[0]?).map (·.type)=some 3:=A7;have:=gl 0 3 hT;have hu:prog.underlying 3=some (.int .i64):=A7;unfold SQ at this;rw[hu] at this;let⟨m,E,fr,e⟩:=this;exact⟨m,by simp[World.cell?,sub _ _ e]⟩
def abX{x y:AD}{r:AD×AD×Bool}(hm:jO x y=some r):AS 141 [TS x,TS y] [TS r.1,TS r.2.1,Av r.2.2]:=by
 match y,hm with
 |[c],hm=>
  obtain⟨hb,rfl⟩:=HC hm;have hb:x.length<4294967281:=FT hb;refine Rg A7 λw H vs sub gl ha=>?_
  obtain⟨u,v,rfl,hu,hv⟩:=Tn ha;have hu:u= .string ⟨x.toArray⟩:=hu;have hv:v= .string ⟨#[c]⟩:=hv;subst hu;subst hv;let⟨m,hm⟩:=ar9 sub gl;refine(strings_Cut ⟨x.toArray⟩ ⟨#[c]⟩ m w (by simpa[ByteArray.size] using hb) hm).mono ?_;rintro e w' ⟨rfl,n,rfl⟩;refine⟨_,rfl,⟨⟨rfl,rfl,rfl,BK _,λ_ _=>rfl⟩,Gv.of<|U3 _ _⟩,_,rfl,_,_,rfl,?_,_,_,rfl,?_,_,_,rfl,?_,rfl⟩
  .rw[fi];rfl
  .rw[fi];rfl
  .rw[fi];rfl
def aeW(w:AR)(e:Am)(s:ByteArray):FO w.heap.size w (Lib.bytesWorld w e s):=⟨⟨by unfold Lib.bytesWorld World.freeze;split<;>rfl,by unfold Lib.bytesWorld World.freeze;split<;>rfl,by unfold Lib.bytesWorld World.freeze;split<;>rfl,by rw[Lib.bytesWorld_size];omega,λk hk=>Lib.bytesWorld_at_old w e s k hk⟩,Gv.of (by unfold Lib.bytesWorld World.freeze;split<;>exact QW _)⟩
def vg:∀(l:AD) (acc:Nat),l.all Ds=true->Lib.decFrom acc l=some (l.foldl (λn b=>10*n+(b.toNat-48)) acc)
 |[],acc,_=>rfl
 |b::l,acc,h=>by rw[OM,C4] at h;let⟨h1,h2⟩:=h;unfold Ds at h1;rw[C4] at h1;have h3:=FT h1.1;have h4:=FT h1.2;unfold Lib.decFrom Lib.digitVal;rw[if_pos ⟨h3,h4⟩];simp only[iE];rw[vg l _ h2,MJ]
def agk{s:AD}(h0:s.isEmpty=false)(h:s.all Ds=true):Lib.atoi s=some (BR s:Int):=by
 match s,h0,h with
 |b::l,_,h=>
  have hb:Ds b=true:=by rw[OM,C4] at h;exact h.1
  unfold Ds at hb;rw[C4] at hb;have h3:=FT hb.1;have h5:(b==45)=false:=by cases e:b==45 with|false=>rfl|true=>rw[QU] at e;subst e;exact absurd h3 Le
  have h6:(b==43)=false:=by cases e:b==43 with|false=>rfl|true=>rw[QU] at e;subst e;exact absurd h3 Le
  have hd:Lib.decNat (b::l)=some (BR (b::l)):=by unfold Lib.decNat;rw[if_neg AX];exact vg _ 0 h
  show(if(b==45)=true then(Lib.decNat l).map λ(m:Nat)=> -(m:Int) else if(b==43)=true then(Lib.decNat l).map λ(m:Nat)=>(m:Int) else(Lib.decNat (b::l)).map λ(m:Nat)=>(m:Int))=_;rw[h5,h6,hd]
  rfl
def ao3{x:AD}{r:Int×Unit}(hm:aG x=some r):AS 207 [TS x] [TI .i64 r.1,sY r.2]:=by
 obtain⟨hb,rfl⟩:=HC hm;rw[C4,C4] at hb;let⟨⟨h1,h2⟩,h3⟩:=hb;have h1:x.isEmpty=false:=by simpa using h1
 have h2:=FT h2;refine Rg A7 λw H vs sub gl ha=>?_
 obtain⟨u,rfl,hu⟩:=PT ha;have hu:u= .string ⟨x.toArray⟩:=hu;subst hu;refine(strconv_Atoi ⟨x.toArray⟩ (BR x:Int) (by simpa[ByteArray.size] using h2) (agk h1 h3) w).mono ?_;rintro e w' ⟨rfl,t,rfl⟩;exact⟨_,rfl,aeW w 5 t,_,rfl,_,_,rfl,rfl,_,_,rfl,rfl,rfl⟩
def n5:B8 AV->Sem AV:=λargs=>do
 let(x,y,b)<-Extern.MathBitsCarry.three "Sub64" args
 pure (Extern.MathBitsCarry.pair ((x+Extern.MathBitsCarry.m64-y-b)%Extern.MathBitsCarry.m64)<|if x<y+b then 1 else 0)
def aia{P:CF}(X Y k:Nat)(hk:k<=1)(w:AR):(n5 #[.int .u64 (X:Int),.int .u64 (Y:Int),.int .u64 (k:Int)]).run P w=.ok (Extern.MathBitsCarry.pair ((X+18446744073709551616-Y-k)%18446744073709551616)<|if X<Y+k then 1 else 0) w:=by have:k=0\/k=1:=A4;rcases this with rfl|rfl<;>rfl
def Rf(h:Gz x=true):∃n:Nat,x=n/\n<18446744073709551616:=by unfold Gz at h;rw[C4,Hl,Hl] at h;obtain⟨n,rfl⟩:=Ez h.1;exact⟨n,rfl,A4⟩
def wU(h:(decide (c=0)||decide (c=1))=true):∃k:Nat,c=k/\k<=1:=by
 rw[Qb,Hl,Hl] at h;rcases h with rfl|rfl
 .exact⟨0,rfl,A4⟩
 .exact⟨1,rfl,A4⟩
def xS{H:HV}{τ σ υ:Ty}{vs:A3 AV}(h:Ec H [τ,σ,υ] vs):∃v u t,vs=[v,u,t]/\τ.ok H v/\σ.ok H u/\υ.ok H t:=by let⟨v,rest,e,hv,hr⟩:=h;let⟨u,t,e2,hu,ht⟩:=Tn hr;subst e2;exact⟨v,u,t,e,hv,hu,ht⟩
def alo(M X Y k:Nat)(hY:Y<M)(hk:k<=1):(((X+M-Y-k)%M:Nat):Int)=((X:Int)-Y-k)%(M:Int):=by have:((X+M-Y-k:Nat):Int)=((X:Int)-Y-k)+M:=A4;rw[Int.natCast_emod,this,Int.add_emod_right]
def sub_lt(X Y k:Nat):((if X<Y+k then 1 else 0:Nat):Int)=bif decide ((X:Int)<Y+k) then 1 else 0:=by
 by_cases h:X<Y+k
 .have h':(X:Int)<(Y:Int)+(k:Int):=A4;simp[h,h']
 .have h': ¬(X:Int)<(Y:Int)+(k:Int):=A4;simp[h,h']
def Tl(hm:Lm x y c=some r):qN prog 270 [TI .u64 x,TI .u64 y,TI .u64 c] [TI .u64 r.1,TI .u64 r.2]:=by
 unfold Lm at hm;cases hb:((Gz x&&Gz y)&&(decide (c=0)||decide (c=1)))
 .rw[hb] at hm;cases hm
 rw[hb] at hm;have hm:=E8 hm;subst hm;rw[C4,C4] at hb;let⟨⟨h1,h2⟩,h3⟩:=hb;obtain⟨X,rfl,hX⟩:=Rf h1;obtain⟨Y,rfl,hY⟩:=Rf h2;obtain⟨k,rfl,hk⟩:=wU h3;refine⟨λw H vs ha=>?_⟩;obtain⟨u,v,t,rfl,hu,hv,ht⟩:=xS ha;have hu:u= .int .u64 (X:Int):=hu;have hv:v= .int .u64 (Y:Int):=hv;have ht:t= .int .u64 (k:Int):=ht;subst hu;subst hv;subst ht;refine⟨.tuple #[.int .u64<|((X:Int)+Y+k)%18446744073709551616,.int .u64<|((X:Int)+Y+k)/18446744073709551616],w,?_,⟨Below.refl _ _,BK _⟩,?_⟩
 .rw[run_callFunc_extern func270 A7 A7 A7 (e:=add64Entry) A7];show Result.andThen ((add64Entry #[.int .u64 (X:Int),.int .u64 (Y:Int),.int .u64 (k:Int)]).run prog w) _=_;rw[run_add64 _ _ _ A4 A4 A4 A4 w]
  rfl
 .exact⟨_,rfl,_,_,rfl,rfl,_,_,rfl,rfl,rfl⟩
def pN(hm:S1 x y c=some r):qN prog 272 [TI .u64 x,TI .u64 y,TI .u64 c] [TI .u64 r.1,TI .u64 r.2]:=by
 unfold S1 at hm;cases hb:((Gz x&&Gz y)&&(decide (c=0)||decide (c=1)))
 .rw[hb] at hm;cases hm
 rw[hb] at hm;have hm:=E8 hm;subst hm;rw[C4,C4] at hb;let⟨⟨h1,h2⟩,h3⟩:=hb;obtain⟨X,rfl,hX⟩:=Rf h1;obtain⟨Y,rfl,hY⟩:=Rf h2;obtain⟨k,rfl,hk⟩:=wU h3;refine⟨λw H vs ha=>?_⟩;obtain⟨u,v,t,rfl,hu,hv,ht⟩:=xS ha;have hu:u= .int .u64 (X:Int):=hu;have hv:v= .int .u64 (Y:Int):=hv;have ht:t= .int .u64 (k:Int):=ht;subst hu;subst hv;subst ht;refine⟨Extern.MathBitsCarry.pair ((X+18446744073709551616-Y-k)%18446744073709551616)<|if X<Y+k then 1 else 0,w,?_,⟨Below.refl _ _,BK _⟩,?_⟩
 .rw[run_callFunc_extern func272 A7 A7 A7 (e:=n5) A7];show Result.andThen ((n5 #[.int .u64 (X:Int),.int .u64 (Y:Int),.int .u64 (k:Int)]).run prog w) _=_;rw[aia _ _ _ hk w]
  rfl
 .refine⟨_,rfl,_,_,rfl,?_,_,_,rfl,?_,rfl⟩
  .exact congrArg (Value.int .u64)<|alo 18446744073709551616 X Y k hY hk
  .exact congrArg (Value.int .u64)<|sub_lt X Y k
def fz(hm:QT x y=some r):AS 209 [TI .u64 x,TI .u64 y] [TI .u64 r.1,TI .u64 r.2]:=by
 unfold QT at hm;cases hb:(Gz x&&Gz y)
 .rw[hb] at hm;cases hm
 rw[hb] at hm;have hm:=E8 hm;subst hm;rw[C4] at hb;obtain⟨X,rfl,hX⟩:=Rf hb.1;obtain⟨Y,rfl,hY⟩:=Rf hb.2;refine Rg A7 λw H vs sub gl ha=>?_
 obtain⟨u,v,rfl,hu,hv⟩:=Tn ha;have hu:u= .int .u64 (X:Int):=hu;have hv:v= .int .u64 (Y:Int):=hv;subst hu;subst hv;refine(bits_Mul64 X Y hX hY w).mono ?_;rintro e w' ⟨rfl,rfl⟩;exact⟨_,rfl,FO.refl _ _,_,rfl,_,_,rfl,congrArg (Value.int .u64) (by rw[Int.natCast_ediv,S6];rfl),_,_,rfl,congrArg (Value.int .u64) (by rw[Int.natCast_emod,S6];rfl),rfl⟩
def vF:∀(f n:Nat),n<2^f->Lib.bitLenAux f n=Nl n
 |0,n,h=>by
  have:n=0:=by simpa using h
  subst this;rfl
 |f+1,n,h=>by
  unfold Lib.bitLenAux Nl;by_cases h0:n=0
  .subst h0;rfl
  .rw[if_neg h0,vF f (n/2) (by rw[QX] at h;omega)];have hb:Nat.beq n 0=false:=by cases e:Nat.beq n 0 with|false=>rfl|true=>exact absurd (E9 e) h0
   rw[hb];unfold Nl;by_cases h1:n/2=0
   .have:n=1:=A4;subst this;rfl
   .have hb2:Nat.beq (n/2) 0=false:=by cases e:Nat.beq (n/2) 0 with|false=>rfl|true=>exact absurd (E9 e) h1
    rw[hb2];show 1+(Nat.log2 (n/2)+1)=Nat.log2 n+1
    conv=>rhs;rw[Nat.log2_def,if_pos A4]
    omega
def bitLen_eq{n:Nat}(h:n<18446744073709551616):Lib.bitLen n=Nl n:=vF 64 n h
def alz{r:Int}(hm:ZA x=some r):AS 202 [TI .u64 x] [TI .i64 r]:=by
 unfold ZA at hm;cases hb:Gz x
 .rw[hb] at hm;cases hm
 rw[hb] at hm;have hm:=E8 hm;subst hm;obtain⟨X,rfl,hX⟩:=Rf hb;refine Rg A7 λw H vs sub gl ha=>?_
 obtain⟨u,rfl,hu⟩:=PT ha;have hu:u= .int .u64 (X:Int):=hu;subst hu;refine(bits_Len64 (X:Int) w A4 A4).mono ?_;rintro e w' ⟨rfl,rfl⟩;exact⟨_,rfl,FO.refl _ _,congrArg (Value.int .i64) (by rw[Cg,bitLen_eq hX])⟩
def aal{r:Int}(hm:WW x=some r):AS 281 [TI .u64 x] [TI .i64 r]:=by
 unfold WW at hm;cases hb:Gz x
 .rw[hb] at hm;cases hm
 rw[hb] at hm;have hm:=E8 hm;subst hm;obtain⟨X,rfl,hX⟩:=Rf hb;refine Rg A7 λw H vs sub gl ha=>?_
 obtain⟨u,rfl,hu⟩:=PT ha;have hu:u= .int .u64 (X:Int):=hu;subst hu;refine(bits_LeadingZeros64 (X:Int) w A4 A4).mono ?_;rintro e w' ⟨rfl,rfl⟩;exact⟨_,rfl,FO.refl _ _,congrArg (Value.int .i64) (by rw[Cg,bitLen_eq hX])⟩
end
section
variable{k:Nat}{x y:Rat}{z:Int}{n j:Nat}{r:Int×A3 Int}{a b:Nat}
def ao6:Bool:=(List.range 19).all λk=>decide<|Y0 (10,[]) (k:Int)=some ((10:Int)^k,[])
def ain:ao6=true:=A7
def aj0(h:k<=18):Y0 (10,[]) (k:Int)=some ((10:Int)^k,[]):=by
 have:=Dj.1 ain k<|Qa.2 A4
 exact Ar this
theorem fB:∀(l:AD) (n:Nat),l.foldl (λn b=>10*n+(b.toNat-48)) n=n*10^l.length+BR l
 |[],n=>by simp[BR]
 |b::l,n=>by
  have e:BR (b::l)=(b.toNat-48)*10^l.length+BR l:=by show l.foldl (λn b=>10*n+(b.toNat-48)) (10*0+(b.toNat-48))=_;rw[fB l,Nat.mul_zero,PX]
  rw[iE,fB l,e,Ka,E6,QX];have:10*n*10^l.length=n*(10^l.length*10):=AL;omega
def YC(l m:AD):BR (l++m)=BR l*10^m.length+BR m:=by show(l++m).foldl _ 0=_;rw[ZU,fB m];rfl
theorem aj7{b:UInt8}(h:Ds b=true):b.toNat-48<=9:=by simp_all [Ds]
def QQ:∀(l:AD),l.all Ds=true->BR l<10^l.length
 |[],_=>by simp[BR]
 |b::l,h=>by rw[OM] at h;let⟨h1,h2⟩:=EA h;have:=QQ l h2;have hb:=aj7 h1;show(b::l).foldl _ 0<_;rw[iE,fB l,E6,QX];have:(10*0+(b.toNat-48))*10^l.length<=9*10^l.length:=LL _ A4;omega
def PO(h:z.natAbs<10^n)(hn:n<=1000000):D9 z=true:=by
 unfold D9;refine Ii ?_;rcases LJ z.natAbs with h0|h0
 .rw[h0];exact Ii AX|>FT
 .have h1:(10:Nat)^n<=(2^4)^n:=Nat.pow_le_pow_left A4 n;rw[<-Nat.pow_mul] at h1;have:Nat.log2 z.natAbs<4*n:=(QV A4).2 A4;omega
theorem aka{s:AD}(h:Hq s=some z):Yd (λq=>Ci q z) (eX s):=by
 have core:∀(ds:AD) (neg:Bool) (w:Int),(ds.all Ds&&Nat.blt ds.length 1000000)=true->w=(bif neg then -(BR ds:Int) else(BR ds:Int))->Yd (λq=>Ci q w) (lp 18446744073709551616 (λ(k6:(AD×(Int×A3 Int))->AA _) (s5:AD×(Int×A3 Int))=>cond (decide<|(0:Int)<(s5.1.length:Int)) (bd (C6 s5.1 0<|mn_ (18:Int) (s5.1.length:Int)) λx8=>bd (aG x8) λBA=>bd (OF (10:Int)) λBN=>bd (Y0 BN<|mn_ (18:Int) (s5.1.length:Int)) λBi=>bd (TH s5.2 Bi) λBS=>bd (OF BA.1) λC5=>bd (TJ BS C5) λBz=>bd (C6 s5.1 (mn_ (18:Int) (s5.1.length:Int)) (s5.1.length:Int)) λDd=>k6 (Dd,Bz)) (cond neg (bd (O9 s5.2) λCp=>some Cp) (some s5.2))) (ds,(0,[]))):=by
  intro ds neg w hds hw;let⟨hd,hl⟩:=EA hds;have hl:ds.length<1000000:=FT hl;refine EO (λt:AD×(Int×A3 Int)=>t.1.all Ds=true/\t.1.length<=ds.length/\∃v:Nat,Ci t.2 (v:Int)/\v<10^(ds.length-t.1.length)/\v*10^t.1.length+BR t.1=BR ds)
   (λt:AD×(Int×A3 Int)=>t.1.length) ?_ _ _ ⟨hd,BK _,0,.inl ⟨rfl,rfl,by unfold Cb;omega⟩,by dsimp;rw[Nat.sub_self];decide,by dsimp;omega⟩ (by dsimp;omega)
  rintro next ⟨ss,r⟩ ⟨h1,h2,v,h3,h4,h5⟩ hn
  dsimp only at h1 h2 h3 h4 h5 hn⊢;have hsv:D9 (v:Int)=true:=PO (n:=ds.length-ss.length) (by simpa using h4) A4;refine Ac (λhc=>?_)<|λhc=>?_
  .have hc:=Ar hc;obtain⟨m,hm,hm1,hm2,hm3⟩:∃m:Nat,mn_ 18 (ss.length:Int)=(m:Int)/\m<=18/\m<=ss.length/\0<m:=by
    unfold mn_;by_cases h:(ss.length:Int)<18
    .grind
    .rw[Bo h];exact⟨18,rfl,A4,A4,A4⟩
   rw[hm];have hss:ss=ss.take m++ss.drop m:=(Oc m ss).symm;have hall:=h1;rw[hss,iD] at hall;let⟨a1,a2⟩:=EA hall;have hlt:(ss.take m).length=m:=AL;have hld:(ss.drop m).length=ss.length-m:=Ih;have KD:=YC (ss.take m)<|ss.drop m
   rw[<-hss,hld] at KD;have hb:=QQ _ a1;rw[hlt] at hb;have av1:BR (ss.take m)<10^18:=Jj hb<|K8 A4 hm1
   have avW:(10:Nat)^m<=10^18:=K8 A4 hm1;have aqy:((10:Int)^m)=((10^m:Nat):Int):=AL;have hat:aG (ss.take m)=some ((BR (ss.take m):Int),()):=by unfold aG;have e1:(ss.take m).isEmpty=false:=AL;have e2:Nat.ble (ss.take m).length 18=true:=Ii A4;rw[e1,e2,a1];rfl
   refine A6 (E5 A4 A4 A4) ?_;have e0:(ss.take ((m:Nat):Int).toNat).drop ((0:Int)).toNat=ss.take m:=AX;rw[e0];refine A6 hat<|A6 (show OF 10=some (10,[]) from rfl)<|A6 (aj0 hm1) ?_
   have hp:0<(10:Nat)^m:=Nat.pow_pos A4;have hrp:Ci ((10:Int)^m,[]) ((10^m:Nat):Int):= .inl ⟨rfl,by dsimp only;exact aqy,by unfold Cb;omega⟩;have Ca:(10:Nat)^18<10^19:=Le;have atD:D9 ((10^m:Nat):Int)=true:=PO (n:=19) (by simp[G6];omega) A4;refine Ap (zj h3 hrp hsv atD) λq hq=>?_
   refine A6 (show OF (BR (ss.take m):Int)=some ((BR (ss.take m):Int),[]) from rfl) ?_;have hrd:Ci ((BR (ss.take m):Int),[]) (BR (ss.take m):Int):= .inl ⟨rfl,rfl,by unfold Cb;omega⟩;have ato:ds.length-(ss.drop m).length=(ds.length-ss.length)+m:=by rw[hld];omega
   have Nz:v*10^m+BR (ss.take m)<10^(ds.length-(ss.drop m).length):=by rw[ato,Mp];have:(v+1)*10^m<=10^(ds.length-ss.length)*10^m:=LL _ A4;rw[Ka,Mq] at this;omega
   have atC:D9 ((v:Int)*((10^m:Nat):Int))=true:=by rw[<-S6];exact PO (n:=ds.length-(ss.drop m).length) (by simp only[G6];omega) A4
   have hlq:=hq.len atC;refine Ap (gY hq hrd A4 AX) λq2 hq2=>?_
   refine A6 (E5 A4 A4 A4) ?_;have e1:(ss.take ((ss.length:Nat):Int).toNat).drop ((m:Nat):Int).toNat=ss.drop m:=AX;rw[e1];refine hn _ ⟨a2,by dsimp;omega,v*10^m+BR (ss.take m),?_,Nz,?_⟩ (by dsimp;omega)
   .grind
   .grind
  .have hc:=Bg hc;have h0:ss=[]:=LN A4;subst h0;have h5:v=BR ds:=by simpa[BR] using h5
   subst h5;subst hw;cases neg
   .exact Ac (λh=>by cases h)<|λ_=>AU h3
   .exact Ac (λ_=>Ap (Rx h3) λq hq=>AU hq) (λh=>by cases h)
 have hp:∀b:Bool,(decide ((([45]:AD).length:Int)<=(s.length:Int))&&(s.take 1==[45]))=b->O5 s [45]=some b:=by
  intro b hb;unfold O5;cases hc:decide ((([45]:AD).length:Int)<=(s.length:Int)) with
  |false=>rw[hc] at hb;rw[QY] at hb;subst hb;rfl
  |true=>rw[hc] at hb;have hc:=Ar hc;show bd (C6 s 0<|(([45]:AD).length:Int)) _=_;rw[E5 A4 A4 hc];exact congrArg some hb
 have pre:∀(b:Bool) (ds:AD),O5 s [45]=some b->(b=true->s=45::ds)->(b=false->ds=s)->(ds.all Ds&&Nat.blt ds.length 1000000)=true->z=(bif b then -(BR ds:Int) else(BR ds:Int))->Yd (λq=>Ci q z) (eX s):=by
  intro b ds e1 e2 e2' e3 e4;unfold eX;refine A6 (x:=b) ?_<|A6 (x:=ds) ?_<|core ds b z e3 e4
  .unfold kT;rw[e1];rfl
  .unfold Sw XE;rw[e1];cases b
   .rw[e2' rfl];rfl
   .rw[e2 rfl];show bd (bd (C6 (45::ds) 1 (((45::ds:AD).length:Nat):Int)) _) _=_;rw[E5 A4 (by rw[E6];omega)<|Int.le_refl _];show some _=some _;simp
 unfold Hq at h;split at h
 .rename_i ds;obtain⟨hb,rfl⟩:=HC h;refine pre true ds (hp true ?_) (λ_=>rfl) (λh=>by cases h) hb rfl;rw[B4 (show((([45]:AD).length:Nat):Int)<=(((45::ds:AD).length:Nat):Int) by simp[E6,ZO];omega)]
  rfl
 .rename_i hne;obtain⟨hb,rfl⟩:=HC h;refine pre false s (hp false ?_) (λh=>by cases h) (λ_=>rfl) hb rfl;cases s with
  |nil=>rfl
  |cons c l=>
   have:c≠45:=λe=>hne l (by rw[e])
   have h2:((c::l).take 1==[45])=false:=by simp[this]
   rw[h2,gz]
def aj2(h0:n≠0)(h1:2^k<=n)(h2:n<2^(k+1)):Nat.log2 n=k:=(Nat.log2_eq_iff h0).2 ⟨h1,h2⟩
theorem ajZ{w:A3 Int}{t:Nat}(hw:okW w)(hl:w.length=k+1)(ht:w.getD k 0=(t:Int))(h0:t≠0):((AN w).toNat).log2=64*k+t.log2:=by
 have hs:AN w=AN (w.take k)+Az k*(t:Int):=by have:AN (w.take<|k+1)=AN w:=AL;rw[<-this,F9,ht]
 let⟨b0,b1⟩:=Gc<|ME hw k
 rw[E1,EU A4] at b1;rw[pR] at hs b1;let⟨L,hL⟩:=Ez b0;rw[hL] at hs b1;have e:(AN w).toNat=L+2^(64*k)*t:=AL;have hL':L<2^(64*k):=AL;let⟨l1,l2⟩:=YX h0;have hp:0<2^(64*k):=Nat.two_pow_pos _;have m1:2^(64*k)*2^t.log2<=2^(64*k)*t:=ZX _ l1;have m2:2^(64*k)*(t+1)<=2^(64*k)*2^(t.log2+1):=ZX _ l2;rw[<-Mp] at m1 m2;rw[Nat.mul_add,Nat.mul_one] at m2;have hp2:0<2^(64*k+t.log2):=Nat.two_pow_pos _;rw[e];exact aj2 A4 A4 (by rw[LD];omega)
theorem akc(h:Ci r z)(hz:D9 z=true):lI r=some (bif decide (z=0) then 0 else(Nat.log2 z.natAbs:Int)+1):=by
 refine Fz ?_;unfold lI;have hlen:=h.len hz;refine Ap (QH h) ?_;rintro⟨neg,w⟩ ⟨_,hw,hv,hl⟩;dsimp only at hw hv hl⊢;refine Ac (λhc=>?_)<|λhc=>?_
 .have hc:=Ar hc;have h0:w=[]:=LN A4;subst h0;have:z=0:=by have:(0:Int)=(z.natAbs:Int):=hv;omega
  subst this;exact AU rfl
 .have hc:=Bg hc;obtain⟨k,hk⟩:∃k,w.length=k+1:=⟨w.length-1,A4⟩;have e1:((w.length:Int)-1)=((k:Nat):Int):=A4;rw[e1];have ht:=Fk hw.1 k;let⟨t,ht'⟩:=Ez ht.1;have h0:t≠0:=by intro e;subst e;refine hw.2 ?_;rw[List.getLast?_eq_getElem?,show w.length-1=k from by omega];rw[JH,Gf A4] at ht';rw[Gf A4];simpa using ht'
  have X6:=ajZ hw.1 hk ht' h0;rw[hv,Cg] at X6;have hz0:z≠0:=by
   intro e;subst e;have:=TW hw.1 (by intro e;rw[e] at hk;simp at hk) hw.2;have hp:=Lk<|w.length-1
   rw[hv] at this;simp at this;omega
  have ht2:t<2^64:=AL;have aoX:ZA (t:Int)=some ((t.log2:Int)+1):=by
   unfold ZA Gz;rw[B4 (show(0:Int)<=(t:Int) by omega),B4 (show((t:Nat):Int)<18446744073709551616 by omega)];show some ((Nl ((t:Nat):Int).toNat:Nat):Int)=_;have:Nl t=Nat.log2 t+1:=by
    unfold Nl;have:Nat.beq t 0=false:=by cases hb:Nat.beq t 0 with|false=>rfl|true=>exact absurd (E9 hb) h0
    rw[this];rfl
   rw[Cg,this];rfl
  have hlt:t.log2<64:=(QV h0).2 ht2;refine A6 B9<|A6 B9<|A6 B9<|A6 (Bh A4) ?_
  rw[ht'];refine A6 aoX<|A6 B9<|AU ?_
  rw[Bo hz0,X6];simp only[As];omega
theorem Ci.one(h:Ci r z):((List.isEmpty r.2)&&decide (r.1=(1:Int)))=decide (z=1):=by grind [Ci]
theorem akb{s:Int×A3 Int}{x y:Int}(hr:Ci r x)(hs:Ci s y)(hx:D9 x=true)(hy:D9 y=true)(h0:y≠0):Yd (λq=>Ci q.1 ((x:Rat)/(y:Rat)).num/\Ci q.2 (((x:Rat)/(y:Rat)).den:Int)) (nG r s):=by
 unfold nG;have en:((x:Rat)/(y:Rat)).num=(y.sign*x)/(Int.gcd y x:Int):=by rw[<-OP,gy]
 have ed:(((x:Rat)/(y:Rat)).den:Int)=(y.natAbs:Int)/(Int.gcd y x:Int):=by rw[<-OP,gw,if_neg h0];rfl
 rw[en,ed];refine A6 (Vo hs)<|DI (λt=>Ci t.1 (y.sign*x)/\Ci t.2 (y.natAbs:Int)) ?_<|λk hk=>Ac (λhd=>?_)<|λhd=>?_
 .rintro⟨a,b⟩ ⟨ha,hb⟩;dsimp only at ha hb⊢;have hg:Int.gcd (y.sign*x) (y.natAbs:Int)=Int.gcd y x:=by
   rw[Int.gcd_comm];unfold Int.gcd;rw[Mr,G6]
   congr 1
   rcases WB y 0 with h|h|h
   .grind
   .grind
   .grind
  have hg0:0<Int.gcd y x:=iZ _ h0;have sa:D9 (y.sign*x)=true:=WU (y:=x) (by
   rw[Mr];rcases WB y 0 with h|h|h
   .grind
   .grind
   .rw[WJ h];simp) hx
  have sb:D9 (y.natAbs:Int)=true:=WU (y:=y) AX hy;rw[Ci.one hb];refine Ac (λhc=>?_)<|λhc=>?_
  .have hc:=Ar hc;have h1:Int.gcd y x=1:=by unfold Int.gcd;rw[show y.natAbs=1 from by omega,Nat.gcd_one_left]
   rw[h1];refine AU ⟨?_,?_⟩
   .grind
   .grind
  .refine Ap (zk ha hb sa sb) λg hgr=>?_
   rw[hg] at hgr;have sg:D9 (Int.gcd y x:Int)=true:=WU (y:=y) (by rw[G6];exact Nat.le_of_dvd A4<|Nat.gcd_dvd_left _ _) hy
   refine Ap (pc ha hgr sa sg A4) λp hp=>Ap (pc hb hgr sb sg A4) λq hq=>AU ⟨?_,?_⟩
   .grind
   .grind
 .have hd:=Ar hd;have hn:y<0:=AL;refine Ap (Rx hr) λa ha=>Ap (Rx hs) λb hb=>hk _ ⟨?_,?_⟩
  .grind
  .grind
 .grind
def aaK:∀(f n:Nat) (acc:AD),n<f->bH f n acc=Lib.decDigits n++acc
 |0,n,_,h=>by omega
 |f+1,n,acc,h=>by
  unfold bH;by_cases h1:n<10
  .rw[show Nat.blt n 10=true from Ii h1,Lib.decDigits_one h1];rfl
  .have:Nat.blt n 10=false:=by cases hb:Nat.blt n 10 with|false=>rfl|true=>exact absurd (FT hb) h1
   rw[this];show bH f (n/10) _=_;rw[aaK f (n/10) _ A4]
   conv=>rhs;rw[Lib.decDigits,dif_neg h1]
   simp
def WR(n:Nat):B2 n=Lib.decDigits n:=by unfold B2;rw[aaK _ _ _ A4];simp
def OJ(h:n<10):B2 n=[UInt8.ofNat<|48+n]:=by rw[WR,Lib.decDigits_one h]
def Rh(h: ¬n<10):B2 n=B2 (n/10)++[UInt8.ofNat<|48+n%10]:=by rw[WR,WR,Lib.decDigits,dif_neg h]
theorem MG:∀(k n:Nat),0<k->n<10^k->(B2 n).length<=k
 |0,_,h,_=>by omega
 |k+1,n,_,h=>by
  by_cases h1:n<10
  .rw[OJ h1];simp
  .rw[Rh h1,E7];rcases LJ k with h0|h0
   .grind
   .have:=MG k (n/10) h0 (by rw[QX] at h;omega);simp;omega
def IL(k r:Nat):AD:=List.replicate (k-(B2 r).length) 48++B2 r
def aiu{r:Nat}(hk:0<k)(hr:r/10<10^k):IL (k+1) r=IL k (r/10)++[UInt8.ofNat<|48+r%10]:=by
 unfold IL;by_cases h:r<10
 .rw[show r/10=0 from by omega,OJ h,OJ (show 0<10 by omega),show r%10=r from by omega];have:List.replicate (k+1-1) (48:UInt8)=List.replicate (k-1) 48++[48]:=by rw[show k+1-1=(k-1)+1 from by omega,List.replicate_succ']
  simp only[JG];rw[this];rfl
 .rw[Rh h,E7,JG,show k+1-((B2<|r/10).length+1)=k-(B2<|r/10).length from by omega,HY]
def nQ:∀(k q r:Nat),0<q->0<k->r<10^k->B2 (q*10^k+r)=B2 q++IL k r
 |0,_,_,_,h,_=>by omega
 |k+1,q,r,hq,_,hr=>by
  rw[QX] at hr⊢;have hp:0<10^k:=Nat.pow_pos A4;have NA:10^k<=q*10^k:=Nat.le_mul_of_pos_left _ hq;rw[<-Nat.mul_assoc];rw[Rh A4,show(q*10^k*10+r)/10=q*10^k+r/10 from by omega,show(q*10^k*10+r)%10=r%10 from by omega];rcases LJ k with h0|h0
  .subst h0;have h9:r<10:=by simpa using hr
   rw[show r/10=0 from by omega,Nat.pow_zero,Nat.mul_one,Tw];unfold IL;rw[OJ h9,show r%10=r from by omega];rfl
  .rw[nQ k q (r/10) hq h0 A4,aiu h0 A4,HY]
def zS(c:Nat):ju [48] c=List.replicate c 48:=by induction c with|zero=>rfl|succ c ih=>rw[List.replicate_succ,<-ih];rfl
def Norm.pos{w:A3 Int}(h:Norm w)(h0:w≠[]):0<AN w:=by
 have:=TW h.1 h0 h.2;have:=Lk<|w.length-1
 omega
def ahY{r:Nat}(h:r<1000000000000000000):(B2 r).length<=18:=MG 18 r A4 (by simpa using h)
def alE{l:A3 AD}{x:AD}(h:l[n]? =some x):(l.drop n).reverse.flatten=(l.drop<|n+1).reverse.flatten++x:=by let⟨hn,e⟩:=FH.1 h;rw[UC hn,e,List.reverse_cons,List.flatten_append];simp
theorem yp{l:A3 AD}(h:∀x∈l,x.length<=18):l.flatten.length<=18*l.length:=by induction l<;>grind
theorem ahK(h:Ci r z)(hz:D9 z=true):Yd (λs=>s=Cf z) (kn r):=by
 unfold kn;have hlen:=h.len hz;refine Ac (λhc=>?_)<|λhc=>?_
 .rcases h with⟨h1,h2,h3⟩|⟨h1,_⟩
  .have e:aF z=some (Cf z):=by
    unfold aF;have:Hb z=true:=by unfold Cb at h3;unfold Hb;rw[B4 h3.1,B4 h3.2];rfl
    rw[this];rfl
   rw[h2];exact A6 e<|AU rfl
  .grind
 have NA:z.natAbs≠0:=by
  rcases h with⟨h1,_⟩|⟨h0,h1,h2,h3,h4,h5⟩
  .rw[h1] at hc;simp at hc
  .grind
 have X6:Nat.log2 z.natAbs<1099511627776:=FT hz;refine Ap (QH h) ?_;rintro⟨neg,w0⟩ ⟨p1,p2,p3,p4⟩;dsimp only at p1 p2 p3 p4⊢;refine EO (λt:A3 Int×A3 AD=>Norm t.1/\(∀x∈t.2,x.length<=18)/\∃v:Nat,AN t.1=(v:Int)/\v<=z.natAbs/\t.2.length+(if v=0 then 0 else Nat.log2 v+1)<=Nat.log2 z.natAbs+1/\B2 z.natAbs=(if v=0 then [] else B2 v)++t.2.reverse.flatten)
  (λt:A3 Int×A3 AD=>if AN t.1=0 then 0 else Nat.log2 (AN t.1).toNat+1) ?_ _ _ ⟨p2,AX,z.natAbs,p3,BK _,by dsimp only;rw[if_neg NA];simp,by dsimp only;rw[if_neg NA];simp⟩ (by dsimp only;rw[p3,Cg];split<;>omega)
 rintro next ⟨w,l⟩ ⟨h1,h2,v,h3,h4,h5,h6⟩ hn
 dsimp only at h1 h2 h3 h4 h5 h6 hn⊢;refine Ac (λhd=>?_)<|λhd=>?_
 .have hd:=Ar hd;have hw0:w≠[]:=by intro e;rw[e] at hd;simp at hd
  have Hy:v≠0:=by have:=h1.pos hw0;omega
  rw[if_neg Hy] at h5 h6;have hwl:w.length<=w0.length:=h1.len (by have:=(Gc p2.1).2;omega);have r9:Norm ([1000000000000000000]:A3 Int):=⟨by rw[PJ];exact⟨⟨A4,by unfold BB;omega⟩,Z7⟩,AX⟩;refine Ap (wF h1 r9 AX A4 AX) ?_;rintro⟨q,m⟩ ⟨⟨d1,d2⟩,d3,d4⟩;dsimp only at d1 d2 d3 d4⊢;have evb:AN ([1000000000000000000]:A3 Int)=1000000000000000000:=by simp[AN]
  rw[evb,h3] at d2 d4;have d2:AN q=((v/1000000000000000000:Nat):Int):=by rw[d2];rfl
  have d4:AN m=((v%1000000000000000000:Nat):Int):=by rw[d4];rfl
  have hml:v%1000000000000000000<1000000000000000000:=OL _ A4
  generalize hR:v%1000000000000000000=R at*
  refine DI (λs=>s=B2 R) ?_ ?_
  rotate_left
  .intro k hk;refine Ac (λhe=>?_)<|λhe=>?_
   .have he:=Ar he;have hm1:m.length<=1:=d3.len (n:=1) (by rw[d4];unfold Az;unfold BB;omega);obtain⟨x,rfl⟩:∃x,m=[x]:=by
     cases m with
     |nil=>simp at he
     |cons x t=>cases t with|nil=>exact⟨x,rfl⟩|cons _ _=>simp at hm1
    have ex:x=(R:Int):=by rw[<-d4];simp[AN]
    subst ex;have ef:jB (R:Int) 10=some (B2 R):=by
     unfold jB Gz;rw[B4 (show(0:Int)<=(R:Int) by omega),B4 (show((R:Nat):Int)<18446744073709551616 by omega)]
     rfl
    exact A6 (show AB [(R:Int)] 0=some (R:Int) from rfl)<|A6 ef<|hk _ rfl
   .have he:=Bg he;have hm0:m=[]:=LN A4;subst hm0;have:R=0:=by have:(0:Int)=(R:Int):=d4;omega
    subst this;exact hk _ rfl
  rintro s rfl;have hsl:=ahY hml;refine DI (λs=>s.length<=18/\B2 v=(if v/1000000000000000000=0 then [] else B2 (v/1000000000000000000))++s) ?_ ?_
  rotate_left
  .intro k hk;refine Ac (λhe=>?_)<|λhe=>?_
   .have he:=Ar he;have hq0:v/1000000000000000000≠0:=by intro e;have:=d1.pos (by intro e';rw[e'] at he;simp at he);rw[d2,e] at this;simp at this
    have er:jA [48] ((18:Int)-((B2 R).length:Int))=some (List.replicate (18-(B2 R).length) 48):=by
     unfold jA;rw[B4 (show(0:Int)<=(18:Int)-((B2 R).length:Int) by omega),B4 (show(18:Int)-((B2 R).length:Int)<=64 by omega)];show some (ju [48] ((18:Int)-((B2 R).length:Int)).toNat)=_;rw[zS]
     congr 2
     omega
    have es:IK (List.replicate (18-(B2 R).length) 48) (B2 R)=some (IL 18 R):=by unfold IK;rw[B4 (by rw[Nd];omega)];rfl
    refine A6 B9<|A6 er<|A6 es<|hk _ ⟨?_,?_⟩
    .unfold IL;rw[E7,Nd];omega
    .rw[if_neg hq0];have:=nQ 18 (v/1000000000000000000) R A4 A4 (by simpa using hml);rw[show(10:Nat)^18=1000000000000000000 from rfl] at this;rw[<-this]
     congr 1
     omega
   .have he:=Bg he;have hq:q=[]:=LN A4;subst hq;have hq0:v/1000000000000000000=0:=by have:(0:Int)=((v/1000000000000000000:Nat):Int):=d2;omega
    refine hk _ ⟨hsl,?_⟩;rw[if_pos hq0,K7]
    congr 1
    omega
  rintro s ⟨s1,s2⟩;have ea:BG 16 l [s]=some (l++[s]):=by unfold BG;simp only[JG];rw[B4 A4,B4 A4];rfl
  have acW:v/1000000000000000000≠0->Nat.log2 (v/1000000000000000000)+1<=Nat.log2 v:=by
   intro hne;have:=(YX hne).1;have h2:2^(Nat.log2 (v/1000000000000000000)+1)<=v:=by rw[QX];omega
   exact pn h2
  refine A6 ea<|hn _ ⟨d1,?_,v/1000000000000000000,d2,A4,?_,?_⟩ ?_
  .grind
  .grind
  .grind
  .grind
 .have hd:=Bg hd;have hw0:w=[]:=LN A4;subst hw0;have Hy:v=0:=by have:(0:Int)=(v:Int):=h3;omega
  subst Hy;rw[if_pos rfl] at h5 h6;rw[K7] at h6;have hfl:=yp (l:=l.reverse)<|λx hx=>h2 x<|List.mem_reverse.1 hx
  rw[List.length_reverse] at hfl;have bw:∀a b:AD,a.length+b.length<=140737488355328->Vq a b=some (a++b,(b.length:Int),()):=by intro a b J4;unfold Vq;rw[show Nat.ble (a.length+b.length) 140737488355328=true from Ii J4];rfl
  refine DI (λs=>s.length<=1/\s++B2 z.natAbs=Cf z) ?_ ?_
  rotate_left
  .intro k hk;cases Iq:decide (z<0) with
   |true=>
    rw[Iq] at p1;subst p1;have et:Cf z=45::B2 z.natAbs:=by unfold Cf;rw[Iq];rfl
    refine Ac (λ_=>A6 (bw [] [45] AX) (hk ([]++[45]) ⟨AX,by rw[et];rfl⟩)) (λh=>by cases h)
   |false=>
    rw[Iq] at p1;subst p1;have et:Cf z=B2 z.natAbs:=by unfold Cf;rw[Iq];rfl
    exact Ac (λh=>by cases h) (λ_=>hk [] ⟨AX,by rw[et];rfl⟩)
  rintro pre ⟨e1,e2⟩;refine A6 B9 ?_;refine EO (λt:AD×Int=> -1<=t.2/\t.2<l.length/\t.1=pre++(l.drop (t.2+1).toNat).reverse.flatten) (λt:AD×Int=>(t.2+1).toNat) ?_ _ _ ⟨BY,BY,?_⟩ BY
  rotate_left
  .dsimp only;rw[show((l.length:Int)-1+1).toNat=l.length from by omega,S8];simp
  rintro Fp ⟨b,i⟩ ⟨g1,g2,g3⟩ IW;dsimp only at g1 g2 g3 IW⊢;refine Ac (λhp=>?_)<|λhp=>?_
  .have hp:=Ar hp;obtain⟨n,rfl⟩:=Ez hp;have HJ:n<l.length:=A4;have ex:AB l (n:Int)=some l[n]:=by show l[n]? =_;exact Gf HJ
   have avU:l[n].length<=18:=h2 _<|Lv HJ
   have atm:=yp (l:=(l.drop (((n:Nat):Int)+1).toNat).reverse)<|λx hx=>h2 x<|U8<|List.mem_reverse.1 hx
   rw[List.length_reverse,Ih] at atm;refine A6 ex (A6 ex (A6 (bw b l[n] (by rw[g3,E7];omega))<|A6 B9<|IW _ ⟨BY,BY,?_⟩ BY));dsimp only;rw[show(((n:Nat):Int)-1+1).toNat=n from by omega,g3,show(((n:Nat):Int)+1).toNat=n+1 from by omega,alE (x:=l[n])<|Gf HJ,HY]
  .have hp:=Bg hp;have hi:i= -1:=A4;subst hi;have g3:b=pre++l.reverse.flatten:=g3;have eb:b=Cf z:=by rw[g3,<-h6,e2]
   have hne:(!b.isEmpty)=true:=by
    rw[eb];have hd:B2 z.natAbs≠[]:=λe=>by
     by_cases h:z.natAbs<10
     .rw[OJ h] at e;cases e
     .rw[Rh h] at e;simp at e
    unfold Cf;cases decide (z<0) with
    |true=>rfl
    |false=>show(!(B2 z.natAbs).isEmpty)=true;cases h:B2 z.natAbs with|nil=>exact absurd h hd|cons _ _=>rfl
   refine A6 (show YW b=some b by unfold YW;rw[hne];rfl)<|AU ?_
   exact eb
def G1(n:Nat)(k:Nat):Prop:=Nat.log2 n<k
def alj(ha:G1 a j)(hb:G1 b k):G1 (a*b) (j+k+1):=by
 unfold G1 at*;by_cases h0:a=0
 .subst h0;simp
 by_cases h1:b=0
 .subst h1;simp
 have h2:=(YX h0).2;have h3:=(YX h1).2;have h4:a*b<2^(Nat.log2 a+1)*2^(Nat.log2 b+1):=Nat.mul_lt_mul'' h2 h3;rw[<-Mp] at h4;have:=(QV<|Nat.mul_ne_zero h0 h1).2 h4;omega
theorem alk(ha:G1 a k)(hb:G1 b k):G1 (a+b) (k+1):=by
 unfold G1 at*;by_cases h0:a+b=0
 .rw[h0];simp
 have h2:a<2^k:=by
  by_cases h:a=0
  .grind
  .exact(QV h).1 ha
 have h3:b<2^k:=by
  by_cases h:b=0
  .grind
  .exact(QV h).1 hb
 exact(QV h0).2 (by rw[QX];omega)
def aju(h:a<=b)(hb:G1 b k):G1 a k:=Nat.lt_of_le_of_lt (aA2 h) hb
theorem SR(h:G1 z.natAbs k)(hk:k<=1099511627776):D9 z=true:=by(simp_all [G1,D9]<;>omega)
theorem Td{q:Rat}(h:F4 q=true):G1 q.num.natAbs 68719476736/\G1 q.den 68719476736:=by simp_all [F4,G1]
theorem Jm{q:Rat}(h:G1 q.den k):G1 ((q.den:Int)).natAbs k:=by grind
def Qi{a b:Int}(ha:G1 a.natAbs 68719476736)(hb:G1 b.natAbs 68719476736):G1 (a*b).natAbs 137438953473:=by rw[Mr];exact alj ha hb
def ano{a b:Int}(ha:G1 a.natAbs 137438953473)(hb:G1 b.natAbs 137438953473):G1 (a+b).natAbs 137438953474:=aju (Int.natAbs_add_le a b) (alk ha hb)
def aaY{x y:Int}(hx:G1 x.natAbs j)(hy:G1 y.natAbs k)(hj:j<=1099511627776)(hk:k<=1099511627776):Su x y=some (x+y):=by unfold Su;rw[SR hx hj,SR hy hk];rfl
def UJ{x y:Int}(hx:G1 x.natAbs j)(hy:G1 y.natAbs k)(hj:j<=1099511627776)(hk:k<=1099511627776):KF x y=some (x*y):=by unfold KF;rw[SR hx hj,SR hy hk];rfl
def anf{x y:Int}(hx:G1 x.natAbs j)(hy:G1 y.natAbs k)(hj:j<=1099511627776)(hk:k<=1099511627776):bK x y=some (Um x y):=by unfold bK;rw[SR hx hj,SR hy hk];rfl
def ou{x y:Int}(hx:G1 x.natAbs j)(hy:G1 y.natAbs k)(hj:j<=1099511627776)(hk:k<=1099511627776)(h0:y≠0):Oh x y=some ((x:Rat)/(y:Rat)):=by unfold Oh;rw[SR hx hj,SR hy hk,Bo h0];rfl
def yX(q:Rat):mkq q.num q.den=some q:=by obtain⟨d,hd⟩:∃d,q.den=d+1:=⟨q.den-1,by have:=q.den_pos;omega⟩;unfold mkq;have hr:=q.reduced;unfold Nat.Coprime at hr;rw[hd] at hr⊢;show EL (Nat.beq (Nat.gcd q.num.natAbs<|d+1) 1) (mkRat q.num<|d+1)=_;rw[hr,<-hd,W5];rfl
def gH(x y:Rat):(((x.num*y.den+y.num*x.den:Int)):Rat)/(((x.den:Int)*(y.den:Int):Int):Rat)=x+y:=by have h:=Rat.mkRat_add_mkRat x.num y.num x.den_nz y.den_nz;rw[W5,W5,Rat.mkRat_eq_div] at h;rw[h,<-S6];rfl
def gG(x y:Rat):(((x.num*y.num:Int)):Rat)/(((x.den:Int)*(y.den:Int):Int):Rat)=x*y:=by have h:=Rat.mkRat_mul_mkRat x.num y.num x.den y.den;rw[W5,W5,Rat.mkRat_eq_div] at h;rw[h,<-S6];rfl
def xK(h:x.den=1):x=(x.num:Rat):=by have h1:=W5 x;rw[h] at h1;rw[<-Rat.mkRat_one,h1]
def Nf(x:Rat):(x.den:Int)≠0:=by have:=x.den_pos;omega
def aku(x:Rat):lK x=some (-x):=by
 unfold lK;show bd (mkq (-x.num) x.den) _=_;have:=yX<| -x
 rw[Rat.neg_num,Rat.neg_den] at this;rw[this];rfl
def ahT(z:Int):mT z=some (z:Rat):=by unfold mT;show bd (mkq z 1) _=_;have:=yX (z:Rat);rw[S5,Tz] at this;rw[show((1:Nat):Int)=1 from rfl] at this;rw[this];rfl
def akz(hx:F4 x=true)(hy:F4 y=true):lQ x y=some (x+y):=by
 let⟨a1,a2⟩:=Td hx;let⟨b1,b2⟩:=Td hy;have aaE:(bd (KF x.num (y.den:Int)) λBA=>bd (KF y.num (x.den:Int)) λBN=>bd (Su BA BN) λBi=>bd (KF (x.den:Int) (y.den:Int)) λBS=>bd (Oh Bi BS) λC5=>some C5)=some (x+y):=by rw[UJ a1 (Jm b2) A4 A4];show bd (KF y.num (x.den:Int)) _=_;rw[UJ b1 (Jm a2) A4 A4];show bd (Su _ _) _=_;rw[aaY (Qi a1<|Jm b2) (Qi b1<|Jm a2) A4 A4];show bd (KF (x.den:Int) (y.den:Int)) _=_;rw[UJ (Jm a2) (Jm b2) A4 A4];show bd (Oh _ _) _=_;rw[ou (ano (Qi a1<|Jm b2)<|Qi b1<|Jm a2) (Qi (Jm a2)<|Jm b2) A4 A4<|W6 (Nf x)<|Nf y,gH];rfl
 unfold lQ;by_cases h1:x.den=1
 .by_cases h2:y.den=1
  .have e1:Lj x=some true:=by unfold Lj;rw[B4 h1]
   have e2:Lj y=some true:=by unfold Lj;rw[B4 h2]
   rw[e1,e2];show bd (Su x.num y.num) _=_;rw[aaY a1 b1 A4 A4];show some ((x.num+y.num:Int):Rat)=_;rw[Rat.intCast_add,<-xK h1,<-xK h2]
  .have e1:Lj x=some true:=by unfold Lj;rw[B4 h1]
   have e2:Lj y=some false:=by unfold Lj;rw[Bo h2]
   rw[e1,e2];exact aaE
 .have e1:Lj x=some false:=by unfold Lj;rw[Bo h1]
  rw[e1];exact aaE
def akv(hx:F4 x=true)(hy:F4 y=true):lL x y=some (x*y):=by let⟨a1,a2⟩:=Td hx;let⟨b1,b2⟩:=Td hy;unfold lL;rw[UJ a1 b1 A4 A4];show bd (KF (x.den:Int) (y.den:Int)) _=_;rw[UJ (Jm a2) (Jm b2) A4 A4];show bd (Oh _ _) _=_;rw[ou (Qi a1 b1) (Qi (Jm a2)<|Jm b2) A4 A4<|W6 (Nf x)<|Nf y,gG];rfl
theorem alh(y:Rat):F4 (-y)=F4 y:=by simp_all [F4]
def akt(hx:F4 x=true)(hy:F4 y=true):lJ x y=some (x-y):=by unfold lJ;show bd (M0 x<| -y) _=_;unfold M0;rw[hx,alh,hy];show some (x+ -y)=_;rw[pt]
def akw(hx:F4 x=true)(h0:x≠0):lN x=some x⁻¹ :=by let⟨a1,a2⟩:=Td hx;unfold lN;rw[ou (Jm a2) a1 A4 A4 (by intro e;exact h0<|NW.1 e),Rat.inv_def,OP];rfl
theorem ali(h:F4 y=true)(h0:y≠0):F4 y⁻¹ =true:=by(simp_all [F4]<;>grind)
def akx(hx:F4 x=true)(hy:F4 y=true)(h0:y≠0):lO x y=some (x/y):=by
 unfold lO;have e1:ay y=some y⁻¹ :=by unfold ay;rw[hy,Bo h0];rfl
 have e2:GB x y⁻¹ =some (x*y⁻¹):=by unfold GB;rw[hx,ali hy h0];rfl
 rw[e1];show bd (GB x y⁻¹) _=_;rw[e2,PV];rfl
def aky(hx:F4 x=true)(hy:F4 y=true):lP x y=some (bif decide (x<y) then -1 else bif decide (y<x) then 1 else 0):=by let⟨a1,a2⟩:=Td hx;let⟨b1,b2⟩:=Td hy;unfold lP;rw[UJ a1 (Jm b2) A4 A4];show bd (KF y.num (x.den:Int)) _=_;rw[UJ b1 (Jm a2) A4 A4];show bd (bK _ _) _=_;rw[anf (Qi a1<|Jm b2) (Qi b1<|Jm a2) A4 A4];show some (Um _ _)=_;unfold Um;have e1:decide (x.num*(y.den:Int)<y.num*(x.den:Int))=decide (x<y):=HX.2 (Rat.lt_iff x y).symm;have e2:decide (y.num*(x.den:Int)<x.num*(y.den:Int))=decide (y<x):=HX.2 (Rat.lt_iff y x).symm;rw[e1,e2]
theorem ajG(hx:F4 x=true)(hy:F4 y=true):l5 x y=some (decide<|x=y):=by
 unfold l5;have e:On x y=some (bif decide (x<y) then -1 else bif decide (y<x) then 1 else 0):=by unfold On;rw[hx,hy];rfl
 rw[e];show some (decide<|(bif decide (x<y) then(-1:Int) else bif decide (y<x) then 1 else 0)=0)=_
 congr 1
 by_cases h1:x<y
 .grind
 .grind
end
section
open Go.Shelf
variable[D:DR]{P:Program}{ρ:Ren}
def wY(cs:B8 AV)(n:Nat):(Builtin.zeroCells cs n).size=n*cs.size:=by simp[Builtin.zeroCells]
def ajE(L:Lays8.n4 P ρ){α:Type}{f:α->Ty}{sz:Nat}{i0:TypeInfo}{z:AV}(hi0:P.info? (ρ.t 25)=some i0)(hz0:i0.zero=some z)(hs:i0.size=sz)(hs0:0<sz)(hz:z.cells.size=sz)(hb:i0.bytes<=1000)
  (hc:Gd P (ρ.f 4)=true){x r:A3 α}{n:Int}(hm:qc x n=some r):Ef P (ρ.f 4) [TN f x,TI .i64 n] (.fr (ρ.t 25) sz<|lT f r):=by
 obtain⟨hg,rfl⟩:=HC hm;rw[C4,C4] at hg;let⟨⟨h1,h2⟩,h3⟩:=hg;have h2:=Ar h2;have h3:=Ar h3;have hx:=W9.1 h1;subst hx;refine⟨hc,λw H vs sub gl ha=>?_⟩;obtain⟨v,u,rfl,hv,hu⟩:=Tn ha;have hv:v= .slice none 0 0:=hv.2 rfl;have hu:u= .int .i64 n:=hu;subst hv hu;obtain⟨m,rfl⟩:∃m:Nat,n=(m:Int):=⟨n.toNat,A4⟩;show Calls P (ρ.f 4) #[.slice none 0 0,.int .i64 m] w _;rcases LJ m with h0|h0
 .subst h0;refine(Any8.slices_Grow_room L none 0 0 0 w (BK _) A4 A4 A4).mono ?_;rintro e w' ⟨rfl,rfl⟩;exact⟨_,rfl,FO.refl _ _,H,λ_ _=>rfl,sub,[],World.ownsRow_nil w' _ _ _,rfl,λb h=>by simp[Value.ownBlock] at h⟩
 .refine(Any8.slices_Grow_grow L i0 z hi0 hz0 A4 none 0 0 m [] w (BK _) A4 (Ct (HD (show 0+m<=100000000 by omega) hb) A4) A4 AX (λ_=>rfl) (λa h=>by cases h)).mono ?_;rintro e w' ⟨rfl,rfl⟩;have hG:=grownCap_ge w (0+m) 0<|ρ.t 25
  have hM:=grownCap_le_maxLen w (0+m) 0 (ρ.t 25) (by unfold maxLen;omega)
  generalize grownCap w (0+m) 0 (ρ.t 25)=G at*
  generalize ho:Obj.cells (([]:A3 AV).toArray++Builtin.zeroCells z.cells (0+m-0)++Builtin.zeroCells z.cells (G-(0+m))) (ρ.t 25)=o
  have abn:∀k,k<w.heap.size->(w.drew.alloc o).heap[k]? =w.heap[k]? :=λk hk=>Below.heap_alloc w.drew o k hk
  refine⟨_,rfl,⟨⟨rfl,rfl,rfl,(FO.alloc (w:=w.drew) o).size,abn⟩,?_⟩,H,λ_ _=>rfl,λr o hr=>?_,[],⟨AX,.inr ⟨w.heap.size,G,_,rfl,FQ _,(Lt w.drew o).trans<|congrArg some ho.symm,FQ _,hM,?_,by simp[lT]⟩⟩,rfl,λb hb=>?_⟩
  .exact Gv.of<|QW _
  .have:=sub r o hr;rw[abn r (by
    rcases Hj r w.heap.size with h|h
    .exact h
    .rw[iS h] at this;cases this)]
   exact this
  .rw[Array.size_append,Array.size_append,wY,wY,hz];simp only[iH,ZO,PX,Nat.sub_zero];rw[<-Ka]
   congr 1;omega
  .have e:b=w.heap.size:=by simp[Value.ownBlock] at hb;exact hb.symm
   subst e;refine⟨BK _,?_⟩;cases hH:H w.heap.size with
   |none=>rfl
   |some o=>have:=sub _ o hH;rw[iS<|BK _] at this;cases this
end
end Trn
namespace Ox
section
open Go.Shelf Go.Sort Go.Lib
def agb(w:World)(T:TypeId)(nd:Nat)(hs:nd<=24):Holds (λ(b:UInt8)=>Value.int .u8 (b.toNat:Int)) (w.alloc<| .cells zeros24 T) w.heap.size 0 (Array.replicate nd (0:UInt8)):=λj hj=>by
 have hj':j<nd:=by simpa using hj
 refine⟨?_,World.frozen?_alloc_new _ _ _ _⟩;rw[World.cell?_alloc_new,Nat.zero_add,zeros24_at _ Trn.A4,getElem!_pos _ j hj];simp
def al6(w:World)(o:Obj)(dk:Array UInt8)(k:Nat):∃os,(putRow (λ(b:UInt8)=>Value.int .u8 (b.toNat:Int)) (w.alloc o) w.heap.size 0 dk).drewN k=Go.Sort.grow (w.drewN k) os:=by rw[alloc_eq_grow];let⟨os',_,e⟩:=putRow_grow_new (λ(b:UInt8)=>Value.int .u8 (b.toNat:Int)) w #[o] w.heap.size 0 dk (Nat.le_refl _);exact⟨os',by rw[e];rfl⟩
set_option maxHeartbeats 6400000 in
set_option maxRecDepth 100000 in
def ahU(u:Nat)(hu64:u<18446744073709551616)(w:World)
  (htab:Lib.TabIs prog w "internal/strconv.uint64pow10" .u64 Lib.pow10Tab):Calls prog 297 #[.int .u64 u,.int .i64 10] w λe w'=>e= .returned (.string ⟨(Lib.decDigits u).toArray⟩)/\∃k os,w'=Go.Sort.grow (w.drewN k) os:=by
 have L:=yd;have mixed:=L.mixed;have t2:prog.underlying 3=some (.int .i64):=L.t3;have t446:prog.underlying 360=some (.array 24 5):=L.t171;have a446:∀w:World,(isAgg 360).run prog w= .ok true w:=L.a171;have z446:∀w:World,(Go.sizeOf 360).run prog w= .ok 24 w:=L.z171;have v446:=L.v171;have v446:∀w:World,(zeroValue 360).run prog w= .ok (.agg #[.int .u8 0,.int .u8 0,.int .u8 0,.int .u8 0,.int .u8 0,.int .u8 0,.int .u8 0,.int .u8 0,.int .u8 0,.int .u8 0,.int .u8 0,.int .u8 0,.int .u8 0,.int .u8 0,.int .u8 0,.int .u8 0,.int .u8 0,.int .u8 0,.int .u8 0,.int .u8 0,.int .u8 0,.int .u8 0,.int .u8 0,.int .u8 0]) w:=v446;have t9:=L.t9;have t154:prog.underlying 308=some (.slice 5):=L.t37;have e283:∀args w,(callFunc 326 args).run prog w= .ok (.enter 326 args) w:=enters_of L.f283 Trn.A7 rfl;have e284:∀args w,(callFunc 327 args).run prog w= .ok (.enter 327 args) w:=enters_of L.f284 Trn.A7 rfl;have e285:∀args w,(callFunc 328 args).run prog w= .ok (.enter 328 args) w:=enters_of L.f285 Trn.A7 rfl;by_cases hs:u<100
 .go_enter func297,ntmps297
  go_wp2_with (go_at_fn (326);refine(internal_strconv_small u hs _).mono ?_;rintro e w' ⟨rfl,rfl⟩)
  go_ret
  exact⟨rfl,0,#[],by simp[World.drewN_zero]⟩
 .have hu1:1<=u:=Trn.A4;have hnd20:Lib.nDigits u<=20:=by have:=Lib.numDigits_eq u hu1 hu64;split at this<;>omega
  have hb3:Lib.nDigits u<=23:=Trn.A4;have hal:prog.arrayLen 360=24:=by simp[Program.arrayLen,t446]
  have hsl:∀W,(Instr.sliceAt 360 (.pointer<|some ⟨w.heap.size,0,none⟩) none (some<| .int .i64 (Lib.nDigits u:Int)) none).run prog W= .ok (.slice (some ⟨w.heap.size,0,none⟩) (Lib.nDigits u) 24) W:=λW=>by
   rw[run_sliceAt_array_h W 360 ⟨w.heap.size,0,none⟩ (by simp[Program.arrayLen,Program.elem,t446]) .i64 (Lib.nDigits u:Int) Trn.A4 (by rw[hal];omega)]
   go_simp
  have hH0:=agb w 360 (Lib.nDigits u) Trn.A4;have hfmt:=internal_strconv_formatBase10 w.heap.size 0 24 u (Array.replicate (Lib.nDigits u) 0) (w.alloc<| .cells Lib.zeros24 360) hH0 (by rw[Array.size_replicate];exact Lib.lt_pow_nDigits u) hu64 (by rw[Array.size_replicate];omega);rw[Array.size_replicate] at hfmt;have HH0:=Lib.hid hH0;clear hH0 hal
  go_enter func297,ntmps297
  go_wp2_with (first
   |(go_at_fn (327);refine(Any.internal_strconv_numDigits {L with} u hu1 hu64 _<|Lib.tabIs_alloc htab _).mono ?_;rintro e w' ⟨rfl,rfl⟩))
  go_at_fn (328)
  refine hfmt.mono ?_;rintro e w' ⟨rfl,k,v',dk,rfl,hF⟩;have hcv:(convert 308 9<| .slice (some ⟨w.heap.size,0,none⟩) (Lib.nDigits u) 24).run prog ((putRow (λ(b:UInt8)=>Value.int .u8 (b.toNat:Int)) (w.alloc<| .cells Lib.zeros24 360) w.heap.size 0 dk).drewN k)= .ok (.string ⟨(Lib.decDigits u).toArray⟩) ((putRow (λ(b:UInt8)=>Value.int .u8 (b.toNat:Int)) (w.alloc<| .cells Lib.zeros24 360) w.heap.size 0 dk).drewN k):=by
   have h:=run_convert_bytes_back (P:=prog) ((putRow (λ(b:UInt8)=>Value.int .u8 (b.toNat:Int)) (w.alloc<| .cells Lib.zeros24 360) w.heap.size 0 dk).drewN k) 308 9 5 ⟨w.heap.size,0,none⟩ 24 (Lib.decDigits u) L.t37 L.t5 L.t9 (λj hj=>by rw[Lib.row_is_numeral hF j hj,Lib.add_plain,World.cell?_drewN];exact cell?_putRow (λ(b:UInt8)=>Value.int .u8 (b.toNat:Int)) _ w.heap.size 0 _ dk HH0.out (by rw[hF.size,Array.size_replicate]) j (by rw[hF.size];rw[Lib.decDigits_length] at hj;exact hj))
   rw[Lib.decDigits_length] at h;exact h
  go_wp2
  go_ret
  let⟨os,eo⟩:=al6 w (.cells Lib.zeros24 360) dk k;exact⟨rfl,k,os,eo⟩
set_option maxHeartbeats 6400000 in
set_option maxRecDepth 100000 in
def afW(u:Nat)(hu64:u<18446744073709551616)(w:World)
  (htab:Lib.TabIs prog w "internal/strconv.uint64pow10" .u64 Lib.pow10Tab):Calls prog 256 #[.int .u64 u,.int .i64 10] w λe w'=>e= .returned (.string ⟨(Lib.decDigits u).toArray⟩)/\∃k os,w'=Go.Sort.grow (w.drewN k) os:=by
 have L:=yd;have mixed:=L.mixed;have e316:∀args w,(callFunc 297 args).run prog w= .ok (.enter 297 args) w:=enters_of func297 Trn.A7 rfl;have h:=ahU u hu64 w htab
 go_enter func256,ntmps256
 go_wp2_with (go_at_fn (297);refine h.mono ?_;rintro e w' ⟨rfl,k,os,rfl⟩)
 go_ret
 exact⟨rfl,k,os,rfl⟩
def wO(w:World):∀k,(w.drewN k).os=w.os/\(w.drewN k).tape=w.tape/\(w.drewN k).output=w.output/\(w.drewN k).heap=w.heap
 |0=>⟨rfl,rfl,rfl,rfl⟩|k+1=>wO w.drew k
def wX{w:World}{k:Nat}{os:Array Obj}:Below w.heap.size w (Go.Sort.grow (w.drewN k) os):=by
 let⟨h1,h2,h3,h4⟩:=wO w k;refine⟨h1,h2,h3,?_,λi hi=>?_⟩
 .show w.heap.size<=((w.drewN k).heap++os).size;rw[h4,Array.size_append];omega
 .show((w.drewN k).heap++os)[i]? =_;rw[h4,Array.getElem?_append_left hi]
end
end Ox
namespace Trn
section
variable{α ρ σ:Type}{r:ρ}
def UZ(x:α)(K:α->AA ρ):bd (some x) K=K x:=rfl
def acb{n:Nat}(h:n<=9223372036854775807):AH (n:Int)=some (n:Int):=by unfold AH Hb;rw[B4 (show(-9223372036854775808:Int)<=(n:Int) by omega),B4 (show(n:Int)<=9223372036854775807 by omega)];rfl
def ab2{σ ρ α:Type}(L:A3 α)(Bd:(σ->AA ρ)->α->σ->AA ρ)(K:σ->AA ρ)(B:((σ×Int)->AA ρ)->σ×Int->AA ρ)(o:Nat)
  (jR:∀k u (i:Nat) x,L[i]? =some x->B k (u,((i+o:Nat):Int))=Bd (λu'=>k (u',((i+1+o:Nat):Int))) x u)
  (hend:∀k u,B k (u,((L.length+o:Nat):Int))=K u):∀(F i:Nat) (u:σ),i<=L.length->L.length-i<F->lp F B (u,((i+o:Nat):Int))=JX (L.drop i) Bd u K
 |0,i,u,_,h=>by omega
 |F+1,i,u,hi,hF=>by
  show B (lp F B) (u,_)=_;rcases Hj i L.length with h|h
  .rw[UC h];show _=Bd (λs=>JX (L.drop<|i+1) Bd s K) L[i] u;rw[jR _ _ i L[i]<|Gf h]
   congr 1
   funext u'
   exact ab2 L Bd K B o jR hend F (i+1) u' A4 A4
  .have:i=L.length:=A4;subst this;rw[hend,S8];rfl
def zx(L:A3 α)(Bd:(σ->AA ρ)->α->σ->AA ρ)(K:σ->AA ρ)(o:Nat){B:((σ×Int)->AA ρ)->σ×Int->AA ρ}{z:Int}{F:Nat}{u:σ}(hz:z=(o:Int))(hF:L.length<F)(hm:JX L Bd u K=some r)
 (jR:∀k u (i:Nat) x,L[i]? =some x->B k (u,((i+o:Nat):Int))=Bd (λu'=>k (u',((i+1+o:Nat):Int))) x u)
 (hend:∀k u,B k (u,((L.length+o:Nat):Int))=K u):lp F B (u,z)=some r:=by
 have h:=ab2 L Bd K B o jR hend F 0 u (FQ _) hF;rw[PX] at h;rw[hz,h];exact hm
theorem yk{b:Bool}{x r:α}(h:EL b x=some r):b=true/\x=r:=by grind [EL]
def JO(l:A3 α)(i:Nat):AB l (i:Int)=l[i]? :=rfl
theorem aeT{c0:A3 V3}{L:A3 (V3)}(ho:Vc c0=some L)(Bd:(σ->AA ρ)->V3->σ->AA ρ)(K:σ->AA ρ)(u:σ)(hm:JX L Bd u K=some r):kM c0 Bd K u=some r:=by
 obtain⟨hb,rfl⟩:=yk ho;have hb:c0.length<4000000000:=FT hb;unfold kM;refine zx c0 Bd K 0 rfl A4 hm ?_ ?_
 .intro k u i x hx;have hi:i<c0.length:=(FH.1 hx).1;dsimp only;rw[B4 (show((i+0:Nat):Int)<(c0.length:Int) by omega)];rw[BI,JO,Tw,hx,UZ];refine congrArg (λf=>Bd f x u)<|funext λu'=>?_
  rw[show(((i:Nat):Int)+1)=((i+1+0:Nat):Int) from by omega,acb A4,UZ]
 .grind
def yI{l:A3 α}{i:Nat}{x:α×α}(h:(Rv l)[i]? =some x):l[i]? =some x.1/\l[(i+1)%l.length]? =some x.2/\i<l.length:=by
 cases l with
 |nil=>simp[Rv] at h
 |cons a l=>
  unfold Rv at h;rw[qB] at h;let⟨h1,h2⟩:=h;have hi:i<(a::l).length:=(FH.1 h1).1;refine⟨h1,?_,hi⟩;simp only[E6] at hi⊢;rcases Hj i l.length with h3|h3
  .rw[S9 A4,List.getElem?_cons_succ];rw[MT h3] at h2;exact h2
  .have:i=l.length:=A4;subst this;rw[Nat.mod_self];rw[My<|BK _,Nat.sub_self] at h2;exact h2
theorem fE(l:A3 α):(Rv l).length=l.length:=by(simp_all [Rv]<;>grind)
def aep{c0:A3 V3}{L:A3 ((V3×V3))}(ho:Vj c0=some L)(Bd:(σ->AA ρ)->(V3×V3)->σ->AA ρ)(K:σ->AA ρ)(u:σ)(hm:JX L Bd u K=some r):ku c0 Bd K u=some r:=by
 obtain⟨hb,rfl⟩:=yk ho;have hb:c0.length<1000000000:=FT hb;unfold ku;refine zx (Rv c0) Bd K 0 rfl (by rw[fE];omega) hm ?_ ?_
 .intro k u i x hx;let⟨h1,h2,hi⟩:=yI hx;dsimp only;rw[B4 (show((i+0:Nat):Int)<(c0.length:Int) by omega)];have ef:AH (((i:Nat):Int)+1)=some ((i+1+0:Nat):Int):=by rw[show(((i:Nat):Int)+1)=((i+1+0:Nat):Int) from by omega,acb A4]
  have er:Fs ((i+1+0:Nat):Int) (c0.length:Int)=some (((i+1)%c0.length:Nat):Int):=by unfold Fs;rw[Bo A4,As,Int.tmod_eq_emod_of_nonneg A4];rfl
  rw[BI,JO,Tw,h1,UZ,ef,UZ,er,UZ,JO,h2,UZ];refine congrArg (λf=>Bd f (x.1,x.2) u)<|funext λu'=>?_
  rw[UZ]
 .intro k u;dsimp only;rw[Bo (by rw[fE];omega)];rfl
end
section
variable{P:Program}
variable{α:Type}{dep:Nat}{T:Am}{n:Nat}{fs:A3 (Am×Nat)}{IP:α->A3 Ty}{eb:α->α->Bool}{f:α->Ty}{off:Nat}
structure JP(P:CF)(T:Am){α:Type}[DecidableEq α](f:α->Ty)(n:Nat)(agg:Bool)(dep:Nat):Prop where
 lay:Bp P T n agg=true
 sz:∀x,(f x).n=n
 ag:∀x,(f x).agg=agg
 eq:∀(d:Nat) (H:HV) (u v:AV) (x y:α),(f x).ok H u->(f y).ok H v->∀w:AR,(Op.equalIn (d+dep) T u v).run P w= .ok (decide<|x=y) w
 chk:∀(d:Nat) (e:Bool) (H:HV) (u:AV) (x:α),(f x).ok H u->∀w:AR,(Instr.checkKey e (d+dep) T u).run P w= .ok () w
 uniq:∀(H:HV) (u v:AV) (x:α),(f x).ok H u->(f x).ok H v->u=v
 leaf:∀(H:HV) (u:AV) (x:α),(f x).ok H u->∀c∈u.cells.toList,∀m,Instr.sameBits m c c=true
theorem toList_inj{a b:AD}:((⟨a.toArray⟩:ByteArray).toList==(⟨b.toArray⟩:ByteArray).toList)=decide (a=b):=by
 rw[ByteArray.toList_eq,ByteArray.toList_eq];show(a.toArray.toList==b.toArray.toList)=_;simp[List.toList_toArray];by_cases h:a=b
 .subst h;simp
 .grind
def aj5(hl:Bp P T 1 false=true)(hu:P.underlying T=some .string):JP P T TS 1 false 1 where
 lay:=hl
 sz _:=rfl
 ag _:=rfl
 eq d H u v x y Jv JY w:=by have Jv:u= .string ⟨x.toArray⟩:=Jv;have JY:v= .string ⟨y.toArray⟩:=JY;subst Jv;subst JY;rw[run_equalIn_string w d T _ _ hu,toList_inj]
 chk d e H u x Jv w:=by have Jv:u= .string ⟨x.toArray⟩:=Jv;subst Jv;simp[Instr.checkKey,Et hu]
 uniq H u v x h1 h2:=Eq.trans h1<|Eq.symm h2
 leaf H u x h c hc m:=by
  have h:u= .string ⟨x.toArray⟩:=h;subst h;have hc:c= .string ⟨x.toArray⟩:=by simpa[Value.cells] using hc
  subst hc;simp[Instr.sameBits];rw[beq_toListBytes];simp
def aoP{k:IntKind}(hl:Bp P T 1 false=true)(hu:P.underlying T=some (.int k)):JP P T (TI k) 1 false 1 where
 lay:=hl
 sz _:=rfl
 ag _:=rfl
 eq d H u v x y Jv JY w:=by
  have Jv:u= .int k x:=Jv;have JY:v= .int k y:=JY;subst Jv;subst JY;rw[run_equalIn_int w d T k k _ _ hu]
  rfl
 chk d e H u x Jv w:=by have Jv:u= .int k x:=Jv;subst Jv;simp[Instr.checkKey,Et hu]
 uniq H u v x h1 h2:=Eq.trans h1<|Eq.symm h2
 leaf H u x h c hc m:=by
  have h:u= .int k x:=h;subst h;have hc:c= .int k x:=by simpa[Value.cells] using hc
  subst hc;simp[Instr.sameBits]
def JP.qj[DecidableEq α]{agg:Bool}{X7:Nat}(h:JP P T f n agg dep)(hd:dep<=X7):JP P T f n agg X7 where
 lay:=h.lay
 sz:=h.sz
 ag:=h.ag
 eq d H u v x y h1 h2 w:=by rw[show d+X7=(d+(X7-dep))+dep from by omega];exact h.eq _ H u v x y h1 h2 w
 chk d e H u x h1 w:=by rw[show d+X7=(d+(X7-dep))+dep from by omega];exact h.chk _ e H u x h1 w
 uniq:=h.uniq
 leaf:=h.leaf
inductive Rows(P:CF){α:Type}(dep:Nat):A3 (Am×Nat)->Nat->(α->A3 Ty)->(α->α->Bool)->Prop where
 |nil {off:Nat}:Rows P dep [] off (λ_=>[]) (λ_ _=>true)
 |cons {T:Am} {off n:Nat} {agg:Bool} {β:Type} [DecidableEq β] {g:β->Ty} {acc:α->β} {fs:A3 (Am×Nat)} {IP:α->A3 Ty} {eb:α->α->Bool}:
   JP P T g n agg dep->Rows P dep fs (off+n) IP eb->Rows P dep ((T,off)::fs) off (λx=>g (acc x)::IP x) (λx y=>decide (acc x=acc y)&&eb x y)
def eqL(d:Nat)(xs ys:B8 AV):A3 (Am×Nat)->Sem Bool
 |[]=>pure true
 |(T,o)::fs=>do
  let a<-part T xs o
  let b<-part T ys o
  let r<-Op.equalIn d T a b
  if(!r)=true then pure false else eqL d xs ys fs
def Py(e:Bool)(d:Nat)(xs:B8 AV):A3 (Am×Nat)->Sem Unit
 |[]=>pure ()
 |(T,o)::fs=>do
  let a<-part T xs o
  Instr.checkKey e d T a
  Py e d xs fs
def nk{agg:Bool}{τ:Ty}{l:A3 Ty}{H:HV}{cs:B8 AV}(hl:Bp P T n agg=true)(hn:τ.n=n)(ha:τ.agg=agg)(h:DT H (τ::l) (cs.toList.drop off))(ho:off<=cs.size):∃v,(∀w,(part T cs off).run P w= .ok v w)/\τ.ok H v/\DT H l (cs.toList.drop<|off+n)/\off+n<=cs.size:=by
 have hlen:=Mo h;rw[Ih,Fa] at hlen;have hc:CR (τ::l)=τ.n+CR l:=rfl;rw[hc,hn] at hlen;have hle:off+n<=cs.size:=A4;let⟨v,rest,e,hv,hr⟩:=h;have hs:=τ.shape hv;have e1:(cs.toList.drop off).take n=v.cells.toList:=by rw[e,<-hn,<-hs.size,<-Fa,iA]
 refine⟨v,λw=>?_,hv,?_,hle⟩
 .rw[oO hl hle,e1];have:=hs.eq;rw[ha] at this;rw[Array.toArray_toList];exact congrArg (λz=>Result.ok z w) this.symm
 .rw[<-FR,e,<-hn,<-hs.size,<-Fa,ZJ];exact hr
theorem am2(h:Rows P dep fs off IP eb):∀(d:Nat) (H:HV) (cs ds:B8 AV) (x y:α),DT H (IP x) (cs.toList.drop off)->DT H (IP y) (ds.toList.drop off)->off<=cs.size->off<=ds.size->∀w:AR,(eqL (d+dep) cs ds fs).run P w= .ok (eb x y) w:=by
 induction h with
 |nil=>intro d H cs ds x y _ _ _ _ w;rfl
 |cons hk hr ih=>
  intro d H cs ds x y h1 h2 o1 o2 w;let⟨u,p1,k1,r1,s1⟩:=nk hk.lay (hk.sz _) (hk.ag _) h1 o1;let⟨v,p2,k2,r2,s2⟩:=nk hk.lay (hk.sz _) (hk.ag _) h2 o2;unfold eqL;simp only[E0,p1,p2,hk.eq d H u v _ _ k1 k2,Dm];split
  .rename_i hb;rw[G5] at hb;rw[hb];rfl
  .grind
def ak6(h:Rows P dep fs off IP eb):∀(d:Nat) (e:Bool) (H:HV) (cs:B8 AV) (x:α),DT H (IP x) (cs.toList.drop off)->off<=cs.size->∀w:AR,(Py e (d+dep) cs fs).run P w= .ok () w:=by
 induction h with
 |nil=>intro d e H cs x _ _ w;rfl
 |cons hk hr ih=>intro d e H cs x h1 o1 w;let⟨u,p1,k1,r1,s1⟩:=nk hk.lay (hk.sz _) (hk.ag _) h1 o1;unfold Py;simp[E0,p1,hk.chk d e H u _ k1,Dm];exact ih d e H cs x r1 s1 w
def aic(h:Rows P dep fs off IP eb):∀(H:HV) (cs ds:A3 AV) (x:α),DT H (IP x) cs->DT H (IP x) ds->cs=ds:=by
 induction h with
 |nil=>intro H cs ds x h1 h2;exact Eq.trans h1<|Eq.symm h2
 |cons hk hr ih=>rintro H cs ds x ⟨u,r1,e1,k1,o1⟩ ⟨v,r2,e2,k2,o2⟩;rw[e1,e2,hk.uniq H u v _ k1 k2,ih H r1 r2 x o1 o2]
theorem aid(h:Rows P dep fs off IP eb):∀(H:HV) (cs:A3 AV) (x:α),DT H (IP x) cs->∀c∈cs,∀m,Instr.sameBits m c c=true:=by
 induction h with
 |nil=>intro H cs x h1 c hc;rw[show cs=[] from h1] at hc;cases hc
 |cons hk hr ih=>
  rintro H cs x ⟨u,r1,e1,k1,o1⟩ c hc m;rw[e1] at hc;rcases C3.1 hc with hc|hc
  .exact hk.leaf H u _ k1 c hc m
  .grind
def xY(d:Nat)(e:Am)(c:Nat)(xs ys:B8 AV):∀is:A3 Nat,Op.eqItems d e c xs ys is=eqL d xs ys (is.map λi=>(e,i*c))
 |[]=>rfl
 |i::is=>by unfold Op.eqItems;rw[MK];unfold eqL;simp[xY d e c xs ys is]
def aC(fs:A3 Field):Bool:=fs.all λf=>decide<|f.name≠ "_"
def wK(d:Nat)(xs ys:B8 AV):∀fs:A3 Field,aC fs=true->Op.eqFields d xs ys fs=eqL d xs ys (fs.map λf=>(f.type,f.offset))
 |[],_=>rfl
 |f::fs,h=>by unfold aC at h;rw[OM,C4,Hl] at h;unfold Op.eqFields;rw[if_pos h.1,MK];unfold eqL;simp[wK d xs ys fs h.2]
def ahj(e:Bool)(d:Nat)(t:Am)(xs:B8 AV){w:AR}(ht:P.underlying t=some (.struct<|P.fieldsOf t))(hn:aC (P.fieldsOf t).toList=true):(Instr.checkKey e (d+1) t<| .agg xs).run P w=(Py e d xs<|(P.fieldsOf t).toList.map λf=>(f.type,f.offset)).run P w:=by
 simp only[Instr.checkKey,E0,Kb ht,Dm];rw[<-Array.forIn_toList]
 generalize (P.fieldsOf t).toList=fs at hn
 clear ht
 induction fs generalizing w with
 |nil=>simp[Py]
 |cons f fs ih=>
  unfold aC at hn;rw[OM,C4,Hl] at hn;simp only[List.forIn_cons,MK,Py,E0,Sem.run_ite,if_pos hn.1]
  generalize (part f.type xs f.offset).run P w=r1
  cases r1 with
  |ok a w1=>
   simp only[Dm]
   generalize (Instr.checkKey e d f.type a).run P w1=r2
   cases r2 with
   |ok b w2=>simp only[Dm,K6];exact ih hn.2
   |halt x w2=>simp[Result.andThen]
  |halt x w1=>simp[Result.andThen]
def ajP(em:Bool)(d:Nat){t e:Am}{c:Nat}(xs:B8 AV){w:AR}(hu:P.underlying t=some (.array n e))(hi:∀w,(Go.sizeOf e).run P w= .ok c w):(Instr.checkKey em (d+1) t<| .agg xs).run P w=(Py em d xs<|(List.range n).map λi=>(e,i*c)).run P w:=by
 simp only[Instr.checkKey,E0,Kb hu,Dm];simp only[Std.Legacy.Range.forIn_eq_forIn_range',Std.Legacy.Range.size,Nat.sub_zero,Nat.add_one_sub_one,Nat.div_one,List.range_eq_range']
 generalize List.range' 0 n=is
 induction is generalizing w with
 |nil=>simp[Py]
 |cons j is ih=>
  simp[List.forIn_cons,MK,Py,E0,hi,Dm]
  generalize (part e xs<|j*c).run P w=r1
  cases r1 with
  |ok a w1=>
   simp[Dm]
   generalize (Instr.checkKey em d e a).run P w1=r2
   cases r2 with
   |ok b w2=>simp[Dm,K6];exact ih
   |halt x w2=>simp[Result.andThen]
  |halt x w1=>simp[Result.andThen]
def ab7[DecidableEq α](hl:Bp P T n true=true)(hf:∀x,f x=DB (IP x))(hn:∀x,CR (IP x)=n)
 (hr:Rows P dep fs 0 IP eb)(he:∀x y,eb x y=decide (x=y))
 (h1:∀(d:Nat) (xs ys:B8 AV) (w:AR),(Op.equalIn (d+1) T (.agg xs)<| .agg ys).run P w=(eqL d xs ys fs).run P w)
 (h2:∀(e:Bool) (d:Nat) (xs:B8 AV) (w:AR),(Instr.checkKey e (d+1) T<| .agg xs).run P w=(Py e d xs fs).run P w):JP P T f n true (dep+1) where
 lay:=hl
 sz x:=by rw[hf];exact hn x
 ag x:=by rw[hf];rfl
 eq d H u v x y hu hv w:=by rw[hf] at hu hv;obtain⟨cs,rfl,k1⟩:=hu;obtain⟨ds,rfl,k2⟩:=hv;rw[<-LD,h1,am2 hr d H cs ds x y k1 k2 (FQ _)<|FQ _,he]
 chk d e H u x hu w:=by rw[hf] at hu;obtain⟨cs,rfl,k1⟩:=hu;rw[<-LD,h2,ak6 hr d e H cs x k1<|FQ _]
 uniq H u v x hu hv:=by
  rw[hf] at hu hv;obtain⟨cs,rfl,k1⟩:=hu;obtain⟨ds,rfl,k2⟩:=hv
  congr 1
  exact Array.ext'<|aic hr H _ _ x k1 k2
 leaf H u x hu c hc m:=by rw[hf] at hu;obtain⟨cs,rfl,k1⟩:=hu;exact aid hr H _ x k1 c hc m
def o0[DecidableEq α](hl:Bp P T n true=true)(hf:∀x,f x=DB (IP x))(hn:∀x,CR (IP x)=n)
 (hr:Rows P dep fs 0 IP eb)(he:∀x y,eb x y=decide (x=y))
 (ht:P.underlying T=some (.struct<|P.fieldsOf T))(hs:P.stoodInHeld T=false)(hnm:aC (P.fieldsOf T).toList=true)(Kw:(P.fieldsOf T).toList.map (λf=>(f.type,f.offset))=fs):JP P T f n true (dep+1):=ab7 hl hf hn hr he (λd xs ys w=>by rw[run_equalIn_struct w d T xs ys ht hs,wK d xs ys _ hnm,Kw]) (λe d xs w=>by rw[ahj e d T xs ht hnm,Kw])
def yg{E:Am}{k c:Nat}{i:TypeInfo}[DecidableEq α](hl:Bp P T n true=true)(hf:∀x,f x=DB (IP x))(hn:∀x,CR (IP x)=n)
 (hr:Rows P dep fs 0 IP eb)(he:∀x y,eb x y=decide (x=y))
 (ht:P.underlying T=some (.array k E))(hi:P.info? E=some i)(hc:P.cellsOf E=c)(Kw:(List.range k).map (λi=>(E,i*c))=fs):JP P T f n true (dep+1):=ab7 hl hf hn hr he (λd xs ys w=>by rw[run_equalIn_array w d xs ys ht hi,xY,hc,Kw]) (λe d xs w=>by rw[ajP e d xs ht (c:=c) (λw=>by rw[run_sizeOf w hi,<-hc]),Kw])
def JP.key[DecidableEq α](h:JP P T f n true dep)(hd:dep<=10000)(hk:∃ud,P.underlying T=some ud/\∀u v,Instr.sameNow ud u v=none):SF P T f where
 eq H u v x y h1 h2 w:=by have:=h.eq (10000-dep) H u v x y h1 h2 w;rw[show 10000-dep+dep=10000 from by omega] at this;exact this
 check H u x h1 e w:=by have:=h.chk (10000-dep) e H u x h1 w;rw[show 10000-dep+dep=10000 from by omega] at this;exact this
 kind:=hk
 bits H u v x h1 h2:=by
  have:=h.uniq H u v x h1 h2;subst this;have hs:=(f x).shape h1;have ha:=hs.eq;rw[h.ag] at ha;have hl:=h.leaf H u x h1;rw[ha] at hl⊢;show Instr.sameBits (9999+1) (.agg u.cells) (.agg u.cells)=true;simp only[Instr.sameBits,beq_self_eq_true,Lq];rw[Dj];intro p hp;have:p.1=p.2/\p.1∈u.cells.toList:=by let⟨i,hi⟩:=Za.1 hp;rw[qB] at hi;let⟨h5,h6⟩:=hi;rw[h5] at h6;exact⟨E8 h6,LM h5⟩
  let⟨e1,e2⟩:=this;rw[<-e1];exact hl p.1 e2 _
def JP.eqs[DecidableEq α](h:JP P T f n true dep)(hd:dep<=10000)(hg:P.eqGuardType P.depth T=false):UR P T f where
 run H u v x y h1 h2 w:=by have:=h.eq (10000-dep) H u v x y h1 h2 w;rw[show 10000-dep+dep=10000 from by omega] at this;exact this
 guard H u v x y h1 h2 o p q w:=by have a1:=((f x).shape h1).eq;have a2:=((f y).shape h2).eq;rw[h.ag] at a1 a2;rw[a1,a2];exact run_eqGuard_agg w o T p q _ _ hg
 agg:=h.ag
end
def az:JP prog 35 TS 1 false 1:=aj5 A7 A7
def kt3:JP prog 3 (TI .i64) 1 false 1:=aoP A7 A7
def rf:JP prog 34 MM 3 true 2:=
 yg (k:=3) (E:=3) (c:=1) (fs:=[(3,0),(3,1),(3,2)]) A7 (λ_=>rfl) (λ_=>rfl)
  (Rows.cons (acc:=λx:Int×Int×Int=>x.1) kt3<|Rows.cons (acc:=λx:Int×Int×Int=>x.2.1) kt3<|Rows.cons (acc:=λx:Int×Int×Int=>x.2.2) kt3 Rows.nil)
  (λx y=>by let⟨a,b,c⟩:=x;let⟨a',b',c'⟩:=y;simp[Qd,ZN]) A7 (i:=(prog.info? 3).get A7) A7 A7 rfl
def aqR:JP prog 127 NJ 4 true 3:=
 o0 (fs:=[(34,0),(35,3)]) A7 (λ_=>rfl) (λ_=>rfl)
  (Rows.cons (acc:=λx:(Int×Int×Int)×AD=>x.1) rf<|Rows.cons (acc:=λx:(Int×Int×Int)×AD=>x.2) (az.qj A4) Rows.nil)
  (λx y=>by let⟨a,b⟩:=x;let⟨a',b'⟩:=y;simp[Qd,ZN]) A7 A7 A7 A7
def acJ:JP prog 52 CY 3 true 2:=
 yg (k:=3) (E:=35) (c:=1) (fs:=[(35,0),(35,1),(35,2)]) A7 (λ_=>rfl) (λ_=>rfl)
  (Rows.cons (acc:=λx:AD×AD×AD=>x.1) az<|Rows.cons (acc:=λx:AD×AD×AD=>x.2.1) az<|Rows.cons (acc:=λx:AD×AD×AD=>x.2.2) az Rows.nil)
  (λx y=>by let⟨a,b,c⟩:=x;let⟨a',b',c'⟩:=y;simp[Qd,ZN]) A7 (i:=(prog.info? 35).get A7) A7 A7 rfl
def acK:JP prog 37 Af 4 true 3:=
 o0 (fs:=[(34,0),(35,3)]) A7 (λ_=>rfl) (λ_=>rfl)
  (Rows.cons (acc:=λx:(Int×Int×Int)×AD=>x.1) rf<|Rows.cons (acc:=λx:(Int×Int×Int)×AD=>x.2) (az.qj A4) Rows.nil)
  (λx y=>by let⟨a,b⟩:=x;let⟨a',b'⟩:=y;simp[Qd,ZN]) A7 A7 A7 A7
def asa:JP prog 69 L4 7 true 4:=
 o0 (fs:=[(37,0),(52,4)]) A7 (λ_=>rfl) (λ_=>rfl)
  (Rows.cons (acc:=λx:HfZ×CV=>x.1) acK<|Rows.cons (acc:=λx:HfZ×CV=>x.2) (acJ.qj A4) Rows.nil)
  (λx y=>by let⟨a,b⟩:=x;let⟨a',b'⟩:=y;simp[Qd,ZN]) A7 A7 A7 A7
def abf:SF prog 127 NJ:=aqR.key A4 ⟨.struct<|prog.fieldsOf 127,A7,λ_ _=>rfl⟩
def rC:UR prog 34 MM:=rf.eqs A4 A7
def jZ:UR prog 52 CY:=acJ.eqs A4 A7
def arD:UR prog 37 Af:=acK.eqs A4 A7
def arC:UR prog 69 L4:=asa.eqs A4 A7
def Acc{Y:Type}(b:Nat)(B:A3 Y->AA (A3 Y)):Prop:=∀s r,B s=some r->∃ys,r=s++ys/\((s.length*b<=140737488355328->r.length*b<=140737488355328))/\∀s',(s'.length+ys.length)*b<=140737488355328->B s'=some (s'++ys)
section
variable{Y:Type}{b:Nat}
variable{X:Type}{B:X->A3 Y->AA (A3 Y)}
def Acc.some:Acc (Y:=Y) b λs=>Option.some s:=λs r h=>by cases h;exact⟨[],AX,id,λs' _=>by simp⟩
def Acc.none:Acc (Y:=Y) b λ_=>Option.none:=λs r h=>by cases h
def Acc.bdc{e:AA X}{K:X->A3 Y->AA (A3 Y)}(h:∀x,Acc b<|K x):Acc b λs=>bd e λx=>K x s:=λs r hr=>by let⟨x,he,hr⟩:=Ng hr;let⟨ys,h1,h2,h3⟩:=h x s r hr;exact⟨ys,h1,h2,λs' hs=>by rw[he];exact h3 s' hs⟩
def Acc.gc{c:Bool}{K:A3 Y->AA (A3 Y)}(h:Acc b K):Acc b λs=>gC c (K s):=λs r hr=>by cases c with|false=>cases hr|true=>exact h s r hr
theorem Acc.cond{c:Bool}{A B:A3 Y->AA (A3 Y)}(h:Acc b A)(k:Acc b B):Acc b λs=>cond c (A s) (B s):=by cases c<;>simp_all [Acc]
def Acc.arG{c:A3 Y->Bool}{A B:A3 Y->AA (A3 Y)}(hc:∀s,c s=c [])(h:Acc b A)(k:Acc b B):Acc b λs=>_root_.cond (c s) (A s) (B s):=by
 have e:(λs=>_root_.cond (c s) (A s)<|B s)=λs=>_root_.cond (c []) (A s) (B s):=by funext s;rw[hc s]
 rw[e];exact Acc.cond h k
def Acc.app{e:Y}{K:A3 Y->AA (A3 Y)}(hb:Nat.ble 1 b=true)(h:Acc b K):Acc b λs=>bd (BG b s [e]) λx=>K x:=λs r hr=>by
 have hb:=FT hb;let⟨x,hx,hr⟩:=Ng hr;have acY:∀s:A3 Y,(s.length+1)*b<=140737488355328->BG b s [e]=Option.some (s++[e]):=λs hs=>by
  unfold BG;have h1:s.length+1<=9223372036854775807:=by have:=Nat.le_mul_of_pos_right (s.length+1) (show 0<b by omega);omega
  simp[hs,h1]
 have hxs:x=s++[e]/\(s.length+1)*b<=140737488355328:=by
  by_cases hc:(s.length+1)*b<=140737488355328
  .rw[acY s hc] at hx;exact⟨(E8 hx).symm,hc⟩
  .unfold BG at hx;simp[hc] at hx
 obtain⟨rfl,Sb⟩:=hxs;let⟨ys,h1,h2,h3⟩:=h _ r hr;refine⟨e::ys,by rw[h1];simp,λ_=>h2 (by simpa using Sb),λs' hs=>?_⟩;have DO:(s'.length+1+ys.length)*b<=140737488355328:=by
  have:s'.length+(e::ys).length=s'.length+1+ys.length:=by simp;omega
  rwa [this] at hs
 show bd (BG b s' [e]) (λx=>K x)=_;rw[acY s'<|Ct (LL b A4) DO];show K (s'++[e])=_;rw[h3 (s'++[e]) (by simpa using DO)];simp
def zD{X:Type}{B:X->A3 Y->AA (A3 Y)}(hB:∀x,Acc b<|B x):∀{l:A3 X} {s r:A3 Y},Pu B l s=Option.some r->s.length*b<=140737488355328->∃Ys:A3 (A3 Y),Ys.length=l.length/\r=s++Ys.flatten/\r.length*b<=140737488355328/\
  ∀p∈l.zip Ys,∀s',(s'.length+p.2.length)*b<=140737488355328->B p.1 s'=Option.some (s'++p.2)
 |[],s,r,h,hs=>by cases h;exact⟨[],rfl,AX,hs,AX⟩
 |x::l,s,r,h,hs=>by
  let⟨s1,hx,h⟩:=Ng h;let⟨ys,h1,h2,h3⟩:=hB x s s1 hx;let⟨Ys,k1,k2,k3,k4⟩:=zD hB h<|h2 hs
  refine⟨ys::Ys,by simp[k1],by rw[k2,h1];simp,k3,?_⟩;intro p hp;rw[List.zip_cons_cons,Aq] at hp;rcases hp with rfl|hp
  .exact h3
  .exact k4 p hp
def yn{X:Type}{B:X->A3 Y->AA (A3 Y)}:∀{q:A3 (X×A3 Y)} {s:A3 Y},(∀p∈q,∀s',(s'.length+p.2.length)*b<=140737488355328->B p.1 s'=Option.some (s'++p.2))->(s++(q.map (·.2)).flatten).length*b<=140737488355328->Pu B (q.map (·.1)) s=Option.some (s++(q.map (·.2)).flatten)
 |[],s,_,_=>by simp[Pu]
 |p::q,s,h,hl=>by
  have hl':(s.length+p.2.length+((q.map (·.2)).flatten).length)*b<=140737488355328:=by simpa[LD] using hl
  show bd (B p.1 s) _=_;rw[h p AX s<|Ct (LL b A4) hl'];show Pu B (q.map (·.1)) (s++p.2)=_;rw[yn (λp' hp'=>h p' (by simp[hp'])) (by simpa[LD] using hl')];simp
def akF{Z:Type}:∀{l π:A3 X} {Zs:A3 Z},π.Perm l->Zs.length=l.length->∃q:A3 (X×Z),q.Perm (l.zip Zs)/\q.map (·.1)=π:=by
 intro l π Zs hp
 induction hp generalizing Zs with
 |nil=>intro h;exact⟨[],AX,rfl⟩
 |cons x hp ih=>
  intro h;cases Zs with
  |nil=>simp at h
  |cons z Zs=>obtain⟨q,h1,h2⟩:=ih (by simpa using h);exact⟨(x,z)::q,by simpa using h1,by simp[h2]⟩
 |swap x y l=>
  intro h
  match Zs,h with
  |z1::z2::Zs,h=>
   refine⟨(y,z2)::(x,z1)::l.zip Zs,by simpa using List.Perm.swap _ _ _,?_⟩;have:Zs.length=l.length:=by simpa using h
   simp[List.map_fst_zip,this]
 |trans h1 h2 ih1 ih2=>
  intro h;obtain⟨q2,a1,a2⟩:=ih2 h;obtain⟨q1,b1,b2⟩:=ih1 (Zs:=q2.map (·.2)) (by rw[Be,<-a2,Be]);refine⟨q1,b1.trans ?_,b2⟩;have:(List.zip (q2.map (·.1))<|q2.map (·.2))=q2:=by rw[List.zip_map'];simp
  rw[<-a2,this];exact a1
def alW(hB:∀x,Acc b<|B x){l π:A3 X}{r:A3 Y}(h:Pu B l []=Option.some r)(hp:π.Perm l):∃r',Pu B π []=Option.some r'/\r'.Perm r:=by
 let⟨Ys,h1,h2,h3,h4⟩:=zD hB h AX;let⟨q,q1,q2⟩:=akF hp h1;have hq:((q.map (·.2)).flatten).Perm r:=by rw[h2,K7];refine List.Perm.flatten ?_;have:=q1.map (·.2);rwa [List.map_snd_zip A4] at this
 refine⟨_,by rw[<-q2];exact yn (b:=b) (λp hp s' hs=>h4 p (q1.mem_iff.1 hp) s' hs) (by rw[K7,hq.length_eq];exact h3),?_⟩;simpa using hq
end
section
variable{α:Type}[DecidableEq α]{c:α×α->Option Int}
def wI{rk:α->Nat}:∀{s:A3 α} {x:α},(∀y∈s,∃v,c (x,y)=some v/\(v<0↔rk x<rk y))->s.Pairwise (λa b=>rk b<=rk a)->∃s',Nx (λa b=>c (a,b)) x s=some s'/\s'.Pairwise λa b=>rk b<=rk a
 |[],x,_,_=>⟨[x],rfl,AX⟩
 |y::s,x,h,hs=>by
  let⟨v,hv,hr⟩:=h y AX;let⟨hy,DO⟩:=JF.1 hs;cases hd:decide (v<0) with
  |true=>
   let⟨s',h1,h2⟩:=wI (λz hz=>h z<|By _ hz) DO;refine⟨y::s',?_,JF.2 ⟨λz hz=>?_,h2⟩⟩
   .show bd (c (x,y)) _=_;rw[hv];show cond (decide<|v<0) _ _=_;rw[hd];show bd (Nx (λa b=>c (a,b)) x s) _=_;rw[h1];rfl
   .rcases Aq.1 ((fI h1).mem_iff.1 hz) with e|hz
    .subst e;have:=hr.1<|Ar hd
     omega
    .exact hy z hz
  |false=>
   refine⟨x::y::s,?_,JF.2 ⟨λz hz=>?_,hs⟩⟩
   .show bd (c (x,y)) _=_;rw[hv];show cond (decide<|v<0) _ _=_;rw[hd];rfl
   .have hn: ¬rk x<rk y:=λh=>by have:=hr.2 h;simp[this] at hd
    rcases Aq.1 hz with e|hz
    .subst e;omega
    .have:=hy z hz;omega
def vB{rk:α->Nat}:∀{l s:A3 α},(∀x∈s++l,∀y∈s++l,∃v,c (x,y)=some v/\(v<0↔rk x<rk y))->s.Pairwise (λa b=>rk b<=rk a)->∃s',JX l (λnext x s=>bd (Nx (λa b=>c (a,b)) x s) next) s (λs=>some s.reverse)=some s'/\s'.Pairwise (λa b=>rk a<=rk b)
 |[],s,_,hs=>⟨s.reverse,rfl,List.pairwise_reverse.2 hs⟩
 |x::l,s,h,hs=>by
  let⟨s1,h1,h2⟩:=wI (c:=c) (rk:=rk) (s:=s) (x:=x) (λy hy=>h x AX y (by simp[hy])) hs;have hp:=fI h1;let⟨s',h3,h4⟩:=vB (l:=l) (s:=s1) (λa ha b hb=>by
   have mem:∀z,z∈s1++l->z∈s++x::l:=λz hz=>by
    rcases C3.1 hz with hz|hz
    .rcases Aq.1 (hp.mem_iff.1 hz) with e|hz
     .simp[e]
     .simp[hz]
    .simp[hz]
   exact h a (mem a ha) b<|mem b hb) h2
  refine⟨s',?_,h4⟩;show bd (Nx (λa b=>c (a,b)) x s) _=_;rw[h1];exact h3
def agA{l l' r:A3 α}(h:Ic l c=some r)(hp:l'.Perm l):Ic l' c=some r:=by
 let⟨h1,h2,h3,h4⟩:=YD h;have mem:∀x∈l',x∈r:=λx hx=>h1.mem_iff.2<|hp.mem_iff.1 hx
 have key:∀x∈l',∀y∈l',∃v,c (x,y)=some v/\(v<0↔r.idxOf x<r.idxOf y):=λx hx y hy=>by
  let⟨v,hv⟩:=h3 x (hp.mem_iff.1 hx) y<|hp.mem_iff.1 hy
  exact⟨v,hv,fR h2 (mem x hx) (mem y hy) hv⟩
 let⟨s',k1,k2⟩:=vB (c:=c) (rk:=λx=>r.idxOf x) (l:=l') (s:=[]) (by simpa using key) List.Pairwise.nil;have k1:jF (λa b=>c (a,b)) l'=some s':=k1;have e:s'=r:=wy h2 ((vY k1).trans<|hp.trans h1.symm) k2;subst e;unfold Ic;rw[k1];show EL _ s'=_;have g1:Nat.blt l'.length 4611686018427387904=true:=by rw[hp.length_eq];exact Ii h4
 have g2:totB c l'=true:=Dj.2 λx hx=>Dj.2 λy hy=>by let⟨v,hv,_⟩:=key x hx y hy;rw[hv];rfl
 rw[g1,g2,h2];rfl
end
def ad4{x4:_}{r:_}(hm:Sp (λ(x7:HfZ×V3) (s6:(A3<|HfZ×CV))=>bd (XU x7.2) λx9=>cond (x9) (some s6) (bd (VE x7.2) λBN=>cond (!decide (BN.2=(0:Int))) (none) (bd (BG 88 s6 ([((x7.1.1,x7.1.2),BN.1)]:A3 (HfZ×CV))) λBc=>some Bc))) x4 [] (λ(s6:(A3<|HfZ×CV))=>bd (Ic s6<|λx=>bY x.1 x.2) λBf=>some (Bf,(0:Int)))=some r):∀π,π.Perm x4->Sp (λ(x7:HfZ×V3) (s6:(A3<|HfZ×CV))=>bd (XU x7.2) λx9=>cond (x9) (some s6) (bd (VE x7.2) λBN=>cond (!decide (BN.2=(0:Int))) (none) (bd (BG 88 s6 ([((x7.1.1,x7.1.2),BN.1)]:A3 (HfZ×CV))) λBc=>some Bc))) π [] (λ(s6:(A3<|HfZ×CV))=>bd (Ic s6<|λx=>bY x.1 x.2) λBf=>some (Bf,(0:Int)))=some r:=by
 intro π hπ;let⟨s,hs,hr⟩:=Ng hm;let⟨s',DO,hp⟩:=alW (b:=88) (by
  intro x
  repeat' (first|exact Acc.some|exact Acc.none|refine Acc.app rfl ?_|refine Acc.arG (λ_=>rfl) ?_ ?_|(refine Acc.bdc<|λx=>?_)|fail)) hs hπ
 unfold Sp;rw[DO];let⟨y,hy,hr⟩:=Ng hr;show bd (Ic s' _) _=_;rw[agA hy hp];exact hr
end Trn
namespace Ox
section
open Go.Shelf Go.Lib
def aeZ(m n:Nat)(h:n<=m):(⟨(List.replicate m (48:UInt8)).toArray⟩:ByteArray).extract 0 n=⟨(List.replicate n 48).toArray⟩:=by apply ByteArray.ext;rw[ByteArray.data_extract];apply Array.ext';simp[List.take_replicate,Nat.min_eq_left h]
set_option maxHeartbeats 4000000 in
set_option maxRecDepth 1000000 in
def aro(n:Nat)(h2:2<=n)(h:n<=64)(w:World):Calls prog 257 #[.string ⟨#[48]⟩,.int .i64 n] w λe w'=>e= .returned (.string ⟨(List.replicate n 48).toArray⟩)/\∃k,w'=w.drewN k:=by
 have e317:∀args w,(callFunc 298 args).run prog w= .ok (.enter 298 args) w:=enters_of func298 Trn.A7 rfl;have e232:∀args w,(callFunc 205 args).run prog w= .ok (.enter 205 args) w:=enters_of func205 Trn.A7 rfl;have hmul:=λw=>bits_Mul 1 n Trn.A4 Trn.A4 w
 have hp:=λs w=>strings_HasPrefix s ⟨#[48]⟩ w
 go_enter func257,ntmps257
 go_wp2_with (first|(go_at_fn (298);refine(hmul _).mono ?_;rintro e w' ⟨rfl,rfl⟩)|(go_at_fn (205);refine(hp _ _).mono ?_;rintro e w' ⟨rfl,rfl⟩))
 go_ret
 refine⟨?_,0,by simp[World.drewN_zero]⟩;have hm:n%18446744073709551616=n:=Nat.mod_eq_of_lt Trn.A4;show Ending.returned (Value.string<|ByteArray.extract _ 0<|n%18446744073709551616)=_;rw[hm]
 congr 2
 exact aeZ 64 n h
end
end Ox
namespace Trn
section
open Go.Shelf
variable[D:DR]
variable{cur:B8 AV}
theorem ahR{k n:Nat}{ps qs xs:A3 AV}{w:AR}{blk:Nat}{E:Am}[Inhabited<|Fin n](hl:xs.length=n*k)(hb:w.heap[blk]? =some (.cells cur E (0,0)))(ht:cur.toList=ps++(xs++qs)):Go.Sort.HoldsK (λi:Fin n=>chunk k xs i) k w blk ps.length (Array.ofFn λi:Fin n=>i):=by
 unfold Go.Sort.HoldsK Go.Sort.Holds;intro j hj;rw[Go.Sort.size_flatK,W7] at hj;have M3:cur[ps.length+j]? =xs[j]? :=by rw[<-Pm,ht,My A4,Nat.add_sub_cancel_left,MT A4]
 have hk:0<k:=(LJ k).elim (λe=>by subst e;simp at hj) id;have hi:j/k<n:=Nat.div_lt_of_lt_mul (by rw[MJ];exact hj);refine⟨?_,by simp[World.frozen?,hb]⟩;rw[Go.Sort.get_flatK _ _ _ _ (by simpa using hj)];rw[ZR hb,M3];have e1:(Array.ofFn λi:Fin n=>i)[j/k]! =⟨j/k,hi⟩:=by rw[K5 (Array.ofFn λi:Fin n=>i) (j/k) (by simpa using hi)];simp
 rw[e1];have hg:=xk hl hj;have hlt:j%k<(chunk k xs<|j/k).length:=by rw[TZ hl hi];exact OL _ hk
 show xs[j]? =some (id (chunk k xs<|j/k)[j%k]!);rw[<-hg,K5 (chunk k xs<|j/k) (j%k) hlt,Gf hlt];rfl
theorem ad9{α:Type}[Inhabited α]{enc:α->A3 AV}{k:Nat}{w:AR}{blk off m:Nat}{dk:B8 α}{os:B8 Obj}{E:Am}{fr:Nat×Nat}(hb:w.heap[blk]? =some (.cells cur E fr)):(sortWorldK enc k w blk off m dk os).heap[blk]? =some (.cells (Go.Sort.putCells id off (Go.Sort.flatK enc k dk) cur) E fr):=by
 unfold sortWorldK Go.Sort.grow Go.Sort.putRowK Go.Sort.putRow Go.Sort.mapBlock Go.Sort.ahead;simp only[iQ,Array.size_modify,lt_of_heap hb,if_pos,U9,hb,Pb]
 rfl
theorem afI{ps xs qs:A3 AV}{d:B8 AV}(h:cur.toList=ps++(xs++qs))(hd:d.size=xs.length):(Go.Sort.putCells id ps.length d cur).toList=ps++(d.toList++qs):=by
 have hs:cur.size=ps.length+(xs.length+qs.length):=by rw[<-Fa,h];simp
 apply WC;intro i;rw[Pm];unfold Go.Sort.putCells;rw[Array.getElem?_mapIdx,<-Pm,h];rcases Hj i ps.length with h1|h1
 .rw[MT h1,MT h1];cases ps[i]? with|none=>rfl|some v=>simp;omega
 .rw[My h1,My h1];rcases Hj (i-ps.length) xs.length with h2|h2
  .rw[MT h2,MT (by simpa[hd] using h2),Gf h2,Pb,if_pos ⟨h1,A4⟩,Pm,iW A4,K5 d _ A4];rfl
  .have e3:d.toList.length=xs.length:=by rw[<-hd];exact Fa
   rw[My h2,My (by rw[e3];exact h2),e3];cases qs[i-ps.length-xs.length]? with|none=>rfl|some v=>simp;omega
end
section
open Go.Shelf
variable[D:DR]
variable{P:Program}{ρ:Ren}{A:Type}[DecidableEq A]{τ:A->Ty}{k:Nat}{c:A×A->Option Int}
set_option maxHeartbeats 1000000 in
theorem agy(L:SlLaysF0.n6 P ρ)(aE:∀w,(isAgg<|ρ.t 24).run P w= .ok true w)(zE:∀w,(Go.sizeOf<|ρ.t 24).run P w= .ok k w)(hc:Gd P (ρ.f 6)=true)
  (hn:∀a,(τ a).n=k)(ha:∀a,(τ a).agg=true)(none:∀(p:AA Addr) (cap:Nat) (fv:AV) (w:AR),Calls P (ρ.f 6) #[.slice p 0 cap,fv] w λe w'=>e= .returned (.tuple #[])/\w'=w)
  {l r:A3 A}(hm:Ic l c=some r){ps qs:A3 AV}:JB P (ρ.f 6) [] (.Ew (ρ.t 24) ps qs<|lT τ l) (.Ew (ρ.t 24) ps qs<|lT τ r) [L1 P (λx:A×A=>[τ x.1,τ x.2]) (λx:Int=>[(TI .i64) x]) c] []:=by
 let⟨h1,h2,h3,h4⟩:=YD hm;have hrl:r.length=l.length:=h1.length_eq;refine⟨hc,λw H v pv qv sub gl hp hq hs=>?_⟩;have hp:=Z8 hp;subst hp;obtain⟨fv,rfl,hfv⟩:=PT hq;obtain⟨g,cap,F2,rfl,Qt,hf⟩:=hfv;obtain⟨blk,Eh,cur,xs,rfl,hblk,M3,Aw,hB,jV⟩:=hs;have hlen:(lT τ l).length=l.length:=Be ..;have UX:(lT τ r).length=l.length:=by rw[Be,hrl]
 rw[hlen];have LS:∀b,Value.ownBlock (.slice (some ⟨blk,ps.length,.none⟩) l.length Eh)=some b->H b= .none:=λb hb=>by cases hb;exact hB
 by_cases hl0:l=[]
 .subst hl0;have hr:r=[]:=List.Perm.eq_nil h1;subst hr;refine(none _ Eh _ w).mono ?_;rintro e w' ⟨rfl,rfl⟩;exact⟨_,rfl,H,(Tr.refl _ _).LS sub LS,⟨blk,Eh,cur,xs,rfl,hblk,M3,Aw,hB,jV⟩,λb hb=> .inl hb,#[],rfl,rfl⟩
 .have hpos:0<l.length:=WI.2 hl0
  haveI:Inhabited (Fin l.length):=⟨⟨0,hpos⟩⟩
  let⟨GN,KU⟩:=TV hn ha Aw
  let cf:Fin l.length->Fin l.length->Int:=λi j=>(c (l[i],l[j])).getD 0
  have tot:∀i j:Fin l.length,c (l[i],l[j])=some (cf i j):=λi j=>by
   let⟨v,hv⟩:=h3 _ (Lv i.2) _<|Lv j.2
   have hv:c (l[i],l[j])=some v:=hv;show c (l[i],l[j])=some ((c (l[i],l[j])).getD 0);rw[hv];rfl
  have Ug:=Ef.can (D:=DR.strict)<|hf _ _<|tot ⟨0,hpos⟩ ⟨0,hpos⟩
  have hcmp:=wR (P:=P) (off:=ps.length) hn ha Aw sub gl hB Qt hf cf tot;have hd:(Array.ofFn λi:Fin l.length=>i).size=l.length:=W7;have main:=AnyQ.slices_SortFunc L k aE zE (λi:Fin l.length=>chunk k xs i) (λi=>TZ GN i.2)
   (λi u hu=>Rp Aw u<|U8<|Qe hu) cf (xx hm tot) g cap blk ps.length Eh (Array.ofFn λi:Fin l.length=>i) w
   (λargs w=>P6 Ug args w) (by rw[hd];exact hcmp) (ahR GN hblk M3) (lt_of_heap hblk) (by rw[hd];exact h4)
  rw[hd] at main;refine main.mono ?_;rintro e w' ⟨rfl,d',m,os,Wm,qw,rfl⟩;let⟨hdz,hdr⟩:=wz hm tot Wm qw;have Kw:(Go.Sort.flatK (λi:Fin l.length=>chunk k xs i) k d').size=l.length*k:=by rw[Go.Sort.size_flatK,hdz]
  refine⟨_,rfl,H,Tr.LS (M:=λb=>Value.ownBlock (.slice (some ⟨blk,ps.length,.none⟩) l.length Eh)=some b) ⟨kq,rfl,rfl,rfl,?_,λi hi hne=>Xd hi (λe=>hne (by rw[e];rfl))⟩ sub LS,⟨blk,Eh,_,(Go.Sort.flatK (λi:Fin l.length=>chunk k xs i) k d').toList,by rw[UX],ad9 hblk,afI M3 (by rw[Kw,GN]),?_,hB,jV⟩,λb hb=> .inl hb,#[],rfl,rfl⟩
  .refine Gv.of ?_;show w.drawn<=(sortWorldK _ k w blk _ m d' os).drawn;unfold sortWorldK Go.Sort.grow Go.Sort.putRowK Go.Sort.putRow Go.Sort.mapBlock Go.Sort.ahead;exact U3 _ _
  .refine dW (by rw[Fa,Kw,hrl]) λi hi=>?_
   have hi2:i<d'.size:=A4;rw[nM (λi=>TZ GN i.2) hi2];rw[K5 d' i hi2];have e:r[i]=l[d'[i]]:=by
    have:r[i]? =(d'.toList.map λi=>l[i])[i]? :=by rw[hdr]
    rw[Gf hi,Gy,Pm,iW hi2] at this;simpa using this
   rw[e];exact KU _ d'[i].2
end
section
variable[D:DR]
variable{l r:A3 V3}
theorem ak4{l r:A3 (HfZ×CV)}{c:(HfZ×CV)×(HfZ×CV)->AA Int}(hm:Ic l c=some r):JB prog 69 [] (.buf 69 7<|lT L4 l) (.buf 69 7<|lT L4 r) [(L1 prog (λ(x:(HfZ×CV)×(HfZ×CV))=>[L4 x.1,L4 x.2])<|λ(x:Int)=>[(TI .i64) x]) c] []:=nZ (ρ:=vr) aah (k:=7) isAgg69 sizeOf69 A7 (λ_=>rfl) (λ_=>rfl) (AnyF.slices_SortFunc_none aah) hm
theorem aiZ{c:V3×V3->AA Int}(hm:Ic l c=some r):JB prog 174 [] (.buf 102 12<|lT B0 l) (.buf 102 12<|lT B0 r) [(L1 prog (λ(x:V3×V3)=>[B0 x.1,B0 x.2])<|λ(x:Int)=>[(TI .i64) x]) c] []:=nZ (ρ:=mK) fp (k:=12) isAgg102 sizeOf102 A7 (λ_=>rfl) (λ_=>rfl) (AnyF.slices_SortFunc_none fp) hm
theorem ah3{c:V3×V3->AA Int}(hm:Ic l c=some r){ps qs:A3 AV}:JB prog 174 [] (.Ew 102 ps qs<|lT B0 l) (.Ew 102 ps qs<|lT B0 r) [(L1 prog (λ(x:V3×V3)=>[B0 x.1,B0 x.2])<|λ(x:Int)=>[(TI .i64) x]) c] []:=agy (ρ:=mK) fp (k:=12) isAgg102 sizeOf102 A7 (λ_=>rfl) (λ_=>rfl) (AnyF.slices_SortFunc_none fp) hm
theorem aes{c:V3×V3->AA Bool}(hm:YZ l c=some r):j4 prog 220 102 12 (lT B0 l) [(L1 prog (λ(x:V3×V3)=>[B0 x.1,B0 x.2])<|λ(x:Bool)=>[Av x]) c] (lT B0 r):=
 afZ (k:=12) A7 (λ_=>rfl) (λ_=>rfl) Ox.ahe
  (Ox.ahc func220 mixed rfl underlying3 isAgg3 sizeOf3 zeroValue3 underlying4 isAgg4 sizeOf4 underlying116 isAgg116 sizeOf116 isAgg102 sizeOf102 _ zeroValue102 (by rfl) Le) hm
theorem aiY{l r:BdZ}{c:HfZ×HfZ->AA Int}(hm:Ic l c=some r):JB prog 227 [] (.buf 37 4<|lT Af l) (.buf 37 4<|lT Af r) [(L1 prog (λ(x:HfZ×HfZ)=>[Af x.1,Af x.2])<|λ(x:Int)=>[(TI .i64) x]) c] []:=nZ (ρ:=vO) zP (k:=4) isAgg37 sizeOf37 A7 (λ_=>rfl) (λ_=>rfl) (AnyF.slices_SortFunc_none zP) hm
theorem ao1{x r:A3 (A3<|PlZ×A3 V3)}{n:Int}(hm:qc x n=some r):Ef prog 97 [(TN<|TL C1) x,(TI .i64) n] (.fr 78 1<|lT (TL C1) r):=ajE (ρ:=wJ) aob (i0:=(prog.info? 78).get A7) (z:= .slice none 0 0) (sz:=1) A7 A7 A7 Le rfl (FT A7) A7 hm
def abS{w:AR}{H:HV}(sub:∀r o,H r=some o->w.heap[r]? =some o)(gl:LP prog H):Lib.TabIs prog w "internal/strconv.uint64pow10" .u64 Lib.pow10Tab:=by
 obtain⟨g,hg,T,hT,e,hu⟩:∃g,prog.globalNamed "internal/strconv.uint64pow10" =some g/\∃T,(prog.globals[g]?).map (·.type)=some T/\∃e,prog.underlying T=some (.array 20 e):=by refine⟨((prog.globalNamed "internal/strconv.uint64pow10").getD 0),A7,((prog.globals[((prog.globalNamed "internal/strconv.uint64pow10").getD 0)]?).map (·.type)).getD 0,A7,251,A7⟩
 have:=gl g T hT;unfold SQ at this;rw[hu] at this;let⟨E,fr,e'⟩:=this;unfold Lib.TabIs World.var?;rw[hg];show(match w.heap[g]? with|some (.cells cs _ _)=>some cs|_=>none)=_;rw[sub _ _ e'];show some eN=_
 congr 1
def ao0{x:Int}{r:AD}(hm:aF x=some r):AS 255 [TI .i64 x] [TS r]:=by
 unfold aF at hm;cases hb:Hb x
 .rw[hb] at hm;cases hm
 .rw[hb] at hm;have hm:some (Cf x)=some r:=hm;cases hm;unfold Hb at hb;let⟨h1,h2⟩:=EA hb;have h1:=Ar h1;have h2:=Ar h2;refine Rg A7 λw H vs sub gl ha=>?_
  obtain⟨u,rfl,hu⟩:=PT ha;have hu:u= .int .i64 x:=hu;subst hu;refine(strconv_Itoa x h1 h2 w<|abS sub gl).mono ?_;rintro e w' ⟨rfl,k,os,rfl⟩;refine⟨_,rfl,⟨Ox.wX,Gv.of<|U3 _ _⟩,?_⟩;show Value.string _=Value.string _
  congr 3
  unfold Cf Lib.itoa;by_cases h:x<0
  .rw[if_pos h,B4 h,WR];rfl
  .rw[if_neg h,Bo h,WR,show x.natAbs=x.toNat from by omega];rfl
def ao2{x y:Int}{r:AD}(hm:jB x y=some r):AS 256 [TI .u64 x,TI .i64 y] [TS r]:=by
 obtain⟨hb,rfl⟩:=HC hm;let⟨hb,h3⟩:=EA hb;let⟨h1,h2⟩:=EA hb;have h1:=Ar h1;have h2:=Ar h2;have h3:=Ar h3;subst h3;obtain⟨n,rfl⟩:=Ez h1;refine Rg A7 λw H vs sub gl ha=>?_
 obtain⟨u,v,rfl,hu,hv⟩:=Tn ha;have hu:u= .int .u64 n:=hu;have hv:v= .int .i64 10:=hv;subst hu;subst hv;refine(Ox.afW n A4 w<|abS sub gl).mono ?_;rintro e w' ⟨rfl,k,os,rfl⟩;refine⟨_,rfl,⟨Ox.wX,Gv.of<|U3 _ _⟩,?_⟩;show Value.string _=Value.string _;rw[Cg,WR]
def anz{x:AD}{y:Int}{r:AD}(hm:jA x y=some r):AS 257 [TS x,TI .i64 y] [TS r]:=by
 obtain⟨hb,rfl⟩:=HC hm;let⟨hb,h3⟩:=EA hb;let⟨h1,h2⟩:=EA hb;have h1:=Ar h1;have h2:=Ar h2;have h3:=Ar h3;subst h3;obtain⟨n,rfl⟩:=Ez h1;refine Rg A7 λw H vs sub gl ha=>?_
 obtain⟨u,v,rfl,hu,hv⟩:=Tn ha;have hu:u= .string ⟨#[48]⟩:=hu;have hv:v= .int .i64 n:=hv;subst hu;subst hv;rw[Cg];rcases(show n=0\/n=1\/2<=n by omega) with h|h|h
 .subst h;refine(strings_Repeat_zero ⟨#[48]⟩ w).mono ?_;rintro e w' ⟨rfl,rfl⟩;exact⟨_,rfl,FO.refl _ _,rfl⟩
 .subst h;refine(strings_Repeat_one ⟨#[48]⟩ w).mono ?_;rintro e w' ⟨rfl,rfl⟩;exact⟨_,rfl,FO.refl _ _,rfl⟩
 .refine(Ox.aro n h A4 w).mono ?_;rintro e w' ⟨rfl,k,rfl⟩;refine⟨_,rfl,⟨⟨rfl,rfl,rfl,BK _,λ_ _=>rfl⟩,Gv.of<|U3 _ _⟩,?_⟩;show Value.string _=Value.string _;rw[zS]
end
end Trn
