/- Part of SolidMeasures. -/
import Derived.Test.YtmjkpiakobnkgaaGreatDoorLa
set_option maxRecDepth 100000
set_option maxHeartbeats 20000000
set_option linter.all false
open Go Go.RowKit Go.Proofs Go.Proofs.Tryz
namespace Trn
def aiF{l:A3 C1}(o:∀h∈l,Cl h)(hc:XU l=some 0)(hl:l.length<=32):Yd (λr=>(r.2=11/\ ¬Asc l)\/(Asc l/\((r.2=13/\ ¬EV (l.map rh))\/(r.2=12/\EV (l.map rh)/\ ¬M5 (l.map rh))\/(CF r.1 (l.map rh)/\r.2=bif decide (r.1.length<l.length) then 1 else 0)))) (QE l):=by
 unfold QE;rw[CB (show¬32<(l.length:Int) by omega),B8,hc];refine A5 rfl ?_;show Yd _ (lp _ _ 0);refine Ce l (λ(_:Unit) i=>i) (λA _=>Asc A) (λA x C s k hA hP next=>?_) (λs k hP=>?_) (s0:=()) (λA x y C e=>by cases A<;>cases e) A4
 .rw[CU hA,BX];obtain rfl|⟨B,y,rfl⟩:A=[]\/∃B y,A=B++[y]:=(Zl A).imp id λ⟨B,y,h⟩=>⟨B,y,by rw[h,List.concat_eq_append]⟩
  .exact A5 (CE hA A4) (next () λA' x' y' C' e=>by have:=congrArg List.length e;simp at this;omega)
  .have i1:AB l (B.length:Int)=some y:=by rw[Jj,hA];simp
   have i2:=CC hA;have al:=D7 hA;have f:=CE hA A4;let⟨v,v1,v2⟩:=aju y.1 x.1;have en:(B++[y]).length=B.length+1:=AT;have nx:=next ()
   have Hj:=ab9 (l:=l) (A:=B) (x:=y) (y:=x) (C:=C) (by rw[hA];simp) hP
   generalize (B++[y]).length=m at*
   subst en;have hpos:decide ((0:Int)<((B.length+1:Nat):Int))=true:=B9 A4;rw[hpos,show gd true true=true from rfl,Cb rfl];refine A5 (x:=(B.length:Int)) (by rw[EL ⟨A4,A4⟩];exact congrArg some A4) ?_;rw[Cb rfl];refine A5 i1 ?_;rw[Cb rfl];refine A5 i2 ?_;rw[Cb rfl];refine A5 v1 ?_;rw[Kg];refine Ab (λhv=>AW<| .inl ⟨rfl,λc=>?_⟩) λhv=>?_
   .have:=v2.2 (c B y x C (by rw[hA];simp));have:=As hv;omega
   .have:=Bh hv;exact A5 f<|nx<|Hj<|v2.1 A4
 .rw[CT,B8];refine Au (aaR o A4) λr hr=>?_
  rcases hr with⟨e,h⟩|⟨e,h1,h2⟩|⟨e,h⟩
  .rw[e];exact AW<| .inr ⟨hP,.inl ⟨rfl,h⟩⟩
  .rw[e];exact AW<| .inr ⟨hP,.inr<| .inl ⟨rfl,h1,h2⟩⟩
  .rw[e];have hd:decide ((r.1.length:Int)<(l.length:Int))=decide (r.1.length<l.length):=Gr.2 A4;rw[hd];show Yd _ (cond (decide<|r.1.length<l.length) (some (r.1,1))<|some (r.1,0));cases hq:decide (r.1.length<l.length)
   .exact AW (.inr ⟨hP,.inr (.inr ⟨h,by dsimp;rw[hq];rfl⟩)⟩)
   .exact AW (.inr ⟨hP,.inr (.inr ⟨h,by dsimp;rw[hq];rfl⟩)⟩)
def ajB{n:Int}(h: -999999999<=n/\n<=999999999):Yd (λp=>FE p n/\p.2.length<=1) (Rs n):=by
 obtain⟨F,hF⟩:∃F,18446744073709551616=F+2:=⟨18446744073709551614,rfl⟩;unfold Rs;rw[hF];show Yd _ (cond (!decide (n=0)) _ _);refine Ab (λhc=>?_) λhc=>?_
 .have h0:n≠0:=by simpa using hc
  have rm:n.tmod 1000000000=n:=by
   rcases Int.le_total 0 n with g|g
   .exact Int.tmod_eq_of_lt g A4
   .have h2:=Int.tmod_eq_of_lt (a:= -n) (b:=1000000000) A4 A4;rw[Int.neg_tmod] at h2;omega
  have dv:n.tdiv 1000000000=0:=by have:=Int.mul_tdiv_add_tmod n 1000000000;rw[rm] at this;omega
  refine A5 (x:=n) (by show some (n.tmod 1000000000)=_;rw[rm]) ?_;refine DZ (λd=>d=(n.natAbs:Int)) ?_ λk7 h7=>Ab (λhc=>A5 BH (h7 _ (by have:=As hc;omega))) λhc=>h7 _ (by have:=Bh hc;omega)
  rintro d rfl;refine A5 (x:=[(n.natAbs:Int)]) (abC AT) (A5 (x:=0) (by show AG (n.tdiv 1000000000)=_;rw[dv];rfl) ?_);show Yd _ (bd (LA (decide<|n<0) [(n.natAbs:Int)]) _);refine Au (QQ (z:=n) (λx mx=>?_) AT ?_) λp hp=>AW hp
  .rw[Cv.1 mx];exact⟨A4,by show _<(1000000000:Int);omega⟩
  .have e:AL [(n.natAbs:Int)]=(n.natAbs:Int):=by show(n.natAbs:Int)+1000000000*0=_;omega
   rw[e];cases hn:decide (n<0)
   .have:=Bh hn;simp[B8];omega
   .have:=As hn;simp[BX];omega
 .have h0:n=0:=by simpa using hc
  subst h0;exact Au (QQ (z:=0) (λx mx=>by cases mx) AT rfl) λp hp=>AW ⟨hp.1,Ch hp.2 AT⟩
theorem xu(n:Int):Av (n:Rat)=C8 n:=by(simp_all [Av,C8]<;>grind)
def nI{n:Int}(h:Fi n=false):VI n=some (Av (n:Rat)):=by
 let⟨p,e,h1,h2⟩:=ajB<|UX h
 unfold VI;rw[e,Cp,pB h1 A4,xu];rfl
section
variable{h:C1}(o:Cl h)
include o
theorem SI:OG h=some (Ak (rh h).1):=by unfold OG PG;rw[nI o.x,Cp,nI o.y,Cp,nI o.z];rfl
theorem jB{p:Q3}{n:Nat}(hp:Ba n p)(hn:n<=5000):Y7 h (Ak p)=some (Av<|val (rh h) p)/\lv (3*n+44) (val (rh h) p):=by have l:=o.lvn (n:=9) A4;have d:=R4 l hp;refine⟨?_,DP (lvs d o.Ky) A4⟩;unfold Y7;rw[SI o,Cp,Un l hp A4,Cp];have e:=Sx d o.Ky A4 A4;rw[<-o.txt] at e;rw[e];rfl
theorem rW{p:Q3}{n:Nat}(hp:Ba n p)(hn:n<=5000):VY h (Ak p)=some (val (rh h) p).num.sign:=by let⟨e,l⟩:=jB o hp hn;unfold VY;rw[e,Cp,R6 l A4];rfl
end
section
variable{l:A3 C1}{p:Q3}{M:A3 H3}{n:Nat}{α:Type}{x:α}{C:A3 Q3}{A:A3 α}{S:A3 Bq}
def aat{x:Rat}(hx:lv n x)(h0:x≠0)(hn:n<=1800000):QB (Av x)=some (Av x⁻¹):=by have o:lv 1 (1:Rat):=Kf (d:=1) (.inl rfl) 1;refine HG ?_;unfold QB;refine Au (SD (NM hx) A4 A4) ?_;rintro⟨q1,q2⟩ ⟨⟨b1,b2⟩,b3,b4⟩;dsimp only at*;have hf:=eE b2 b1 (λe=>h0<|N8.1 e) A4 A4;rw[gW] at hf;exact A5 hf<|AW rfl
def zw{x:Rat}(hx:lv n x)(hn:n<=1800000):VQ (Av x)=some (decide<|x=0):=by unfold VQ;rw[Yf x<|R3 hx hn]
theorem qk(a b c:Q3):AI a (AY b c)=Ct a b c:=by unfold Ct AI AY;grind
def ai3{a b c:C1}(oa:Cl a)(ob:Cl b)(oc:Cl c):c8 a b c=some (bif decide (Ct (rh a).1 (rh b).1 (rh c).1=0) then(([],[],[]),false) else(Ak<|Il (rh a) (rh b)<|rh c,true)):=by
 have la:=oa.lvn (n:=9) A4;have lb:=ob.lvn (n:=9) A4;have lc:=oc.lvn (n:=9) A4;have bc':=Ll lb lc;have ca':=Ll lc la;have ab':=Ll la lb;have ld:=R4 la bc';unfold c8 Vc;rw[SI oa,Cp,SI ob,Cp,SI oc,Cp,Qt lb lc A4,Cp,Un la bc' A4,Cp,Cp,zw ld A4,Cp,qk];rw[qk] at ld;cases hd:decide (Ct (rh a).1 (rh b).1 (rh c).1=0)
 .have s1:=Pj bc' oa.Ky A4;have s2:=Pj ca' ob.Ky A4;have s3:=Pj ab' oc.Ky A4;rw[<-oa.txt] at s1;rw[<-ob.txt] at s2;rw[<-oc.txt] at s3;have t1:=Me bc' oa.Ky;have t2:=Me ca' ob.Ky;have t3:=Me ab' oc.Ky;have t4:=MT t1 t2;have t5:=MT t4 t3;have h0:=Bh hd;simp[B8];rw[Cp,s1,Cp,Qt lc la A4,Cp,s2,Cp,R7 t1 t2 A4,Cp,Qt la lb A4,Cp,s3,Cp,R7 t4 t3 A4,Cp,aat ld h0 A4,Cp,Pj t5 (lvi ld h0) A4]
  rfl
 .rfl
def anK{a b c:C1}(oa:Cl a)(ob:Cl b)(oc:Cl c)(h0:Ct (rh a).1 (rh b).1 (rh c).1≠0):Ba 500 (Il (rh a) (rh b)<|rh c):=by
 have la:=oa.lvn (n:=9) A4;have lb:=ob.lvn (n:=9) A4;have lc:=oc.lvn (n:=9) A4;have ld:=R4 la<|Ll lb lc
 rw[qk] at ld;exact Fq (Me (MT (MT (Me (Ll lb lc) oa.Ky)<|Me (Ll lc la) ob.Ky)<|Me (Ll la lb) oc.Ky)<|lvi ld h0) A4
def zY(o:∀h∈l,Cl h)(hl:l.length<=100000000){d:Q3}(hd:Ba n d)(hn:n<=5000):Yd (λb=>b=true↔∃h∈l,0<AI (rh h).1 d) (VT l<|Ak d):=by
 unfold VT;refine Ce l (λ(_:Unit) i=>i) (λA _=>∀h∈A,¬0<AI (rh h).1 d) (λA x C s k hA hP next=>?_) (λs k hP=>?_) (s0:=()) AT A4
 .rw[CU hA,BX];have ox:=o x<|at_mem hA
  have l9:=ox.lvn (n:=9) A4;refine A5 (CC hA)<|A5 (SI ox)<|A5 (Un l9 hd A4)<|A5 (R6 (R4 l9 hd) A4) ?_
  rw[Vw];refine Ab (λhc=>AW ⟨λ_=>⟨x,at_mem hA,As hc⟩,λ_=>rfl⟩) λhc=>A5 (CE hA A4)<|next () λh mh=>?_
  rcases CJ.1 mh with m|m
  .exact hP h m
  .rw[Cv.1 m];exact Bh hc
 .rw[CT,B8];exact AW ⟨λc=>(by cases c),λ⟨h,mh,c⟩=>absurd c<|hP h mh⟩
def aoZ:Av (-1)=[45,49]:=A6
def aqs(u v:Q3):B7 (AY u v) (-1)=AY v u:=(Vm u v).symm
def ag6(o:∀h∈l,Cl h)(hl:l.length<=50):Yd (λb=>b=true↔EV (l.map rh)) (bp l):=by
 have bi:EV (l.map rh)↔(∃f∈l,∃g∈l,AY (rh f).1 (rh g).1≠o3)/\∀f∈l,∀g∈l,AY (rh f).1 (rh g).1≠o3->∃h∈l,0<AI (rh h).1 (AY (rh f).1 (rh g).1):=by
  rw[aoL];have mm:∀{h:C1},h∈l->rh h∈l.map rh:=λmh=>BM.2 ⟨_,mh,rfl⟩
  constructor
  .rintro⟨⟨f,mf,g,mg,c⟩,h⟩;obtain⟨a,ma,rfl⟩:=BM.1 mf;obtain⟨b,mb,rfl⟩:=BM.1 mg;refine⟨⟨a,ma,b,mb,c⟩,λx mx y my c=>?_⟩;let⟨k,mk,c⟩:=h _ (mm mx) _ (mm my) c;obtain⟨z,mz,rfl⟩:=BM.1 mk;exact⟨z,mz,c⟩
  .rintro⟨⟨f,mf,g,mg,c⟩,h⟩;refine⟨⟨_,mm mf,_,mm mg,c⟩,λx mx y my c=>?_⟩;obtain⟨a,ma,rfl⟩:=BM.1 mx;obtain⟨b,mb,rfl⟩:=BM.1 my;let⟨z,mz,c⟩:=h a ma b mb c;exact⟨_,mm mz,c⟩
 rw[show(λb:Bool=>b=true↔EV (l.map rh))=λb:Bool=>b=true↔(∃f∈l,∃g∈l,AY (rh f).1 (rh g).1≠o3)/\∀f∈l,∀g∈l,AY (rh f).1 (rh g).1≠o3->∃h∈l,0<AI (rh h).1 (AY (rh f).1 (rh g).1) from funext λb=>propext (by rw[bi])];unfold bp;refine Ce l (λ(s:Bool) i=>(s,i)) (λA s=>(s=true↔∃f∈A,∃g∈A,AY (rh f).1 (rh g).1≠o3)/\∀f∈A,∀g∈A,AY (rh f).1 (rh g).1≠o3->∃h∈l,0<AI (rh h).1 (AY (rh f).1 (rh g).1)) (λA x C s k hA hP next=>?_) (λs k hP=>?_) (s0:=false) AT A4
 .dsimp;rw[CU hA,BX];have al:=D7 hA;have mx:=at_mem hA;have mA:∀y∈A,y∈l:=λy my=>by rw[hA];exact KB _ my
  refine Ce A (λ(t:Bool) i=>(t,i)) (λB t=>(t=true↔(∃f∈A,∃g∈A,AY (rh f).1 (rh g).1≠o3)\/∃g∈B,AY (rh x).1 (rh g).1≠o3)/\∀g∈B,AY (rh x).1 (rh g).1≠o3->(∃h∈l,0<AI (rh h).1 (AY (rh x).1 (rh g).1))/\∃h∈l,0<AI (rh h).1 (AY (rh g).1 (rh x).1)) (λB y D t k2 hB hQ FN=>?_) (λt k2 hQ=>?_) (s0:=s) (by simpa using hP.1) A4
  .dsimp;rw[CU hB,BX];have my:=mA y<|at_mem hB
   have L4:l=B++y::(D++x::C):=by rw[hA,hB];simp
   refine DZ (λt:Bool=>(t=true↔(∃f∈A,∃g∈A,AY (rh f).1 (rh g).1≠o3)\/∃g∈B++[y],AY (rh x).1 (rh g).1≠o3)/\∀g∈B++[y],AY (rh x).1 (rh g).1≠o3->(∃h∈l,0<AI (rh h).1 (AY (rh x).1 (rh g).1))/\∃h∈l,0<AI (rh h).1 (AY (rh g).1 (rh x).1)) (λt ht=>A5 (CE hB A4)<|FN t ht) λk8 h8=>?_
   have lx:=(o x mx).lvn (n:=9) A4;have ly:=(o y my).lvn (n:=9) A4;have lc:=Ll lx ly;refine A5 (CC hA)<|A5 (SI<|o x mx)<|A5 (CC L4)<|A5 (SI<|o y my)<|A5 (Qt lx ly A4)<|A5 (rV lc A4) ?_
   have sp:∀{P:C1->Prop},(∀g∈B++[y],P g)↔(∀g∈B,P g)/\P y:=λ{P}=>by simp[or_imp,forall_and]
   have ex:∀{P:C1->Prop},(∃g∈B++[y],P g)↔(∃g∈B,P g)\/P y:=λ{P}=>by simp[ZS,exists_or]
   rw[sp] at h8;rw[ex] at h8;refine Ab (λhc=>h8 _ ?_) λhc=>?_
   .have:=As hc;exact⟨by rw[hQ.1];simp[this],hQ.2,λc=>absurd this c⟩
   .have h0:=Bh hc;refine Au (zY o A4 lc A4) λb hb=>?_
    cases b with
    |false=>
     show Yd _ (some false);refine AW ⟨λc=>(by cases c),λc=>?_⟩;have:=hb.2<|c.2 x mx y my h0
     cases this
    |true=>
     show Yd _ (bd (MG [45,49]<|Ak<|AY (rh x).1 (rh y).1) _);have l1:lv 1 (-1:Rat):=Kf (d:= -1) (.inr rfl) 1;have sc:=Pj lc l1 A4;rw[aoZ,aqs] at sc;refine A5 sc ?_;show Yd _ (bd (VT l _) _);refine Au (zY o A4 (Ll ly lx) A4) λb' Bg=>?_
     cases b' with
     |false=>refine AW ⟨λc=>(by cases c),λc=>?_⟩;have:=Bg.2 (c.2 y my x mx λe=>h0 (by rw[Vm,e,se]));cases this
     |true=>refine h8 true ⟨⟨λ_=> .inr<| .inr h0,λ_=>rfl⟩,hQ.2,λ_=>⟨hb.1 rfl,Bg.1 rfl⟩⟩
  .dsimp;rw[CT,B8];refine A5 (CE hA A4)<|next t ⟨?_,?_⟩
   .rw[hQ.1];constructor
    .rintro(⟨f,mf,g,mg,c⟩|⟨g,mg,c⟩)
     .exact⟨f,by simp[mf],g,by simp[mg],c⟩
     .exact⟨x,AT,g,by simp[mg],c⟩
    .rintro⟨f,mf,g,mg,c⟩;rcases CJ.1 mf with mf|mf<;>rcases CJ.1 mg with mg|mg
     .exact .inl ⟨f,mf,g,mg,c⟩
     .rw[Cv.1 mg] at c;exact .inr ⟨f,mf,λe=>c (by rw[Vm,e,se])⟩
     .rw[Cv.1 mf] at c;exact .inr ⟨g,mg,c⟩
     .rw[Cv.1 mf,Cv.1 mg] at c;exact absurd UY c
   .intro f mf g mg c;rcases CJ.1 mf with mf|mf<;>rcases CJ.1 mg with mg|mg
    .exact hP.2 f mf g mg c
    .rw[Cv.1 mg] at c⊢;exact(hQ.2 f mf λe=>c (by rw[Vm,e,se])).2
    .rw[Cv.1 mf] at c⊢;exact(hQ.2 g mg c).1
    .rw[Cv.1 mf,Cv.1 mg] at c;exact absurd UY c
 .dsimp;rw[CT,B8];exact AW ⟨λc=>⟨hP.1.1 c,hP.2⟩,λc=>hP.1.2 c.1⟩
structure Srt(l r:A3 C1):Prop where
 Hj:r.Pairwise Jk
 sub:∀h∈r,h∈l
 le:∀h∈l,∃k∈r,k.1=h.1/\rq k.2<=rq h.2
def Srt.least{r:A3 C1}(s:Srt l r):Ml (l.map rh) (r.map rh):=by
 refine⟨λg mg=>?_,λg mg=>?_⟩
 .obtain⟨h,mh,rfl⟩:=BM.1 mg;exact BM.2 ⟨h,s.sub h mh,rfl⟩
 .obtain⟨h,mh,rfl⟩:=BM.1 mg;obtain⟨k,mk,e,c⟩:=s.le h mh;exact⟨rh k,BM.2 ⟨k,mk,rfl⟩,by show rn k.1=rn h.1;rw[e],c⟩
theorem aip(o:∀h∈l,Cl h)(hl:l.length<=50):Yd (λr=>Srt l r/\r.length<=l.length) (dH l):=by
 unfold dH;refine Ce l (λ(s:A3 C1) i=>(s,i)) (λA s=>Srt A s/\s.length<=A.length) (λA x C s k hA hP next=>?_) (λs k hP=>?_) (s0:=[]) ⟨⟨List.Pairwise.nil,AT,AT⟩,AT⟩ A4
 .dsimp;rw[CU hA,BX];have al:=D7 hA;have mx:=at_mem hA;have ox:=o x mx;let⟨S,sl⟩:=hP;have os:∀h∈s,Cl h:=λh mh=>o h (by rw[hA];exact KB _<|S.sub h mh)
  refine DZ (λs'=>Srt (A++[x]) s'/\s'.length<=(A++[x]).length) (λs' h'=>A5 (CE hA A4)<|next s' h') λk5 h5=>?_
  have put:∀B D:A3 C1,s=B++D->(∀h∈B,Jk h x)->(∀h∈D,Jk x h)->Srt (A++[x]) ((B++[x])++D)/\((B++[x])++D).length<=(A++[x]).length:=λB D e hb hd=>by
   have sa:=S.Hj;rw[e] at sa;let⟨a1,a2,a3⟩:=Hn.1 sa;refine⟨⟨Hn.2 ⟨Hn.2 ⟨a1,UR _ _,λh mh y my=>by rw[Cv.1 my];exact hb h mh⟩,a2,λh mh y my=>?_⟩,λh mh=>?_,λh mh=>?_⟩,?_⟩
   .rcases CJ.1 mh with m|m
    .exact a3 h m y my
    .rw[Cv.1 m];exact hd y my
   .have:h∈s\/h=x:=by rw[e];simp at mh⊢;rcases mh with m|m|m<;>simp[m]
    rcases this with m|m
    .exact KB _<|S.sub h m
    .rw[m];simp
   .rcases CJ.1 mh with m|m
    .let⟨k,mk,c⟩:=S.le h m;rw[e] at mk;exact⟨k,by simp at mk⊢;rcases mk with m|m<;>simp[m],c⟩
    .rw[Cv.1 m];exact⟨x,AT,rfl,G5⟩
   .rw[e] at sl;simp at sl⊢;omega
  refine Ce s (λ(_:Unit) i=>i) (λB _=>∀h∈B,Jk h x) (λB h D t k7 hB hQ FN=>?_) (λt k7 hQ=>?_) (s0:=()) AT A4
  .have hg:gd (decide<|(B.length:Int)<(s.length:Int)) true=true:=by rw[CU hB];rfl
   have bl:=D7 hB;have mh:=at_mem hB;rw[Cb hg];refine A5 (CC hB) ?_;rw[Cb hg];refine A5 (CC hB) ?_;rw[Cb hg];refine A5 (CC hA) ?_;rw[Cb hg];refine A5 (ni h.1 x.1) ?_;rw[CU hB,Kg];refine Ab (λhc=>A5 (CE hB A4)<|FN () λg mg=>?_) λhc=>?_
   .rcases CJ.1 mg with m|m
    .exact hQ g m
    .rw[Cv.1 m];exact As hc
   .have KU:=Bh hc;rw[CU hB] at hg;rw[Cb hg];refine A5 (CC hB) ?_;rw[Cb hg];refine A5 (CC hB) ?_;rw[Cb hg];refine A5 (CC hA) ?_;rw[Kg];refine Ab (λhe=>?_) λhe=>?_
    .have he:=As he;have lx:=ox.Ky;have lh:=(os h mh).Ky;have cmp:Tj x.2 h.2=some ((rh x).2-(rh h).2).num.sign:=by have e:=Sx lx lh A4 A4;rw[<-ox.txt,<-(os h mh).txt] at e;unfold Tj;rw[e,Cp,R6 (lvs lx lh) A4];rfl
     refine A5 (CC hA)<|A5 (CC hB)<|A5 (CC hB)<|A5 cmp ?_
     rw[sign_neg];refine DZ (λs'=>Srt (A++[x]) s'/\s'.length<=(A++[x]).length) (λs' h'=>h5 s' h') λk35 IX=>Ab (λhc=>?_) λhc=>?_
     .refine A5 (CC hA) (A5 (CC hB)<|A5 (CC hB) ?_);have hx:(h.1,x.2)=x:=by rw[he]
      have st:s.set ((B.length:Int)).toNat (h.1,x.2)=B++x::D:=by rw[hx,Ci,hB];simp
      rw[st];have hlt:rq x.2<rq h.2:=by have h9:=As hc;change rq x.2-rq h.2<0 at h9;grind
      have sa:=S.Hj;rw[hB] at sa;let⟨a1,a2,a3⟩:=Hn.1 sa;let⟨a4,a5⟩:=Hb.1 a2;refine IX _ ⟨⟨Hn.2 ⟨a1,Hb.2 ⟨λy my=>?_,a5⟩,λy my z mz=>?_⟩,λy my=>?_,λy my=>?_⟩,?_⟩
      .show JU x.1 y.1;rw[<-he];exact a4 y my
      .rcases Am.1 mz with e|m
       .rw[e];show JU y.1 x.1;rw[<-he];exact a3 y my h AT
       .exact a3 y my z<|Br _ m
      .have:y∈s\/y=x:=by rw[hB];simp at my⊢;rcases my with m|m|m<;>simp[m]
       rcases this with m|m
       .exact KB _<|S.sub y m
       .rw[m];simp
      .rcases CJ.1 my with m|m
       .let⟨g,mg,c1,c2⟩:=S.le y m;rw[hB] at mg;rcases CJ.1 mg with mg|mg
        .exact⟨g,by simp[mg],c1,c2⟩
        .rcases Am.1 mg with e|mg
         .rw[e] at c1 c2;exact⟨x,AT,by rw[<-c1,he],ZT (Fu hlt) c2⟩
         .exact⟨g,by simp[mg],c1,c2⟩
       .rw[Cv.1 m];exact⟨x,AT,rfl,G5⟩
      .rw[hB] at sl;simp at sl⊢;omega
     .have hge:rq h.2<=rq x.2:=by have h9:=Bh hc;change¬rq x.2-rq h.2<0 at h9;grind
      refine IX _ ⟨⟨S.Hj,λy my=>KB _<|S.sub y my,λy my=>?_⟩,DJ⟩;rcases CJ.1 my with m|m
      .exact S.le y m
      .rw[Cv.1 m];exact⟨h,mh,he,hge⟩
    .have hne:=Bh he;have hxh:Jk x h:=((ab7 h.1 x.1).resolve_left hne).resolve_left KU;have s1:C5 s 0 (B.length:Int)=some B:=by rw[EC A4 A4 A4,hB];simp
     have s2:C5 s (B.length:Int) (s.length:Int)=some (h::D):=by rw[EC A4 A4 A4];simp;rw[hB];simp
     have a0:∀(u v:A3 C1),u.length+v.length<=100->BN 40 u v=some (u++v):=λu v huv=>by unfold BN;rw[B9 (show(u.length+v.length)*40<=140737488355328 by omega),B9 (show u.length+v.length<=9223372036854775807 by omega)];rfl
     have dl:s.length=B.length+(D.length+1):=by rw[hB];simp
     refine A5 s1<|A5 (a0 [] B DJ)<|A5 (CC hA)<|A5 (a0 _ _ DJ)<|A5 s2<|A5 (a0 _ _ DJ)<|h5 _ ?_
     rw[Ie];refine put B (h::D) hB hQ λy my=>?_
     rcases Am.1 my with e|m
     .rw[e];exact hxh
     .have sa:=S.Hj;rw[hB] at sa;exact abx hxh<|(Hb.1 (Hn.1 sa).2.1).1 y m
  .have hg:gd (decide<|(s.length:Int)<(s.length:Int)) true=false:=by rw[CT];rfl
   rw[Dy hg,Dy hg,Dy hg,Dy hg];rw[CT,Pe,B8];rw[CT] at hg;rw[Dy hg,Dy hg,Dy hg,Pe,B8];have s1:C5 s 0 (s.length:Int)=some s:=by rw[EC A4 A4 A4];simp
   have s2:C5 s (s.length:Int) (s.length:Int)=some []:=by rw[EC A4 A4 A4];simp
   have a0:∀(u v:A3 C1),u.length+v.length<=100->BN 40 u v=some (u++v):=λu v huv=>by unfold BN;rw[B9 (show(u.length+v.length)*40<=140737488355328 by omega),B9 (show u.length+v.length<=9223372036854775807 by omega)];rfl
   refine A5 s1<|A5 (a0 [] s DJ)<|A5 (CC hA)<|A5 (a0 _ _ DJ)<|A5 s2<|A5 (a0 _ _ DJ)<|h5 _ ?_
   rw[Ie];exact put s [] AT hQ AT
 .dsimp;rw[CT,B8];exact AW hP
theorem ahN(o:∀h∈l,Cl h)(hl:l.length<=100000000)(hp:Ba n p)(hn:n<=5000):Yd (λb=>b=true↔Mem (l.map rh) p) (c6 l<|Ak p):=by
 have mm:∀{h:C1},h∈l->rh h∈l.map rh:=λmh=>BM.2 ⟨_,mh,rfl⟩
 unfold c6;refine Ce l (λ(_:Unit) i=>i) (λA _=>∀h∈A,val (rh h) p<=0) (λA x C s k hA hP next=>?_) (λs k hP=>?_) (s0:=()) AT A4
 .rw[CU hA,BX];refine A5 (CC hA)<|A5 (rW (o x<|at_mem hA) hp hn) ?_
  rw[Vw];refine Ab (λhc=>AW ⟨λc=>(by cases c),λc=>?_⟩) λhc=>A5 (CE hA A4)<|next () λh mh=>?_
  .have:=c _ (mm<|at_mem hA);have:=As hc
   grind
  .grind
 .rw[CT,B8];refine AW ⟨λ_ g mg=>?_,λ_=>rfl⟩;obtain⟨h,mh,rfl⟩:=BM.1 mg;exact hP h mh
theorem ahJ(hl:C.length<=100000000)(hC:∀q∈C,Ba n q)(hp:Ba n p)(hn:n<=5000):VF (C.map Ak) (Ak p)=some (decide<|p∈C):=by
 have key:Yd (λb=>b=decide (p∈C)) (VF (C.map Ak)<|Ak p):=by
  unfold VF;refine Ce (C.map Ak) (λ(_:Unit) i=>i) (λA _=>Ak p∉A) (λA x D s k hA hP next=>?_) (λs k hP=>?_) (s0:=()) AT DJ
  .rw[CU hA,BX];refine A5 (CC hA)<|Ab (λhc=>AW (B9 ?_).symm) λhc=>A5 (CE hA DJ)<|next () λc=>?_
   .let⟨q,mq,e⟩:=BM.1 (at_mem hA);have e2:=As hc;have:q=p:=apo (hC q mq) hp A4 A4 (by rw[e,e2]);rw[<-this];exact mq
   .grind
  .rw[CT,B8];exact AW (CB λc=>hP<|BM.2 ⟨p,c,rfl⟩).symm
 obtain⟨r,e,rfl⟩:=key;exact e
theorem yj{l:A3 α}:l.Sublist (A++[x])↔l.Sublist A\/∃r,l=r++[x]/\r.Sublist A:=by
 rw[Zq];constructor
 .grind
 .rintro(h|⟨r,rfl,h⟩)
  .exact⟨l,[],AT,h,AT⟩
  .grind
theorem oE{a b c:α}:[c,b,a].Sublist (A++[x])↔[c,b,a].Sublist A\/(a=x/\[c,b].Sublist A):=by
 rw[yj];refine or_congr Iff.rfl ⟨?_,?_⟩
 .rintro⟨r,e,h⟩;have e2:[c,b]++[a]=r++[x]:=e;let⟨e3,e4⟩:=ZZ e2 rfl;cases e4;rw[<-e3] at h;exact⟨rfl,h⟩
 .grind
def oF{b c:α}:[c,b].Sublist (A++[x])↔[c,b].Sublist A\/(b=x/\c∈A):=by
 rw[yj];refine or_congr Iff.rfl ⟨?_,?_⟩
 .rintro⟨r,e,h⟩;have e2:[c]++[b]=r++[x]:=e;let⟨e3,e4⟩:=ZZ e2 rfl;cases e4;rw[<-e3] at h;exact⟨rfl,List.singleton_sublist.1 h⟩
 .rintro⟨rfl,h⟩;exact⟨[c],rfl,List.singleton_sublist.2 h⟩
def Met(a b c:C1)(p:Q3):Prop:=Ct (rh a).1 (rh b).1 (rh c).1≠0/\p=Il (rh a) (rh b) (rh c)
def Tri(A:A3 C1)(p:Q3):Prop:=∃a b c,[c,b,a].Sublist A/\Met a b c p
def Duo(x:C1)(B:A3 C1)(p:Q3):Prop:=∃b c,[c,b].Sublist B/\Met x b c p
def Uno(x y:C1)(D:A3 C1)(p:Q3):Prop:=∃c∈D,Met x y c p
def ak6{A:A3 C1}{x:C1}:Tri (A++[x]) p↔Tri A p\/Duo x A p:=by
 constructor
 .rintro⟨a,b,c,h,m⟩;rcases oE.1 h with h2|⟨e,h2⟩
  .exact .inl ⟨a,b,c,h2,m⟩
  .rw[e] at m;exact .inr ⟨b,c,h2,m⟩
 .rintro(⟨a,b,c,h,m⟩|⟨b,c,h,m⟩)
  .exact⟨a,b,c,oE.2<| .inl h,m⟩
  .exact⟨x,b,c,oE.2<| .inr ⟨rfl,h⟩,m⟩
def aln{x:C1}{B:A3 C1}{y:C1}:Duo x (B++[y]) p↔Duo x B p\/Uno x y B p:=by
 constructor
 .rintro⟨b,c,h,m⟩;rcases oF.1 h with h2|⟨e,h2⟩
  .exact .inl ⟨b,c,h2,m⟩
  .rw[e] at m;exact .inr ⟨c,h2,m⟩
 .rintro(⟨b,c,h,m⟩|⟨c,h,m⟩)
  .exact⟨b,c,oF.2<| .inl h,m⟩
  .exact⟨y,c,oF.2<| .inr ⟨rfl,h⟩,m⟩
def ot{x y:C1}{D:A3 C1}{z:C1}:Uno x y (D++[z]) p↔Uno x y D p\/Met x y z p:=by unfold Uno;simp[CJ,ZS,exists_or]
def Crs(l:A3 C1)(X:Q3->Prop)(out:A3 T3):Prop:=∃C:A3 Q3,out=C.map Ak/\C.Nodup/\(∀p∈C,Ba 500 p)/\C.length<=l.length*(l.length*l.length)/\∀p,p∈C↔Mem (l.map rh) p/\X p
theorem Crs.congr{X Y:Q3->Prop}{out:A3 T3}(h:Crs l X out)(e:∀p,X p↔Y p):Crs l Y out:=by grind [Crs]
theorem ag8(o:∀h∈l,Cl h)(hl:l.length<=50):Yd (λr=>Crs l (Tri l) r) (bn l):=by
 have asb:l.length*(l.length*l.length)<=125000:=GL hl<|GL hl hl
 have inl:∀{A C:A3 C1} {x:C1},l=A++x::C->(∀y∈A,y∈l):=λh y my=>by rw[h];exact KB _ my
 unfold bn;refine Ce l (λ(s:A3 T3) i=>(s,i)) (λA s=>Crs l (Tri A) s) (λA x C s k hA hP next=>?_) (λs k hP=>?_) (s0:=[]) ⟨[],rfl,List.nodup_nil,AT,AT,λp=>by simp[Tri]⟩ A4
 .dsimp;rw[CU hA,BX];have al:=D7 hA;refine Ce A (λ(t:A3 T3) i=>(t,i)) (λB t=>Crs l (λp=>Tri A p\/Duo x B p) t) (λB y D t k2 hB hQ FN=>?_) (λt k2 hQ=>?_) (s0:=s) (hP.congr λp=>by simp[Duo]) A4
  .dsimp;rw[CU hB,BX];have bl:=D7 hB;have L4:l=B++y::(D++x::C):=by rw[hA,hB];simp
   refine Ce B (λ(u:A3 T3) i=>(u,i)) (λE u=>Crs l (λp=>(Tri A p\/Duo x B p)\/Uno x y E p) u) (λE z F u k3 hE hR Nz=>?_) (λu k3 hR=>?_) (s0:=t) (hQ.congr λp=>by simp[Uno]) A4
   .dsimp;rw[CU hE,BX];have el:=D7 hE;have hE':l=E++z::(F++y::(D++x::C)):=by rw[L4,hE];simp
    have ox:=o x<|at_mem hA
    have oy:=o y<|at_mem L4
    have oz:=o z<|at_mem hE'
    refine DZ (λu'=>Crs l (λp=>(Tri A p\/Duo x B p)\/Uno x y (E++[z]) p) u') (λu' h'=>A5 (CE hE A4)<|Nz u' h') λMC Bb=>?_
    refine A5 (CC hA)<|A5 (CC L4)<|A5 (CC hE')<|A5 (ai3 ox oy oz) ?_
    let⟨W,w1,w2,w3,w4,w5⟩:=hR;by_cases hd:Ct (rh x).1 (rh y).1 (rh z).1=0
    .rw[B9 hd,BX];refine Bb u ⟨W,w1,w2,w3,w4,λp=>?_⟩;rw[w5];dsimp;rw[ot];have: ¬Met x y z p:=λm=>m.1 hd
     simp[this]
    .rw[CB hd,B8];have lp:=anK ox oy oz hd;have hm:∀p,Met x y z p↔p=Il (rh x) (rh y) (rh z):=λp=>⟨λm=>m.2,λe=>⟨hd,e⟩⟩
     have hv:Mem (l.map rh) (Il (rh x) (rh y)<|rh z)->∀q,q∈W++[Il (rh x) (rh y)<|rh z]↔Mem (l.map rh) q/\((Tri A q\/Duo x B q)\/Uno x y (E++[z]) q):=λhc q=>by
      rw[CJ,w5,ot,hm,Cv];constructor
      .grind
      .grind
     generalize Il (rh x) (rh y) (rh z)=v at*
     refine Au (ahN o A4 lp A4) λb hb=>?_
     cases b with
     |false=>
      refine Bb u ⟨W,w1,w2,w3,w4,λp=>?_⟩;rw[w5];dsimp;rw[ot,hm];constructor
      .grind
      .grind
     |true=>
      have hc:=hb.1 rfl;show Yd _ (bd (VF u<|Ak v) _);rw[w1];refine A5 (ahJ A4 w3 lp A4) ?_;by_cases hw:v∈W
      .rw[B9 hw];refine Bb _ ⟨W,rfl,w2,w3,w4,λp=>?_⟩;have:=hv hc p;rw[<-this,CJ,Cv];exact⟨.inl,λh=>h.elim id λe=>by rw[e];exact hw⟩
      .rw[CB hw];show Yd _ (bd (BN 48 _ _) _);have nd:(W++[v]).Nodup:=AK;refine A5 (app_1 A4 (by rw[C2];omega))<|Bb _ ⟨W++[v],AT,nd,λp mp=>?_,?_,hv hc⟩
       .grind
       .have e:l.length=(l.map rh).length:=(C2 _).symm;rw[e];refine pW nd λp mp=>?_
        let⟨a,b⟩:=(hv hc p).1 mp;have met:∀{a b c:C1},a∈l->b∈l->c∈l->Met a b c p->Bi (l.map rh) p:=λ{a' b' c'} ma mb mc m=>Vu.2 ⟨a,_,BM.2 ⟨_,ma,rfl⟩,_,BM.2 ⟨_,mb,rfl⟩,_,BM.2 ⟨_,mc,rfl⟩,m.1,m.2⟩
        rcases b with(⟨a',b',c',s,m⟩|⟨b',c',s,m⟩)|⟨c',mc,m⟩
        .exact met (inl hA _<|s.subset AT) (inl hA _<|s.subset AT) (inl hA _<|s.subset AT) m
        .exact met (at_mem hA) (inl L4 _<|s.subset AT) (inl L4 _<|s.subset AT) m
        .grind
   .dsimp;rw[CT,B8];exact A5 (CE hB A4) (FN u (hR.congr λp=>by rw[aln,or_assoc]))
  .dsimp;rw[CT,B8];exact A5 (CE hA A4) (next t (hQ.congr λp=>by rw[ak6]))
 .dsimp;rw[CT,B8];exact AW hP
def amG:Mem (l.map rh) p/\Tri l p↔Bi (l.map rh) p:=by
 rw[aiW];refine and_congr Iff.rfl ⟨?_,?_⟩
 .rintro⟨a,b,c,s,m⟩;exact⟨rh a,rh b,rh c,s.map rh,m.1,m.2⟩
 .rintro⟨a,b,c,s,m⟩;let⟨r,hr,e⟩:=List.sublist_map_iff.1 s
  match r,e with
  |[c',b',a'],e=>simp[MW,ZV,List.cons.injEq,and_true] at e;obtain⟨rfl,rfl,rfl⟩:=e;exact⟨a',b',c',hr,m⟩
def akD(hC:∀p∈C,Ba 500 p)(hl:C.length<=100000000):Yd (λr=>(r<3/\∃m:Q3,m≠o3/\∃c,∀p∈C,AI m p=c)\/(r=3/\∃a∈C,∃b∈C,∃c∈C,∃d∈C,Ct (Af b a) (Af c a) (Af d a)≠0)) (di<|C.map Ak):=by
 unfold di;rw[C2];cases C with
 |nil=>exact AW<| .inl ⟨L9,_,ZA,0,AT⟩
 |cons a T=>
  rw[CB (show¬((a::T).length:Int)=0 by simp;omega),B8];refine Qv (a::T) (λ(s:T3×T3×Int) i=>(s.1,s.2.1,s.2.2,i)) (λA s=>∃u n:Q3,IG a (a::T) A u n s.2.2/\(s.2.2=1->s.1=Ak u/\Ba 1001 u)/\(s.2.2=2->s.2.1=Ak n/\Ba 4005 n)) (λA p D s k hA hP next=>?_) (λs k hP=>?_) [a] T (s0:=(([],[],[]),([],[],[]),0)) rfl ⟨o3,o3,.inl ⟨rfl,AT⟩,λh=>by simp at h,λh=>by simp at h⟩ A4
  .dsimp only;rw[CU hA,BX];have mp:=at_mem hA;have lp:=hC p mp;have la:=hC a Cz;have ld:=Pa lp la;let⟨u,n,h,h1,h2⟩:=hP;refine DZ (λs':T3×T3×Int=>∃u n:Q3,IG a (a::T) (A++[p]) u n s'.2.2/\(s'.2.2=1->s'.1=Ak u/\Ba 1001 u)/\(s'.2.2=2->s'.2.1=Ak n/\Ba 4005 n)) (λs' h'=>A5 (CE hA A4)<|next s' h') λk6 h6=>?_
   have ix:AB ((a::T).map Ak) (A.length:Int)=some (Ak p):=by have:=CC hA;rw[Jj] at this⊢;rw[HL,this];rfl
   refine A5 ix<|A5 (x:=Ak a) rfl<|A5 (Pt lp la A4) ?_
   have auI:s.2.2=0\/s.2.2=1\/s.2.2=2:=by rcases h with⟨e,_⟩|⟨e,_⟩|⟨e,_⟩<;>simp[e]
   let⟨s1,s2,dim⟩:=s;dsimp only at*;rcases auI with rfl|rfl|rfl
   .rw[show gd (decide<|(0:Int)=0) true=true from rfl,Cb rfl];refine A5 (rV ld A4) ?_;by_cases e:Af p a=o3
    .rw[B9 e];exact h6 (s1,s2,0) ⟨u,n,h.s0 e,λh=>by simp at h,λh=>by simp at h⟩
    .rw[CB e];exact h6 (Ak<|Af p a,s2,1) ⟨_,n,h.s01 mp e,λ_=>⟨rfl,Fq ld A4⟩,λh=>by simp at h⟩
   .let⟨e1,l1⟩:=h1 rfl;subst e1;have lc:=Ll l1 ld;show Yd _ (bd (MH (Ak u)<|Ak<|Af p a) _);refine A5 (Qt l1 ld A4) ?_;rw[show gd (decide<|(1:Int)=1) true=true from rfl,Cb rfl];refine A5 (rV lc A4) ?_;by_cases e:AY u (Af p a)=o3
    .rw[B9 e];exact h6 (Ak u,s2,1) ⟨u,n,h.s1 e,λ_=>⟨rfl,l1⟩,λh=>by simp at h⟩
    .rw[CB e];show Yd _ (bd (MH (Ak u)<|Ak<|Af p a) _);exact A5 (Qt l1 ld A4) (h6 (Ak u,Ak<|AY u<|Af p a,2) ⟨u,_,h.EJ mp e,λh=>by simp at h,λ_=>⟨rfl,Fq lc A4⟩⟩)
   .let⟨e1,l1⟩:=h2 rfl;subst e1;show Yd _ (bd (PJ (Ak n)<|Ak<|Af p a) _);refine A5 (Un l1 ld A4) ?_;rw[show gd (decide<|(2:Int)=2) true=true from rfl,Cb rfl];refine A5 (zw (R4 l1 ld) A4) ?_;by_cases e:AI n (Af p a)=0
    .rw[B9 e];exact h6 (s1,Ak n,2) ⟨u,n,h.s2 e,λh=>by simp at h,λ_=>⟨rfl,l1⟩⟩
    .rw[CB e];let⟨b,mb,c,mc,hd⟩:=h.s3 e;exact AW<| .inr ⟨rfl,a,Cz,b,mb,c,mc,p,mp,hd⟩
  .dsimp only;rw[CT,B8];let⟨u,n,h,_⟩:=hP;let⟨m,m0,hm⟩:=h.flat;refine AW<| .inl ⟨?_,m,m0,_,hm⟩
   rcases h with⟨e,_⟩|⟨e,_⟩|⟨e,_⟩<;>rw[e]<;>decide
def Gn(C:A3 Q3)(h:H3):Nat:=(C.filter λp=>decide<|val h p=0).length
structure KZ(hs:A3 C1)(p:Q3)(o:A3 Int):Prop where
 nd:o.Nodup
 iff:∀j:Int,j∈o↔∃(m:Nat) (h:C1),j=(m:Int)/\hs[m]? =some h/\val (rh h) p=0
def KZ.len{hs:A3 C1}{o:A3 Int}(h:KZ hs p o):o.length<=hs.length:=by
 have:=Kb (l:=o) (T:=(List.range hs.length).map λm:Nat=>(m:Int)) h.nd λj mj=>by let⟨m,x,e,hx,_⟩:=(h.iff j).1 mj;exact BM.2 ⟨m,Ql.2 (FX.1 hx).1,e.symm⟩
 simpa using this
theorem KZ.at{hs:A3 C1}{o:A3 Int}(h:KZ hs p o){m:Nat}{x:C1}(hx:hs[m]? =some x):(m:Int)∈o↔val (rh x) p=0:=by
 rw[h.iff];constructor
 .grind
 .grind
theorem afz(o:∀h∈l,Cl h)(hl:l.length<=50)(hp:Ba 500 p):Yd (λr=>KZ l p r) (bz l<|Ak p):=by
 unfold bz;refine Ce l (λ(s:A3 Int) i=>(s,i)) (λA s=>KZ A p s) (λA x C s k hA hP next=>?_) (λs k hP=>?_) (s0:=[]) ⟨List.nodup_nil,λj=>by simp⟩ A4
 .dsimp;rw[CU hA,BX];have al:=D7 hA;have sl:=hP.len;have Fj:∀j:Int,(∃(m:Nat) (h:C1),j=(m:Int)/\(A++[x])[m]? =some h/\val (rh h) p=0)↔j∈s\/(j=(A.length:Int)/\val (rh x) p=0):=λj=>by
   rw[hP.iff];constructor
   .rintro⟨m,h,e,hm,t⟩;by_cases hlt:m<A.length
    .grind
    .grind
   .rintro(⟨m,h,e,hm,t⟩|⟨e,t⟩)
    .grind
    .exact⟨A.length,x,e,AT,t⟩
  refine DZ (λs':A3 Int=>KZ (A++[x]) p s') (λs' h'=>A5 (CE hA A4)<|next s' h') λk5 h5=>?_
  refine A5 (CC hA)<|A5 (rW (o x<|at_mem hA) hp A4) ?_
  rw[sign_zero];refine Ab (λhc=>A5 (app_1 A4 A4)<|h5 _ ⟨?_,λj=>?_⟩) λhc=>h5 _ ⟨hP.nd,λj=>?_⟩
  .rw[Sf];refine⟨hP.nd,AT,λa ma b mb e=>?_⟩;let⟨m,h,e1,hm,_⟩:=(hP.iff a).1 ma;rw[Cv.1 mb] at e;have:=(FX.1 hm).1;omega
  .grind
  .grind
 .dsimp;rw[CT,B8];exact AW hP
theorem oK{a b:A3 Int}(hb:b.Nodup)(ha:a.length<=100)(hbl:b.length<=100):VO a b=some (a.filter λx=>decide<|x∈b):=by
 refine HG ?_;unfold VO;refine Ce a (λ(s:A3 Int) i=>(s,i)) (λA s=>s=A.filter λx=>decide<|x∈b) (λA x C s k hA hP next=>?_) (λs k hP=>?_) (s0:=[]) rfl A4
 .dsimp;rw[CU hA,BX];have al:=D7 hA;have sl:s.length<=A.length:=AK;refine Ce b (λ(t:A3 Int) i=>(t,i)) (λB t=>t=s++(bif decide (x∈B) then [x] else [])) (λB y D t k2 hB hQ FN=>?_) (λt k2 hQ=>?_) (s0:=s) AT A4
  .dsimp;rw[CU hB,BX];refine DZ (λt':A3 Int=>t'=s++(bif decide (x∈B++[y]) then [x] else [])) (λt' h'=>A5 (CE hB A4)<|FN t' h') λk8 h8=>?_
   refine A5 (CC hA)<|A5 (CC hB)<|Ab (λhc=>?_) λhc=>h8 _ ?_
   .have e:=As hc;have KU:x∉B:=λmx=>by rw[hB,Sf] at hb;exact hb.2.2 x mx y Cz e
    have t0:t=s:=by rw[hQ];simp[KU]
    refine A5 (CC hA) (A5 (app_1 A4 (by rw[t0];omega))<|h8 _ ?_);rw[t0,B9 (show x∈B++[y] by simp[e])];rfl
   .grind
  .dsimp;rw[CT,B8];refine A5 (CE hA A4)<|next t ?_
   rw[hQ,hP,WW];cases hd:decide (x∈b)<;>simp[hd]
 .dsimp;rw[CT,B8];exact AW hP
abbrev ZL:=A3<|Q3×A3 Int
theorem ajn(o:∀h∈l,Cl h)(hl:l.length<=50)(hC:∀p∈C,Ba 500 p)(hn:C.length<=1000000):Yd (λr=>r.1=(l.filter λh=>decide<|3<=Gn C (rh h))/\r.2.1=C.map Ak/\∃Z:ZL,Z.map (·.1)=C/\r.2.2=Z.map (·.2)/\∀z∈Z,KZ r.1 z.1 z.2) (dq l<|C.map Ak):=by
 have cm:(C.map Ak).length=C.length:=C2 _;unfold dq;refine Ce l (λ(s:A3 C1×A3 T3×A3 (A3 Int)) i=>(s,i)) (λA s=>s.1=(A.filter λh=>decide<|3<=Gn C (rh h))/\s.2.2=[]) (λA x D s k hA hP next=>?_) (λs k hP=>?_) (s0:=([],[],[])) ⟨rfl,rfl⟩ A4
 .dsimp;rw[CU hA,BX];have al:=D7 hA;have ox:=o x<|at_mem hA
  refine DZ (λs':A3 C1×A3 T3×A3 (A3 Int)=>s'.1=((A++[x]).filter λh=>decide<|3<=Gn C (rh h))/\s'.2.2=[]) (λs' h'=>A5 (CE hA A4)<|next s' h') λk5 h5=>?_
  refine Ce C (λ(t:Int) i=>(t,i)) (λB t=>t=(Gn B (rh x):Int)) (λB p E t k7 hB hQ FN=>?_) (λt k7 hQ=>?_) (s0:=0) rfl A4
  .dsimp;rw[cm,CU hB,BX];have bl:=D7 hB;have ix:AB (C.map Ak) (B.length:Int)=some (Ak p):=by have:=CC hB;rw[Jj] at this⊢;rw[HL,this];rfl
   have cb:Gn B (rh x)<=B.length:=List.length_filter_le _ _;refine DZ (λt':Int=>t'=(Gn (B++[p]) (rh x):Int)) (λt' h'=>A5 (CE hB A4)<|FN t' h') λKL Be=>?_
   have ca:Gn (B++[p]) (rh x)=Gn B (rh x)+bif decide (val (rh x) p=0) then 1 else 0:=by unfold Gn;rw[WW,DS];cases hd:decide (val (rh x) p=0)<;>simp[hd]
   refine A5 (CC hA)<|A5 ix<|A5 (rW ox (hC p<|at_mem hB) A4) ?_
   rw[sign_zero];refine Ab (λhc=>A5 BH (Be _ (by rw[ca,hc,hQ];simp))) λhc=>Be _ (by rw[ca,hc,hQ];simp)
  .dsimp;rw[cm,CT,B8];have e:decide (3<=t)=decide (3<=Gn C (rh x)):=Gr.2 A4;rw[e];have fl:s.1.length<=A.length:=AK;refine Ab (λhc=>A5 (CC hA)<|A5 (app_1 A4 A4)<|h5 _ ⟨?_,hP.2⟩) λhc=>h5 _ ⟨?_,hP.2⟩
   .grind
   .grind
 .dsimp;rw[CT,B8];have os:∀h∈s.1,Cl h:=λh mh=>o h (by rw[hP.1] at mh;exact(IC.1 mh).1)
  have sl:s.1.length<=l.length:=AK;refine Ce C (λ(t:A3 (A3 Int)) i=>((s.1,C.map Ak,t),i)) (λB t=>∃Z:ZL,Z.map (·.1)=B/\t=Z.map (·.2)/\∀z∈Z,KZ s.1 z.1 z.2) (λB p E t k7 hB hQ FN=>?_) (λt k7 hQ=>?_) (s0:=s.2.2) ⟨[],rfl,by rw[hP.2];rfl,AT⟩ A4
  .dsimp;rw[cm,CU hB,BX];have bl:=D7 hB;have ix:AB (C.map Ak) (B.length:Int)=some (Ak p):=by have:=CC hB;rw[Jj] at this⊢;rw[HL,this];rfl
   let⟨Z,z1,z2,z3⟩:=hQ;have tl:t.length=B.length:=AK;refine A5 ix (Au (afz os A4<|hC p<|at_mem hB) λr hr=>A5 (app_1 A4 A4) (A5 (CE hB A4) (FN _ ⟨Z++[(p,r)],by simp[z1],by simp[z2],λz mz=>?_⟩)));rcases CJ.1 mz with m|m
   .exact z3 z m
   .grind
  .dsimp;rw[cm,CT,B8];exact AW ⟨hP.1,rfl,hQ⟩
structure Rel(K:C1->Prop)(l A:A3 C1)(T:A3 Int)(hv:A3 C1):Prop where
 len:T.length=l.length
 Hj:hv.Pairwise Jk
 mem:∀h,h∈hv↔h∈A/\K h
 at_:∀(j:Nat) (x:C1),A[j]? =some x->∃t:Int,T[j]? =some t/\((¬K x/\t= -1)\/(K x/\∃m:Nat,t=(m:Int)/\hv[m]? =some x))
def fY{hv:A3 C1}(h:hv.Pairwise Jk):hv.Nodup:=List.Pairwise.imp (λ{a b} (k:Jk a b) (e:a=b)=>jE b.1 (by rw[e] at k;exact k)) h
theorem oV{l:A3 α}(h:l.Nodup){i j:Nat}(hi:l[i]? =some x)(hj:l[j]? =some x):i=j:=by
 let⟨b1,e1⟩:=FX.1 hi;let⟨b2,e2⟩:=FX.1 hj;have p:=Zt.1 h;rcases Nat.lt_trichotomy i j with c|c|c
 .grind
 .exact c
 .grind
def Z4(u v:A3 C1)(h:u.length+v.length<=1000):BN 40 u v=some (u++v):=by unfold BN;rw[B9 (show(u.length+v.length)*40<=140737488355328 by omega),B9 (show u.length+v.length<=9223372036854775807 by omega)];rfl
def jV{l:A3 α}{i:Nat}(h:i<l.length):AB l (i:Int)=some l[i]:=by rw[Jj];exact Gs h
def acY(l:A3 C1)(Z:ZL)(cs:A3 T3)(r:A3 C1×A3 T3×A3 (A3 Int)):Prop:=r.1.Pairwise Jk/\(∀h,h∈r.1↔h∈l/\3<=Gn (Z.map (·.1)) (rh h))/\r.2.1=cs/\∃Z':ZL,Z'.map (·.1)=Z.map (·.1)/\r.2.2=Z'.map (·.2)/\∀z∈Z',KZ r.1 z.1 z.2
theorem anu(hl:l.length<=60)(IV:l.Nodup){Z:ZL}(hZ:Z.length<=1000000000)(Gz:∀z∈Z,KZ l z.1 z.2){cs:A3 T3}
 (hd:∀x∈l,∀y∈l,3<=Gn (Z.map (·.1)) (rh x)->3<=Gn (Z.map (·.1)) (rh y)->x.1=y.1->x=y):Yd (acY l Z cs) (eF l cs<|Z.map (·.2)):=by
 have zm:(Z.map (·.2)).length=Z.length:=C2 _;have zl:∀z∈Z,z.2.length<=60:=λz mz=>Ch (Gz z mz).len hl
 unfold eF;refine A5 (x:=List.replicate l.length 0) (by rw[Py A4 A4 A4];simp) ?_;refine Ce l (λ(s:A3 Int×A3 C1) i=>(s.1,s.2,i)) (λA s=>Rel (λx=>3<=Gn (Z.map (·.1)) (rh x)) l A s.1 s.2) (λA x C s k hA hP next=>?_) (λs k hP=>?_) (s0:=(List.replicate l.length 0,[])) ⟨AT,List.Pairwise.nil,AT,AT⟩ A4
 .dsimp only;rw[CU hA,BX];have al:=D7 hA;have mx:=at_mem hA;have lx:l[A.length]? =some x:=by rw[hA];simp
  have hxA:x∉A:=λc=>by rw[hA,Sf] at IV;exact IV.2.2 x c x Cz rfl
  obtain⟨t9,hv⟩:=s;dsimp only at hP⊢;have hvl:hv.length<=A.length:=Kb (fY hP.Hj) λh mh=>((hP.mem h).1 mh).1
  refine DZ (λs':A3 Int×A3 C1=>Rel (λx=>3<=Gn (Z.map (·.1)) (rh x)) l (A++[x]) s'.1 s'.2) (λs' h'=>A5 (CE hA A4)<|next s' h') λk7 h7=>?_
  refine Ce Z (λ(t:Int) i=>(t,i)) (λB t=>t=(Gn (B.map (·.1)) (rh x):Int)) (λB z E t k9 hB hQ FN=>?_) (λt k9 hQ=>?_) (s0:=0) rfl A4
  .dsimp;rw[zm,CU hB,BX];have bl:=D7 hB;have mz:=at_mem hB;have ix:AB (Z.map (·.2)) (B.length:Int)=some z.2:=by have:=CC hB;rw[Jj] at this⊢;rw[HL,this];rfl
   have cb:Gn (B.map (·.1)) (rh x)<=B.length:=by
    have:=List.length_filter_le (λp=>decide<|val (rh x) p=0)<|B.map (·.1)
    rw[C2] at this;exact this
   refine DZ (λt':Int=>t'=(Gn ((B++[z]).map (·.1)) (rh x):Int)) (λt' h'=>A5 (CE hB A4)<|FN t' h') λJL C7=>?_
   have ca:Gn ((B++[z]).map (·.1)) (rh x)=Gn (B.map (·.1)) (rh x)+bif decide (val (rh x) z.1=0) then 1 else 0:=by unfold Gn;rw[Ic,WW,DS];cases hd:decide (val (rh x) z.1=0)<;>simp[hd]
   refine A5 ix (A5 (oK (b:=[(A.length:Int)]) AT (by have:=zl z mz;omega) AT) ?_);have hlen:decide ((0:Int)<((z.2.filter λx=>decide<|x∈[(A.length:Int)]).length:Int))=decide (val (rh x) z.1=0):=by
    rw[Gr,<-(Gz z mz).at lx];constructor
    .intro h;obtain⟨y,my⟩:=List.exists_mem_of_length_pos (show 0<(z.2.filter λx=>decide<|x∈[(A.length:Int)]).length by omega);obtain⟨m1,m2⟩:=IC.1 my;have:y=(A.length:Int):=by simpa using m2
     rw[<-this];exact m1
    .intro h;have:=List.length_pos_of_mem (IC.2 ⟨h,AT⟩:(A.length:Int)∈z.2.filter λx=>decide<|x∈[(A.length:Int)]);omega
   rw[hlen];refine Ab (λhc=>A5 BH (C7 _ (by rw[ca,hc,hQ];simp))) λhc=>C7 _ (by rw[ca,hc,hQ];simp)
  .dsimp only;rw[zm,CT,B8];have hi:A.length<t9.length:=by rw[hP.len];omega
   refine A5 (jV hi)<|A5 (jV hi) ?_
   have setAt:∀(v:Int) (j:Nat),j≠A.length->(t9.set A.length v)[j]? =t9[j]? :=λv j hj=>by rw[qa<|Ne.symm hj]
   refine Ab (λhc=>h7 _ ?_) λhc=>?_
   .have hk: ¬3<=Gn (Z.map (·.1)) (rh x):=by have:=As hc;omega
    rw[Ci];refine⟨by simp[hP.len],hP.Hj,λh=>?_,λj y hj=>?_⟩
    .rw[hP.mem,CJ,Cv];constructor
     .rintro⟨a,b⟩;exact⟨.inl a,b⟩
     .rintro⟨a|a,b⟩
      .exact⟨a,b⟩
      .rw[a] at b;exact absurd b hk
    .by_cases hj2:j<A.length
     .rw[Mh hj2] at hj;rw[setAt _ _ A4];exact hP.at_ j y hj
     .grind
   .have hk:3<=Gn (Z.map (·.1)) (rh x):=by have:=Bh hc;omega
    have fin:∀B D:A3 C1,hv=B++D->(∀h∈B,Jk h x)->(∀h∈D,Jk x h)->Yd (acY l Z cs)
      (BE (λk41 (CH:A3 Int×Int)=>cond (decide<|CH.2<(A.length:Int)) (jn (λ(s43:(A3 Int))=>bd (AG<|CH.2+1) λKv=>k41 (s43,Kv)) λk44=>bd (AB CH.1 CH.2) λIr=>bd (AB CH.1 CH.2) λJm=>cond (decide<|(B.length:Int)<=Jm) (bd (AB CH.1 CH.2) λHt=>bd (AB CH.1 CH.2) λGj=>bd (AG<|Gj+1) λHv=>bd (AB CH.1 CH.2) λJo=>bd (AB CH.1 CH.2) λJM=>k44 (CH.1.set (CH.2).toNat Hv)) (k44 CH.1)) (bd (AB CH.1 (A.length:Int)) λIT=>bd (AB CH.1 (A.length:Int)) λx64=>bd (C5 hv 0 (B.length:Int)) λx66=>bd (BN 40 ([]:A3 ((Int×Int×Int)×AA)) x66) λx68=>bd (AB l (A.length:Int)) λx70=>bd (BN 40 x68 ([x70]:A3 ((Int×Int×Int)×AA))) λx72=>bd (C5 hv (B.length:Int) (hv.length:Int)) λJN=>bd (BN 40 x72 JN) λx76=>k7 ((CH.1.set ((A.length:Int)).toNat (B.length:Int)),x76))) ((t9.set ((A.length:Int)).toNat<| -1),0)):=λB D e hb hdd=>by
     rw[Ci];have bl:B.length<=hv.length:=by rw[e];simp
     have dl:hv.length=B.length+D.length:=by rw[e];simp
     refine Ce A (λ(T:A3 Int) i=>(T,i)) (λG T=>T.length=l.length/\∀j:Nat,T[j]? =(if j<G.length then((t9.set A.length<| -1)[j]?).map (λt=>bif decide ((B.length:Int)<=t) then t+1 else t) else(t9.set A.length<| -1)[j]?)) (λG y E T k41 hG hT Nz=>?_) (λT k41 hT=>?_) (s0:=t9.set A.length<| -1) ⟨by simp[hP.len],λj=>by simp⟩ A4
     .dsimp only;rw[CU hG,BX];have gl:=D7 hG;have yA:A[G.length]? =some y:=by rw[hG];simp
      obtain⟨t,t1,t2⟩:=hP.at_ _ _ yA;have T0:T[G.length]? =some t:=by rw[hT.2,if_neg A4,setAt _ _ A4,t1]
      have tb: -1<=t/\t<=1000:=by
       rcases t2 with⟨_,e⟩|⟨_,m,e,hm⟩
       .omega
       .have:=(FX.1 hm).1;omega
      have iT:AB T (G.length:Int)=some t:=by rw[Jj];exact T0
      have gT:G.length<T.length:=(FX.1 T0).1;refine DZ (λT':A3 Int=>T'.length=l.length/\∀j:Nat,T'[j]? =(if j<(G++[y]).length then((t9.set A.length<| -1)[j]?).map (λt=>bif decide ((B.length:Int)<=t) then t+1 else t) else(t9.set A.length<| -1)[j]?)) (λT' h'=>A5 (CE hG A4)<|Nz T' h') λk44 HI=>?_
      have z0:(t9.set A.length<| -1)[G.length]? =some t:=by rw[setAt _ _ A4,t1]
      refine A5 iT (A5 iT (Ab (λhc=>A5 iT (A5 iT (A5 BH (A5 iT (A5 iT (HI _ ⟨by simp[hT.1],λj=>?_⟩)))))) λhc=>HI _ ⟨hT.1,λj=>?_⟩))
      .rw[Ci];by_cases hj:j=G.length
       .subst hj;rw[Wb gT,if_pos AT,z0];simp[Ph,hc,BX]
       .grind
      .by_cases hj:j=G.length
       .subst hj;rw[T0,if_pos AT,z0];simp[Ph,hc,B8]
       .rw[hT.2];have:(j<G.length)=(j<(G++[y]).length):=propext DJ;simp[this]
     .dsimp;rw[CT,B8];have iT:A.length<T.length:=by rw[hT.1];omega
      have s1:C5 hv 0 (B.length:Int)=some B:=by rw[EC A4 A4 A4,e];simp
      have s2:C5 hv (B.length:Int) (hv.length:Int)=some D:=by rw[EC A4 A4 A4];simp;rw[e];simp
      refine A5 (jV iT)<|A5 (jV iT)<|A5 s1<|A5 (Z4 [] B DJ)<|A5 (CC hA)<|A5 (Z4 _ _ DJ)<|A5 s2<|A5 (Z4 _ _ DJ)<|h7 _ ?_
      rw[Ie];have sa:=hP.Hj;rw[e] at sa;obtain⟨a1,a2,a3⟩:=Hn.1 sa;refine⟨by simp[hT.1],Hn.2 ⟨Hn.2 ⟨a1,UR _ _,λh mh y my=>by rw[Cv.1 my];exact hb h mh⟩,a2,λh mh y my=>?_⟩,λh=>?_,λj y hj=>?_⟩
      .rcases CJ.1 mh with m|m
       .exact a3 h m y my
       .rw[Cv.1 m];exact hdd y my
      .have hm:=hP.mem h;rw[e,CJ] at hm;simp only[CJ,Cv];constructor
       .grind
       .grind
      ·
       by_cases hj2:j<A.length
       .rw[Mh hj2] at hj;obtain⟨t,t1,t2⟩:=hP.at_ j y hj;rw[qa A4,hT.2,if_pos hj2,setAt _ _ A4,t1];refine⟨_,rfl,?_⟩;rcases t2 with⟨n,e2⟩|⟨n,m,e2,hm⟩
        .left;refine⟨n,?_⟩;rw[e2];dsimp;rw[decide_eq_false A4];rfl
        .right;refine⟨n,?_⟩;rw[e] at hm;by_cases hbm:B.length<=m
         .refine⟨m+1,by rw[e2];dsimp;rw[decide_eq_true A4];rfl,?_⟩;rw[Mi hbm] at hm;rw[Mi (by simp<;>omega)];have:m+1-(B++[x]).length=m-B.length:=AT;rw[this];exact hm
         .grind
       .have:j=A.length:=by have:=(FX.1 hj).1;simp at this;omega
        subst this;simp at hj;refine⟨(B.length:Int),by rw[Wb iT],.inr ⟨by rw[<-hj];exact hk,B.length,rfl,?_⟩⟩;rw[ID,Mi<|BQ _];simp[hj]
    refine Ce hv (λ(_:Unit) i=>i) (λB _=>∀h∈B,Jk h x) (λB h D t Kt hB hQ2 Nz=>?_) (λt Kt hQ2=>?_) (s0:=()) AT A4
    .have hg:gd (decide<|(B.length:Int)<(hv.length:Int)) true=true:=by rw[CU hB];rfl
     have bl:=D7 hB;have mh:=at_mem hB;rw[Cb hg];refine A5 (CC hB) ?_;rw[Cb hg];refine A5 (CC hB) ?_;rw[Cb hg];refine A5 (CC hA) ?_;rw[Cb hg];refine A5 (ni h.1 x.1) ?_;rw[CU hB,Kg];refine Ab (λhc=>A5 (CE hB A4)<|Nz () λg mg=>?_) λhc=>fin B (h::D) hB hQ2 λy my=>?_
     .rcases CJ.1 mg with m|m
      .exact hQ2 g m
      .rw[Cv.1 m];exact As hc
     .have KU:=Bh hc;obtain⟨hA',hK⟩:=(hP.mem h).1 mh;have hne:h.1≠x.1:=λe=>hxA (by rw[<-hd h (by rw[hA];exact KB _ hA') x mx hK hk e];exact hA')
      have hxh:Jk x h:=((ab7 h.1 x.1).resolve_left hne).resolve_left KU;rcases Am.1 my with e|m
      .rw[e];exact hxh
      .have sa:=hP.Hj;rw[hB] at sa;exact abx hxh<|(Hb.1 (Hn.1 sa).2.1).1 y m
    .have hg:gd (decide<|(hv.length:Int)<(hv.length:Int)) true=false:=by rw[CT];rfl
     rw[Dy hg,Dy hg,Dy hg,Dy hg];rw[CT,Pe,B8];exact fin hv [] AT hQ2 AT
 .dsimp;rw[CT,B8];obtain⟨t9,hv⟩:=s;dsimp only at hP⊢;have hvn:=fY hP.Hj;have look:∀(j:Nat) (x:C1),l[j]? =some x->∃t:Int,AB t9 (j:Int)=some t/\((¬3<=Gn (Z.map (·.1)) (rh x)/\t= -1)\/(3<=Gn (Z.map (·.1)) (rh x)/\∃m:Nat,t=(m:Int)/\hv[m]? =some x)):=λj x hj=>by obtain⟨t,t1,t2⟩:=hP.at_ j x hj;exact⟨t,by rw[Jj];exact t1,t2⟩
  refine Ce Z (λ(t:A3 (A3 Int)) i=>((hv,cs,t),i)) (λB t=>∃Z':ZL,Z'.map (·.1)=B.map (·.1)/\t=Z'.map (·.2)/\∀z∈Z',KZ hv z.1 z.2) (λB z E t k81 hB hQ FN=>?_) (λt k81 hQ=>?_) (s0:=[]) ⟨[],rfl,rfl,AT⟩ A4
  .dsimp;rw[zm,CU hB,BX];have bl:=D7 hB;have mz:=at_mem hB;have oz:=Gz z mz;have ix:AB (Z.map (·.2)) (B.length:Int)=some z.2:=by have:=CC hB;rw[Jj] at this⊢;rw[HL,this];rfl
   obtain⟨Z',z1,z2,z3⟩:=hQ;have tl:t.length=B.length:=by rw[z2,C2,<-C2 (f:=λz:Q3×A3 Int=>z.1),z1,C2]
   have zz:=zl z mz;refine Ce z.2 (λ(u:A3 Int) i=>(u,i)) (λG u=>u.length<=G.length/\u.Nodup/\∀j':Int,j'∈u↔∃(j m:Nat) (x:C1),(j:Int)∈G/\l[j]? =some x/\j'=(m:Int)/\hv[m]? =some x) (λG j E u k84 hG hU Nz=>?_) (λu k84 hU=>?_) (s0:=[]) ⟨AT,List.nodup_nil,AT⟩ A4
   .dsimp;refine A5 ix ?_;rw[CU hG,BX];have gl:=D7 hG;obtain⟨n,x,e,hx,tx⟩:=(oz.iff j).1<|at_mem hG
    subst e;obtain⟨tv,tv1,tv2⟩:=look n x hx;refine DZ (λu':A3 Int=>u'.length<=(G++[(n:Int)]).length/\u'.Nodup/\∀j':Int,j'∈u'↔∃(j m:Nat) (x:C1),(j:Int)∈G++[(n:Int)]/\l[j]? =some x/\j'=(m:Int)/\hv[m]? =some x) (λu' h'=>A5 (CE hG A4)<|Nz u' h') λk89 h89=>?_
    refine A5 ix<|A5 (CC hG)<|A5 tv1<|A5 tv1 ?_
    have split:∀j':Int,(∃(j m:Nat) (x:C1),(j:Int)∈G++[(n:Int)]/\l[j]? =some x/\j'=(m:Int)/\hv[m]? =some x)↔j'∈u\/∃m:Nat,j'=(m:Int)/\hv[m]? =some x:=λj'=>by
     rw[hU.2.2];constructor
     .rintro⟨j,m,y,mj,hy,e,hm⟩;rcases CJ.1 mj with mj|mj
      .exact .inl ⟨j,m,y,mj,hy,e,hm⟩
      .have:j=n:=by have:=Cv.1 mj;omega
       rw[this,hx] at hy;cases hy;exact .inr ⟨m,e,hm⟩
     .rintro(⟨j,m,y,mj,hy,e,hm⟩|⟨m,e,hm⟩)
      .exact⟨j,m,y,KB _ mj,hy,e,hm⟩
      .exact⟨n,m,x,AT,hx,e,hm⟩
    rcases tv2 with⟨hk,e⟩|⟨hk,m,e,hm⟩
    .rw[e,show decide ((0:Int)<= -1)=false from rfl,B8];refine h89 _ ⟨DJ,hU.2.1,λj'=>?_⟩;rw[split];refine⟨.inl,λh=>h.elim id λ⟨m,_,hm⟩=>?_⟩;exact absurd ((hP.mem x).1<|KC hm).2 hk
    .rw[e,decide_eq_true (show(0:Int)<=(m:Int) by omega),BX];rw[e] at tv1;refine A5 ix<|A5 (CC hG)<|A5 tv1<|A5 tv1<|A5 (app_1 A4 A4)<|h89 _ ⟨DJ,?_,λj'=>?_⟩
     .rw[Sf];refine⟨hU.2.1,AT,λa ma b mb e2=>?_⟩;rw[Cv.1 mb] at e2;obtain⟨j,m',y,mj,hy,e3,KV⟩:=(hU.2.2 a).1 ma;have:m'=m:=A4;rw[this,hm] at KV;cases KV;have hjn:j=n:=oV IV hy hx;have hnG:(n:Int)∉G:=λc=>by have:=oz.nd;rw[hG,Sf] at this;exact this.2.2 _ c _ Cz rfl
      rw[hjn] at mj;exact hnG mj
     .rw[CJ,Cv,split];refine or_congr Iff.rfl ⟨λh=>⟨m,h,hm⟩,λ⟨m',h,KV⟩=>?_⟩;have:m'=m:=oV hvn KV hm;rw[h,this]
   .dsimp;refine A5 ix ?_;rw[CT,B8];refine A5 (app_1 A4 A4) (A5 (CE hB A4) (FN _ ⟨Z'++[(z.1,u)],by simp[z1],by simp[z2],λy my=>?_⟩));rcases CJ.1 my with m|m
    .exact z3 y m
    .rw[Cv.1 m];refine⟨hU.2.1,λj'=>?_⟩;rw[hU.2.2];constructor
     .rintro⟨j,m,x,mj,hx,e,hm⟩;exact⟨m,x,e,hm,(oz.at hx).1 mj⟩
     .rintro⟨m,x,e,hm,tx⟩;obtain⟨ml,_⟩:=(hP.mem x).1<|KC hm
      obtain⟨j,hj⟩:=WY.1 ml;exact⟨j,m,x,(oz.at hj).2 tx,hj,e,hm⟩
  .dsimp;rw[zm,CT,B8];exact AW ⟨hP.Hj,hP.mem,rfl,hQ⟩
abbrev Mz:=A3 C1×A3 T3×A3 (A3 Int)
structure RS(s:Mz)(M:A3 H3)(Z:ZL):Prop where
 ok:∀h∈s.1,Cl h
 Hj:s.1.Pairwise Jk
 fac:∀k,k∈s.1.map rh↔k∈M/\3<=Gn (Z.map (·.1)) k
 cor:s.2.1=Z.map (λz=>Ak z.1)
 on:s.2.2=Z.map (·.2)
 nd:(Z.map (·.1)).Nodup
 mem:∀p,p∈Z.map (·.1)↔Bi M p
 Gz:∀z∈Z,KZ s.1 z.1 z.2
def Ml.refl(M:A3 H3):Ml M M:=⟨λ_ h=>h,λh mh=>⟨h,mh,rfl,G5⟩⟩
def RS.Mq{s:Mz}{Z:ZL}(R:RS s M Z)(I:CF S M)(k:H3):k∈s.1.map rh↔k∈S.map (·.1):=by rw[R.fac,YV I (Ml.refl M) R.mem R.nd];rfl
def RS.Fb{s:Mz}{Z:ZL}(R:RS s M Z){z:Q3×A3 Int}(mz:z∈Z):Bi M z.1:=(R.mem z.1).1<|BM.2 ⟨z,mz,rfl⟩
def RS.len{s:Mz}{Z:ZL}(R:RS s M Z):s.1.length<=M.length:=by
 have nb:(s.1.map rh).Nodup:=M0.2 (Sg (λ{x y} mx my h e=>by rw[Qy (R.ok x mx) (R.ok y my) e] at h;exact jE _ h) R.Hj)
 have:=Kb nb λx mx=>((R.fac x).1 mx).1
 rwa [C2] at this
def RS.acb{s:Mz}{Z:ZL}(R:RS s M Z)(h:M.length<=31):Z.length<=29791:=by
 have:=pW R.nd λp mp=>(R.mem p).1 mp
 rw[C2] at this;have:=GL h<|GL h h
 omega
theorem wT(o:∀h∈l,Cl h)(hl:l.length<=50):Yd (λr=>(r.2=13/\ ¬EV (l.map rh))\/(r.2=12/\EV (l.map rh)/\ ¬M5 (l.map rh))\/(r.2=0/\EV (l.map rh)/\M5 (l.map rh)/\r.1.1.Pairwise Jk/\(∀S,CF S (l.map rh)->∀h,h∈r.1.1↔h∈l/\rh h∈S.map (·.1))/\∃Z,RS r.1 (l.map rh) Z)) (VW l):=by
 unfold VW;refine Au (ag6 o hl) λb hb=>Ab (λhc=>AW<| .inl ⟨rfl,λc=>?_⟩) λhc=>?_
 .grind
 have hB:EV (l.map rh):=hb.1 (by simpa using hc);refine Au (aip o hl) λs ⟨S,sl⟩=>?_
 have os:∀h∈s,Cl h:=λh mh=>o h<|S.sub h mh
 have L:=S.least;refine Au (ag8 os A4) λr hr=>?_
 let⟨C,c1,c2,c3,c4,c5⟩:=hr;have asb:s.length*(s.length*s.length)<=125000:=GL (show s.length<=50 by omega) (GL (show s.length<=50 by omega) (show s.length<=50 by omega));have cv:∀p,p∈C↔Bi (s.map rh) p:=λp=>by rw[c5,amG]
 rw[c1];refine Au (akD c3 A4) λd hd=>?_
 rcases hd with⟨d3,m,m0,c,hm⟩|⟨rfl,a,ma,b,mb,c,mc,d,md,auJ⟩
 .rw[B9 d3,BX];exact AW<| .inr<| .inl ⟨rfl,hB,ah0 hB m0 λp hp=>hm p<|(cv p).2<|(L.Fb p).2 hp⟩
 .rw[show decide ((3:Int)<3)=false from rfl,B8];have mem:∀{p},p∈C->Mem (l.map rh) p:=λmp=>((L.Fb _).1<|(cv _).1 mp).1
  have hi:M5 (l.map rh):=alY (λk mk=>(Cl.Wy o k mk).nz) (mem ma) (mem mb) (mem mc) (mem md) auJ;let⟨w,_,hw⟩:=aaR o hl;have I:CF w.1 (l.map rh):=AK;refine Au (ajn os A4 c3 A4) λD ⟨d1,d2,Z,z1,z2,z3⟩=>?_
  have R:RS D (l.map rh) Z:=by
   refine⟨λh mh=>?_,?_,λk=>?_,?_,z2,by rw[z1];exact c2,λp=>by rw[z1,cv,L.Fb],z3⟩
   .grind
   .rw[d1];exact S.Hj.filter _
   .rw[z1,d1,<-show _↔k∈l.map rh/\3<=Gn C k from YV I (Ml.refl _) (λp=>by rw[cv,L.Fb]) c2 k,YV I L cv c2];constructor
    .intro mk;let⟨x,mx,e⟩:=BM.1 mk;let⟨m1,m2⟩:=IC.1 mx;rw[<-e];exact⟨BM.2 ⟨x,m1,rfl⟩,As m2⟩
    .rintro⟨mk,h3⟩;let⟨x,mx,e⟩:=BM.1 mk;rw[<-e] at h3⊢;exact BM.2 ⟨x,IC.2 ⟨mx,B9 h3⟩,rfl⟩
   .rw[d2,<-z1,Nk];rfl
  refine AW<| .inr<| .inr ⟨rfl,hB,hi,R.Hj,λF hF h=>⟨λmh=>?_,λ⟨mh,mf⟩=>?_⟩,Z,R⟩
  .have mr:rh h∈D.1.map rh:=BM.2 ⟨h,mh,rfl⟩;let⟨g,mg,e⟩:=BM.1 ((R.fac<|rh h).1 mr).1;rw[<-Qy (o g mg) (R.ok h mh) e];exact⟨mg,by rw[e];exact(R.Mq hF _).1 mr⟩
  .let⟨g,mg,e⟩:=BM.1 ((R.Mq hF _).2 mf);rw[<-Qy (R.ok g mg) (o h mh) e];exact mg
def aoF{h:H3}(I:CF S M)(hM:KJ 14 (h::M))(hlen:M.length<=60)(hp:∀g∈h::M,JH g.1)(hi:M5 (h::M)):∃S',CF S' (h::M):=by
 obtain⟨r,_,⟨_,hr⟩|⟨_,hr⟩⟩:=Yd.xF I hM A4 hlen (hp h Cz).nz λa ma b mb=>fL (hp a ma)<|hp b mb
 .exact⟨_,hr⟩
 .exact absurd hi hr
def alf{S':A3 Bq}{h:H3}(I:CF S M)(I':CF S' (h::M)){f:Bq}(mf:f∈S')(hm:f.1∈M):f.1∈S.map (·.1):=by let⟨z,mz,tz,hc⟩:=abq I' mf;let⟨o,ho⟩:=I.int;let⟨g,mg,tg⟩:=I.cover z (λk mk=>mz k<|Br _ mk) ⟨f.1,hm,tz⟩;have g1:=(I.DT g mg).1;have:=rB ho I.nz I.norm hm g1 (hc g.1 (Br _ g1) tg) tz tg;exact BM.2 ⟨g,mg,this.symm⟩
end
section
variable(n:Int)(k:H3)(Z:ZL)
def JQ(a b:A3 Int):A3 Int:=a.filter λx=>decide<|x∈b
def KG(z w:Q3×A3 Int):ZL:=bif decide (val k z.1<0)&&decide (0<val k w.1)&&decide (2<=(JQ z.2 w.2).length) then [(Fy k z.1 w.1,JQ z.2 w.2++[n])] else []
def M9(z:Q3×A3 Int):ZL:=(bif decide (val k z.1<0) then [z] else [])++(bif decide (val k z.1=0) then [(z.1,z.2++[n])] else [])
def KF(z:Q3×A3 Int):ZL:=M9 n k z++Z.flatMap (KG n k z)
end
def Zw{α β:Type}{f:α->A3 β}{w:Nat}:∀{l:A3 α},(∀x∈l,(f x).length<=w)->(l.flatMap f).length<=l.length*w
 |[],_=>by simp
 |x::l,h=>by
  have:=Zw (l:=l) λy my=>h y<|Br _ my
  have:=h x Cz;rw[OX,DS,E2,SY];omega
def zP(n:Int)(k:H3)(z:Q3×A3 Int):(M9 n k z).length<=2:=by unfold M9;cases decide (val k z.1<0)<;>cases decide (val k z.1=0)<;>simp
def zQ(n:Int)(k:H3)(z w:Q3×A3 Int):(KG n k z w).length<=1:=by unfold KG;cases decide (val k z.1<0)&&decide (0<val k w.1)&&decide (2<=(JQ z.2 w.2).length)<;>simp
def zN(n:Int)(k:H3)(Z:ZL)(z:Q3×A3 Int):(KF n k Z z).length<=2+Z.length:=by
 unfold KF;rw[DS];have:=zP n k z;have:=Zw (l:=Z) (f:=KG n k z) (w:=1) λw _=>zQ n k z w
 omega
def ZB{a b:A3 Int}{x:Int}:x∈JQ a b↔x∈a/\x∈b:=by unfold JQ;simp
section
variable{s:Mz}{M:List H3}{Z:ZL}{S:List Bq}{h:C1}
variable{y:Q3×A3 Int}{n:Int}{z:Q3×A3 Int}
def acZ(S:A3 Bq)(k:H3)(z w:Q3):Prop:=val k z<0/\0<val k w/\∃f∈S,∃g∈S,f.1≠g.1/\val f.1 z=0/\val f.1 w=0/\val g.1 z=0/\val g.1 w=0
theorem gL(R:RS s M Z)(I:CF S M){w:Q3×A3 Int}(mz:z∈Z)(mw:w∈Z)(my:y∈KG n (rh h) z w):y=(Fy (rh h) z.1 w.1,JQ z.2 w.2++[n])/\acZ S (rh h) z.1 w.1:=by
 unfold KG at my;cases hd:decide (val (rh h) z.1<0)&&decide (0<val (rh h) w.1)&&decide (2<=(JQ z.2 w.2).length) with
 |false=>rw[hd] at my;cases my
 |true=>
  rw[hd] at my;rw[C9,C9,Hm,Hm,Hm] at hd;let⟨⟨h0,h1⟩,h2⟩:=hd;have nd:(JQ z.2 w.2).Nodup:=(R.Gz z mz).nd.sublist List.filter_sublist;refine⟨Cv.1 my,h0,h1,?_⟩
  match e:JQ z.2 w.2,h2,nd with
  |i::j::r,_,nd=>
   have mi:i∈JQ z.2 w.2:=by rw[e];simp
   have mj:j∈JQ z.2 w.2:=by rw[e];simp
   have KW:i≠j:=λc=>by rw[c] at nd;simp at nd
   let⟨i1,i2⟩:=ZB.1 mi;let⟨j1,j2⟩:=ZB.1 mj;obtain⟨a,x,rfl,hx,tx⟩:=((R.Gz z mz).iff i).1 i1;obtain⟨b,y',rfl,hy,ty⟩:=((R.Gz z mz).iff j).1 j1;have tx':=((R.Gz w mw).at hx).1 i2;have KK:=((R.Gz w mw).at hy).1 j2;let⟨f,mf,ef⟩:=BM.1<|(R.Mq I<|rh x).1<|BM.2 ⟨x,KC hx,rfl⟩
   let⟨g,mg,eg⟩:=BM.1<|(R.Mq I<|rh y').1<|BM.2 ⟨y',KC hy,rfl⟩
   refine⟨f,mf,g,mg,λc=>?_,by rw[ef];exact tx,by rw[ef];exact tx',by rw[eg];exact ty,by rw[eg];exact KK⟩;rw[ef,eg] at c;have:=Qy (R.ok x<|KC hx) (R.ok y'<|KC hy) c;rw[this] at hx;have:=oV (fY R.Hj) hx hy;exact KW A4
theorem zO{k:H3}(my:y∈M9 n k z):(y=z/\val k z.1<0)\/(y=(z.1,z.2++[n])/\val k z.1=0):=by
 unfold M9 at my;rw[CJ] at my;rcases my with my|my
 .grind
 .grind
theorem Yy(R:RS s M Z)(I:CF S M)(mz:z∈Z)(my:y∈KF n (rh h) Z z):(y=z/\val (rh h) z.1<0)\/(y=(z.1,z.2++[n])/\val (rh h) z.1=0)\/∃w∈Z,y=(Fy (rh h) z.1 w.1,JQ z.2 w.2++[n])/\acZ S (rh h) z.1 w.1:=by
 unfold KF at my;rw[CJ] at my;rcases my with my|my
 .rcases zO my with c|c
  .exact .inl c
  .grind
 .let⟨w,mw,my⟩:=Mf.1 my;exact .inr<| .inr ⟨w,mw,gL R I mz mw my⟩
theorem ahu(R:RS s M Z)(I:CF S M)(n:Int):((Z.flatMap<|KF n (rh h) Z).map (·.1)).Nodup:=by
 have zp:Z.Pairwise λa b=>a.1≠b.1:=M0.1 R.nd
 refine M0.2<|ij.2 ⟨λz mz=>?_,?_⟩
 .unfold KF;rw[Hn];refine⟨?_,ij.2 ⟨λw mw=>?_,?_⟩,λx mx y my=>?_⟩
  .unfold M9;by_cases c:val (rh h) z.1=0
   .grind
   .rw[CB c];cases decide (val (rh h) z.1<0)<;>simp
  .unfold KG;cases decide (val (rh h) z.1<0)&&decide (0<val (rh h) w.1)&&decide (2<=(JQ z.2 w.2).length)<;>simp
  .refine Sg (λ{a b} ma mb ne x mx y my e=>?_) zp;let⟨ex,x0,x1,f,mf,g,mg,hne,a1,a2,a3,a4⟩:=gL R I mz ma mx;let⟨ey,y0,y1,_⟩:=gL R I mz mb my;rw[ex,ey] at e;exact ne (zx I (R.Fb mz) (R.Fb ma) (R.Fb mz) (R.Fb mb) x0 x1 y0 y1 mf mg hne a1 a2 a3 a4 e).2
  .let⟨w,mw,my⟩:=Mf.1 my;let⟨ey,y0,y1,_⟩:=gL R I mz mw my;have ex:x.1=z.1:=by rcases zO mx with⟨e,_⟩|⟨e,_⟩<;>rw[e]
   rw[ex,ey];exact λe=>qo (R.Fb mz) (R.Fb mw) (R.Fb mz) y0 y1 e.symm
 .refine Sg (λ{a b} ma mb ne x mx y my e=>?_) zp;have Fj:∀{z y:Q3×A3 Int},(y=z/\val (rh h) z.1<0)\/(y=(z.1,z.2++[n])/\val (rh h) z.1=0)->y.1=z.1:=λ{z y} c=>by rcases c with⟨e,_⟩|⟨e,_⟩<;>rw[e]
  rcases or_assoc.2 (Yy R I ma mx) with cx|⟨w,mw,ex,x0,x1,f,mf,g,mg,hne,a1,a2,a3,a4⟩
  .rcases or_assoc.2 (Yy R I mb my) with cy|⟨v,mv,ey,y0,y1,_⟩
   .grind
   .rw[Fj cx,ey] at e;exact qo (R.Fb mb) (R.Fb mv) (R.Fb ma) y0 y1 e.symm
  .rcases or_assoc.2 (Yy R I mb my) with cy|⟨v,mv,ey,y0,y1,_⟩
   .rw[Fj cy,ex] at e;exact qo (R.Fb ma) (R.Fb mw) (R.Fb mb) x0 x1 e
   .rw[ex,ey] at e;exact ne (zx I (R.Fb ma) (R.Fb mw) (R.Fb mb) (R.Fb mv) x0 x1 y0 y1 mf mg hne a1 a2 a3 a4 e).1
theorem alD(R:RS s M Z)(I:CF S M)(hz:(rh h).1≠o3)(p:Q3):p∈(Z.flatMap<|KF (s.1.length:Int) (rh h) Z).map (·.1)↔Bi (rh h::M) p:=by
 constructor
 .intro mp;obtain⟨y,my,rfl⟩:=BM.1 mp;let⟨z,mz,my⟩:=Mf.1 my;rcases Yy R I mz my with⟨e,hv⟩|⟨e,hv⟩|⟨w,mw,e,h0,h1,f,mf,g,mg,hne,a1,a2,a3,a4⟩
  .rw[e];exact fe (R.Fb (z:=z) mz)<|Fu hv
  .rw[e];show Bi _ z.1;exact fe (R.Fb (z:=z) mz) (by rw[hv];exact G5)
  .rw[e];show Bi _ (Fy (rh h) z.1 w.1);exact(alm I (R.Fb mz) (R.Fb mw) h0 h1 mf mg hne a1 a2 a3 a4).1
 .intro hp;have Fj:∀z∈Z,val (rh h) z.1<=0->z.1∈(Z.flatMap<|KF (s.1.length:Int) (rh h) Z).map (·.1):=λz mz hv=>by
   by_cases h0:val (rh h) z.1=0
   .refine BM.2 ⟨(z.1,z.2++[(s.1.length:Int)]),Mf.2 ⟨z,mz,?_⟩,rfl⟩;unfold KF M9;rw[B9 h0];simp
   .refine BM.2 ⟨z,Mf.2 ⟨z,mz,?_⟩,rfl⟩;unfold KF M9;rw[B9 (show val (rh h) z.1<0 by grind)];simp
  rcases ai6 I hp with hv|⟨u,v,hu,hv,h0,h1,e,f,mf,g,mg,hne,a1,a2,a3,a4⟩
  .obtain⟨z,mz,rfl⟩:=BM.1 ((R.mem p).2 hv);exact Fj z mz<|hp.1 _ Cz
  .obtain⟨z,mz,rfl⟩:=BM.1 ((R.mem u).2 hu);obtain⟨w,mw,rfl⟩:=BM.1<|(R.mem v).2 hv
   refine BM.2 ⟨(Fy (rh h) z.1 w.1,JQ z.2 w.2++[(s.1.length:Int)]),Mf.2 ⟨z,mz,?_⟩,e.symm⟩;have two:2<=(JQ z.2 w.2).length:=by
    let⟨x,mx,ex⟩:=BM.1<|(R.Mq I f.1).2<|BM.2 ⟨f,mf,rfl⟩
    let⟨y,my,ey⟩:=BM.1<|(R.Mq I g.1).2<|BM.2 ⟨g,mg,rfl⟩
    let⟨a,ha⟩:=WY.1 mx;let⟨b,hb⟩:=WY.1 my;rw[<-ex] at a1 a2;rw[<-ey] at a3 a4;have m1:(a:Int)∈JQ z.2 w.2:=ZB.2 ⟨((R.Gz z mz).at ha).2 a1,((R.Gz w mw).at ha).2 a2⟩;have m2:(b:Int)∈JQ z.2 w.2:=ZB.2 ⟨((R.Gz z mz).at hb).2 a3,((R.Gz w mw).at hb).2 a4⟩;have J1:a≠b:=λc=>hne (by rw[<-ex,<-ey];rw[c,hb] at ha;cases ha;rfl)
    have:=Kb (l:=[(a:Int),(b:Int)]) (T:=JQ z.2 w.2) DJ (by
     intro x mx;rcases Am.1 mx with e|mx
     .rw[e];exact m1
     .rw[Cv.1 mx];exact m2)
    exact this
   unfold KF;refine WZ _<|Mf.2 ⟨w,mw,?_⟩
   unfold KG;rw[B9 h0,B9 h1,B9 two];simp
theorem alB(R:RS s M Z)(I:CF S M)(hm:∀x∈s.1,rh x∈M)(my:y∈Z.flatMap (KF (s.1.length:Int) (rh h) Z)):KZ (s.1++[h]) y.1 y.2:=by
 have up:∀{p:Q3} {o:A3 Int},KZ s.1 p o->∀j:Int,(∃(m:Nat) (x:C1),j=(m:Int)/\(s.1++[h])[m]? =some x/\val (rh x) p=0)↔j∈o\/(j=(s.1.length:Int)/\val (rh h) p=0):=λ{p o} ho j=>by
  rw[ho.iff];constructor
  .grind
  .rintro(⟨m,x,e,hx,t⟩|⟨e,t⟩)
   .grind
   .exact⟨s.1.length,h,e,AT,t⟩
 have fresh:∀{p:Q3} {o:A3 Int},KZ s.1 p o->(s.1.length:Int)∉o:=λ{p o} ho c=>by let⟨m,x,e,hx,_⟩:=(ho.iff _).1 c;have:=(FX.1 hx).1;omega
 have put:∀{p:Q3} {o:A3 Int},KZ s.1 p o->val (rh h) p=0->KZ (s.1++[h]) p (o++[(s.1.length:Int)]):=λ{p o} ho t=>by
  refine⟨?_,λj=>?_⟩
  .rw[Sf];refine⟨ho.nd,AT,λa ma b mb e=>fresh ho ?_⟩;rw[Cv.1 mb] at e;rw[<-e];exact ma
  .grind
 let⟨z,mz,my⟩:=Mf.1 my;rcases Yy R I mz my with⟨e,hv⟩|⟨e,hv⟩|⟨w,mw,e,h0,h1,f,mf,g,mg,hne,a1,a2,a3,a4⟩
 .rw[e];refine⟨(R.Gz z mz).nd,λj=>?_⟩;rw[up<|R.Gz z mz];refine⟨.inl,λc=>c.elim id λ⟨_,t⟩=>?_⟩;rw[t] at hv;exact absurd hv AK
 .rw[e];exact put (R.Gz z mz) hv
 .rw[e];have ho:Gl (val (rh h) z.1) (val (rh h) w.1)=true:=Kc.2<| .inl ⟨h0,h1⟩
  refine put ⟨(R.Gz z mz).nd.sublist List.filter_sublist,λj=>?_⟩<|Z9 ho
  rw[ZB];constructor
  .rintro⟨j1,j2⟩;let⟨m,x,e,hx,t⟩:=((R.Gz z mz).iff j).1 j1;rw[e] at j2;exact⟨m,x,e,hx,(SA (R.Fb mz).1 (R.Fb mw).1 ho<|hm x<|KC hx).2 ⟨t,((R.Gz w mw).at hx).1 j2⟩⟩
  .rintro⟨m,x,e,hx,t⟩;let⟨t1,t2⟩:=(SA (R.Fb mz).1 (R.Fb mw).1 ho<|hm x<|KC hx).1 t;rw[e];exact⟨((R.Gz z mz).at hx).2 t1,((R.Gz w mw).at hx).2 t2⟩
end
section
variable{S:A3 Bq}{l:A3 C1}{α:Type}{M:A3 H3}{s:Mz}{Z:ZL}{b:A3 C1}
def Ho{β:Type}{l A C:A3 α}{x:α}(f:α->β)(h:l=A++x::C):AB (l.map f) (A.length:Int)=some (f x):=by have:=CC h;rw[Jj] at this⊢;rw[HL,this];rfl
def wh(I:CF S M){f:Bq}(mf:f∈S){p:Q3}(mp:p∈f.2):Bi M p:=(((I.DT f mf).2.2.2 p).1 mp).1
def abG(M:A3 H3)(h:C1)(r:Mz×Bool):Prop:=(r.2=true/\(∃Z',RS r.1 (rh h::M) Z')/\∃S',CF S' (rh h::M))\/(r=(([],[],[]),false)/\ ¬M5 (rh h::M))
def aoo{k:H3}(R:RS s M Z)(I:CF S M)(hz:k.1≠o3)(hn:∀a∈k::M,∀b∈k::M,RO a b->a=b)(ho:∀z∈Z,val k z.1<=0):RS s (k::M) Z/\CF S (k::M):=by
 have hf:∀f∈S,∀p∈f.2,val k p<=0:=λf mf p mp=>by
  let⟨z,mz,e⟩:=BM.1<|(R.mem p).2<|wh I mf mp
  rw[<-e];exact ho z mz
 have I':=I.out hz hn hf;have hv:=λp=>(R.mem p).trans (aBe I.bdd (λq=>zM I hf) p).symm
 exact⟨⟨R.ok,R.Hj,λg=>(R.Mq I g).trans<|YV I' (Ml.refl _) hv R.nd g,R.cor,R.on,R.nd,hv,R.Gz⟩,I'⟩
def Le(W:ZL):A3 T3×A3 (A3 Int):=(W.map<|λz=>Ak z.1,W.map (·.2))
def qj(W:ZL)(z:Q3×A3 Int):Le (W++[z])=((Le W).1++[Ak z.1],(Le W).2++[z.2]):=by unfold Le;simp
def aav(W:ZL):(Le W).1.length=W.length/\(Le W).2.length=W.length:=by unfold Le;simp
def abB{b:Nat}{s:A3 α}(hb:b<=1000)(hs:s.length<=1000000000):BN b [] s=some s:=by unfold BN;have h1:(([]:A3 α).length+s.length)*b<=140737488355328:=Ch (GL (show([]:A3 α).length+s.length<=1000000000 by simp;omega) hb) A4;rw[B9 h1,B9 (show([]:A3 α).length+s.length<=9223372036854775807 by simp;omega)];rfl
theorem ahm{h:C1}(R:RS s M Z)(I:CF S M)(oh:Cl h)(hM:KJ 14 M)(hp:∀g∈M,JH g.1)(hlen:M.length<=31):Yd (abG M h) (eI s h):=by
 have hM':KJ 14 (rh h::M):=λg mg=>(Am.1 mg).elim (λe=>by rw[e];exact⟨oh.lvn A4,oh.Ky⟩)<|hM g
 have hp':∀g∈rh h::M,JH g.1:=λg mg=>(Am.1 mg).elim (λe=>by rw[e];exact oh.kN)<|hp g
 have hnm:∀a∈rh h::M,∀b∈rh h::M,RO a b->a=b:=λa ma b mb=>fL (hp' a ma)<|hp' b mb
 have hz:(rh h).1≠o3:=oh.kN.nz;have zl:=R.acb hlen;have zv:∀z∈Z,Ba 500 z.1:=λz mz=>Fq (jA hM<|R.Fb mz) A4
 have sl:=R.len;let⟨hs,cs,os⟩:=s;have ecs:cs=Z.map (λz=>Ak z.1):=R.cor;have eos:os=Z.map (·.2):=R.on;subst ecs eos;have cl:(Z.map λz=>Ak z.1).length=Z.length:=C2 _;unfold eI;dsimp only at sl⊢;refine Ce Z (λ(t:A3 AA×Bool×Bool) i=>(t.1,t.2.1,t.2.2,i)) (λA t=>t=(A.map<|λz=>Av<|val (rh h) z.1,A.any<|λz=>decide<|val (rh h) z.1<0,A.any<|λz=>decide<|0<val (rh h) z.1)) (λA z C t k hA hP next=>?_) (λt k hP=>?_) (s0:=([],false,false)) rfl A4
 .dsimp;rw[cl,CU hA,BX];have mz:=at_mem hA;have al:=D7 hA;let⟨vv,vl⟩:=jB oh (zv z mz) A4;have sg:=R6 vl A4;rw[hP];refine A5 (Ho _ hA) (A5 vv (A5 (app_1 A4 (by rw[C2];omega)) ?_));have fin:∀BA BK:Int,(A.any (λz=>decide<|val (rh h) z.1<0)=false->BA=(val (rh h) z.1).num.sign)->(A.any (λz=>decide<|0<val (rh h) z.1)=false->BK=(val (rh h) z.1).num.sign)->Yd (abG M h) (bd (AG<|(A.length:Int)+1) λBk=>k (A.map (λz=>Av<|val (rh h) z.1)++[Av<|val (rh h) z.1],(A.any (λz=>decide<|val (rh h) z.1<0)||decide (BA<0)),(A.any (λz=>decide<|0<val (rh h) z.1)||decide (0<BK)),Bk)):=λBA BK e1 e2=>by
   refine A5 (CE hA A4)<|next (_,_,_) ?_
   refine Prod.ext AT<|Prod.ext ?_ ?_
   .dsimp;rw[WL];cases c:A.any (λz=>decide<|val (rh h) z.1<0) with|true=>rfl|false=>rw[e1 c,sign_neg];simp
   .dsimp;rw[WL];cases c:A.any (λz=>decide<|0<val (rh h) z.1) with|true=>rfl|false=>rw[e2 c,Vw];simp
  refine GR (λg1=>⟨_,sg,GR (λg2=>⟨_,sg,fin _ _ (λ_=>rfl) λ_=>rfl⟩) λg2=>fin _ _ (λ_=>rfl) λc=>?_⟩) λg1=>GR (λg2=>⟨_,sg,fin _ _ (λc=>?_) λ_=>rfl⟩) λg2=>fin _ _ (λc=>?_) λc=>?_
  .rw[c] at g2;cases g2
  .rw[c] at g1;cases g1
  .rw[c] at g1;cases g1
  .rw[c] at g2;cases g2
 .dsimp;rw[cl,CT,B8,hP];refine Ab (λhin=>AW<| .inr ⟨rfl,?_⟩) λhin=>Ab (λbC=>AW<| .inl ⟨rfl,?_⟩) λbC=>?_
  .refine I.empty λf mf p mp=>?_
   let⟨z,mz,e⟩:=BM.1<|(R.mem p).2<|wh I mf mp
   rw[<-e,<-Rat.not_lt];intro c;rw[GM,Zg] at hin;exact hin z mz<|B9 c
  .rw[GM,Zg] at bC;have:=aoo R I hz hnm λz mz=>Rat.not_lt.1 λc=>bC z mz<|B9 c
   exact⟨⟨_,this.1⟩,_,this.2⟩
  .rw[WV,iR] at hin bC;let⟨zi,mzi,hzi⟩:=hin;let⟨zo,mzo,hzo⟩:=bC;have hzi:=As hzi;have hzo:=As hzo;have hin:M5 (rh h::M):=by let⟨o,ho⟩:=I.int;let⟨q,q1,q2⟩:=sj ho (R.Fb mzi).1 hzi;exact⟨q,λg mg=>(Am.1 mg).elim (λe=>by rw[e];exact q2)<|q1 g⟩
   let⟨S',I'⟩:=aoF I hM' A4 hp' hin;have nw:∀W:ZL,W.length<=1000000000->(Le W).1.length<=1000000000/\(Le W).2.length<=1000000000:=λW hW=>by rw[(aav W).1,(aav W).2];exact⟨hW,hW⟩
   refine Ce Z (λ(t:A3 T3×A3 (A3 Int)) i=>(t.1,t.2,i)) (λA t=>t=Le (A.flatMap<|KF (hs.length:Int) (rh h) Z)) (λA z C t Mt hA hQ next=>?_) (λt Mt hQ=>?_) (s0:=([],[])) rfl A4
   .dsimp;rw[CU hA,BX];have mz:=at_mem hA;have al:=D7 hA;have wl:(A.flatMap<|KF (hs.length:Int) (rh h) Z).length<=29791*29793:=by
     have:=Zw (l:=A) (f:=KF (hs.length:Int) (rh h) Z) (w:=29793) λz _=>by have:=zN (hs.length:Int) (rh h) Z z;omega
     exact Ch this<|GL A4<|BQ _
    generalize hW:A.flatMap (KF (hs.length:Int) (rh h) Z)=W at wl hQ
    let⟨vv,vl⟩:=jB oh (zv z mz) A4;have sg:=R6 vl A4;have iv:=Ho (λz:Q3×A3 Int=>Av<|val (rh h) z.1) hA;have ic:=Ho (λz:Q3×A3 Int=>Ak z.1) hA;have io:=Ho (λz:Q3×A3 Int=>z.2) hA;have zo:=(R.Gz z mz).len;have zn:z.2.length<=100:=by dsimp only at zo;omega
    refine A5 iv<|A5 iv<|A5 sg ?_
    refine DZ (λt':A3 T3×A3 (A3 Int)=>t'=Le (W++bif decide (val (rh h) z.1<0) then [z] else [])) (λt' h'=>?_) λKt ER=>?_
    .refine A5 iv (A5 iv<|A5 sg ?_);refine DZ (λt':A3 T3×A3 (A3 Int)=>t'=Le (W++M9 (hs.length:Int) (rh h) z)) (λt2 h2=>?_) λk47 J2=>?_
     .refine Ce Z (λ(t:A3 T3×A3 (A3 Int)) i=>(t.1,t.2,i)) (λB t=>t=Le (W++(M9 (hs.length:Int) (rh h) z++B.flatMap (KG (hs.length:Int) (rh h) z)))) (λB w D u k62 hB hU FN=>?_) (λu k62 hU=>?_) (s0:=t2) (by rw[h2];simp) A4
      .dsimp;rw[CU hB,BX];have mw:=at_mem hB;have bl:=D7 hB;have el:(M9 (hs.length:Int) (rh h) z++B.flatMap (KG (hs.length:Int) (rh h) z)).length<=29793:=by
        rw[DS];have:=zP (hs.length:Int) (rh h) z;have:=Zw (l:=B) (f:=KG (hs.length:Int) (rh h) z) (w:=1) λw _=>zQ _ _ _ _
        omega
       generalize hV:M9 (hs.length:Int) (rh h) z++B.flatMap (KG (hs.length:Int) (rh h) z)=V at el hU
       let⟨ww,wl2⟩:=jB oh (zv w mw) A4;have sgw:=R6 wl2 A4;have jv:=Ho (λz:Q3×A3 Int=>Av<|val (rh h) z.1) hB;have jc:=Ho (λz:Q3×A3 Int=>Ak z.1) hB;have jo:=Ho (λz:Q3×A3 Int=>z.2) hB;have wo:=(R.Gz w mw).len;have wn:w.2.length<=100:=by dsimp only at wo;omega
       have fl:M9 (hs.length:Int) (rh h) z++(B++[w]).flatMap (KG (hs.length:Int) (rh h) z)=V++KG (hs.length:Int) (rh h) z w:=by rw[<-hV];simp
       refine DZ (λt':A3 T3×A3 (A3 Int)=>t'=Le (W++(V++KG (hs.length:Int) (rh h) z w))) (λt' h'=>A5 (CE hB A4) (FN (_,_) (by rw[fl,<-h']))) λk65 h65=>?_
       refine A5 io<|A5 jo<|A5 (oK (R.Gz w mw).nd zn wn)<|A5 iv<|A5 iv<|A5 sg ?_
       have two:decide ((2:Int)<=((List.filter (λx=>decide<|x∈w.2) z.2).length:Int))=decide (2<=(JQ z.2 w.2).length):=Gr.2 (by unfold JQ;omega);rw[sign_neg,two];by_cases h0:val (rh h) z.1<0
       .have g1:gd (decide<|val (rh h) z.1<0) true=true:=by rw[B9 h0];rfl
        rw[Cb g1];refine A5 jv ?_;rw[Cb g1];refine A5 jv ?_;rw[Cb g1];refine A5 sgw ?_;rw[Vw];refine Ab (λhc=>?_) λhc=>h65 _ (by rw[hU];unfold KG;rw[hc];simp)
        have h1:0<val (rh h) w.1:=by rw[C9,C9] at hc;exact As hc.1.2
        have BI:=lvs vl wl2;have hne:val (rh h) z.1-val (rh h) w.1≠0:=AK;have hdv:=JR vl<|lvi BI hne
        rw[<-OT] at hdv;have hwz:=Pa (zv w mw)<|zv z mz
        have hsc:=Me hwz hdv;refine A5 iv<|A5 iv<|A5 iv<|A5 iv<|A5 jv<|A5 jv<|A5 (Sx vl wl2 A4 A4)<|A5 (art vl BI A4 A4 hne)<|A5 ic<|A5 jc<|A5 ic<|A5 (Pt (zv w mw) (zv z mz) A4)<|A5 (Pj hwz hdv A4)<|A5 (R7 (zv z mz) hsc A4) ?_
        have wv:(W++V).length<=1000000000:=by rw[DS];omega
        rw[hU];refine A5 (app_1 A4 (nw _ wv).1)<|A5 (app_1 A4 ?_)<|A5 (app_1 A4 (nw _ wv).2)<|h65 _ ?_
        .have:=List.length_filter_le (λx=>decide<|x∈w.2) z.2;omega
        .unfold KG;rw[hc,BX,<-ID,qj];rfl
       .have g1:gd (decide<|val (rh h) z.1<0) true=false:=by rw[CB h0];rfl
        rw[Dy g1,Dy g1,Dy g1];rw[CB h0,Pe,Pe,B8];refine h65 _ (by rw[hU];unfold KG;rw[CB h0];simp)
      .dsimp;rw[CT,B8];refine A5 (CE hA A4)<|next (_,_) ?_
       rw[List.flatMap_append,hW];simp[OX,List.flatMap_nil,K9];exact hU
     .have eq0:decide ((val (rh h) z.1).num.sign=0)=decide (val (rh h) z.1=0):=sign_zero _;rw[eq0,h'];have wv:(W++bif decide (val (rh h) z.1<0) then [z] else []).length<=1000000000:=by rw[DS];cases decide (val (rh h) z.1<0)<;>simp<;>omega
      refine Ab (λhc=>A5 ic<|A5 (app_1 A4 (nw _ wv).1)<|A5 io<|A5 (abB A4 A4)<|A5 (app_1 A4 A4)<|A5 (app_1 A4 (nw _ wv).2)<|J2 _ ?_) λhc=>J2 _ ?_
      .unfold M9;rw[hc,BX,<-ID,qj]
      .unfold M9;rw[hc,B8,K9]
    .rw[sign_neg,hQ];refine Ab (λhc=>A5 ic<|A5 (app_1 A4 (nw W A4).1)<|A5 io<|A5 (abB A4 A4)<|A5 (app_1 A4 (nw W A4).2)<|ER _ ?_) λhc=>ER _ ?_
     .rw[hc,BX,qj]
     .rw[hc,B8,K9]
   .dsimp;rw[CT,B8,hQ];have hvn:=fY R.Hj;have hsl:hs.length<=31:=A4;have sM:∀x∈hs,rh x∈M:=λx mx=>((R.fac<|rh x).1<|BM.2 ⟨x,mx,rfl⟩).1
    have OD:h∉hs:=λc=>by
     have:=(R.Fb mzo).1 _<|sM h c
     grind
    have Zm:=λp=>alD (s:=(hs,_,_)) R I hz p
    have Zn:=ahu (s:=(hs,_,_)) (h:=h) R I (hs.length:Int);have Zo:=λy=>alB (s:=(hs,_,_)) (h:=h) R I sM (y:=y)
    dsimp only at Zm Zo
    generalize hW:Z.flatMap (KF (hs.length:Int) (rh h) Z)=W at Zm Zn Zo
    have Wl:W.length<=1000000000:=by
     have:=Zw (l:=Z) (f:=KF (hs.length:Int) (rh h) Z) (w:=29793) λz _=>by have:=zN (hs.length:Int) (rh h) Z z;omega
     rw[hW] at this;exact Ch this<|Ch (GL zl<|BQ _) A4
    have F:=YV I' (Ml.refl _) Zm Zn;have lM:∀x∈hs++[h],rh x∈rh h::M:=λx mx=>(CJ.1 mx).elim (λm=>Br _<|sM x m) λm=>by rw[Cv.1 m];exact Cz
    have lo:∀x∈hs++[h],Cl x:=λx mx=>(CJ.1 mx).elim (R.ok x) λm=>by rw[Cv.1 m];exact oh
    refine A5 (Z4 [] hs DJ)<|A5 (Z4 _ _ DJ) ?_
    rw[Ie];refine Au (anu (l:=hs++[h]) DJ ?_ Wl Zo (cs:=(Le W).1) λx mx y my cx cy e=>?_) λr hr=>AW<| .inl ⟨rfl,?_,S',I'⟩
    .rw[Sf];exact⟨hvn,AT,λa ma b mb e=>OD (by rw[<-Cv.1 mb,<-e];exact ma)⟩
    .let⟨f,mf,ef⟩:=BM.1 ((F<|rh x).2 ⟨lM x mx,cx⟩);let⟨g,mg,eg⟩:=BM.1<|(F<|rh y).2 ⟨lM y my,cy⟩
     have:=ajl I' mf mg (by rw[ef,eg];show rn x.1=rn y.1;rw[e]);rw[ef,eg] at this;exact Qy (lo x mx) (lo y my) this
    .let⟨r1,r2,r3,Z',e1,e2,e3⟩:=hr;refine⟨Z',λx mx=>lo x ((r2 x).1 mx).1,r1,λk=>?_,?_,e2,by rw[e1];exact Zn,λp=>by rw[e1];exact Zm p,e3⟩
     .rw[e1];constructor
      .intro mk;let⟨x,mx,e⟩:=BM.1 mk;rw[<-e];exact⟨lM x ((r2 x).1 mx).1,((r2 x).1 mx).2⟩
      .rintro⟨mk,ck⟩;rcases Am.1 mk with e|mk'
       .rw[e] at ck⊢;exact BM.2 ⟨h,(r2 h).2 ⟨AT,ck⟩,rfl⟩
       .let⟨f,mf,ef⟩:=BM.1 ((F k).2 ⟨mk,ck⟩);have:=alf I I' mf (by rw[ef];exact mk');rw[ef] at this;let⟨x,mx,e⟩:=BM.1<|(R.Mq I k).2 this
        rw[<-e] at ck⊢;exact BM.2 ⟨x,(r2 x).2 ⟨KB _ mx,ck⟩,rfl⟩
     .rw[r3];unfold Le;have:W.map (λz=>Ak z.1)=(W.map (·.1)).map Ak:=by rw[Nk];rfl
      rw[this,<-e1,Nk];rfl
def vw{F:A3 Bq}(o:∀h∈l,Cl h)(hl:l.length<=50)(I:CF F (l.map rh)):Yd (λr=>∃Z,RS r (l.map rh) Z) (Mv l):=by
 unfold Mv;refine Au (wT o hl) λx hx=>AW ?_
 rcases hx with⟨_,h⟩|⟨_,_,h⟩|⟨_,_,_,_,_,h⟩
 .exact absurd I.bdd h
 .exact absurd I.int h
 .exact h
def afd(R:RS s (l.map rh) Z)(I:CF S (l.map rh))(ol:∀h∈l,Cl h)(ob:∀h∈b,Cl h)(hlen:l.length+b.length<=32):Yd (λt=>(t.2=true/\∃N S Z,(∀k,k∈N↔k∈b.map rh\/k∈l.map rh)/\RS t.1 N Z/\CF S N)\/(t.2=false/\ ¬M5 (b.map rh++l.map rh))) (cr s b):=by
 unfold cr;refine Ce b (λ(t:Mz×Bool) i=>(t.1,t.2,i)) (λA t=>(t.2=true/\∃N S Z,(∀k,k∈N↔k∈A.map rh\/k∈l.map rh)/\N.length=A.length+l.length/\RS t.1 N Z/\CF S N)\/(t.2=false/\ ¬M5 (b.map rh++l.map rh))) (λA h C t k hA hP next=>?_) (λt k hP=>?_) (s0:=(s,true)) (.inl ⟨rfl,l.map rh,S,Z,AT,AT,R,I⟩) A4
 .dsimp only;rw[CU hA,Kg];have al:=D7 hA;rcases hP with⟨e,N,T,Y,n1,n2,R1,I1⟩|⟨e,hn⟩
  .rw[e,BX];have oh:=ob h<|at_mem hA
   have sub:∀g∈rh h::N,g∈b.map rh++l.map rh:=λg mg=>by
    rcases Am.1 mg with e|mg
    .rw[e];exact KB _<|BM.2 ⟨h,at_mem hA,rfl⟩
    .rcases(n1 g).1 mg with m|m
     .let⟨x,mx,e⟩:=BM.1 m;exact KB _ (BM.2 ⟨x,by rw[hA];exact KB _ mx,e⟩)
     .exact WZ _ m
   have Jz:KJ 14 N:=λg mg=>by
    rcases CJ.1 (sub g<|Br _ mg) with m|m
    .exact Cl.Jz ob g m
    .exact Cl.Jz ol g m
   have pr:∀g∈N,JH g.1:=λg mg=>by
    rcases CJ.1 (sub g<|Br _ mg) with m|m
    .exact Cl.Wy ob g m
    .exact Cl.Wy ol g m
   refine A5 (CC hA)<|Au (ahm R1 I1 oh Jz pr A4) λr hr=>A5 (CE hA A4)<|next r ?_
   rcases hr with⟨e1,⟨Z',R'⟩,S',I'⟩|⟨e1,hn⟩
   .refine .inl ⟨e1,_,S',Z',λk=>?_,DJ,R',I'⟩;rw[Am,n1,Ic,CJ];simp only[MW,ZV,Cv];constructor
    .rintro(a|a|a)
     .exact .inl<| .inr a
     .exact .inl<| .inl a
     .exact .inr a
    .rintro((a|a)|a)
     .exact .inr<| .inl a
     .exact .inl a
     .exact .inr<| .inr a
   .exact .inr ⟨by rw[e1],λ⟨q,hq⟩=>hn ⟨q,λg mg=>hq g<|sub g mg⟩⟩
  .rw[e,B8];exact AW<| .inr ⟨rfl,hn⟩
 .dsimp only;rw[CT,Pe,B8];rcases hP with⟨e,N,T,Y,n1,n2,R1,I1⟩|⟨e,hn⟩
  .exact AW<| .inl ⟨e,N,T,Y,n1,R1,I1⟩
  .exact AW<| .inr ⟨e,hn⟩
def agp(I:CF S (l.map rh))(ol:∀h∈l,Cl h)(ob:∀h∈b,Cl h)(hlen:l.length+b.length<=32):Yd (λr=>r=true↔M5 (b.map rh++l.map rh)) (dr l b):=by
 unfold dr;refine Au (vw ol A4 I) λs ⟨Z,R⟩=>Au (afd R I ol ob hlen) λr hr=>AW ?_
 rcases hr with⟨e,N,T,Y,n1,R1,I1⟩|⟨e,hn⟩
 .refine⟨λ_=>?_,λ_=>e⟩;let⟨q,hq⟩:=I1.int;exact⟨q,λg mg=>hq g<|(n1 g).2<|CJ.1 mg⟩
 .exact⟨λc=>(by rw[e] at c;cases c),λc=>absurd c hn⟩
def adF(l:A3 C1)(r:Int):Prop:=(r=11/\ ¬Asc l)\/(Asc l/\((r=13/\ ¬EV (l.map rh))\/(r=12/\EV (l.map rh)/\ ¬M5 (l.map rh))\/(EV (l.map rh)/\M5 (l.map rh)/\∃b:A3 C1,b.Pairwise Jk/\(∀S,CF S (l.map rh)->∀h,h∈b↔h∈l/\rh h∈S.map (·.1))/\r=bif decide (b.length<l.length) then 1 else 0)))
def afe(o:∀h∈l,Cl h)(hc:bb l=some 0)(hl:l.length<=32):Yd (adF l) (JW l):=by
 unfold JW;rw[CB (show¬32<(l.length:Int) by omega),B8,hc];refine A5 rfl ?_;show Yd _ (lp _ _ 1);have fin:Asc l->∀k:Int->A9 Int,Yd (adF l)
   (bd (VW l) λBw=>cond ((decide<|Bw.2=0)&&(decide<|(Bw.1.1.length:Int)<(l.length:Int))) (some 1)<|some Bw.2):=λhP _=>by
  refine Au (wT o A4) λr hr=>?_
  rcases hr with⟨e,h⟩|⟨e,h1,h2⟩|⟨e,h1,h2,h3,h4,_⟩
  .rw[e];exact AW<| .inr ⟨hP,.inl ⟨rfl,h⟩⟩
  .rw[e];exact AW<| .inr ⟨hP,.inr<| .inl ⟨rfl,h1,h2⟩⟩
  .rw[e];have hd:decide ((r.1.1.length:Int)<(l.length:Int))=decide (r.1.1.length<l.length):=Gr.2 A4;rw[hd];show Yd _ (cond (decide<|r.1.1.length<l.length) (some 1)<|some 0);cases hq:decide (r.1.1.length<l.length)
   .exact AW (.inr ⟨hP,.inr (.inr ⟨h1,h2,r.1.1,h3,h4,by rw[hq];rfl⟩)⟩)
   .exact AW (.inr ⟨hP,.inr (.inr ⟨h1,h2,r.1.1,h3,h4,by rw[hq];rfl⟩)⟩)
 cases l with
 |nil=>obtain⟨F,hF⟩:∃F,18446744073709551616=F+1:=⟨18446744073709551615,rfl⟩;rw[hF];exact fin (λA x y C e=>by cases A<;>cases e) λ_=>none
 |cons a T=>
  refine Qv (a::T) (λ(_:Unit) i=>i) (λA _=>A≠[]/\Asc A) (λA x C s k hA hP next=>?_) (λs k hP=>?_) [a] T (s0:=()) rfl ⟨AT,λA x y C e=>by have:=congrArg List.length e;simp at this;omega⟩ A4
  .rw[CU hA,BX];let⟨h0,hP⟩:=hP;obtain rfl|⟨B,y,rfl⟩:A=[]\/∃B y,A=B++[y]:=(Zl A).imp id λ⟨B,y,h⟩=>⟨B,y,by rw[h,List.concat_eq_append]⟩
   .exact absurd rfl h0
   .have i1:AB (a::T) (B.length:Int)=some y:=by rw[Jj,hA];simp
    have i2:=CC hA;have al:=D7 hA;have f:=CE hA A4;have en:(B++[y]).length=B.length+1:=AT;have nx:=next ()
    have Hj:=ab9 (l:=a::T) (A:=B) (x:=y) (y:=x) (C:=C) (by rw[hA];simp) hP
    generalize (B++[y]).length=m at*
    subst en;refine A5 (x:=(B.length:Int)) (by rw[EL ⟨A4,A4⟩];exact congrArg some A4)<|A5 i1<|A5 i2<|A5 (ni y.1 x.1) ?_
    refine Ab (λhv=>AW<| .inl ⟨rfl,λc=>?_⟩) λhv=>A5 f (nx ⟨AT,Hj (by simpa using hv)⟩)
    have:=c B y x C (by rw[hA];simp);have h9: ¬JU y.1 x.1:=by simpa using hv
    exact h9 this
  .rw[CT,B8];exact fin hP.2 k
def akJ(o:∀h∈l,Cl h)(I:CF S (l.map rh))(hb:b.Pairwise Jk)(hm:∀h,h∈b↔h∈l/\rh h∈S.map (·.1)):b.length=S.length:=by
 have nS:(S.map (·.1)).Nodup:=M0.2<|I.P0.imp λh=>h
 have nb:(b.map rh).Nodup:=M0.2 (Sg (λ{x y} mx my h e=>by rw[Qy (o x ((hm x).1 mx).1) (o y ((hm y).1 my).1) e] at h;exact jE _ h) hb)
 have h1:=Kb nb λx mx=>by obtain⟨h,mh,rfl⟩:=BM.1 mx;exact((hm h).1 mh).2
 have h2:=Kb nS λx mx=>by obtain⟨f,mf,rfl⟩:=BM.1 mx;let⟨h,mh,e⟩:=BM.1 (I.DT f mf).1;refine BM.2 ⟨h,(hm h).2 ⟨mh,?_⟩,e⟩;rw[e];exact BM.2 ⟨f,mf,rfl⟩
 rw[C2,C2] at h1 h2;omega
abbrev FB:=A3 C1
def Small(l:FB):Prop:=(∀h∈l,in3 h.1)/\l.length<=10/\∀h∈l,h.2.length<=14
def OkB(l:FB)(S:A3 Bq):Prop:=(∀h∈l,Cl h)/\CF S (l.map rh)/\∀k∈l.map rh,k∈S.map (·.1)
def aiS{l:FB}(I:CF S (l.map rh))(h: ¬S.length<l.length):∀k∈l.map rh,k∈S.map (·.1):=λk mk=>Ck λc=>by
 have nS:(k::S.map (·.1)).Nodup:=iN.2 ⟨c,M0.2<|I.P0.imp λh=>h⟩;have:=Kb nS λx mx=>(Am.1 mx).elim (λe=>by rw[e];exact mk) λm=>by obtain⟨f,mf,rfl⟩:=BM.1 m;exact(I.DT f mf).1
 simp at this;omega
theorem fW{l:FB}(hs:Small l):∃k,QE l=some k/\JW l=some k.2/\(k.2=0->OkB l k.1):=by
 let⟨hi,l10,short⟩:=hs;let⟨c,c1,c2,c3⟩:=aeF (λh mh=>⟨hi h mh,short h mh⟩) A4;have d32:decide ((32:Int)<(l.length:Int))=false:=CB A4;by_cases h0:c=0
 .subst h0;have o:=c3 rfl;let⟨k,k1,k2⟩:=aiF o c1 A4;let⟨r,r1,r2⟩:=afe o c2 A4;have kr:k.2=r:=by
   rcases k2 with⟨e,h⟩|⟨h,k2⟩<;>rcases r2 with⟨e',h'⟩|⟨h',r2⟩
   .rw[e,e']
   .grind
   .grind
   .rcases k2 with⟨e,n⟩|⟨e,n1,n2⟩|⟨I,e⟩<;>rcases r2 with⟨e',n'⟩|⟨e',n1',n2'⟩|⟨n1',n2',b',p1,p2,e'⟩
    .rw[e,e']
    .grind
    .grind
    .grind
    .rw[e,e']
    .grind
    .exact absurd I.bdd n'
    .exact absurd I.int n2'
    .rw[e,e',akJ o I p1<|p2 _ I]
  refine⟨k,k1,by rw[kr];exact r1,λz=>?_⟩;rcases k2 with⟨e,h⟩|⟨h,⟨e,_⟩|⟨e,_⟩|⟨I,e⟩⟩
  .grind
  .grind
  .grind
  .refine⟨o,I,aiS I λc=>?_⟩;rw[e,B9 c] at z;cases z
 .refine⟨([],c),?_,?_,λz=>absurd z h0⟩
  .unfold QE;rw[d32,B8,c1];show cond (!decide (c=0)) _ _=_;rw[CB h0];rfl
  .unfold JW;rw[d32,B8,c2];show cond (!decide (c=0)) _ _=_;rw[CB h0];rfl
def Yd.afr(h:S.length<=1000):Yd (λr=>r=S.map (·.1)) (TQ S):=by
 unfold TQ;refine Ce S (λ(t:A3 H3) i=>(t,i)) (λA t=>t=A.map (·.1)) (λA f C t k hA hP next=>?_) (λt k hP=>?_) (s0:=[]) rfl A4
 .dsimp;have al:=D7 hA;rw[CU hA,BX];exact A5 (CC hA) (A5 (app_1 A4 (by rw[hP,C2];omega)) (A5 (CE hA A4) (next _ (by rw[hP];simp))))
 .dsimp;rw[CT,B8];exact AW hP
def Sz(y x:FB):Prop:= ¬M5 (y.map rh++x.map rh)
def R5(f:FB->Int):A3 FB->Int
 |[]=>0|x::l=>if f x=0 then R5 f l else f x
def od{f:FB->Int}{x:FB}{C:A3 FB}(hx:f x≠0):∀{A:A3 FB},(∀y∈A,f y=0)->R5 f (A++x::C)=f x
 |[],_=>by rw[Ie,R5,if_neg hx]
 |y::A,h=>by rw[Se,R5,if_pos<|h y Cz];exact od hx λz mz=>h z<|Br _ mz
def pH{f:FB->Int}:∀{A:A3 FB},(∀y∈A,f y=0)->R5 f A=0
 |[],_=>rfl
 |y::A,h=>by rw[R5,if_pos<|h y Cz];exact pH λz mz=>h z<|Br _ mz
def QU{A:A3 α}{x:α}{p:α->Prop}(h:∀y∈A,p y)(hx:p x):∀y∈A++[x],p y:=λy my=>(CJ.1 my).elim (h y) λm=>by rw[Cv.1 m];exact hx
def TO(f:FB->Int)(l:A3 FB)(v:Int):Prop:=(R5 f l≠0/\v=R5 f l)\/(R5 f l=0/\((v=16/\ ¬l.Pairwise Sz)\/(v=0/\l.Pairwise Sz)))
theorem TO.same{f:FB->Int}{l:A3 FB}{v w:Int}(a:TO f l v)(b:TO f l w):v=w:=by unfold TO at a b;grind
theorem nJ{l:A3 FB}(hl:l.length<=64)(hs:∀x∈l,Small x):Yd (TO (λx=>(JW x).getD 0) l) (Rj l):=by
 have cb:∀x∈l,JW x=some ((JW x).getD 0):=λx mx=>by
  let⟨k,_,e,_⟩:=fW<|hs x mx
  rw[e];rfl
 unfold Rj;rw[CB (show¬(64:Int)<(l.length:Int) by omega),B8];refine Ce l (λ(_:Unit) i=>i) (λA _=>∀y∈A,(JW y).getD 0=0) (λA x C s k hA hP next=>?_) (λs k hP=>?_) (s0:=()) AT A4
 .rw[CU hA,BX];refine A5 (CC hA) (A5 (cb x<|at_mem hA) (Ab (λhc=>AW<| .inl ?_) λhc=>A5 (CE hA A4) (next () (QU hP (by simpa using hc)))));have hx:(JW x).getD 0≠0:=by simpa using hc
  have:=od (f:=λx=>(JW x).getD 0) (C:=C) hx hP;rw[hA,this];exact⟨hx,rfl⟩
 .rw[CT,B8];have f0:=pH (f:=λx=>(JW x).getD 0) hP;refine Ce l (λ(_:Unit) i=>i) (λA _=>A.Pairwise Sz) (λA x C s k hA hQ next=>?_) (λs k hQ=>?_) (s0:=()) List.Pairwise.nil A4
  .rw[CU hA,BX];have al:=D7 hA;have mx:=at_mem hA;let⟨kx,_,ex,hx⟩:=fW<|hs x mx
   let⟨ox,Ix,_⟩:=hx (by have:=hP x mx;rw[ex] at this;exact this);refine Ce A (λ(_:Unit) i=>i) (λB _=>∀y∈B,Sz y x) (λB y D s k2 hB hU FN=>?_) (λs k2 hU=>?_) (s0:=()) AT A4
   .rw[CU hB,BX];have my:y∈l:=AK;let⟨ky,_,ey,hy⟩:=fW<|hs y my
    let⟨oy,_,_⟩:=hy (by have:=hP y my;rw[ey] at this;exact this);have iy:AB l (B.length:Int)=some y:=CC (C:=D++x::C) (by rw[hA,hB];simp);have s1:=(hs x mx).2.1;have s2:=(hs y my).2.1;refine A5 (CC hA)<|A5 iy<|Au (agp Ix ox oy A4) λr hr=>Ab (λhc=>AW<| .inr ⟨f0,.inl ⟨rfl,λc=>?_⟩⟩) λhc=>A5 (CE hB A4)<|FN ()<|QU hU λc=>?_
    .rw[hA] at c;exact(Hn.1 c).2.2 y (at_mem hB) x Cz<|hr.1 hc
    .grind
   .rw[CT,B8];exact A5 (CE hA A4) (next () (Hn.2 ⟨hQ,UR _ _,λy my z mz=>by rw[Cv.1 mz];exact hU y my⟩))
  .rw[CT,B8];exact AW<| .inr ⟨f0,.inr ⟨rfl,hQ⟩⟩
theorem ais{l:A3 FB}(hl:l.length<=64)(hs:∀x∈l,Small x):Yd (λr=>TO (λx=>(JW x).getD 0) l r.2/\(r.2=0->∃W:A3 (FB×A3 Bq),l=W.map (·.1)/\r.1=W.map (·.2)/\∀w∈W,OkB w.1 w.2/\QE w.1=some (w.2,0))) (NW l):=by
 unfold NW;rw[CB (show¬(64:Int)<(l.length:Int) by omega),B8];refine Ce l (λ(t:A3 (A3 Bq)) i=>(t,i)) (λA t=>(∀y∈A,(JW y).getD 0=0)/\∃W:A3 (FB×A3 Bq),A=W.map (·.1)/\t=W.map (·.2)/\∀w∈W,OkB w.1 w.2/\QE w.1=some (w.2,0)) (λA x C t k hA hP next=>?_) (λt k hP=>?_) (s0:=[]) ⟨AT,[],rfl,rfl,AT⟩ A4
 .dsimp;rw[CU hA,BX];have al:=D7 hA;let⟨kx,e1,e2,hx⟩:=fW<|hs x<|at_mem hA
  have ge:(JW x).getD 0=kx.2:=by rw[e2];rfl
  let⟨h0,W,w1,w2,w3⟩:=hP;have tl:t.length=A.length:=AK;refine A5 (CC hA)<|A5 e1<|Ab (λhc=>AW ⟨.inl ?_,λc=>?_⟩) λhc=>A5 (app_1 A4 A4)<|A5 (CE hA A4)<|next _ ?_
  .have hx:(JW x).getD 0≠0:=by rw[ge];simpa using hc
   have:=od (f:=λx=>(JW x).getD 0) (C:=C) hx h0;rw[hA,this];exact⟨hx,ge.symm⟩
  .grind
  .have z:kx.2=0:=by simpa using hc
   exact⟨QU h0<|ge.trans z,W++[(x,kx.1)],by rw[w1];simp,by rw[w2];simp,QU w3 ⟨hx z,by rw[e1,<-z]⟩⟩
 .dsimp;rw[CT,B8];let⟨h0,W,w1,w2,w3⟩:=hP;have f0:=pH (f:=λx=>(JW x).getD 0) h0;have wl:W.length<=64:=AK;rw[w2];have ml:(W.map (·.2)).length=W.length:=C2 _;refine Ce W (λ(_:Unit) i=>i) (λA _=>(A.map (·.1)).Pairwise Sz) (λA x C s k hA hQ next=>?_) (λs k hQ=>?_) (s0:=()) List.Pairwise.nil A4
  .rw[ml,CU hA,BX];have al:=D7 hA;have mx:=at_mem hA;let⟨ox,Ix,fx⟩:=(w3 x mx).1;have sb:C5 (W.map (·.2)) 0 (A.length:Int)=some (A.map (·.2)):=by rw[EC A4 A4 (by rw[ml];omega),hA];simp
   refine A5 (Ho _ hA)<|A5 sb ?_
   have ma:(A.map (·.2)).length=A.length:=C2 _;refine Ce A (λ(_:Unit) i=>i) (λB _=>∀y∈B,Sz y.1 x.1) (λB y D s k2 hB hU FN=>?_) (λs k2 hU=>?_) (s0:=()) AT A4
   .rw[ma,CU hB,BX];have my:y∈W:=AK;let⟨oy,Iy,fy⟩:=(w3 y my).1;have s1:=(hs x.1 (by rw[w1];exact BM.2 ⟨x,mx,rfl⟩)).2.1;have s2:=(hs y.1 (by rw[w1];exact BM.2 ⟨y,my,rfl⟩)).2.1;have ly:=Iy.len;rw[C2] at ly;have fw:∀k∈y.2.map (·.1),k∈y.1.map rh:=λk mk=>by obtain⟨f,mf,rfl⟩:=BM.1 mk;exact(Iy.DT f mf).1
    have Jz:KJ 14 (y.2.map (·.1)++x.1.map rh):=λg mg=>(CJ.1 mg).elim (λm=>Cl.Jz oy g<|fw g m)<|Cl.Jz ox g
    have pr:∀g∈y.2.map (·.1)++x.1.map rh,JH g.1:=λg mg=>(CJ.1 mg).elim (λm=>Cl.Wy oy g<|fw g m)<|Cl.Wy ox g
    refine A5 (Ho _ hB)<|Au (Yd.afr A4) λH eH=>?_
    rw[eH];refine Au (Yd.vO Ix Jz A4 DJ (λh mh=>(pr h<|KB _ mh).nz) λa ma b mb=>fL (pr a ma)<|pr b mb) λr hr=>?_
    have hr:r.2=true↔M5 (y.1.map rh++x.1.map rh):=by
     rcases hr with⟨e,N,n1,_,n3⟩|⟨e,hn⟩
     .refine⟨λ_=>?_,λ_=>e⟩;let⟨q,hq⟩:=n3.int;exact⟨q,λg mg=>hq g<|(n1 g).2<|(CJ.1 mg).imp (fy g) id⟩
     .refine⟨λc=>(by rw[e] at c;cases c),λ⟨q,hq⟩=>absurd ⟨q,λg mg=>hq g ?_⟩ hn⟩;exact CJ.2<|(CJ.1 mg).imp (fw g) id
    refine Ab (λhc=>AW ⟨.inr ⟨f0,.inl ⟨rfl,λc=>?_⟩⟩,λc=>by cases c⟩) λhc=>A5 (CE hB A4)<|FN ()<|QU hU λc=>?_
    .rw[w1,hA,Ic,MW] at c;exact(Hn.1 c).2.2 y.1 (BM.2 ⟨y,at_mem hB,rfl⟩) x.1 Cz<|hr.1 hc
    .grind
   .rw[ma,CT,B8];refine A5 (CE hA A4)<|next () ?_
    rw[Ic];refine Hn.2 ⟨hQ,UR _ _,λy my z mz=>?_⟩;obtain⟨w,mw,rfl⟩:=BM.1 my;rw[Cv.1 mz];exact hU w mw
  .rw[ml,CT,B8];exact AW ⟨.inr ⟨f0,.inr ⟨rfl,by rw[w1];exact hQ⟩⟩,λ_=>⟨W,w1,rfl,w3⟩⟩
def afV{l:FB}{n k:Nat}(hn:n<=100000000):Yd (λb=>b=true->l.length<=n/\∀h∈l,h.2.length<=k) (bo l (n:Int) (k:Int)):=by
 unfold bo;refine Ab (λ_=>AW λc=>by cases c) λhc=>?_
 have hl:l.length<=n:=by have:=Bh hc;omega
 refine Ce l (λ(_:Unit) i=>i) (λA _=>∀h∈A,h.2.length<=k) (λA x C u k hA hP next=>?_) (λu k hP=>?_) (s0:=()) AT A4
 .rw[CU hA,BX];refine A5 (CC hA) (Ab (λ_=>AW λc=>by cases c) λhc=>A5 (CE hA A4)<|next ()<|QU hP ?_);have:=Bh hc;omega
 .rw[CT,B8];exact AW λ_=>⟨hl,hP⟩
def fh{l:A3 FB}{n:Nat}(hn:n<=100000000):Yd (λb=>b=true->l.length<=n/\∀x∈l,x.length<=10/\∀h∈x,h.2.length<=14) (VU l (n:Int)):=by
 unfold VU;refine Ab (λ_=>AW λc=>by cases c) λhc=>?_
 have hl:l.length<=n:=by have:=Bh hc;omega
 refine Ce l (λ(_:Unit) i=>i) (λA _=>∀x∈A,x.length<=10/\∀h∈x,h.2.length<=14) (λA x C u k hA hP next=>?_) (λu k hP=>?_) (s0:=()) AT A4
 .rw[CU hA,BX];refine A5 (CC hA) (Au (afV (n:=10) (k:=14) A4) λb hb=>Ab (λ_=>AW λc=>by cases c) λhc=>A5 (CE hA A4)<|next ()<|QU hP<|hb ?_);simpa using hc
 .rw[CT,B8];exact AW λ_=>⟨hl,hP⟩
end
section
variable{s:List UInt8}(h:s.length<=100)
include h
theorem yp:Yd (λk=>0<=k/\k<=(s.length:Int)) (Lh s):=by
 unfold Lh;refine Ce s (λ(_:Unit) i=>i) (λA _=>True) (λA x C u k hA _ next=>?_) (λu k _=>?_) (s0:=()) trivial A4
 .have al:=D7 hA;rw[CU hA,BX];exact A5 (CC hA)<|Ab (λ_=>AW ⟨A4,A4⟩) λ_=>A5 (CE hA A4)<|next () trivial
 .rw[CT,B8];exact AW ⟨A4,A4⟩
theorem ap3:Yd (λr=>r.length<=100) (Tg s):=by unfold Tg;exact Au (yp h) λk hk=>A5 (EC A4 A4 A4) (AW (by rw[Ja,EK];omega))
theorem aps:Yd (λr=>r.length<=100) (Ti s):=by
 unfold Ti;refine Au (yp h) λk hk=>Ab (λ_=>AW L9) λhc=>?_
 have:=Bh hc;exact A5 BH (A5 (EC A4 A4 A4) (AW (by rw[Ja,EK];omega)))
theorem aqg:Yd (λ_=>True) (Tk s):=by
 unfold Tk K1;have fin:∀r:Int,(r<0->0<s.length)->Yd (λ_=>True) (cond (decide<|r<0) (bd (C5 s 1 (s.length:Int)) λx4=>some x4)<|some s):=λr hr=>Ab (λhc=>by
  have:=hr<|As hc
  exact A5 (EC A4 A4 A4)<|AW trivial) λ_=>AW trivial
 refine Au (S:=λr=>r<0->0<s.length) (Ab (λ_=>AW λc=>absurd c<|Int.lt_irrefl 0) λ_=>?_) fin;cases s with
 |nil=>exact AW λc=>absurd c L9
 |cons x t=>rw[B9 (show(0:Int)<((x::t).length:Int) by simp),show gd true true=true from rfl,Cb rfl];exact A5 (x:=x) rfl (Ab (λ_=>AW λ_=>by simp) λ_=>AW λ_=>by simp)
end
section
variable{n:Nat}{x:Rat}
def jd{α ρ:Type}{R:ρ->Prop}{S:α->Prop}{g:Bool}{d:α}{e:A9 α}{K:α->A9 ρ}(he:Yd S e)(hd:S d)(k:∀x,S x->Yd R (K x)):Yd R (Trn.Ax g d e K):=by let⟨x,e,hx⟩:=he;exact GR (λ_=>⟨x,e,k x hx⟩) λ_=>k d hd
def apl{s:AA}(h:s.length<=14):Yd (λ_=>True) (eS s 5):=by
 let⟨c,_,c2,_⟩:=xh h;unfold eS;refine A5 (x:=10) rfl<|A5 (x:=12) rfl ?_
 exact jd (S:=λ_=>True) ⟨c,c2,trivial⟩ trivial λ_ _=>jd (ap3 A4) L9 λ_ h7=>jd (aqg h7) trivial λ_ _=>jd (aps A4) L9 λ_ _=>AW trivial
def ai2{h:C1}(hi:in3 h.1)(hl:h.2.length<=14):Yd (λ_=>True) (ct h 999 5):=by
 let⟨c,_,c2,_⟩:=uz hi hl;let⟨f,f1,_⟩:=apl hl;unfold ct;refine A5 c2 ?_;have fin:∀x3:Bool,Yd (λ_=>True) (cond ((!decide (c=0))||(!x3)) (some false) (BE (λk7 (s6:Int)=>cond (decide<|s6<3) (bd (AB ([h.1.1,h.1.2.1,h.1.2.2]:A3 Int) s6) λx9=>bd (AG<|0-999) λBC=>Ax (gd (decide<|x9<BC) false) (0) (AB ([h.1.1,h.1.2.1,h.1.2.2]:A3 Int) s6) λBz=>cond (((decide<|x9<BC)||(decide<|999<Bz))) (some false) (bd (AG<|s6+1) λBW=>k7 BW)) (some true)) 0)):=λx3=>Ab (λ_=>AW trivial) λ_=>by
  refine Ce [h.1.1,h.1.2.1,h.1.2.2] (λ(_:Unit) i=>i) (λB _=>True) (λB x D t k2 hB hQ next=>?_) (λt k2 hQ=>?_) (s0:=()) trivial AT
  .have bl:=D7 hB;rw[show [h.1.1,h.1.2.1,h.1.2.2].length=3 from rfl] at bl;rw[B9 (show(B.length:Int)<3 by omega),BX];refine A5 (CC hB)<|A5 (x:= -999) rfl ?_
   have nx:=A5 (K:=λBW=>k2 BW) (CE hB AT)<|next () trivial
   exact GR (λ_=>⟨x,CC hB,Ab (λ_=>AW trivial) λ_=>nx⟩) λ_=>Ab (λ_=>AW trivial) λ_=>nx
  .rw[show decide ((([h.1.1,h.1.2.1,h.1.2.2].length:Nat):Int)<3)=false from rfl,B8];exact AW trivial
 exact GR (λ_=>⟨f,f1,fin f⟩) λ_=>fin false
def ajj{l:A3 FB}(hn:n<=60)(hl:l.length<=n)(hs:∀x∈l,Small x):Yd (λ_=>True) (eQ l (n:Int) 5):=by
 unfold eQ;refine Au (fh A4) λb hb=>Ab (λ_=>AW trivial) λ_=>?_
 refine Ce l (λ(_:Unit) i=>i) (λA _=>True) (λA x C s k hA hP next=>?_) (λs k hP=>?_) (s0:=()) trivial A4
 .rw[CU hA,BX];let⟨h1,h2,h3⟩:=hs x<|at_mem hA
  refine Ce x (λ(_:Unit) i=>i) (λB _=>True) (λB y D s k2 hB hU FN=>?_) (λs k2 hU=>?_) (s0:=()) trivial A4
  .refine A5 (CC hA) ?_;rw[CU hB,BX];exact A5 (CC hA)<|A5 (CC hB)<|Au (ai2 (h1 y<|at_mem hB)<|h3 y<|at_mem hB) λr _=>Ab (λ_=>AW trivial) λ_=>A5 (CE hB A4)<|FN () trivial
  .refine A5 (CC hA) ?_;rw[CT,B8];exact A5 (CE hA A4)<|next () trivial
 .rw[CT,B8];exact Au (nJ A4 hs) λ_ _=>AW trivial
def alM{l:A3 FB}(hn:n<=60)(hi:∀x∈l,∀h∈x,in3 h.1):Yd (λr=>r=false->64<l.length\/(l.length<=n/\∀x∈l,Small x)) (dx l (n:Int)):=by
 unfold dx;refine Ab (λhc=>?_) λhc=>?_
 .have hl:=As hc;have K0:64<l.length:=A4;refine GR (λ_=>⟨_,EC A4 A4 A4,?_⟩) λ_=>?_
  .refine GR (λ_=>?_) λ_=>AW λ_=> .inl K0
   let⟨r,r1,_⟩:=fh (l:=(l.take (1:Int).toNat).drop (0:Int).toNat) (n:=1) A4;exact⟨r,r1,AW λ_=> .inl K0⟩
  .refine GR (λ_=>?_) λ_=>AW λ_=> .inl K0
   let⟨r,r1,_⟩:=fh (l:=([]:A3 FB)) (n:=1) A4;exact⟨r,r1,AW λ_=> .inl K0⟩
 .refine Au (fh A4) λb hb=>?_
  cases b with
  |false=>exact AW λc=>by cases c
  |true=>
   let⟨h3,hb⟩:=hb rfl;have hs:∀x∈l,Small x:=λx mx=>⟨hi x mx,hb x mx⟩
   let⟨v,v1,_⟩:=nJ A4 hs;let⟨f,f1,_⟩:=ajj hn h3 hs;refine GR (λ_=>⟨v,v1,?_⟩) λ_=>GR (λ_=>⟨f,f1,AW λ_=> .inr ⟨h3,hs⟩⟩) λ_=>AW λ_=> .inr ⟨h3,hs⟩
   exact GR (λ_=>⟨f,f1,AW λ_=> .inr ⟨h3,hs⟩⟩) λ_=>AW λ_=> .inr ⟨h3,hs⟩
def apB{x m:Nat}(k:Nat)(e:m=3*k)(h:x<2^m):x<10^k:=by rw[e,Nat.pow_mul] at h;exact KA h<|qZ A4 k
theorem aaX{z:Int}(hs:D4 z=true):Vk z=some (decide<|600<(B5 z.natAbs).length):=by
 have key:Yd (λb=>b=decide (600<(B5 z.natAbs).length)) (Vk z):=by
  unfold Vk sQ;rw[hs];refine A5 (x:=(bif decide (z=0) then 0 else(Nat.log2 z.natAbs:Int)+1)) rfl ?_;cases hb:decide ((1800:Int)<(bif decide (z=0) then 0 else(Nat.log2 z.natAbs:Int)+1))
  .refine AW (CB λc=>?_).symm;have hb:=Bh hb;have h2:(B5 z.natAbs).length<=600:=by
    refine MR 600 _ A4 ?_;by_cases h0:z=0
    .grind
    .rw[CB h0,B8] at hb;have:=(Pb (n:=z.natAbs) (k:=1800) A4).1 A4;exact apB (m:=1800) 600 rfl this
   omega
  .rw[Cb F6];refine A5 (x:=C8 z) (by unfold Pk;rw[hs];rfl) ?_;rw[Cb F6];have auM:TP (C8 z) [45]=some (B5 z.natAbs):=by
    unfold C8;cases hc:decide (z<0)
    .rw[B8];have hh:(B5 z.natAbs).head?≠some 45:=λe=>by
      have:=Dr.1 (N4 z.natAbs).1 45<|List.mem_of_mem_head? e
      cases this
     unfold TP XQ;rw[xM hh];rfl
    .rw[BX];unfold TP XQ;rw[wU];show bd (bd (C5 (45::B5 z.natAbs) (([45]:AA).length:Int) ((45::B5 z.natAbs).length:Int)) _) _=_;rw[EC AT DJ A4];simp;rfl
   refine A5 auM<|AW ?_
   rw[Kg];exact Gr.2 A4
 obtain⟨r,e,rfl⟩:=key;exact e
def K0(q:Rat):Bool:=decide (600<(B5 q.num.natAbs).length)||decide (600<(B5 q.den).length)
def P1(v:Q3):Bool:=K0 v.1||(K0 v.2.1||K0 v.2.2)
def ap8(h:lv n x)(hn:n<=90000000):D4 x.num=true/\D4 (x.den:Int)=true:=by have b:=NM h;exact⟨OP b.1 A4,OP (by rw[F9];exact b.2) A4⟩
def fE(h:lv n x)(hn:n<=90000000):Rm x=some (K0 x):=by
 let⟨s1,s2⟩:=ap8 h hn;unfold Rm K0;rw[aaX s1,Cp];cases decide (600<(B5 x.num.natAbs).length)
 .rw[Cb F6,aaX s2,F9];rfl
 .rfl
def amF{v:Q3}(h:Ba n v)(hn:n<=90000000):cg v=some (P1 v):=by
 unfold cg P1;rw[fE h.1 hn,Cp];cases K0 v.1
 .rw[Cb F6,fE h.2.1 hn,Cp];cases K0 v.2.1
  .rw[Cb F6,fE h.2.2 hn];rfl
  .rfl
 .rfl
def jZ(h:K0 x=false):x.num.natAbs<10^600/\x.den<10^600:=by unfold K0 at h;let⟨h1,h2⟩:=Ki.1 h;have a:=Bh h1;have b:=Bh h2;exact⟨jC (k:=600)<|Zc a,jC (k:=600)<|Zc b⟩
def aoY{v:Q3}(h:P1 v=false):dD v=some (Ak v):=by unfold P1 at h;let⟨h1,h2⟩:=Ki.1 h;let⟨h2,h3⟩:=Ki.1 h2;have a:=jZ h1;have b:=jZ h2;have c:=jZ h3;unfold dD;rw[fR a.1 a.2,Cp,fR b.1 b.2,Cp,fR c.1 c.2];rfl
end
section
variable{n:Nat}{x:Rat}(h:lv n x)(hn:n<=1800000)
include h hn
theorem aas:Lh (Av x)=some ((C8 x.num).length:Int):=by
 have hl:=R3 h hn;have e:Av x=C8 x.num++E3 x:=by unfold Av E3;cases decide (x.den=1)<;>simp
 have no:∀y∈C8 x.num,y≠47:=λy my=>by
  unfold C8 at my;cases hd:decide (x.num<0)
  .rw[hd,B8] at my;exact fU _ y my
  .rw[hd,BX] at my;rcases Am.1 my with e|m
   .rw[e];decide
   .exact fU _ y m
 refine oL (by rw[e,DS];omega) (λi hi c=>?_) (λhk=>?_) A4
 .grind
 .rw[e,Mi<|BQ _,qV];rw[e,DS] at hk;unfold E3 at hk⊢;cases hd:decide (x.den=1)
  .rfl
  .grind
theorem ars:Tg (Av x)=some (C8 x.num):=by
 have hl:=R3 h hn;have e:Av x=C8 x.num++E3 x:=by unfold Av E3;cases decide (x.den=1)<;>simp
 have l:(Av x).length=(C8 x.num).length+(E3 x).length:=AK;unfold Tg;rw[aas h hn,Cp,EC A4 A4 A4];rw[e];simp[Trn.bd]
theorem arv:Ti (Av x)=some (B5 x.den):=by
 have hl:=R3 h hn;have e:Av x=C8 x.num++E3 x:=by unfold Av E3;cases decide (x.den=1)<;>simp
 have l:(Av x).length=(C8 x.num).length+(E3 x).length:=AK;refine HG ?_;unfold Ti;refine A5 (aas h hn)<|Ab (λhc=>AW ?_) λhc=>?_
 .have hc:=As hc;have:(E3 x).length=0:=A4;unfold E3 at this;cases hd:decide (x.den=1)
  .grind
  .rw[As hd,abo]
 .have hc:=Bh hc;have t:E3 x=47::B5 x.den:=by
   unfold E3;cases hd:decide (x.den=1)
   .rfl
   .exfalso;refine hc ?_;rw[l];unfold E3;rw[hd];simp
  rw[t,E2] at l;refine A5 BH<|A5 (EC A4 A4 A4)<|AW ?_
  rw[e,t];have e2:(((C8 x.num).length:Int)+1).toNat=(C8 x.num++[47]).length:=AT;rw[e2,Ci,List.take_length,show C8 x.num++47::B5 x.den=(C8 x.num++[47])++B5 x.den by simp,WK]
theorem aau:Y8 (Av x)=some (bif K0 x then 4 else 0):=by
 have hl:=R3 h hn;have e:Av x=C8 x.num++E3 x:=by unfold Av E3;cases decide (x.den=1)<;>simp
 have l:(Av x).length=(C8 x.num).length+(E3 x).length:=AK;have ab:Tk (C8 x.num)=some (B5 x.num.natAbs):=by
  have lz:lv n (x.num:Rat):=⟨by rw[UG];exact h.1,by rw[WM];exact ZQ A4⟩;have sg:=R6 lz hn;rw[xu,UG] at sg;refine HG ?_;unfold Tk;refine A5 sg<|Ab (λhc=>?_) λhc=>AW ?_
  .have hc:x.num<0:=iQ.1 (As hc);have t:C8 x.num=45::B5 x.num.natAbs:=by unfold C8;rw[B9 hc];rfl
   refine A5 (EC A4 (by rw[t];simp;omega) A4)<|AW ?_
   rw[t];simp
  .have hc: ¬x.num<0:=λc=>Bh hc (iQ.2 c)
   unfold C8;rw[CB hc];rfl
 refine HG ?_;unfold Y8 K0;refine A5 (ars h hn)<|A5 ab ?_
 have d1:decide ((600:Int)<((B5 x.num.natAbs).length:Int))=decide (600<(B5 x.num.natAbs).length):=Gr.2 A4;have d2:decide ((600:Int)<((B5 x.den).length:Int))=decide (600<(B5 x.den).length):=Gr.2 A4;rw[d1];cases decide (600<(B5 x.num.natAbs).length)
 .rw[Cb F6];refine A5 (arv h hn) ?_;rw[d2];cases decide (600<(B5 x.den).length)<;>exact AW rfl
 .exact AW rfl
end
section
variable{n:Nat}
def alj{v:Q3}(h:Ba n v)(hn:n<=1800000):c7 (Ak v)=some (bif P1 v then 4 else 0):=by
 refine HG ?_;unfold c7 lJ;refine Au (S:=λr=>r=bif P1 v then 4 else 0) ?_ λr hr=>AW hr
 refine Ce [v.1,v.2.1,v.2.2] (λ(_:Unit) i=>i) (λA _=>A.any K0=false) (λA x C s k hA hP next=>?_) (λs k hP=>?_) (s0:=()) rfl AT
 .have al:=D7 hA;rw[show [v.1,v.2.1,v.2.2].length=3 from rfl] at al;rw[B9 (show(A.length:Int)<([(Ak v).1,(Ak v).2.1,(Ak v).2.2].length:Int) by simp;omega),BX];have ix:AB [Av v.1,Av v.2.1,Av v.2.2] (A.length:Int)=some (Av x):=by have:=CC hA;rw[Jj] at this⊢;have:=congrArg (Option.map Av) this;rwa [<-HL] at this
  have lx:lv n x:=by
   have:=at_mem hA;simp at this;rcases this with rfl|rfl|rfl
   .exact h.1
   .exact h.2.1
   .exact h.2.2
  refine A5 ix<|A5 (aau lx hn) ?_
  cases hb:K0 x
  .rw[show(!decide ((bif false then(4:Int) else 0)=0))=false from rfl,B8];exact A5 (CE hA AT) (next () (by rw[WL,hP];simp[hb]))
  .rw[show(!decide ((bif true then(4:Int) else 0)=0))=true from rfl,BX];refine AW ?_;have:P1 v=true:=by unfold P1;have:=at_mem hA;simp at this;rcases this with rfl|rfl|rfl<;>rw[hb]<;>simp
   rw[this];rfl
 .rw[show decide ((([v.1,v.2.1,v.2.2].length:Nat):Int)<([(Ak v).1,(Ak v).2.1,(Ak v).2.2].length:Int))=false from rfl,B8];refine AW ?_;have:P1 v=false:=by unfold P1;simpa[List.any] using hP
  rw[this];rfl
def arw{m:Nat}{x y:Rat}(hx:lv m x)(hy:lv n y)(hm:m<=8000)(hn:n<=8000):Tj (Av x) (Av y)=some (x-y).num.sign:=by unfold Tj;rw[Sx hx hy A4 A4,Cp,R6 (lvs hx hy) A4];rfl
instance(a b:Q3):Decidable (En a b):=by unfold En;exact inferInstance
theorem akR{a b:Q3}(ha:Ba n a)(hb:Ba n b)(hn:n<=5000):eG (Ak a) (Ak b)=some (decide<|En a b):=by
 refine HG ?_;unfold eG;refine Ce [(a.1,b.1),(a.2.1,b.2.1),(a.2.2,b.2.2)] (λ(_:Unit) i=>i) (λA _=>∀p∈A,p.1=p.2) (λA x C s k hA hP next=>?_) (λs k hP=>?_) (s0:=()) AT AT
 .have al:=D7 hA;rw[show [(a.1,b.1),(a.2.1,b.2.1),(a.2.2,b.2.2)].length=3 from rfl] at al;rw[B9 (show(A.length:Int)<3 by omega),BX];have i1:AB [(Ak a).1,(Ak a).2.1,(Ak a).2.2] (A.length:Int)=some (Av x.1):=Ho (λp:Rat×Rat=>Av p.1) hA;have i2:AB [(Ak b).1,(Ak b).2.1,(Ak b).2.2] (A.length:Int)=some (Av x.2):=Ho (λp:Rat×Rat=>Av p.2) hA;have lx:lv n x.1/\lv n x.2:=by
   have:=at_mem hA;simp only[Am,Ze,or_false] at this;rcases this with e|e|e<;>rw[e]
   .exact⟨ha.1,hb.1⟩
   .exact⟨ha.2.1,hb.2.1⟩
   .exact⟨ha.2.2,hb.2.2⟩
  refine A5 i1<|A5 i2<|A5 (arw lx.1 lx.2 A4 A4) ?_
  rw[sign_zero,sign_neg];refine Ab (λhc=>AW<|Gr.2 ?_) λhc=>A5 (CE hA AT)<|next () λp mp=>?_
  .have hne:x.1-x.2≠0:=by simpa using hc
   unfold En;rcases A with _|⟨a0,_|⟨a1,_|⟨a2,A⟩⟩⟩
   .grind
   .grind
   .grind
   .simp at al
  .grind
 .rw[show decide ((([(a.1,b.1),(a.2.1,b.2.1),(a.2.2,b.2.2)].length:Nat):Int)<3)=false from rfl,B8];refine AW (CB ?_).symm;have h0:=hP _ (by simp:(a.1,b.1)∈_);have h1:=hP _ (by simp:(a.2.1,b.2.1)∈_);have h2:=hP _ (by simp:(a.2.2,b.2.2)∈_);dsimp only at h0 h1 h2;unfold En
  grind
def sO{α:Type}{b:Nat}{u v:A3 α}(hb:b<=1000)(h:u.length+v.length<=1000000000):BN b u v=some (u++v):=by unfold BN;have h1:(u.length+v.length)*b<=140737488355328:=Ch (GL h hb) A4;rw[B9 h1,B9 (show u.length+v.length<=9223372036854775807 by omega)];rfl
def jb{ρ:Type}{R:ρ->Prop}{r B D:A3 Q3}(e:r=B++D){l:A3 T3}{i:Int}{x:Q3}(ix:AB l i=some (Ak x))(hl:r.length<=1000000){K:A3 T3->A9 ρ}(h:Yd R (K<|(B++x::D).map Ak)):Yd R (Trn.bd (C5 (r.map Ak) 0 (B.length:Int)) λBl=>Trn.bd (BN 48 ([]:A3 T3) Bl) λBw=>Trn.bd (AB l i) λCG=>Trn.bd (BN 48 Bw [CG]) λCL=>Trn.bd (C5 (r.map Ak) (B.length:Int) (r.length:Int)) λCq=>Trn.bd (BN 48 CL Cq) K):=by
 subst e;rw[DS] at hl;have m:((B++D).map Ak).length=B.length+D.length:=AT;have s1:C5 ((B++D).map Ak) 0 (B.length:Int)=some (B.map Ak):=by rw[EC A4 A4 A4];simp[Ic,WR]
 have s2:C5 ((B++D).map Ak) (B.length:Int) ((B++D).length:Int)=some (D.map Ak):=by rw[EC A4 DJ (by rw[m];simp),Ci,Ci,D6 AT,Ic];simp[Nl]
 refine A5 s1<|A5 (sO A4 DJ)<|A5 ix<|A5 (sO A4 DJ)<|A5 s2<|A5 (sO A4 DJ) ?_
 have:[]++B.map Ak++[Ak x]++D.map Ak=(B++x::D).map Ak:=AT;rw[this];exact h
end
section
variable{n:Nat}(hn:n<=4000)
include hn
theorem ahh{C:A3 Q3}(hC:∀p∈C,Ba n p)(nd:C.Nodup)(hl:C.length<=1000000):Yd (λr=>∃r':A3 Q3,r=r'.map Ak/\r'.Pairwise En/\∀z,z∈r'↔z∈C) (bY<|C.map Ak):=by
 unfold bY;rw[C2];refine Ce C (λ(s:A3 T3) i=>(s,i)) (λA s=>∃r:A3 Q3,s=r.map Ak/\r.Pairwise En/\(∀z,z∈r↔z∈A)/\r.length=A.length) (λA x C' s k hA hP next=>?_) (λs k hP=>?_) (s0:=[]) ⟨[],rfl,List.Pairwise.nil,AT,rfl⟩ A4
 .dsimp only;rw[CU hA,BX];have al:=D7 hA;obtain⟨r,rfl,r1,r2,r3⟩:=hP;have lx:=hC x<|at_mem hA
  have lr:∀h∈r,Ba n h:=λh mh=>hC h (by rw[hA];exact KB _<|(r2 h).1 mh)
  have ix:AB (C.map Ak) (A.length:Int)=some (Ak x):=Ho Ak hA;have fx:=CE hA A4;have nx:x∉r:=λmx=>by rw[hA,Sf] at nd;exact nd.2.2 x ((r2 x).1 mx) x Cz rfl
  rw[C2];have put:∀B D:A3 Q3,r=B++D->(∀h∈B,En h x)->(∀h∈D,En x h)->∃r':A3 Q3,(B++x::D).map Ak=r'.map Ak/\r'.Pairwise En/\(∀z,z∈r'↔z∈A++[x])/\r'.length=(A++[x]).length:=λB D e hb hd=>by
   rw[e] at r1;let⟨a1,a2,a3⟩:=Hn.1 r1;refine⟨B++x::D,rfl,Hn.2 ⟨a1,Hb.2 ⟨hd,a2⟩,λh mh y my=>?_⟩,λz=>?_,?_⟩
   .grind
   .grind
   .grind
  refine Ce r (λ(_:Unit) i=>i) (λB _=>∀h∈B,En h x) (λB h D t k7 hB hQ FN=>?_) (λt k7 hQ=>?_) (s0:=()) AT A4
  .have hg:gd (decide<|(B.length:Int)<(r.length:Int)) true=true:=by rw[CU hB];rfl
   have bl:=D7 hB;have mh:=at_mem hB;have ih:AB (r.map Ak) (B.length:Int)=some (Ak h):=Ho Ak hB;rw[Cb hg];refine A5 ih ?_;rw[Cb hg];refine A5 ih ?_;rw[Cb hg];refine A5 ix ?_;rw[Cb hg];refine A5 (akR (lr h mh) lx A4) ?_;rw[CU hB,Kg];refine Ab (λhc=>A5 (CE hB A4)<|FN ()<|QU hQ<|As hc) λhc=>?_
   have KU:=Bh hc;have hxh:En x h:=((aaV x h).resolve_left λe=>nx (by rw[e];exact mh)).resolve_right KU;refine jb hB ix A4<|A5 fx<|next _<|put B (h::D) hB hQ λy my=>?_
   rcases Am.1 my with e|m
   .rw[e];exact hxh
   .rw[hB] at r1;exact rP hxh<|(Hb.1 (Hn.1 r1).2.1).1 y m
  .have hg:gd (decide<|(r.length:Int)<(r.length:Int)) true=false:=by rw[CT];rfl
   rw[Dy hg,Dy hg,Dy hg,Dy hg,CT,Pe,B8];exact jb (D:=[]) AT ix A4<|A5 fx<|next _<|put r [] AT hQ AT
 .dsimp only;rw[CT,B8];let⟨r,e,r1,r2,_⟩:=hP;exact AW ⟨r,e,r1,r2⟩
structure Rnd(f:H3)(C r:A3 Q3):Prop where
 ex:∃p s,r=p::s/\(∀x∈s,En p x)/\s.Pairwise λx y=>0<Bp f.1 p x y
 mem:∀z,z∈r↔z∈C
omit hn in
theorem Rnd.same {f:H3} {C r q:A3 Q3} (a:Rnd f C r) (b:Rnd f C q):r=q:=by
 obtain⟨⟨p,s,rfl,a1,a2⟩,a3⟩:=a;obtain⟨⟨o,t,rfl,b1,b2⟩,b3⟩:=b;have e:p=o:=by
  rcases Am.1 ((b3 p).2<|(a3 p).1 Cz) with e|m
  .exact e
  .rcases Am.1 ((a3 o).2<|(b3 o).1 Cz) with e|m'
   .exact e.symm
   .exact absurd (rP (a1 o m')<|b1 p m)<|Qg p
 subst e
 congr 1
 refine aiq a2 b2 (λx _ y _ h k=>?_) λz=>?_
 .have:Bp f.1 p y x= -Bp f.1 p x y:=by unfold Bp AI AY Af;grind
  grind
 .have:=(a3 z).trans (b3 z).symm;rw[Am,Am] at this;constructor
  .intro mz;exact(this.1<| .inr mz).resolve_left λe=>Qg p (by have:=a1 z mz;rw[e] at this;exact this)
  .intro mz;exact(this.2<| .inr mz).resolve_left λe=>Qg p (by have:=b1 z mz;rw[e] at this;exact this)
theorem ajC{L:A3 H3}{f:H3}(hf:f.1≠o3){C:A3 Q3}(hC:∀p∈C,Bi L p/\val f p=0/\Ba n p)(ln:Ba n f.1)(nd:C.Nodup)(h0:C≠[])(hn:n<=600)(hl:C.length<=1000000):Yd (λr=>∃r':A3 Q3,r=r'.map Ak/\Rnd f C r') (dm (Ak f.1)<|C.map Ak):=by
 unfold dm;refine Au (ahh (n:=n) A4 (λp mp=>(hC p mp).2.2) nd hl) λr ⟨r',e,r1,r2⟩=>?_
 subst e;obtain⟨p,t,rfl⟩:∃p t,r'=p::t:=by
  cases r' with
  |nil=>let⟨x,mx⟩:=List.exists_mem_of_ne_nil C h0;exact absurd ((r2 x).2 mx) AT
  |cons p t=>exact⟨p,t,rfl⟩
 let⟨g1,g2⟩:=Hb.1 r1;have hm:∀x∈p::t,Bi L x/\val f x=0/\Ba n x:=λx mx=>hC x<|(r2 x).1 mx
 let⟨vp,tp,lp⟩:=hm p Cz;have rl:(p::t).length<=C.length:=Kb (r1.imp λh=>jT h) λx mx=>(r2 x).1 mx
 rw[C2];have i0:AB ((p::t).map Ak) 0=some (Ak p):=rfl;refine A5 i0 ?_;refine Qv (p::t) (λ(s:A3 T3) i=>(s,i)) (λA s=>∃q,s=(p::q).map Ak/\q.Pairwise (λx y=>0<Bp f.1 p x y)/\(∀z,z∈p::q↔z∈A)/\(p::q).length=A.length/\∀y∈q,En p y) (λA x C' s k hA hP next=>?_) (λs k hP=>?_) [p] t (s0:=[Ak p]) rfl ⟨[],rfl,List.Pairwise.nil,AT,rfl,AT⟩ A4
 .dsimp only;rw[CU hA,BX];have al:=D7 hA;obtain⟨q,rfl,q1,q2,q3,qt⟩:=hP;have mx:=at_mem hA;let⟨vx,tx,lx⟩:=hm x mx;have hq:∀y∈p::q,Bi L y/\val f y=0/\Ba n y:=λy my=>hm y (by rw[hA];exact KB _<|(q2 y).1 my)
  have xA:x∉A:=λm=>by
   have:=r1.imp λ{a b} h=>jT h
   rw[hA] at this;exact(Hn.1 this).2.2 x m x Cz rfl
  have xp:x≠p:=λe=>xA (by rw[e];exact(q2 p).1 Cz)
  have xt:En p x:=g1 x<|(Am.1 mx).resolve_left xp
  have ix:AB ((p::t).map Ak) (A.length:Int)=some (Ak x):=Ho Ak hA;have fx:=CE hA A4;have ld:=Pa lx lp;refine A5 ix<|A5 i0<|A5 (Pt lx lp A4) ?_
  rw[C2];have sw:∀y,Bp f.1 p x y= -Bp f.1 p y x:=λy=>by unfold Bp AI AY Af;grind
  have put:∀B D:A3 Q3,q=B++D->(∀h∈B,0<Bp f.1 p h x)->(∀h∈D,0<Bp f.1 p x h)->∃q':A3 Q3,((p::B)++x::D).map Ak=(p::q').map Ak/\q'.Pairwise (λx y=>0<Bp f.1 p x y)/\(∀z,z∈p::q'↔z∈A++[x])/\(p::q').length=(A++[x]).length/\∀y∈q',En p y:=λB D e hb hd=>by
   rw[e] at q1;let⟨a1,a2,a3⟩:=Hn.1 q1;refine⟨B++x::D,rfl,Hn.2 ⟨a1,Hb.2 ⟨hd,a2⟩,λh mh y my=>?_⟩,λz=>?_,?_,λy my=>?_⟩
   .grind
   .grind
   .grind
   .grind
  refine Qv (p::q) (λ(_:Unit) i=>i) (λB _=>∃B',B=p::B'/\∀h∈B',0<Bp f.1 p h x) (λB h D u k7 hB hQ FN=>?_) (λu k7 hQ=>?_) [p] q (s0:=()) rfl ⟨[],rfl,AT⟩ A4
  .have hg:gd (decide<|(B.length:Int)<((p::q).length:Int)) true=true:=by rw[CU hB];rfl
   have bl:=D7 hB;obtain⟨B',rfl,hb⟩:=hQ;have eq:q=B'++h::D:=by simpa using hB
   have mh:h∈q:=by rw[eq];simp
   let⟨vh,th,lh⟩:=hq h<|Br _ mh
   have ih:AB ((p::q).map Ak) ((p::B').length:Int)=some (Ak h):=Ho Ak hB;have l1:=Pa lh lp;have l2:=Ll l1 ld;have l3:=R4 ln l2;rw[Cb hg];refine A5 ih ?_;rw[Cb hg];refine A5 ih ?_;rw[Cb hg];refine A5 i0 ?_;rw[Cb hg];refine A5 (Pt lh lp A4) ?_;rw[Cb hg];refine A5 (Qt l1 ld A4) ?_;rw[Cb hg];refine A5 (Un ln l2 A4) ?_;rw[Cb hg];refine A5 (R6 l3 A4) ?_;rw[CU hB,Kg,Vw];refine Ab (λhc=>A5 (CE hB A4)<|FN () ⟨B'++[h],rfl,QU hb<|As hc⟩) λhc=>?_
   have KU: ¬0<Bp f.1 p h x:=Bh hc;have hne:Bp f.1 p h x≠0:=pU hf vp vh vx tp th tx (λe=>Qg p (by have:=qt h mh;rw[<-e] at this;exact this)) xp.symm (λe=>xA (by rw[<-e];exact(q2 h).1<|Br _ mh));have hxh:0<Bp f.1 p x h:=by rw[sw];grind
   refine jb (B:=p::B') hB ix A4<|A5 fx<|next _<|put B' (h::D) eq hb λy my=>?_
   rcases Am.1 my with e|m
   .rw[e];exact hxh
   .have my':y∈q:=by rw[eq];simp[m]
    let⟨vy,ty,_⟩:=hq y<|Br _ my'
    rw[eq] at q1;exact ac0 (d:=f.2) hf tp tx th ty xt (qt h mh) (qt y my') hxh<|(Hb.1 (Hn.1 q1).2.1).1 y m
  .have hg:gd (decide<|((p::q).length:Int)<((p::q).length:Int)) true=false:=by rw[CT];rfl
   let⟨B',e,hb⟩:=hQ;cases e;rw[Dy hg,Dy hg,Dy hg,Dy hg,Dy hg,Dy hg,Dy hg,CT,Pe,B8];exact jb (D:=[]) AT ix A4<|A5 fx<|next _<|put q [] AT hb AT
 .dsimp only;rw[CT,B8];obtain⟨q,rfl,q1,q2,_,q3⟩:=hP;exact AW ⟨p::q,rfl,⟨p,q,rfl,q3,q1⟩,λz=>(q2 z).trans<|r2 z⟩
end
theorem Rnd.len{f:H3}{C r:A3 Q3}(a:Rnd f C r):r.Nodup:=by obtain⟨⟨p,s,rfl,a1,a2⟩,_⟩:=a;refine iN.2 ⟨λm=>Qg p<|a1 p m,?_⟩;exact a2.imp λ{x y} h e=>by rw[e,OR] at h;exact absurd h AK
theorem yB{s:Mz}{M:A3 H3}{Z:ZL}(R:RS s M Z)(hM:M.length<=31)(lM:∀p,Bi M p->Ba 70 p){h:C1}{m:Nat}(hm:s.1[m]? =some h):Yd (λr=>∃(C r':A3 Q3),r=r'.map Ak/\Rnd (rh h) C r'/\∀z,z∈C↔Bi M z/\val (rh h) z=0) (VV s (m:Int)):=by
 have mh:=KC hm;have zl:=R.acb hM;have sl:=R.len;have e1:s.2.1.length=Z.length:=by rw[R.cor,C2]
 unfold VV;rw[e1];refine Ce Z (λ(t:A3 T3) i=>(t,i)) (λA t=>t=(((A.filter λz=>decide<|val (rh h) z.1=0).map (·.1)).map Ak)) (λA z D t k hA hP next=>?_) (λt k hP=>?_) (s0:=[]) rfl A4
 .dsimp only;rw[CU hA,BX];have al:=D7 hA;have mz:=at_mem hA;refine DZ (λt':A3 T3=>t'=((((A++[z]).filter λz=>decide<|val (rh h) z.1=0).map (·.1)).map Ak)) (λt' h'=>A5 (CE hA A4)<|next t' h') λk5 h5=>?_
  have on:=R.Gz z mz;have ol:=on.len;have ix:AB s.2.2 (A.length:Int)=some z.2:=by rw[R.on];exact Ho (·.2) hA
  have ic:AB s.2.1 (A.length:Int)=some (Ak z.1):=by rw[R.cor];exact Ho (λz:Q3×A3 Int=>Ak z.1) hA
  have tl:t.length<=A.length:=AK;refine A5 ix<|A5 (oK AT A4 AT) ?_
  have iff:decide ((0:Int)<((z.2.filter λx=>decide<|x∈[(m:Int)]).length:Int))=decide (val (rh h) z.1=0):=Gr.2 (by
   rw[<-on.at hm];have:(0:Int)<((z.2.filter λx=>decide<|x∈[(m:Int)]).length:Int)↔0<(z.2.filter λx=>decide<|x∈[(m:Int)]).length:=A4;rw[this,List.length_pos_iff_exists_mem];constructor
   .grind
   .intro mm;exact⟨_,IC.2 ⟨mm,B9<|Cv.2 rfl⟩⟩)
  rw[iff];refine Ab (λhc=>A5 ic<|A5 (app_1 A4 A4)<|h5 _ ?_) λhc=>h5 _ ?_
  .grind
  .grind
 .dsimp only;rw[CT,B8];have ih:AB s.1 (m:Int)=some h:=by rw[Jj];exact hm
  refine A5 ih<|A5 (SI<|R.ok h mh) ?_
  rw[hP];have mem:∀z,z∈(Z.filter λz=>decide<|val (rh h) z.1=0).map (·.1)↔Bi M z/\val (rh h) z=0:=λz=>by
   rw[<-R.mem,BM,BM];constructor
   .grind
   .rintro⟨⟨w,mw,rfl⟩,t⟩;exact⟨w,IC.2 ⟨mw,B9 t⟩,rfl⟩
  have nd:((Z.filter λz=>decide<|val (rh h) z.1=0).map (·.1)).Nodup:=(List.filter_sublist.map _).nodup R.nd;have ne:(Z.filter λz=>decide<|val (rh h) z.1=0).map (·.1)≠[]:=λe=>by have c:=((R.fac<|rh h).1<|BM.2 ⟨h,mh,rfl⟩).2;unfold Gn at c;rw[List.filter_map,C2] at c;have:=congrArg List.length e;rw[C2,UH] at this;have c2:3<=(Z.filter λz=>decide<|val (rh h) z.1=0).length:=c;omega
  have cl:((Z.filter λz=>decide<|val (rh h) z.1=0).map (·.1)).length<=Z.length:=AK
  generalize (Z.filter λz=>decide<|val (rh h) z.1=0).map (·.1)=C at mem nd ne cl
  refine Au (ajC (n:=70) A4 (L:=M) (f:=rh h) (R.ok h mh).kN.nz (λp mp=>⟨((mem p).1 mp).1,((mem p).1 mp).2,lM p ((mem p).1 mp).1⟩) ((R.ok h mh).lvn A4) nd ne A4 A4) λr ⟨r',e,hr⟩=>AW ⟨C,r',e,hr,mem⟩
def Q2(l:A3 Q3):Q3:=B7 (acC l)<|1/2
def ak3:Av (1/2)=[49,47,50]:=A6
def aaU:lv 1 (1/2:Rat):=⟨Dx A6,Dx A6⟩
def Ol(n:Nat):Ba n o3:=by have:lv n (0:Rat):=⟨FV _,ZQ A4⟩;exact⟨this,this,this⟩
def pd:Ak o3=([48],[48],[48]):=by show(Av 0,Av 0,Av 0)=_;rw[wy]
theorem akS{l:A3 Q3}(hC:∀x∈l,Ba 70 x)(h3:3<=l.length)(hl:l.length<=25):Xu (l.map Ak)=some (Ak<|Q2 l)/\Ba (600*l.length+1) (Q2 l):=by
 obtain⟨o,p,t,rfl⟩:∃o p t,l=o::p::t:=by match l,h3 with|o::p::t,_=>exact⟨o,p,t,rfl⟩
 have lo:=hC o AT;have key:Yd (λr=>r=Ak (Q2 (o::p::t))/\Ba (600*(o::p::t).length+1) (Q2 (o::p::t))) (Xu<|(o::p::t).map Ak):=by
  unfold Xu QI;rw[C2];have i0:AB ((o::p::t).map Ak) 0=some (Ak o):=rfl;refine A5 rfl ?_;rw[<-pd];refine Qv (o::p::t) (λ(s:T3) i=>(s,i)) (λA s=>∃q,A=o::p::q/\s=Ak (Ld o p q)/\Ba (600*A.length) (Ld o p q)) (λA x D s k hA hP next=>?_) (λs k hP=>?_) [o,p] t (s0:=Ak o3) rfl ⟨[],rfl,rfl,Ol _⟩ A4
  .dsimp only;rw[CU hA,BX];have al:=D7 hA;obtain⟨q,rfl,rfl,lq⟩:=hP;obtain⟨B,y,e⟩:∃B y,p::q=B++[y]:=by
    rcases Zl (p::q) with e|⟨B,y,e⟩
    .cases e
    .grind
   have hB:o::p::t=(o::B)++y::x::D:=by rw[hA,e];simp
   have ly:=hC y<|at_mem hB
   have lx:=hC x<|at_mem hA
   have iy:AB ((o::p::t).map Ak) ((o::B).length:Int)=some (Ak y):=Ho Ak hB;have ix:=Ho Ak hA;have el:(o::p::q).length=(o::B).length+1:=by rw[e];simp
   have fm:AG (((o::p::q).length:Int)-1)=some ((o::B).length:Int):=by rw[EL ⟨A4,A4⟩];exact congrArg some A4
   have d1:=Pa ly lo;have d2:=Pa lx lo;have c:=Ll d1 d2;have a:=MT lq c;refine A5 fm<|A5 iy<|A5 i0<|A5 (Pt ly lo A4)<|A5 ix<|A5 i0<|A5 (Pt lx lo A4)<|A5 (Qt d1 d2 A4)<|A5 (R7 lq c A4)<|A5 (CE hA A4)<|next _ ⟨q++[x],AT,?_,?_⟩
   .rw[pI o x q p y B e]
   .rw[pI o x q p y B e];refine Fq a ?_;rw[DS,Fw];omega
  .dsimp only;rw[CT,B8];obtain⟨q,e,rfl,lq⟩:=hP;cases e;have sc:=Pj lq aaU A4;rw[ak3] at sc;have ar:Q2 (o::p::t)=B7 (Ld o p t) (1/2):=by unfold Q2;rw[yz]
   rw[ar];exact A5 sc<|AW ⟨rfl,Me lq aaU⟩
 obtain⟨r,e,rfl,h⟩:=key;exact⟨e,h⟩
theorem alg{S:A3 Bq}{M:A3 H3}(I:CF S M){f g:Bq}(mf:f∈S)(mg:g∈S)(e:f.1=g.1):f=g:=by
 have:∀{S:A3 Bq},S.Pairwise (λf g=>f.1≠g.1)->f∈S->g∈S->f=g:=λ{S} h=>by
  induction S with
  |nil=>intro m;cases m
  |cons x S ih=>
   intro m1 m2;let⟨h1,h2⟩:=Hb.1 h;rcases Am.1 m1 with e1|m1<;>rcases Am.1 m2 with e2|m2
   .rw[e1,e2]
   .grind
   .grind
   .grind
 exact this I.P0 mf mg
section
variable{l:FB}{S:List Bq}(o:OkB l S)(hl:l.length<=10)
include o hl
theorem apn{f:Bq}(mf:f∈S):f.2.length<=10:=by let⟨ok,I,all⟩:=o;let⟨f1,f2,f3,f4⟩:=I.DT f mf;have:=zC I.bdd f1 (I.nz _ f1) f2 f3 f4;rw[C2] at this;omega
theorem apm{f:Bq}(mf:f∈S):∀x∈f.2,Ba 70 x:=λx mx=>qw o.1 (((o.2.1.DT f mf).2.2.2 x).1 mx).1
end
section
variable{S:A3 Bq}{n:Nat}{l:FB}{s:Mz}{a b c:Q3}{M N:A3 H3}
theorem yT(T:Q3->Q3->Rat)(x y:Q3):∀(B:A3 Q3) (p:Q3),Lc T p (B++[x,y])=Lc T p (B++[x])+T x y
 |[],p=>by show T p x+(T x y+0)=T p x+0+T x y;grind|b::B,p=>by show T p b+Lc T b (B++[x,y])=T p b+Lc T b (B++[x])+T x y;rw[yT T x y B b];grind
theorem Ym(c:Rat)(w z o x y:Q3):∀B:A3 Q3,GV c w z (o::(B++[x,y]))=GV c w z (o::(B++[x]))+kk c w z o x y
 |[]=>by show kk c w z o x y+0=0+kk c w z o x y;grind|b::B=>yT _ x y B b
def O9(z:Q3)(l:A3 Q3):Q3:=(GV 0 (1,0,0) z l,GV 0 (0,1,0) z l,GV 0 (0,0,1) z l)
theorem zS(z o x y:Q3)(B:A3 Q3):O9 z (o::(B++[x,y]))=Bn (O9 z (o::(B++[x]))) (B7 (Bn (Bn z o)<|Bn x y)<|kk 1 o3 z o x y):=by unfold O9;rw[Ym,Ym,Ym];unfold Bn B7;refine K5 ?_ ?_ ?_<;>dsimp<;>congr 1<;>unfold kk AI Bn o3<;>grind
def smV{α:Type}(f:α->Q3)(l:A3 α):Q3:=(sm (λx=>(f x).1) l,sm (λx=>(f x).2.1) l,sm (λx=>(f x).2.2) l)
theorem Ub{α:Type}(f:α->Rat)(A:A3 α)(x:α):sm f (A++[x])=sm f A+f x:=by rw[abO];show _=_;unfold sm;unfold sm;grind
def pt{α:Type}(f:α->Q3)(A:A3 α)(x:α):smV f (A++[x])=Bn (smV f A) (f x):=by unfold smV;rw[Ub,Ub,Ub];rfl
def He(S:A3 Bq):Rat:=sm (λf:Bq=>GV 1 o3 o3 f.2) S
def NL(S:A3 Bq):Q3:=smV (λf:Bq=>O9 o3 f.2) S
def sk:lv 1 (1/6:Rat):=⟨Dx A6,Dx A6⟩
def so:lv 1 (1/4:Rat):=⟨Dx A6,Dx A6⟩
def ar1:lv 1 (6:Rat):=⟨Dx A6,Dx A6⟩
def ar7:lv 1 (4:Rat):=⟨Dx A6,Dx A6⟩
def amE(ha:Ba n a)(hb:Ba n b)(hc:Ba n c)(h1:1<=n)(hn:n<=1000000):Yi a b c=some (Ct a b c):=by let⟨e1,k1⟩:=xq ha hb h1 A4;let⟨e2,_⟩:=pY k1 (Fq hc (show n<=16*n by omega)) A4 A4;unfold Yi;rw[e1,Cp,e2];rfl
theorem abi(a b c:Q3):kk 1 o3 o3 a b c=Ct a b c:=by unfold kk Ct AI AY Af Bn o3;grind
theorem ar9{x:Rat}(h:lv n x):lv (n+1) (x/6):=by have:=JR h sk;rwa [show x*(1/6)=x/6 by grind] at this
theorem arA{x:Rat}(h:lv n x):lv (n+1) (x/4):=by have:=JR h so;rwa [show x*(1/4)=x/4 by grind] at this
def apA(ha:Ba n a)(hb:Ba n b)(hc:Ba n c):lv (15*n+5) (Ct a b c):=DP (R4 (Ll ha hb) hc) A4
theorem agr(hS:S.length<=40)(hF:∀f∈S,3<=f.2.length/\f.2.length<=40/\∀x∈f.2,Ba 70 x):V8 S=some (He S/6,B7 (NL S)<|1/24)/\lv (60000*S.length+1) (He S/6)/\Ba (60000*S.length+1) (B7 (NL S)<|1/24):=by
 have key:Yd (λr=>r=(He S/6,B7 (NL S)<|1/24)/\lv (60000*S.length+1) r.1/\Ba (60000*S.length+1) r.2) (V8 S):=by
  unfold V8;refine A5 (x:=(0:Rat)) A6<|A5 (x:=o3) A6 ?_
  refine Ce S (λ(s:Rat×Q3) i=>(s.1,s.2,i)) (λA s=>s.1=He A/6/\s.2=B7 (NL A) (1/24)/\lv (60000*A.length+1) s.1/\Ba (60000*A.length+1) s.2) (λA f C s k hA hP next=>?_) (λs k hP=>?_) (s0:=((0:Rat),o3)) ⟨by unfold He sm;grind,by unfold NL smV sm;exact FQ,(Ol _).1,Ol _⟩ A4
  .dsimp;rw[CU hA,BX];have al:=D7 hA;let⟨f3,f40,f70⟩:=hF f<|at_mem hA
   let⟨s1,s2,s3,s4⟩:=hP;refine A5 (CC hA) ?_;obtain⟨o,p,t,e⟩:∃o p t,f.2=o::p::t:=by match h:f.2,f3 with|o::p::t,_=>exact⟨o,p,t,rfl⟩
   have i0:AB f.2 0=some o:=by rw[e];rfl
   have lo:=f70 o (by rw[e];simp);refine Qv f.2 (λ(s:Rat×Q3) i=>(s.1,s.2,i)) (λB r=>1<=B.length/\B.length+1<=f.2.length/\r.1=s.1+GV 1 o3 o3 (f.2.take<|B.length+1)/6/\r.2=Bn s.2 (B7 (O9 o3<|f.2.take<|B.length+1)<|1/24)/\lv (60000*A.length+1+1300*B.length) r.1/\Ba (60000*A.length+1+1300*B.length) r.2) (λB x D r k' hB hQ next'=>?_) (λr k' hQ=>absurd hQ.2.1 A4) [o] (p::t) (s0:=s) (by rw[e];rfl) ⟨AT,by rw[e];simp,?_,?_,DP s3 AT,Fq s4 AT⟩ A4
   .dsimp;have bl:=D7 hB;let⟨b1,_,h3,h4,h5,h6⟩:=hQ;have tk:f.2.take (B.length+1)=B++[x]:=AK;rw[tk] at h3 h4;refine A5 (CE hB A4) ?_;cases D with
    |nil=>
     have el:f.2.length=B.length+1:=by rw[hB];simp
     rw[CB A4,B8];have eb:B++[x]=f.2:=hB.symm;rw[eb] at h3 h4;refine A5 (CE hA A4) (next (r.1,r.2) ⟨?_,?_,DP h5 (by rw[DS,Fw];omega),Fq h6 (by rw[DS,Fw];omega)⟩)
     .unfold He at s1⊢;rw[Ub];dsimp;rw[h3,s1];grind
     .unfold NL at s2⊢;rw[pt];dsimp;rw[h4,s2];exact FQ
    |cons y D=>
     have L4:f.2=(B++[x])++y::D:=by rw[hB];simp
     have bl':=D7 L4;rw[DS,Fw] at bl';rw[B9 A4,BX];have lx:=f70 x<|at_mem hB
     have ly:=f70 y<|at_mem L4
     have iy:AB f.2 ((B.length+1:Nat):Int)=some y:=by have:=CC L4;rwa [DS,Fw] at this
     have d:=amE lo lx ly A4 A4;have ld:=apA lo lx ly;have ld6:=ar9 ld;have ld4:=arA ld6;have a1:=MT lo lx;have a2:=MT a1 ly;have sc:=Me a2 ld4;have dv6:=(rO (n:=2000) (DP ld A4) (DP ar1 A4) A4 A4 L9).1;have dv4:=(rO (n:=2000) (DP ld6 A4) (DP ar7 A4) A4 A4 L9).1;have ad:=(Uf (n:=10000000) (DP h5 A4) (DP ld6 A4) A4 A4).1;have v1:=(Z8 (n:=2000) (Fq lo A4) (Fq lx A4) A4 A4).1;have v2:=(Z8 (n:=2000) (Fq a1 A4) (Fq ly A4) A4 A4).1;have vs:=(oD (n:=2000) (Fq a2 A4) (DP ld4 A4) A4 A4).1;have vm:=(Z8 (n:=10000000) (Fq h6 A4) (Fq sc A4) A4 A4).1;obtain⟨B',rfl⟩:∃B',B=o::B':=by cases B with|nil=>simp at b1|cons q B'=>rw[e] at hB;simp at hB;exact⟨B',by rw[hB.1]⟩
     have tk':f.2.take ((o::B'++[x]).length+1)=o::(B'++[x,y]):=AK;refine A5 i0<|A5 (CC hB)<|A5 (CE hB A4)<|A5 iy<|A5 d<|A5 (x:=(6:Rat)) A6<|A5 dv6<|A5 ad<|A5 v1<|A5 v2<|A5 (x:=(4:Rat)) A6<|A5 dv4<|A5 vs<|A5 vm<|A5 (CE hB A4)<|next' (_,_) ⟨?_,?_,?_,?_,?_,?_⟩
     .simp
     .grind
     .dsimp only;rw[tk',Ym,abi,h3];show _=s.1+(GV 1 o3 o3 (o::B'++[x])+_)/6
      grind
     .dsimp only;rw[tk',zS,abi,h4];show _=Bn s.2 (B7 (Bn (O9 o3 (o::B'++[x])) _) _)
      generalize O9 o3 (o::B'++[x])=m
      generalize Ct o x y=q
      exact FQ
     .dsimp only;exact DP (lva h5 ld6) (by rw[DS,Fw];omega)
     .dsimp only;exact Fq (MT h6 sc) (by rw[DS,Fw];omega)
   .show s.1=_;rw[e];show s.1=s.1+0/6
    grind
   .show s.2=_;rw[e];show s.2=Bn s.2 (B7 (0,0,0)<|1/24);exact FQ
  .dsimp;rw[CT,B8];let⟨s1,s2,s3,s4⟩:=hP;exact AW ⟨by rw[s1,s2],s3,s4⟩
 obtain⟨r,e,rfl,h1,h2⟩:=key;exact⟨e,h1,h2⟩
def vX(X:A3 (A3 Bq)):Rat:=sm (λS=>He S/6) X
def mX(X:A3 (A3 Bq)):Q3:=smV (λS=>B7 (NL S)<|1/24) X
def a8(A:A3 (A3 Bq))(S:A3 Bq):vX (A++[S])=vX A+He S/6:=Ub _ A S
def rM(A:A3 (A3 Bq))(S:A3 Bq):mX (A++[S])=Bn (mX A) (B7 (NL S)<|1/24):=pt _ A S
def aff{X:A3 (A3 Bq)}(hX:X.length<=60)(h:∀S∈X,S.length<=40/\∀f∈S,3<=f.2.length/\f.2.length<=40/\∀x∈f.2,Ba 70 x):VD X=some (vX X,mX X):=by
 refine HG ?_;unfold VD;refine A5 (x:=(0:Rat)) A6<|A5 (x:=o3) A6 ?_
 refine Ce X (λ(s:Rat×Q3) i=>(s.1,s.2,i)) (λA s=>s.1=vX A/\s.2=mX A/\lv (2400002*A.length+1) s.1/\Ba (2400002*A.length+1) s.2) (λA S C s k hA hP next=>?_) (λs k hP=>?_) (s0:=((0:Rat),o3)) ⟨rfl,rfl,(Ol _).1,Ol _⟩ A4
 .dsimp;rw[CU hA,BX];have al:=D7 hA;let⟨s1,s2,s3,s4⟩:=hP;let⟨h1,h2⟩:=h S<|at_mem hA
  let⟨v1,v2,v3⟩:=agr h1 h2;have ad:=(Uf (n:=1000000000) (DP s3 A4) (DP v2 A4) A4 A4).1;have vm:=(Z8 (n:=1000000000) (Fq s4 A4) (Fq v3 A4) A4 A4).1;refine A5 (CC hA)<|A5 v1<|A5 ad<|A5 vm<|A5 (CE hA A4)<|next (_,_) ⟨?_,?_,?_,?_⟩
  .dsimp;rw[a8,s1]
  .dsimp;rw[rM,s2];rfl
  .exact DP (lva s3 v2) (by rw[DS,Fw];omega)
  .exact Fq (MT s4 v3) (by rw[DS,Fw];omega)
 .dsimp;rw[CT,B8];exact AW (by rw[hP.1,hP.2.1])
structure Q4(l:FB)(S:A3 Bq)(s:Mz):Prop where
 ok:∀h∈l,Cl h
 I:CF S (l.map rh)
 R:∃Z,RS s (l.map rh) Z
def ah2(h:OkB l S)(hl:l.length<=50):Yd (λs=>Q4 l S s) (Mv l):=(vw h.1 hl h.2.1).imp λs hs=>⟨h.1,h.2.1,hs⟩
def Q4.mem(P:Q4 l S s)(h:C1):h∈s.1↔h∈l/\rh h∈S.map (·.1):=by
 let⟨Z,R⟩:=P.R;constructor
 .intro mh;have mr:rh h∈s.1.map rh:=BM.2 ⟨h,mh,rfl⟩;let⟨g,mg,e⟩:=BM.1 ((R.fac<|rh h).1 mr).1;rw[<-Qy (P.ok g mg) (R.ok h mh) e];exact⟨mg,by rw[e];exact(R.Mq P.I _).1 mr⟩
 .rintro⟨mh,mf⟩;let⟨g,mg,e⟩:=BM.1<|(R.Mq P.I _).2 mf
  rw[<-Qy (R.ok g mg) (P.ok h mh) e];exact mg
def xo(h:∀k,k∈N↔k∈M)(p:Q3):Bi N p↔Bi M p:=⟨λv=>⟨λk mk=>v.1 k<|(h k).2 mk,λd hd=>v.2 d λk mk=>hd k<|(h k).1 mk⟩,λv=>⟨λk mk=>v.1 k<|(h k).1 mk,λd hd=>v.2 d λk mk=>hd k<|(h k).2 mk⟩⟩
def CF.congr(I:CF S M)(h:∀k,k∈N↔k∈M):CF S N:=by
 refine⟨λd hd=>?_,?_,λk mk=>I.nz k<|(h k).1 mk,λa ma b mb=>I.norm a ((h a).1 ma) b<|(h b).1 mb,λf mf=>?_,I.P0,λp hp ht=>?_⟩
 .obtain⟨k,mk,e⟩:=I.bdd d hd;exact⟨k,(h k).2 mk,e⟩
 .obtain⟨o,ho⟩:=I.int;exact⟨o,λk mk=>ho k<|(h k).1 mk⟩
 .obtain⟨a,b,c,d⟩:=I.DT f mf;exact⟨(h _).2 a,b,c,λp=>by rw[d,xo h]⟩
 .obtain⟨k,mk,t⟩:=ht;exact I.cover p (λg mg=>hp g<|(h g).2 mg) ⟨k,(h k).1 mk,t⟩
def RS.congr{Z:ZL}(R:RS s M Z)(h:∀k,k∈N↔k∈M):RS s N Z:=⟨R.ok,R.Hj,λk=>by rw[R.fac,h],R.cor,R.on,R.nd,λp=>by rw[R.mem,xo h],R.Gz⟩
def amm(I:CF S (l.map rh)){f:Bq}(mf:f∈S){r:A3 Q3}(h:Rnd f.1 f.2 r):FT f.1.1 r/\3<=r.length/\r.length<=l.length/\∀x,x∈r↔x∈f.2:=by
 let⟨f1,f2,f3,f4⟩:=I.DT f mf;have n:=zC I.bdd f1 (I.nz _ f1) f2 f3 f4;rw[C2] at n;have a:=Kb (f2.nodup f3) λx mx=>(h.mem x).2 mx
 have b:=Kb h.len λx mx=>(h.mem x).1 mx
 have m:=h.mem;obtain⟨⟨p,s,rfl,h1,h2⟩,h3⟩:=h;exact⟨y8 (I.nz _ f1) (L:=l.map rh) (λx mx=>(f4 x).1<|(h3 x).1 mx) h2,A4,A4,m⟩
theorem xK(P:Q4 l S s)(hl:l.length<=31):∃W:A3 (Bq×A3 Q3),W.length=s.1.length/\W.map (λw=>w.1.1)=s.1.map rh/\(W.map (·.1)).Perm S/\
  (∀w∈W,FT w.1.1.1 w.2/\3<=w.2.length/\w.2.length<=l.length/\(∀x,x∈w.2↔x∈w.1.2)/\∀x∈w.2,Ba 70 x)/\
  ∀{A:A3 (Bq×A3 Q3)} {w:Bq×A3 Q3} {C:A3 (Bq×A3 Q3)},W=A++w::C->VV s (A.length:Int)=some (w.2.map Ak):=by
 let⟨Z,R⟩:=P.R;have l70:∀p,Bi (l.map rh) p->Ba 70 p:=λp hp=>qw P.ok hp
 have ml:(l.map rh).length<=31:=AK;have fit:∀{h:C1} {f:Bq} {C r':A3 Q3},f∈S->f.1=rh h->Rnd (rh h) C r'->(∀z,z∈C↔Bi (l.map rh) z/\val (rh h) z=0)->Rnd f.1 f.2 r':=λ{h f C r'} mf e hr hC=>by rw[e];exact⟨hr.ex,λz=>by rw[hr.mem,hC,(P.I.DT f mf).2.2.2,e]⟩
 have ex:∀h:C1,∃w:Bq×A3 Q3,h∈s.1->w.1∈S/\w.1.1=rh h/\Rnd w.1.1 w.1.2 w.2:=λh=>by
  by_cases mh:h∈s.1
  .let⟨m,hm⟩:=WY.1 mh;let⟨f,mf,e⟩:=BM.1<|(R.Mq P.I _).1<|BM.2 ⟨h,mh,rfl⟩
   let⟨r,_,C,r',_,hr,hC⟩:=yB R ml l70 hm;exact⟨(f,r'),λ_=>⟨mf,e,fit mf e hr hC⟩⟩
  .exact⟨(((o3,0),[]),[]),λc=>absurd c mh⟩
 let⟨G,hG⟩:=Classical.axiomOfChoice ex;refine⟨s.1.map G,C2 _,by rw[Nk];exact iZ λh mh=>(hG h mh).2.1,qD ?_ (P.I.P0.imp λh e=>h (by rw[e])) λf=>⟨λm=>?_,λmf=>?_⟩,λw mw=>?_,λ{A w C} hA=>?_⟩
 .rw[Nk];refine M0.2<|Sg (λ{x y} mx my b e=>?_) R.Hj
  have e:(G x).1=(G y).1:=e;have:rh x=rh y:=AK;rw[Qy (R.ok x mx) (R.ok y my) this] at b;exact jE _ b
 .grind
 .let⟨h,mh,e⟩:=BM.1 ((R.Mq P.I f.1).2<|BM.2 ⟨f,mf,rfl⟩);let⟨g1,g2,_⟩:=hG h mh;exact BM.2 ⟨G h,BM.2 ⟨h,mh,rfl⟩,alg P.I g1 mf (by rw[g2,e])⟩
 .obtain⟨h,mh,rfl⟩:=BM.1 mw;let⟨g1,g2,g3⟩:=hG h mh;let⟨a,b,c,d⟩:=amm P.I g1 g3;exact⟨a,b,c,d,λx mx=>l70 x (((P.I.DT _ g1).2.2.2 x).1<|(d x).1 mx).1⟩
 .have g:(s.1.map G)[A.length]? =some w:=by rw[hA];simp
  rw[HL] at g;obtain⟨h,hm,rfl⟩:=Option.map_eq_some_iff.1 g;let⟨g1,g2,g3⟩:=hG h<|KC hm
  let⟨r,r1,C',r',e,hr,hC⟩:=yB R ml l70 hm;rw[r1,e,(fit g1 g2 hr hC).same g3]
def aib:Av (1/3)=[49,47,51]:=A6
def aic:Av (1/6)=[49,47,54]:=A6
def age:Av (1/4)=[49,47,52]:=A6
def zW:lv 1 (1/3:Rat):=⟨Dx A6,Dx A6⟩
theorem ab2(a b c:Q3):AI a (AY b c)=Ct a b c:=by unfold Ct AI AY;grind
def anP(ha:Ba n a)(hb:Ba n b)(hc:Ba n c):lv (15*n+5) (Ct a b c):=by rw[<-ab2];exact DP (R4 ha<|Ll hb hc) A4
def aru(ha:Ba n a)(hb:Ba n b)(hc:Ba n c)(hn:n<=1000):Vc (Ak a) (Ak b) (Ak c)=some (Av<|Ct a b c):=by unfold Vc;rw[Qt hb hc A4,Cp,Un ha (Ll hb hc) A4,ab2];rfl
def wB(P:Q4 l S s):∃y,AB s.2.1 0=some (Ak y)/\Ba 70 y:=by
 let⟨Z,R⟩:=P.R;have vp:=aBg P.I
 match S,P.I,vp with
 |[],_,vp=>exact absurd vp<|Rat.lt_irrefl
 |f::S,I,_=>
  let⟨f1,f2,f3,f4⟩:=I.DT f Cz
  match h:f.2,f3 with
  |x::L,_=>
   have v:=((f4 x).1 (by rw[h];simp)).1;have m:=(R.mem x).2 v
   match Z,R,m with|z::Z,R,_=>exact⟨z.1,by rw[R.cor];rfl,qw P.ok<|(R.mem z.1).1 AT⟩
theorem afs(P:Q4 l S s)(hl:l.length<=16):Xg s=some (Av<|He S/6)/\lv 470000 (He S/6):=by
 let⟨W,w1,_,w2,w3,fac⟩:=xK P A4;let⟨y,iy,ly⟩:=wB P;have wl:W.length<=16:=by let⟨Z,R⟩:=P.R;have:=R.len;rw[C2] at this;omega
 have key:Yd (λr=>r=Av (He S/6)/\lv 470000 (He S/6)) (Xg s):=by
  unfold Xg;rw[<-w1];have t0:Av ((0:Rat)/2)=[48]:=A6;refine Ce W (λ(t:AA) i=>(t,i)) (λA t=>t=Av (sm (λw:Bq×A3 Q3=>GV 1 o3 y w.2) A/2)/\lv (29300*A.length+1) (sm (λw:Bq×A3 Q3=>GV 1 o3 y w.2) A/2)) (λA w C t k hA hP next=>?_) (λt k hP=>?_) (s0:=[48]) ⟨t0.symm,by show lv _ ((0:Rat)/2);rw[show(0:Rat)/2=0 by grind];exact(Ol _).1⟩ A4
  .dsimp;rw[CU hA,BX];have al:=D7 hA;let⟨p1,p2⟩:=hP;let⟨c1,c2,c3,c4,c5⟩:=w3 w<|at_mem hA
   let⟨a1,a2⟩:=akS c5 c2 A4;obtain⟨o,p,t',e⟩:∃o p t',w.2=o::p::t':=by match h:w.2,c2 with|o::p::t',_=>exact⟨o,p,t',rfl⟩
   have i0:AB (w.2.map Ak) 0=some (Ak o):=by rw[e];rfl
   have lo:=c5 o (by rw[e];simp);have d:=Pa lo ly;have a2:Ba 9601 (Q2 w.2):=Fq a2 A4;have dt:=R4 d a2;have eq:AI (Af o y) (Q2 w.2)=GV 1 o3 y w.2/2:=by
    unfold Q2;rw[Ff,e,yz,zu];show _=Lc (kk 1 o3 y o) p t'/2
    grind
   have sum:sm (λw:Bq×A3 Q3=>GV 1 o3 y w.2) A/2+AI (Af o y) (Q2 w.2)=sm (λw:Bq×A3 Q3=>GV 1 o3 y w.2) (A++[w])/2:=by rw[eq,Ub];grind
   rw[p1];refine A5 (fac hA) (A5 i0 (A5 iy (A5 (Pt lo ly A4) (A5 a1 (A5 (Un d a2 A4) (A5 (RL p2 dt A4 A4) (A5 (CE hA A4) (next _ ⟨by rw[sum],?_⟩))))))));rw[<-sum];exact DP (lva p2 dt) (by rw[DS,Fw];omega)
  .dsimp;rw[CT,B8];let⟨p1,p2⟩:=hP;have v:=Wj P.I 1 o3 o3 y w2 λw mw=>⟨(w3 w mw).1,(w3 w mw).2.1,(w3 w mw).2.2.2.1⟩
   rw[v] at p1 p2;have m:=Q1 zW p2 A4 A4;have e:1/3*(sm (λf:Bq=>GV 1 o3 o3 f.2) S/2)=He S/6:=by unfold He;grind
   have lm:=JR zW p2;rw[e] at lm m;rw[aib] at m;rw[p1];exact A5 m<|AW ⟨rfl,DP lm A4⟩
 obtain⟨r,e,rfl,h⟩:=key;exact⟨e,h⟩
theorem aft(P:Q4 l S s)(hl:l.length<=10):Xr s=some (Av<|He S/6,Ak<|B7 (NL S)<|1/24)/\lv 270000 (He S/6)/\Ba 270000 (B7 (NL S)<|1/24):=by
 let⟨W,w1,_,w2,w3,fac⟩:=xK P A4;let⟨y,iy,ly⟩:=wB P;have wl:W.length<=10:=by let⟨Z,R⟩:=P.R;have:=R.len;rw[C2] at this;omega
 have key:Yd (λr=>r=(Av<|He S/6,Ak<|B7 (NL S)<|1/24)/\lv 270000 (He S/6)/\Ba 270000 (B7 (NL S)<|1/24)) (Xr s):=by
  unfold Xr QI;rw[<-w1,<-pd];have t0:Av (0:Rat)=[48]:=A6;rw[<-t0];refine A5 rfl<|A5 iy ?_
  refine Ce W (λ(t:AA×T3) i=>(t.1,t.2,i)) (λA t=>∃(v:Rat) (m:Q3),t=(Av v,Ak m)/\v=sm (λw:Bq×A3 Q3=>GV 1 o3 y w.2) A/6/\m=B7 (smV (λw:Bq×A3 Q3=>O9 y w.2) A) (1/24)/\lv (26500*A.length+1) v/\Ba (26500*A.length+1) m) (λA w C t k hA hP next=>?_) (λt k hP=>?_) (s0:=(Av 0,Ak o3)) ⟨0,o3,rfl,by unfold sm;grind,by unfold smV sm;exact FQ,(Ol _).1,Ol _⟩ A4
  .dsimp;rw[CU hA,BX];have al:=D7 hA;obtain⟨v0,m0,rfl,p1,p2,p3,p4⟩:=hP;let⟨_,c2,c3,_,c5⟩:=w3 w<|at_mem hA
   refine A5 (fac hA) ?_;obtain⟨o,p,t',e⟩:∃o p t',w.2=o::p::t':=by match h:w.2,c2 with|o::p::t',_=>exact⟨o,p,t',rfl⟩
   have i0:AB (w.2.map Ak) 0=some (Ak o):=by rw[e];rfl
   have lo:=c5 o (by rw[e];simp);rw[C2];refine Qv w.2 (λ(t:AA×T3) i=>(t.1,t.2,i)) (λB t=>∃(v:Rat) (m:Q3),2<=B.length/\t=(Av v,Ak m)/\v=v0+GV 1 o3 y B/6/\m=Bn m0 (B7 (O9 y B)<|1/24)/\lv (26500*A.length+1+2600*B.length) v/\Ba (26500*A.length+1+2600*B.length) m) (λB x D t k' hB hQ next'=>?_) (λt k' hQ=>?_) [o,p] t' (s0:=(Av v0,Ak m0)) (by rw[e];rfl) ⟨v0,m0,AT,rfl,?_,?_,DP p3 A4,Fq p4 A4⟩ A4
   .dsimp;rw[CU hB,BX];have bl:=D7 hB;obtain⟨v,m,b2,rfl,q1,q2,q3,q4⟩:=hQ;obtain⟨B1,u,eB⟩:∃B1 u,B=B1++[u]:=by
     rcases Zl B with e|⟨B1,u,e⟩
     .grind
     .grind
    subst eB;rw[DS,Fw] at b2 bl;have L4:w.2=B1++u::x::D:=by rw[hB];simp
    have lu:=c5 u<|at_mem L4
    have lx:=c5 x<|at_mem hB
    obtain⟨B2,rfl⟩:∃B2,B1=o::B2:=by cases B1 with|nil=>simp at b2|cons q B2=>rw[e] at L4;simp at L4;exact⟨B2,by rw[L4.1]⟩
    have fm:AG (((o::B2++[u]).length:Int)-1)=some ((o::B2).length:Int):=by rw[DS,Fw,EL ⟨A4,A4⟩];exact congrArg some A4
    have gl:(o::B2++[u]).length<=10:=AK;have iu:AB (w.2.map Ak) ((o::B2).length:Int)=some (Ak u):=Ho Ak L4;have ix:=Ho Ak hB;have d0:=Pa lo ly;have d1:=Pa lu ly;have d2:=Pa lx ly;have ld:=anP d0 d1 d2;have fd:=aru d0 d1 d2 A4;have f6:=Q1 sk ld A4 A4;have l6:=JR sk ld;rw[aic] at f6;have a0:=MT ly lo;have a1:=MT lu lx;have a2:=MT a0 a1;have s4:=Me a2 so;have f4:=Pj a2 so A4;rw[age] at f4;have av:=RL q3 l6 A4 A4;have sv:=Me s4 l6;have fs:=Pj s4 l6 A4;have fa:=R7 q4 sv A4;refine A5 i0<|A5 (Pt lo ly A4)<|A5 fm<|A5 iu<|A5 (Pt lu ly A4)<|A5 ix<|A5 (Pt lx ly A4)<|A5 fd<|A5 f6<|A5 i0<|A5 (R7 ly lo A4)<|A5 fm<|A5 iu<|A5 ix<|A5 (R7 lu lx A4)<|A5 (R7 a0 a1 A4)<|A5 f4<|A5 av<|A5 fs<|A5 fa<|A5 (CE hB A4)<|next' (_,_) ⟨_,_,AT,rfl,?_,?_,?_,?_⟩
    .rw[show o::B2++[u]++[x]=o::(B2++[u,x]) by simp,Ym,q1];show _=v0+(GV 1 o3 y (o::B2++[u])+kk 1 o3 y o u x)/6;have:kk 1 o3 y o u x=Ct (Af o y) (Af u y) (Af x y):=by unfold kk AI o3;grind
     rw[this];grind
    .rw[show o::B2++[u]++[x]=o::(B2++[u,x]) by simp,zS,q2];show _=Bn m0 (B7 (Bn (O9 y (o::B2++[u])) _) _);have:kk 1 o3 y o u x=Ct (Af o y) (Af u y) (Af x y):=by unfold kk AI o3;grind
     rw[this]
     generalize O9 y (o::B2++[u])=mm
     generalize Ct (Af o y) (Af u y) (Af x y)=q
     exact FQ
    .exact DP (lva q3 l6) DJ
    .exact Fq (MT q4 sv) DJ
   .dsimp;rw[CT,B8];obtain⟨v,m,_,rfl,q1,q2,q3,q4⟩:=hQ;refine A5 (CE hA A4) (next (_,_) ⟨_,_,rfl,?_,?_,DP q3 (by rw[DS,Fw];omega),Fq q4 (by rw[DS,Fw];omega)⟩)
    .rw[Ub,q1,p1];grind
    .rw[pt,q2,p2];exact FQ
   .show v0=v0+0/6
    grind
   .show m0=Bn m0 (B7 (0,0,0)<|1/24);exact FQ
  .dsimp;rw[CT,B8];obtain⟨v,m,rfl,p1,p2,p3,p4⟩:=hP;have hw:∀f∈W,FT f.1.1.1 f.2/\3<=f.2.length/\∀x,x∈f.2↔x∈f.1.2:=λw mw=>⟨(w3 w mw).1,(w3 w mw).2.1,(w3 w mw).2.2.2.1⟩
   have ev:v=He S/6:=by rw[p1,Wj P.I 1 o3 o3 y w2 hw];rfl
   have em:m=B7 (NL S) (1/24):=by rw[p2];congr 1;unfold smV O9;rw[Wj P.I 0 (1,0,0) o3 y w2 hw,Wj P.I 0 (0,1,0) o3 y w2 hw,Wj P.I 0 (0,0,1) o3 y w2 hw];rfl
   rw[<-ev,<-em];exact AW ⟨rfl,DP p3 A4,Fq p4 A4⟩
 obtain⟨r,e,rfl,h⟩:=key;exact⟨e,h⟩
abbrev PS:=FB×A3 Bq×Mz
theorem am7{f:FB->Int}{l:A3 FB}(h:TO f l 0):l.Pairwise Sz:=by
 unfold TO at h;rcases h with⟨a,b⟩|⟨_,⟨b,_⟩|⟨_,b⟩⟩
 .grind
 .cases b
 .exact b
def akE(hn:n<=60){l:A3 FB}(h:64<l.length\/(l.length<=n/\∀x∈l,Small x)):∃X c,NW l=some (X,c)/\Rj l=some c/\(c=0->l.length<=n/\l.Pairwise Sz/\∃V:A3 PS,l=V.map (·.1)/\X=V.map (·.2.1)/\∀v∈V,OkB v.1 v.2.1/\Q4 v.1 v.2.1 v.2.2/\Mv v.1=some v.2.2/\v.1.length<=10):=by
 rcases h with h|⟨h2,hs⟩
 .refine⟨[],5,?_,?_,λc=>by cases c⟩
  .unfold NW;rw[B9 (show(64:Int)<(l.length:Int) by omega)];rfl
  .unfold Rj;rw[B9 (show(64:Int)<(l.length:Int) by omega)];rfl
 .let⟨v,v1,v2⟩:=nJ A4 hs;let⟨w,w1,w2,w3⟩:=ais A4 hs;have e:v=w.2:=v2.same w2;refine⟨w.1,w.2,w1,by rw[<-e];exact v1,λc=>⟨h2,am7 (by rw[c] at w2;exact w2),?_⟩⟩;let⟨W,a,b,d⟩:=w3 c;have ok:∀u∈W,Q4 u.1 u.2 ((Mv u.1).getD ([],[],[]))/\Mv u.1=some ((Mv u.1).getD ([],[],[]))/\u.1.length<=10:=λu mu=>by have sm:=(hs u.1 (by rw[a];exact BM.2 ⟨u,mu,rfl⟩)).2.1;let⟨s,e,P⟩:=ah2 (d u mu).1 A4;rw[e];exact⟨P,rfl,sm⟩
  refine⟨W.map λu=>(u.1,u.2,(Mv u.1).getD ([],[],[])),by rw[a,Nk];rfl,by rw[b,Nk];rfl,λv mv=>?_⟩;obtain⟨u,mu,rfl⟩:=BM.1 mv;exact⟨(d u mu).1,ok u mu⟩
end
section
variable{l:List FB}{V:List PS}(e:l=V.map (·.1))(hV:∀v∈V,OkB v.1 v.2.1/\Q4 v.1 v.2.1 v.2.2/\Mv v.1=some v.2.2/\v.1.length<=10)(h3:l.length<=3)
include e hV h3
theorem agn:Xs l=some (Av<|vX<|V.map (·.2.1))/\lv 1500000 (vX<|V.map (·.2.1)):=by
 have vl:V.length<=3:=AK;have key:Yd (λr=>r=Av (vX<|V.map (·.2.1))/\lv 1500000 (vX<|V.map (·.2.1))) (Xs l):=by
  unfold Xs;have t0:Av (0:Rat)=[48]:=A6;rw[<-t0,show l.length=V.length by rw[e,C2]];refine Ce V (λ(t:AA) i=>(t,i)) (λA t=>t=Av (vX<|A.map (·.2.1))/\lv (470001*A.length+1) (vX<|A.map (·.2.1))) (λA v C t k hA hP next=>?_) (λt k hP=>?_) (s0:=Av 0) ⟨rfl,(Ol _).1⟩ A4
  .dsimp;rw[CU hA,BX];have al:=D7 hA;let⟨p1,p2⟩:=hP;let⟨_,P,sh,l10⟩:=hV v<|at_mem hA
   let⟨r1,r2⟩:=afs P A4;rw[p1];refine A5 (by rw[e];exact Ho (λv:PS=>v.1) hA)<|A5 sh<|A5 r1<|A5 (RL p2 r2 A4 A4)<|A5 (CE hA A4)<|next _ ⟨?_,?_⟩
   .rw[Ic,Zh,a8]
   .rw[Ic,Zh,a8];exact DP (lva p2 r2) (by rw[DS,Fw];omega)
  .dsimp;rw[CT,B8];exact AW ⟨hP.1,DP hP.2 A4⟩
 obtain⟨r,e,rfl,h⟩:=key;exact⟨e,h⟩
theorem ye(h0:V≠[]):0<vX (V.map (·.2.1)):=by
 have one:∀v∈V,0<He v.2.1/6:=λv mv=>by have:=aBg (hV v mv).2.1.I;unfold He;rw[OT];exact Ft this<|Qi.2 L9
 have all:∀T:A3 PS,(∀v∈T,0<He v.2.1/6)->0<=vX (T.map (·.2.1)):=λT=>by
  induction T with
  |nil=>intro _;exact G5
  |cons v T ih=>
   intro h;have a:=h v Cz;have b:=ih λg mg=>h g<|Br _ mg
   show 0<=He v.2.1/6+vX (T.map (·.2.1))
   grind
 match V,h0,one with
 |v::T,_,one=>
  have a:=one v Cz;have b:=all T λg mg=>one g<|Br _ mg
  show 0<He v.2.1/6+vX (T.map (·.2.1))
  grind
theorem ahj(h0:V≠[]):Xt l=some (Ak<|B7 (mX<|V.map (·.2.1)) (vX<|V.map (·.2.1))⁻¹)/\Ba 1700000 (B7 (mX<|V.map (·.2.1)) (vX<|V.map (·.2.1))⁻¹):=by
 have vl:V.length<=3:=AK;have vp:=ye e hV h3 h0;have key:Yd (λr=>r=Ak (B7 (mX<|V.map (·.2.1)) (vX<|V.map (·.2.1))⁻¹)/\Ba 1700000 (B7 (mX<|V.map (·.2.1)) (vX<|V.map (·.2.1))⁻¹)) (Xt l):=by
  unfold Xt QI;have t0:Av (0:Rat)=[48]:=A6;rw[<-pd,<-t0,show l.length=V.length by rw[e,C2]];refine A5 rfl ?_;refine Ce V (λ(t:AA×T3) i=>(t.1,t.2,i)) (λA t=>t=(Av<|vX<|A.map (·.2.1),Ak<|mX<|A.map (·.2.1))/\lv (270001*A.length+1) (vX<|A.map (·.2.1))/\Ba (270001*A.length+1) (mX<|A.map (·.2.1))) (λA v C t k hA hP next=>?_) (λt k hP=>?_) (s0:=(Av 0,Ak o3)) ⟨rfl,(Ol _).1,Ol _⟩ A4
  .dsimp;rw[CU hA,BX];have al:=D7 hA;obtain⟨rfl,p2,p3⟩:=hP;let⟨_,P,sh,l10⟩:=hV v<|at_mem hA
   let⟨r1,r2,r3⟩:=aft P l10;refine A5 (by rw[e];exact Ho (λv:PS=>v.1) hA)<|A5 sh<|A5 r1<|A5 (RL p2 r2 A4 A4)<|A5 (R7 p3 r3 A4)<|A5 (CE hA A4)<|next (_,_) ⟨?_,?_,?_⟩
   .rw[Ic,Zh,a8,rM];rfl
   .rw[Ic,Zh,a8];exact DP (lva p2 r2) (by rw[DS,Fw];omega)
   .rw[Ic,Zh,rM];exact Fq (MT p3 r3) (by rw[DS,Fw];omega)
  .dsimp;rw[CT,B8];obtain⟨rfl,p2,p3⟩:=hP;have h0:vX (V.map (·.2.1))≠0:=λc=>by rw[c] at vp;exact absurd vp<|Rat.lt_irrefl
   have li:=lvi p2 h0;refine A5 (aat p2 h0 A4)<|A5 (Pj p3 li A4)<|AW ⟨rfl,Fq (Me p3 li) A4⟩
 obtain⟨r,e,rfl,h⟩:=key;exact⟨e,h⟩
theorem ajG:VD (V.map (·.2.1))=some (vX<|V.map (·.2.1),mX<|V.map (·.2.1)):=by
 have vl:V.length<=3:=AK;refine aff (by rw[C2];omega) λS mS=>?_
 obtain⟨v,mv,rfl⟩:=BM.1 mS;let⟨o,P,_,l10⟩:=hV v mv;have:=P.I.len;rw[C2] at this;exact⟨A4,λf mf=>⟨(P.I.DT f mf).2.2.1,by have:=apn o l10 mf;omega,apm o l10 mf⟩⟩
end
def aoq{x:Rat}{n:Nat}(h:lv n x)(hn:n<=1700000):∃r,YR x=some r/\Xz r.1 r.2 (Av x)=some true:=by
 have a:=fE h A4;have b:=aau h A4;cases hb:K0 x<;>rw[hb] at a b
 .have n:=jZ hb;refine⟨(Av x,0),?_,?_⟩
  .unfold YR;rw[a,Cp,B8,fR n.1 n.2];rfl
  .unfold Xz;rw[b,Cp,show(!decide ((bif false then(4:Int) else 0)=0))=false from rfl,B8];simp
 .refine⟨([],4),?_,?_⟩
  .unfold YR;rw[a];rfl
  .unfold Xz;rw[b];rfl
def akU{x:Q3}{n:Nat}(h:Ba n x)(hn:n<=1700000):∃r,QN x=some r/\YE r.1 r.2 (Ak x)=some true:=by
 have a:=amF h A4;have b:=alj h A4;cases hb:P1 x<;>rw[hb] at a b
 .refine⟨(Ak x,0),?_,?_⟩
  .unfold QN;rw[a,Cp,B8,aoY hb];rfl
  .unfold YE;rw[b,Cp,show(!decide ((bif false then(4:Int) else 0)=0))=false from rfl,B8];simp
 .refine⟨(([],[],[]),4),?_,?_⟩
  .unfold QN;rw[a];rfl
  .unfold YE;rw[b];rfl
theorem ads(ha:Rw=some true)(l:A3 FB)(hi:∀x∈l,∀h∈x,in3 h.1):V7 l=some true:=by
 refine HG ?_;have aw:Yd (λr=>r=true) (bd (some true) λx4=>some x4):=AW rfl;unfold V7;rw[ha];refine Au (alM (n:=3) A4 hi) λg hg=>Ab (λ_=>aw) λhc=>?_
 let⟨X,c,x1,x2,x3⟩:=akE (n:=3) A4<|hg hc
 by_cases h0:c=0
 .subst h0;obtain⟨l3,_,V,e,rfl,hV⟩:=x3 rfl;have ms:=ajG e hV l3;let⟨rv1,rv2⟩:=agn e hV l3;let⟨r,r1,r2⟩:=aoq rv2 A4;have vo:Rq l=some (r.1,r.2):=by unfold Rq;rw[x1,Cp,show(!decide ((0:Int)=0))=false from rfl,B8,ms,Cp,r1];rfl
  have ln:l.length=V.length:=AK;by_cases hv:V=[]
  .have ce:P8 l=some (([],[],[]),12):=by unfold P8;rw[x1,hv];rfl
   refine A5 vo<|A5 ce<|A5 x2 ?_
   rw[show(!decide ((0:Int)=0))=false from rfl,B8];refine A5 rv1<|A5 r2 ?_
   rw[iD,B8,ln,hv];exact AW rfl
  .let⟨rc1,rc2⟩:=ahj e hV l3 hv;let⟨p,p1,p2⟩:=akU rc2 A4;have vp:=ye e hV l3 hv;have hne:vX (V.map (·.2.1))≠0:=λc=>by rw[c] at vp;exact absurd vp<|Rat.lt_irrefl
   have lp:0<V.length:=UN.2 hv;have ce:P8 l=some (p.1,p.2):=by
    have iv:Us (vX<|V.map (·.2.1))=some (vX<|V.map (·.2.1))⁻¹ :=by unfold Us;rw[Lw rv2 A4,CB hne];rfl
    have lm:Ba 10000000 (mX<|V.map (·.2.1)):=by
     have v6:B7 (B7 (mX<|V.map (·.2.1)) (vX<|V.map (·.2.1))⁻¹) (vX<|V.map (·.2.1))=mX (V.map (·.2.1)):=by
      have:=Zi _ hne
      generalize (vX<|V.map (·.2.1))⁻¹ =i at this
      generalize mX (V.map (·.2.1))=m
      generalize vX (V.map (·.2.1))=v at this
      exact FQ
     rw[<-v6];exact Fq (Me rc2 rv2) A4
    unfold P8;rw[x1,Cp,show(!decide ((0:Int)=0))=false from rfl,B8,C2,CB A4,B8,ms,Cp,iv,Cp,(oD (n:=10000000) lm (DP (lvi rv2 hne) A4) A4 A4).1,Cp,p1];rfl
   refine A5 vo<|A5 ce<|A5 x2 ?_
   rw[show(!decide ((0:Int)=0))=false from rfl,B8];refine A5 rv1<|A5 r2 ?_
   rw[iD,B8,CB (show¬(l.length:Int)=0 by omega),B8];refine A5 rc1<|A5 p2 ?_
   rw[show gd true true=true from rfl,Cb rfl];exact aw
 .have nc:(!decide (c=0))=true:=by rw[CB h0];rfl
  have vo:Rq l=some ([],c):=by unfold Rq;rw[x1,Cp,nc];rfl
  have ce:P8 l=some (([],[],[]),c):=by unfold P8;rw[x1,Cp,nc];rfl
  refine A5 vo<|A5 ce<|A5 x2 ?_
  rw[nc,BX];rw[B9 rfl,show decide ((([],[],[]):T3)=([],[],[]))=true from rfl,show gd (((([]:AA)==[])&&true&&true)&&true) true=true from rfl,Cb rfl];exact aw
abbrev J5:A3 C1:=[((-1,0,0),[48]),((0,-1,0),[48]),((0,0,-1),[48]),((0,0,1),[52]),((0,1,0),[51]),((1,0,0),[50])]
abbrev bxC:A3 C1:=[((-1,0,0),[45,49]),((0,-1,0),[45,49]),((0,0,-1),[45,49]),((0,0,1),[53]),((0,1,0),[52]),((1,0,0),[51])]
abbrev bxD:A3 C1:=[((-1,0,0),[45,50]),((0,-1,0),[48]),((0,0,-1),[48]),((0,0,1),[49]),((0,1,0),[49]),((1,0,0),[51])]
def asj:Rq [J5]=some ([50,52],0):=A6
def at7:nN [J5] [bxC]=some ([[((-1,0,0),[45,49]),((0,-1,0),[45,49]),((0,0,-1),[45,49]),((0,0,1),[52]),((0,1,0),[51]),((1,0,0),[50])]],0):=A6
def asv:mW [J5] [bxC]=some ([[((-1,0,0),[48]),((0,-1,0),[48]),((0,0,-1),[48]),((0,0,1),[52]),((0,1,0),[51]),((1,0,0),[49])],[((-1,0,0),[45,49]),((0,-1,0),[48]),((0,0,-1),[48]),((0,0,1),[52]),((0,1,0),[49]),((1,0,0),[50])],[((-1,0,0),[45,49]),((0,-1,0),[45,49]),((0,0,-1),[48]),((0,0,1),[49]),((0,1,0),[51]),((1,0,0),[50])]],0):=A6
def asy:nM [J5] ((1,1,0),[51])=some ([[((-1,0,0),[48]),((0,-1,0),[48]),((0,0,-1),[48]),((0,0,1),[52]),((1,0,0),[50]),((1,1,0),[51])]],0):=A6
def asq:lQ [J5] ((1,1,0),[51])=some (([56],[56],[48]),0):=A6
def asn:lI [J5] [bxD]=some ([(((1,0,0),[50]),[49],[48],[48])],0):=A6
def asm:mU [J5] [bxD]=some ([J5,bxD],0):=A6
def ast:Xf [J5] ([50],[49,47,50],[49,47,50])=some (0,0):=A6
def ass:Xf [J5,bxD] ([50],[49,47,50],[49,47,50])=some (1,0):=A6
def asw:nC [([48],[48],[48]),([49],[48],[48]),([48],[49],[48]),([48],[48],[49])]=some ([((-1,0,0),[48]),((0,-1,0),[48]),((0,0,-1),[48]),((1,1,1),[49])],0):=A6
def asi:mV J5 ([48],[48],[49])=some ([((-1,0,0),[48]),((0,-1,0),[48]),((0,0,-1),[48]),((0,0,1),[53]),((0,1,0),[51]),((1,0,0),[50])],0):=A6
def ash:P8 [J5]=some (([49],[51,47,50],[50]),0):=A6
def asu:Xq (J5.take 3)=some ([],13):=A6
def asx:Xq (J5++[((1,0,0),[48])])=some ([],12):=A6
def ajX:Rw=some true:=by refine HG ?_;unfold Rw;refine A5 (x:=J5) rfl ?_;refine A5 (x:=bxC) rfl ?_;refine A5 (x:=bxD) rfl ?_;refine A5 asj ?_;refine A5 at7 ?_;refine A5 asv ?_;refine A5 (x:=((1,1,0),[51])) rfl ?_;refine A5 asy ?_;refine A5 (x:=((1,1,0),[51])) rfl ?_;refine A5 asq ?_;refine A5 asn ?_;refine A5 asm ?_;refine A5 ast ?_;refine A5 ass ?_;refine A5 (x:=([48],[48],[48])) A6 ?_;refine A5 (x:=([49],[48],[48])) A6 ?_;refine A5 (x:=([48],[49],[48])) A6 ?_;refine A5 (x:=([48],[48],[49])) A6 ?_;refine A5 asw ?_;refine A5 (x:=J5) rfl ?_;refine A5 (x:=([48],[48],[49])) A6 ?_;refine A5 asi ?_;refine A5 ash ?_;refine A5 (x:=J5) rfl ?_;refine A5 (x:=J5.take 3) rfl ?_;refine A5 asu ?_;refine A5 (x:=J5) rfl ?_;refine A5 (x:=J5) rfl ?_;refine A5 (x:=((1,0,0),[48])) rfl ?_;refine A5 (x:=J5++[((1,0,0),[48])]) rfl ?_;refine A5 asx ?_;exact⟨true,A6,rfl⟩
def adt(l:A3 FB)(hi:∀x∈l,∀h∈x,in3 h.1):V7 l=some true:=ads ajX l hi
end Trn
