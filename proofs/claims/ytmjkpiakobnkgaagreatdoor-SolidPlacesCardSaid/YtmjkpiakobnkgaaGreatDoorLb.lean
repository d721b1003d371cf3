/- Part of SolidPlaces. -/
import Derived.Test.YtmjkpiakobnkgaaGreatDoorLa
set_option maxRecDepth 100000
set_option maxHeartbeats 20000000
set_option linter.all false
open Go Go.RowKit Go.Proofs Go.Proofs.Tryz
namespace Trn
theorem asw{α σ ρ:Type}{R:ρ->Prop}(L:A3 α)(P:A3 α->σ->Prop){B:(σ->A9 ρ)->α->σ->A9 ρ}{K:σ->A9 ρ}
  (F:∀(A:A3 α) (x:α) (C:A3 α) (s:σ) (k:σ->A9 ρ),L=A++x::C->P A s->(∀s',P (A++[x]) s'->Yd R (k s'))->Yd R (B k x s))
  (G:∀s,P L s->Yd R (K s)){s0:σ}(H:P [] s0):Yd R (HW L B s0 K):=by
 have e:∀(C A:A3 α) (s:σ),L=A++C->P A s->Yd R (HW C B s K):=by
  intro C
  induction C with
  |nil=>intro A s r D;rw[List.append_nil] at r;subst r;exact G s D
  |cons x C ih=>intro A s r D;exact F A x C s _ r D λs' E=>ih (A++[x]) s' (by rw[r,List.append_assoc];rfl) E
 exact e L [] s0 rfl H
section
variable{l:A3 BV}
def zQ{a b:Q3}{m d g c:Nat}(e:nd3 a m d)(f:nd3 b g c):nd3 (BK a b) (m*c+g*d) (d*c):=⟨V8 e.1 f.1,V8 e.2.1 f.2.1,V8 e.2.2 f.2.2⟩
def qe{q:Rat}{m d n:Nat}(h:nd q m d)(a:Nat.ble m (10^n)=true)(b:Nat.ble d (10^n)=true):lv n q:=⟨by rw[Iu];exact CA h.1<|Cs a,CA h.2<|Cs b⟩
def Bh.nd{h:BV}(o:Bh h):nd3 (rh h).1 1000000000 1:=by
 have k:∀{x:Int},EK x=false->Trn.nd (x:Rat) 1000000000 1:=λ{x} a=>by have:=Sa a;exact⟨by rw[SF];omega,by rw[Ue];omega⟩
 exact⟨k o.x,k o.y,k o.z⟩
def QW(o:∀h∈l,Bh h){p:Q3}(q:BW (l.map rh) p):BS 70 p:=by
 obtain⟨_,a,t,b,u,c,v,w,rfl⟩:=UH.1 q;obtain⟨a,i,rfl⟩:=B4.1 t;obtain⟨b,j,rfl⟩:=B4.1 u;obtain⟨c,k,rfl⟩:=B4.1 v;have e:∀{h:BV},Bh h->Trn.nd (rh h).2 100000000000000 100000000000000:=λo=>⟨by have:=o.HU.1;rwa [Iu] at this,o.HU.2⟩
 have m:=(o a i).nd;have n:=(o b j).nd;have f:=(o c k).nd;have g:=nA m n;have d:=ao4 (V8 (V8 (LJ g.1 f.1)<|LJ g.2.1 f.2.1)<|LJ g.2.2 f.2.2) w;have s:=zQ (zQ (fh (nA n f)<|e<|o a i)<|fh (nA f m)<|e<|o b j)<|fh g<|e<|o c k
 have r:=fh s d;exact⟨qe r.1 A6 A6,qe r.2.1 A6 A6,qe r.2.2 A6 A6⟩
def fI(a:N3): ¬HY a a:=by unfold HY;omega
def aaM{a b c:N3}:HY a b->HY b c->HY a c:=by unfold HY;omega
def aBS(a b:N3):a=b\/HY a b\/HY b a:=by let⟨c,d,a3⟩:=a;let⟨e,b2,b3⟩:=b;unfold HY;simp[Iv];omega
abbrev Hs(a b:BV):Prop:=HY a.1 b.1
theorem aiX{S:A3 BY}{L:A3 H3}(I:By S L){f g:BY}(a:f∈S)(b:g∈S)(e:f.1.1=g.1.1):f.1=g.1:=by
 have le:∀{f g:BY},f∈S->g∈S->f.1.1=g.1.1->f.1.2<=g.1.2:=λ{f g} a b e=>by let⟨j,_,f3,d⟩:=I.Ck f a;let⟨p,h⟩:=YG f.2 (λe=>by rw[e] at f3;simp at f3);let⟨i,c⟩:=(d p).1 h;have:=i.1 g.1 (I.Ck g b).1;unfold val at this c;rw[e] at c;grind
 exact Prod.ext e<|Rat.le_antisymm (le a b e)<|le b a e.symm
def HJ(L:A3 H3):Prop:=∃o,∀k∈L,val k o<0
def zT(o:∀h∈l,Bh h)(i:l.length<=50):Yd (λr=>(r.2=13/\ ¬Dp (l.map rh))\/(r.2=12/\Dp (l.map rh)/\ ¬HJ (l.map rh))\/(r.2=0/\By r.1 (l.map rh))) (Wg l):=by
 have F1:=Bh.F1 o;have d:=Bh.LP o;have j:(l.map rh).length=l.length:=BL _;unfold Wg;refine A5 (alk o A4)<|Au (ags F1 A4 A4 A4 d) λb f=>?_
 refine Ab (λa=>AV<| .inl ⟨rfl,λc=>?_⟩) λa=>?_
 .rw[f.2 c] at a;cases a
 .have hB:Dp (l.map rh):=f.1 (by simpa using a);refine Au (yZ F1 A4 A4 A4 d) λr g=>?_
  rcases g.KF d hB with⟨e,h⟩|⟨e,h⟩
  .rw[e];exact AV<| .inr<| .inr ⟨rfl,h⟩
  .rw[e];exact AV<| .inr<| .inl ⟨rfl,hB,h⟩
def Asc(l:A3 BV):Prop:=∀A x y C,l=A++x::y::C->Hs x y
def aBk{A:A3 BV}{x y:BV}{C:A3 BV}(e:l=A++x::y::C)(h:Asc (A++[x]))(b:Hs x y):Asc (A++[x]++[y]):=by
 intro a c y' g f;rcases eK g with rfl|⟨D,z,rfl⟩
 .have e2:A++[x]++[y]=(a++[c])++[y']:=by rw[f];simp
  let⟨d,i⟩:=Y5 e2 rfl;let⟨_,j⟩:=Y5 d rfl;cases i;cases j;exact b
 .have e2:A++[x]++[y]=(a++c::y'::D)++[z]:=by rw[f];simp
  let⟨d,_⟩:=Y5 e2 rfl;exact h a c y' D d
def agp(o:∀h∈l,Bh h)(p:Vq l=some 0)(E:l.length<=32):Yd (λr=>(r.2=11/\ ¬Asc l)\/(Asc l/\((r.2=13/\ ¬Dp (l.map rh))\/(r.2=12/\Dp (l.map rh)/\ ¬HJ (l.map rh))\/(By r.1 (l.map rh)/\r.2=bif decide (r.1.length<l.length) then 1 else 0)))) (Nl l):=by
 unfold Nl;rw[Bb (show¬32<(l.length:Int) by omega),Av,p];refine A5 rfl ?_;show Yd _ (lp _ _ 0);refine Bw l (λ(_:Unit) i=>i) (λA _=>Asc A) (λA x C s k a b next=>?_) (λs k b=>?_) (s0:=()) (λA x y C e=>by cases A<;>cases e) A4
 .rw[Bt a,BF];obtain rfl|⟨B,y,rfl⟩:A=[]\/∃B y,A=B++[y]:=(eK A).imp id λ⟨B,y,h⟩=>⟨B,y,by rw[h,List.concat_eq_append]⟩
  .exact A5 (Bk a A4) (next () λF G y' H e=>by have:=congrArg List.length e;simp at this;omega)
  .have i1:AB l (B.length:Int)=some y:=by rw[Hq,a];simp
   have q:=Bl a;have I:=CC a;have f:=Bk a A4;let⟨v,v1,j⟩:=aiq y.1 x.1;have t:(B++[y]).length=B.length+1:=AO;have u:=next ()
   have w:=aBk (l:=l) (A:=B) (x:=y) (y:=x) (C:=C) (by rw[a];simp) b
   generalize (B++[y]).length=m at*
   subst t;have d:decide ((0:Int)<((B.length+1:Nat):Int))=true:=B1 A4;rw[d,show gd true true=true from rfl,C6 rfl];refine A5 (x:=(B.length:Int)) (by rw[Dj ⟨A4,A4⟩];exact congrArg some A4) ?_;rw[C6 rfl];refine A5 i1 ?_;rw[C6 rfl];refine A5 q ?_;rw[C6 rfl];refine A5 v1 ?_;rw[I3];refine Ab (λg=>AV<| .inl ⟨rfl,λc=>?_⟩) λg=>?_
   .have:=j.2 (c B y x C (by rw[a];simp));have:=Aq g;omega
   .have:=BX g;exact A5 f<|u<|w<|j.1 A4
 .rw[Bs,Av];refine Au (zT o A4) λr z=>?_
  rcases z with⟨e,h⟩|⟨e,h1,h2⟩|⟨e,h⟩
  .rw[e];exact AV<| .inr ⟨b,.inl ⟨rfl,h⟩⟩
  .rw[e];exact AV<| .inr ⟨b,.inr<| .inl ⟨rfl,h1,h2⟩⟩
  .rw[e];have D:decide ((r.1.length:Int)<(l.length:Int))=decide (r.1.length<l.length):=F5.2 A4;rw[D];show Yd _ (cond (decide<|r.1.length<l.length) (some (r.1,1))<|some (r.1,0));cases n:decide (r.1.length<l.length)
   .exact AV (.inr ⟨b,.inr (.inr ⟨h,by dsimp;rw[n];rfl⟩)⟩)
   .exact AV (.inr ⟨b,.inr (.inr ⟨h,by dsimp;rw[n];rfl⟩)⟩)
def aht{n:Int}(h: -999999999<=n/\n<=999999999):Yd (λp=>EL p n/\p.2.length<=1) (PT n):=by
 obtain⟨F,hF⟩:∃F,18446744073709551616=F+2:=⟨18446744073709551614,rfl⟩;unfold PT;rw[hF];show Yd _ (cond (!decide (n=0)) _ _);refine Ab (λc=>?_) λc=>?_
 .have h0:n≠0:=by simpa using c
  have j:n.tmod 1000000000=n:=by
   rcases Int.le_total 0 n with g|g
   .exact Int.tmod_eq_of_lt g A4
   .have h2:=Int.tmod_eq_of_lt (a:= -n) (b:=1000000000) A4 A4;rw[Int.neg_tmod] at h2;omega
  have o:n.tdiv 1000000000=0:=by have:=Int.mul_tdiv_add_tmod n 1000000000;rw[j] at this;omega
  refine A5 (x:=n) (by show some (n.tmod 1000000000)=_;rw[j]) ?_;refine CZ (λd=>d=(n.natAbs:Int)) ?_ λq k=>Ab (λc=>A5 BE (k _ (by have:=Aq c;omega))) λc=>k _ (by have:=BX c;omega)
  rintro d rfl;refine A5 (x:=[(n.natAbs:Int)]) (aCA AO) (A5 (x:=0) (by show AG (n.tdiv 1000000000)=_;rw[o];rfl) ?_);show Yd _ (bd (Io (decide<|n<0) [(n.natAbs:Int)]) _);refine Au (Ny (z:=n) (λx i=>?_) AO ?_) λp f=>AV f
  .rw[CW.1 i];exact⟨A4,by show _<(1000000000:Int);omega⟩
  .have e:AL [(n.natAbs:Int)]=(n.natAbs:Int):=by show(n.natAbs:Int)+1000000000*0=_;omega
   rw[e];cases m:decide (n<0)
   .have:=BX m;simp[Av];omega
   .have:=Aq m;simp[BF];omega
 .have h0:n=0:=by simpa using c
  subst h0;exact Au (Ny (z:=0) (λx i=>by cases i) AO rfl) λp f=>AV ⟨f.1,CA f.2 AO⟩
theorem vt(n:Int):An (n:Rat)=Br n:=by(simp_all [An,Br]<;>grind)
def kn{n:Int}(h:EK n=false):TX n=some (An (n:Rat)):=by
 let⟨p,e,a,b⟩:=aht<|Sa h
 unfold TX;rw[e,Bx,nX a A4,vt];rfl
end
section
variable{h:BV}(o:Bh h)
include o
theorem Py:Ll h=some (As (rh h).1):=by unfold Ll Mp;rw[kn o.x,Bx,kn o.y,Bx,kn o.z];rfl
theorem fF{p:Q3}{n:Nat}(a:BS n p)(b:n<=5000):WW h (As p)=some (An<|val (rh h) p)/\lv (3*n+44) (val (rh h) p):=by have l:=o.lvn (n:=9) A4;have d:=OX l a;refine⟨?_,Cz (lvs d o.HU) A4⟩;unfold WW;rw[Py o,Bx,Sx l a A4,Bx];have e:=Qk d o.HU A4 A4;rw[<-o.txt] at e;rw[e];rfl
theorem gH{p:Q3}{n:Nat}(a:BS n p)(b:n<=5000):RX h (As p)=some (val (rh h) p).num.sign:=by let⟨e,l⟩:=fF o a b;unfold RX;rw[e,Bx,OZ l A4];rfl
end
section
variable{l:A3 BV}{p:Q3}{M:A3 H3}{n:Nat}{α:Type}{x:α}{C:A3 Q3}{A:A3 α}{S:A3 BY}
def amy{x:Rat}(b:lv n x)(c:x≠0)(g:n<=1800000):PB (An x)=some (An x⁻¹):=by have o:lv 1 (1:Rat):=Ib (d:=1) (.inl rfl) 1;refine F8 ?_;unfold PB;refine Au (Ps (KA b) A4 A4) ?_;rintro⟨q1,i⟩ ⟨⟨f,b2⟩,b3,b4⟩;dsimp only at*;have a:=aH b2 f (λe=>c<|KV.1 e) A4 A4;rw[ct] at a;exact A5 a<|AV rfl
def yN{x:Rat}(a:lv n x)(b:n<=1800000):Tf (An x)=some (decide<|x=0):=by unfold Tf;rw[X7 x<|OW a b]
theorem pZ(a b c:Q3):AI a (AZ b c)=Cq a b c:=by unfold Cq AI AZ;grind
def agb{a b c:BV}(f:Bh a)(g:Bh b)(i:Bh c):ZQ a b c=some (bif decide (Cq (rh a).1 (rh b).1 (rh c).1=0) then(([],[],[]),false) else(As<|Gq (rh a) (rh b)<|rh c,true)):=by
 have e:=f.lvn (n:=9) A4;have m:=g.lvn (n:=9) A4;have q:=i.lvn (n:=9) A4;have d:=Js m q;have j:=Js q e;have k:=Js e m;have r:=OX e d;unfold ZQ l8;rw[Py f,Bx,Py g,Bx,Py i,Bx,QR m q A4,Bx,Sx e d A4,Bx,Bx,yN r A4,Bx,pZ];rw[pZ] at r;cases v:decide (Cq (rh a).1 (rh b).1 (rh c).1=0)
 .have s1:=Sb d f.HU A4;have s2:=Sb j g.HU A4;have s3:=Sb k i.HU A4;rw[<-f.txt] at s1;rw[<-g.txt] at s2;rw[<-i.txt] at s3;have s:=NO d f.HU;have t:=NO j g.HU;have t3:=NO k i.HU;have t4:=M0 s t;have t5:=M0 t4 t3;have u:=BX v;simp[Av];rw[Bx,s1,Bx,QR q e A4,Bx,s2,Bx,Yg s t A4,Bx,QR e m A4,Bx,s3,Bx,Yg t4 t3 A4,Bx,amy r u A4,Bx,Sb t5 (lvi r u) A4]
  rfl
 .rfl
def am4{a b c:BV}(g:Bh a)(i:Bh b)(j:Bh c)(m:Cq (rh a).1 (rh b).1 (rh c).1≠0):BS 500 (Gq (rh a) (rh b)<|rh c):=by
 have d:=g.lvn (n:=9) A4;have e:=i.lvn (n:=9) A4;have f:=j.lvn (n:=9) A4;have k:=OX d<|Js e f
 rw[pZ] at k;exact Dx (NO (M0 (M0 (NO (Js e f) g.HU)<|NO (Js f d) i.HU)<|NO (Js d e) j.HU)<|lvi k m) A4
def y6(o:∀h∈l,Bh h)(t:l.length<=100000000){d:Q3}(j:BS n d)(u:n<=5000):Yd (λb=>b=true↔∃h∈l,0<AI (rh h).1 d) (Tm l<|As d):=by
 unfold Tm;refine Bw l (λ(_:Unit) i=>i) (λA _=>∀h∈A,¬0<AI (rh h).1 d) (λA x C s k a e next=>?_) (λs k e=>?_) (s0:=()) AO A4
 .rw[Bt a,BF];have q:=o x<|at_mem a
  have r:=q.lvn (n:=9) A4;refine A5 (Bl a)<|A5 (Py q)<|A5 (Sx r j A4)<|A5 (OZ (OX r j) A4) ?_
  rw[Pr];refine Ab (λf=>AV ⟨λ_=>⟨x,at_mem a,Aq f⟩,λ_=>rfl⟩) λf=>A5 (Bk a A4)<|next () λh g=>?_
  rcases Bi.1 g with m|m
  .exact e h m
  .rw[CW.1 m];exact BX f
 .rw[Bs,Av];exact AV ⟨λc=>(by cases c),λ⟨h,g,c⟩=>absurd c<|e h g⟩
def anQ:An (-1)=[45,49]:=A6
def apI(u v:Q3):BG (AZ u v) (-1)=AZ v u:=(U8 u v).symm
def aei(o:∀h∈l,Bh h)(hl:l.length<=50):Yd (λb=>b=true↔Dp (l.map rh)) (ZJ l):=by
 have U:Dp (l.map rh)↔(∃f∈l,∃g∈l,AZ (rh f).1 (rh g).1≠o3)/\∀f∈l,∀g∈l,AZ (rh f).1 (rh g).1≠o3->∃h∈l,0<AI (rh h).1 (AZ (rh f).1 (rh g).1):=by
  rw[anC];have E:∀{h:BV},h∈l->rh h∈l.map rh:=λV=>B4.2 ⟨_,V,rfl⟩
  constructor
  .rintro⟨⟨f,m,g,j,c⟩,h⟩;obtain⟨a,H,rfl⟩:=B4.1 m;obtain⟨b,I,rfl⟩:=B4.1 j;refine⟨⟨a,H,b,I,c⟩,λx r y q c=>?_⟩;let⟨k,W,c⟩:=h _ (E r) _ (E q) c;obtain⟨z,J,rfl⟩:=B4.1 W;exact⟨z,J,c⟩
  .rintro⟨⟨f,m,g,j,c⟩,h⟩;refine⟨⟨_,E m,_,E j,c⟩,λx r y q c=>?_⟩;obtain⟨a,H,rfl⟩:=B4.1 r;obtain⟨b,I,rfl⟩:=B4.1 q;let⟨z,J,c⟩:=h a H b I c;exact⟨_,E J,c⟩
 rw[show(λb:Bool=>b=true↔Dp (l.map rh))=λb:Bool=>b=true↔(∃f∈l,∃g∈l,AZ (rh f).1 (rh g).1≠o3)/\∀f∈l,∀g∈l,AZ (rh f).1 (rh g).1≠o3->∃h∈l,0<AI (rh h).1 (AZ (rh f).1 (rh g).1) from funext λb=>propext (by rw[U])];unfold ZJ;refine Bw l (λ(s:Bool) i=>(s,i)) (λA s=>(s=true↔∃f∈A,∃g∈A,AZ (rh f).1 (rh g).1≠o3)/\∀f∈A,∀g∈A,AZ (rh f).1 (rh g).1≠o3->∃h∈l,0<AI (rh h).1 (AZ (rh f).1 (rh g).1)) (λA x C s k u w next=>?_) (λs k w=>?_) (s0:=false) AO A4
 .dsimp;rw[Bt u,BF];have al:=CC u;have r:=at_mem u;have X:∀y∈A,y∈l:=λy q=>by rw[u];exact Fq _ q
  refine Bw A (λ(t:Bool) i=>(t,i)) (λB t=>(t=true↔(∃f∈A,∃g∈A,AZ (rh f).1 (rh g).1≠o3)\/∃g∈B,AZ (rh x).1 (rh g).1≠o3)/\∀g∈B,AZ (rh x).1 (rh g).1≠o3->(∃h∈l,0<AI (rh h).1 (AZ (rh x).1 (rh g).1))/\∃h∈l,0<AI (rh h).1 (AZ (rh g).1 (rh x).1)) (λB y D t Y F v Z=>?_) (λt Y v=>?_) (s0:=s) (by simpa using w.1) A4
  .dsimp;rw[Bt F,BF];have q:=X y<|at_mem F
   have K:l=B++y::(D++x::C):=by rw[u,F];simp
   refine CZ (λt:Bool=>(t=true↔(∃f∈A,∃g∈A,AZ (rh f).1 (rh g).1≠o3)\/∃g∈B++[y],AZ (rh x).1 (rh g).1≠o3)/\∀g∈B++[y],AZ (rh x).1 (rh g).1≠o3->(∃h∈l,0<AI (rh h).1 (AZ (rh x).1 (rh g).1))/\∃h∈l,0<AI (rh h).1 (AZ (rh g).1 (rh x).1)) (λt ht=>A5 (Bk F A4)<|Z t ht) λk8 G=>?_
   have L:=(o x r).lvn (n:=9) A4;have N:=(o y q).lvn (n:=9) A4;have O:=Js L N;refine A5 (Bl u)<|A5 (Py<|o x r)<|A5 (Bl K)<|A5 (Py<|o y q)<|A5 (QR L N A4)<|A5 (qQ O A4) ?_
   have sp:∀{P:BV->Prop},(∀g∈B++[y],P g)↔(∀g∈B,P g)/\P y:=λ{P}=>by simp[or_imp,forall_and]
   have ex:∀{P:BV->Prop},(∃g∈B++[y],P g)↔(∃g∈B,P g)\/P y:=λ{P}=>by simp[Xx,exists_or]
   rw[sp] at G;rw[ex] at G;refine Ab (λQ=>G _ ?_) λQ=>?_
   .have:=Aq Q;exact⟨by rw[v.1];simp[this],v.2,λc=>absurd this c⟩
   .have h0:=BX Q;refine Au (y6 o A4 O A4) λb R=>?_
    cases b with
    |false=>
     show Yd _ (some false);refine AV ⟨λc=>(by cases c),λc=>?_⟩;have:=R.2<|c.2 x r y q h0
     cases this
    |true=>
     show Yd _ (bd (Ln [45,49]<|As<|AZ (rh x).1 (rh y).1) _);have l1:lv 1 (-1:Rat):=Ib (d:= -1) (.inr rfl) 1;have sc:=Sb O l1 A4;rw[anQ,apI] at sc;refine A5 sc ?_;show Yd _ (bd (Tm l _) _);refine Au (y6 o A4 (Js N L) A4) λb' T=>?_
     cases b' with
     |false=>refine AV ⟨λc=>(by cases c),λc=>?_⟩;have:=T.2 (c.2 y q x r λe=>h0 (by rw[U8,e,r9]));cases this
     |true=>refine G true ⟨⟨λ_=> .inr<| .inr h0,λ_=>rfl⟩,v.2,λ_=>⟨R.1 rfl,T.1 rfl⟩⟩
  .dsimp;rw[Bs,Av];refine A5 (Bk u A4)<|next t ⟨?_,?_⟩
   .rw[v.1];constructor
    .rintro(⟨f,m,g,j,c⟩|⟨g,j,c⟩)
     .exact⟨f,by simp[m],g,by simp[j],c⟩
     .exact⟨x,AO,g,by simp[j],c⟩
    .rintro⟨f,m,g,j,c⟩;rcases Bi.1 m with m|m<;>rcases Bi.1 j with j|j
     .exact .inl ⟨f,m,g,j,c⟩
     .rw[CW.1 j] at c;exact .inr ⟨f,m,λe=>c (by rw[U8,e,r9])⟩
     .rw[CW.1 m] at c;exact .inr ⟨g,j,c⟩
     .rw[CW.1 m,CW.1 j] at c;exact absurd Sc c
   .intro f m g j c;rcases Bi.1 m with m|m<;>rcases Bi.1 j with j|j
    .exact w.2 f m g j c
    .rw[CW.1 j] at c⊢;exact(v.2 f m λe=>c (by rw[U8,e,r9])).2
    .rw[CW.1 m] at c⊢;exact(v.2 g j c).1
    .rw[CW.1 m,CW.1 j] at c;exact absurd Sc c
 .dsimp;rw[Bs,Av];exact AV ⟨λc=>⟨w.1.1 c,w.2⟩,λc=>w.1.2 c.1⟩
structure Srt(l r:A3 BV):Prop where
 HO:r.Pairwise Hs
 sub:∀h∈r,h∈l
 le:∀h∈l,∃k∈r,k.1=h.1/\rq k.2<=rq h.2
def Srt.least{r:A3 BV}(s:Srt l r):K8 (l.map rh) (r.map rh):=by
 refine⟨λg a=>?_,λg a=>?_⟩
 .obtain⟨h,mh,rfl⟩:=B4.1 a;exact B4.2 ⟨h,s.sub h mh,rfl⟩
 .obtain⟨h,mh,rfl⟩:=B4.1 a;obtain⟨k,b,e,c⟩:=s.le h mh;exact⟨rh k,B4.2 ⟨k,b,rfl⟩,by show rn k.1=rn h.1;rw[e],c⟩
theorem ahP(o:∀h∈l,Bh h)(hl:l.length<=50):Yd (λr=>Srt l r/\r.length<=l.length) (Zc l):=by
 unfold Zc;refine Bw l (λ(s:A3 BV) i=>(s,i)) (λA s=>Srt A s/\s.length<=A.length) (λA x C s k f J next=>?_) (λs k J=>?_) (s0:=[]) ⟨⟨List.Pairwise.nil,AO,AO⟩,AO⟩ A4
 .dsimp;rw[Bt f,BF];have al:=CC f;have Y:=at_mem f;have U:=o x Y;let⟨S,H⟩:=J;have os:∀h∈s,Bh h:=λh d=>o h (by rw[f];exact Fq _<|S.sub h d)
  refine CZ (λs'=>Srt (A++[x]) s'/\s'.length<=(A++[x]).length) (λs' K=>A5 (Bk f A4)<|next s' K) λk5 L=>?_
  have F:∀B D:A3 BV,s=B++D->(∀h∈B,Hs h x)->(∀h∈D,Hs x h)->Srt (A++[x]) ((B++[x])++D)/\((B++[x])++D).length<=(A++[x]).length:=λB D e Z hd=>by
   have w:=S.HO;rw[e] at w;let⟨N,O,a3⟩:=G1.1 w;refine⟨⟨G1.2 ⟨G1.2 ⟨N,SU _ _,λh d y b=>by rw[CW.1 b];exact Z h d⟩,O,λh d y b=>?_⟩,λh d=>?_,λh d=>?_⟩,?_⟩
   .rcases Bi.1 d with m|m
    .exact a3 h m y b
    .rw[CW.1 m];exact hd y b
   .have:h∈s\/h=x:=by rw[e];simp at d⊢;rcases d with m|m|m<;>simp[m]
    rcases this with m|m
    .exact Fq _<|S.sub h m
    .rw[m];simp
   .rcases Bi.1 d with m|m
    .let⟨k,mk,c⟩:=S.le h m;rw[e] at mk;exact⟨k,by simp at mk⊢;rcases mk with m|m<;>simp[m],c⟩
    .rw[CW.1 m];exact⟨x,AO,rfl,El⟩
   .rw[e] at H;simp at H⊢;omega
  refine Bw s (λ(_:Unit) i=>i) (λB _=>∀h∈B,Hs h x) (λB h D t k7 a I Gi=>?_) (λt k7 I=>?_) (s0:=()) AO A4
  .have hg:gd (decide<|(B.length:Int)<(s.length:Int)) true=true:=by rw[Bt a];rfl
   have bl:=CC a;have d:=at_mem a;rw[C6 hg];refine A5 (Bl a) ?_;rw[C6 hg];refine A5 (Bl a) ?_;rw[C6 hg];refine A5 (Bl f) ?_;rw[C6 hg];refine A5 (lR h.1 x.1) ?_;rw[Bt a,I3];refine Ab (λE=>A5 (Bk a A4)<|Gi () λg j=>?_) λE=>?_
   .rcases Bi.1 j with m|m
    .exact I g m
    .rw[CW.1 m];exact Aq E
   .have Qr:=BX E;rw[Bt a] at hg;rw[C6 hg];refine A5 (Bl a) ?_;rw[C6 hg];refine A5 (Bl a) ?_;rw[C6 hg];refine A5 (Bl f) ?_;rw[I3];refine Ab (λq=>?_) λq=>?_
    .have q:=Aq q;have V:=U.HU;have W:=(os h d).HU;have P:Nw x.2 h.2=some ((rh x).2-(rh h).2).num.sign:=by have e:=Qk V W A4 A4;rw[<-U.txt,<-(os h d).txt] at e;unfold Nw;rw[e,Bx,OZ (lvs V W) A4];rfl
     refine A5 (Bl f)<|A5 (Bl a)<|A5 (Bl a)<|A5 P ?_
     rw[sign_neg];refine CZ (λs'=>Srt (A++[x]) s'/\s'.length<=(A++[x]).length) (λs' K=>L s' K) λk35 X=>Ab (λE=>?_) λE=>?_
     .refine A5 (Bl f) (A5 (Bl a)<|A5 (Bl a) ?_);have hx:(h.1,x.2)=x:=by rw[q]
      have st:s.set ((B.length:Int)).toNat (h.1,x.2)=B++x::D:=by rw[hx,CL,a];simp
      rw[st];have Q:rq x.2<rq h.2:=by have R:=Aq E;change rq x.2-rq h.2<0 at R;grind
      have w:=S.HO;rw[a] at w;let⟨N,O,a3⟩:=G1.1 w;let⟨a4,a5⟩:=Fh.1 O;refine X _ ⟨⟨G1.2 ⟨N,Fh.2 ⟨λy b=>?_,a5⟩,λy b z mz=>?_⟩,λy b=>?_,λy b=>?_⟩,?_⟩
      .show HY x.1 y.1;rw[<-q];exact a4 y b
      .rcases Ak.1 mz with e|m
       .rw[e];show HY y.1 x.1;rw[<-q];exact a3 y b h AO
       .exact a3 y b z<|Bg _ m
      .have:y∈s\/y=x:=by rw[a];simp at b⊢;rcases b with m|m|m<;>simp[m]
       rcases this with m|m
       .exact Fq _<|S.sub y m
       .rw[m];simp
      .rcases Bi.1 b with m|m
       .let⟨g,j,c1,c2⟩:=S.le y m;rw[a] at j;rcases Bi.1 j with j|j
        .exact⟨g,by simp[j],c1,c2⟩
        .rcases Ak.1 j with e|j
         .rw[e] at c1 c2;exact⟨x,AO,by rw[<-c1,q],Xy (EF Q) c2⟩
         .exact⟨g,by simp[j],c1,c2⟩
       .rw[CW.1 m];exact⟨x,AO,rfl,El⟩
      .rw[a] at H;simp at H⊢;omega
     .have hge:rq h.2<=rq x.2:=by have R:=BX E;change¬rq x.2-rq h.2<0 at R;grind
      refine X _ ⟨⟨S.HO,λy b=>Fq _<|S.sub y b,λy b=>?_⟩,Co⟩;rcases Bi.1 b with m|m
      .exact S.le y m
      .rw[CW.1 m];exact⟨h,d,q,hge⟩
    .have hne:=BX q;have G:Hs x h:=((aBS h.1 x.1).resolve_left hne).resolve_left Qr;have s1:Bo s 0 (B.length:Int)=some B:=by rw[DV A4 A4 A4,a];simp
     have s2:Bo s (B.length:Int) (s.length:Int)=some (h::D):=by rw[DV A4 A4 A4];simp;rw[a];simp
     have a0:∀(u v:A3 BV),u.length+v.length<=100->BC 40 u v=some (u++v):=λu v T=>by unfold BC;rw[B1 (show(u.length+v.length)*40<=140737488355328 by omega),B1 (show u.length+v.length<=9223372036854775807 by omega)];rfl
     have dl:s.length=B.length+(D.length+1):=by rw[a];simp
     refine A5 s1<|A5 (a0 [] B Co)<|A5 (Bl f)<|A5 (a0 _ _ Co)<|A5 s2<|A5 (a0 _ _ Co)<|L _ ?_
     rw[Fy];refine F B (h::D) a I λy b=>?_
     rcases Ak.1 b with e|m
     .rw[e];exact G
     .have w:=S.HO;rw[a] at w;exact aaM G<|(Fh.1 (G1.1 w).2.1).1 y m
  .have hg:gd (decide<|(s.length:Int)<(s.length:Int)) true=false:=by rw[Bs];rfl
   rw[DG hg,DG hg,DG hg,DG hg];rw[Bs,M4,Av];rw[Bs] at hg;rw[DG hg,DG hg,DG hg,M4,Av];have s1:Bo s 0 (s.length:Int)=some s:=by rw[DV A4 A4 A4];simp
   have s2:Bo s (s.length:Int) (s.length:Int)=some []:=by rw[DV A4 A4 A4];simp
   have a0:∀(u v:A3 BV),u.length+v.length<=100->BC 40 u v=some (u++v):=λu v T=>by unfold BC;rw[B1 (show(u.length+v.length)*40<=140737488355328 by omega),B1 (show u.length+v.length<=9223372036854775807 by omega)];rfl
   refine A5 s1<|A5 (a0 [] s Co)<|A5 (Bl f)<|A5 (a0 _ _ Co)<|A5 s2<|A5 (a0 _ _ Co)<|L _ ?_
   rw[Fy];exact F s [] AO I AO
 .dsimp;rw[Bs,Av];exact AV J
theorem um(o:∀h∈l,Bh h)(t:l.length<=100000000)(j:BS n p)(m:n<=5000):Yd (λb=>b=true↔Mem (l.map rh) p) (W5 l<|As p):=by
 have q:∀{h:BV},h∈l->rh h∈l.map rh:=λd=>B4.2 ⟨_,d,rfl⟩
 unfold W5;refine Bw l (λ(_:Unit) i=>i) (λA _=>∀h∈A,val (rh h) p<=0) (λA x C s k a e next=>?_) (λs k e=>?_) (s0:=()) AO A4
 .rw[Bt a,BF];refine A5 (Bl a)<|A5 (gH (o x<|at_mem a) j m) ?_
  rw[Pr];refine Ab (λf=>AV ⟨λc=>(by cases c),λc=>?_⟩) λf=>A5 (Bk a A4)<|next () λh d=>?_
  .have:=c _ (q<|at_mem a);have:=Aq f
   grind
  .grind
 .rw[Bs,Av];refine AV ⟨λ_ g r=>?_,λ_=>rfl⟩;obtain⟨h,d,rfl⟩:=B4.1 r;exact e h d
theorem afk(t:C.length<=100000000)(g:∀q∈C,BS n q)(j:BS n p)(u:n<=5000):TT (C.map As) (As p)=some (decide<|p∈C):=by
 have key:Yd (λb=>b=decide (p∈C)) (TT (C.map As)<|As p):=by
  unfold TT;refine Bw (C.map As) (λ(_:Unit) i=>i) (λA _=>As p∉A) (λA x D s k a d next=>?_) (λs k d=>?_) (s0:=()) AO Co
  .rw[Bt a,BF];refine A5 (Bl a)<|Ab (λf=>AV (B1 ?_).symm) λf=>A5 (Bk a Co)<|next () λc=>?_
   .let⟨q,mq,e⟩:=B4.1 (at_mem a);have m:=Aq f;have:q=p:=aod (g q mq) j A4 A4 (by rw[e,m]);rw[<-this];exact mq
   .grind
  .rw[Bs,Av];exact AV (Bb λc=>d<|B4.2 ⟨p,c,rfl⟩).symm
 obtain⟨r,e,rfl⟩:=key;exact e
theorem xI{l:A3 α}:l.Sublist (A++[x])↔l.Sublist A\/∃r,l=r++[x]/\r.Sublist A:=by
 rw[Ut];constructor
 .grind
 .rintro(h|⟨r,rfl,h⟩)
  .exact⟨l,[],AO,h,AO⟩
  .grind
theorem mL{a b c:α}:[c,b,a].Sublist (A++[x])↔[c,b,a].Sublist A\/(a=x/\[c,b].Sublist A):=by
 rw[xI];refine or_congr Iff.rfl ⟨?_,?_⟩
 .rintro⟨r,e,h⟩;have d:[c,b]++[a]=r++[x]:=e;let⟨f,g⟩:=Y5 d rfl;cases g;rw[<-f] at h;exact⟨rfl,h⟩
 .grind
def mN{b c:α}:[c,b].Sublist (A++[x])↔[c,b].Sublist A\/(b=x/\c∈A):=by
 rw[xI];refine or_congr Iff.rfl ⟨?_,?_⟩
 .rintro⟨r,e,h⟩;have a:[c]++[b]=r++[x]:=e;let⟨d,f⟩:=Y5 a rfl;cases f;rw[<-d] at h;exact⟨rfl,List.singleton_sublist.1 h⟩
 .rintro⟨rfl,h⟩;exact⟨[c],rfl,List.singleton_sublist.2 h⟩
def Met(a b c:BV)(p:Q3):Prop:=Cq (rh a).1 (rh b).1 (rh c).1≠0/\p=Gq (rh a) (rh b) (rh c)
def Tri(A:A3 BV)(p:Q3):Prop:=∃a b c,[c,b,a].Sublist A/\Met a b c p
def Duo(x:BV)(B:A3 BV)(p:Q3):Prop:=∃b c,[c,b].Sublist B/\Met x b c p
def Uno(x y:BV)(D:A3 BV)(p:Q3):Prop:=∃c∈D,Met x y c p
def aj1{A:A3 BV}{x:BV}:Tri (A++[x]) p↔Tri A p\/Duo x A p:=by
 constructor
 .rintro⟨a,b,c,h,m⟩;rcases mL.1 h with d|⟨e,d⟩
  .exact .inl ⟨a,b,c,d,m⟩
  .rw[e] at m;exact .inr ⟨b,c,d,m⟩
 .rintro(⟨a,b,c,h,m⟩|⟨b,c,h,m⟩)
  .exact⟨a,b,c,mL.2<| .inl h,m⟩
  .exact⟨x,b,c,mL.2<| .inr ⟨rfl,h⟩,m⟩
def akR{x:BV}{B:A3 BV}{y:BV}:Duo x (B++[y]) p↔Duo x B p\/Uno x y B p:=by
 constructor
 .rintro⟨b,c,h,m⟩;rcases mN.1 h with a|⟨e,a⟩
  .exact .inl ⟨b,c,a,m⟩
  .rw[e] at m;exact .inr ⟨c,a,m⟩
 .rintro(⟨b,c,h,m⟩|⟨c,h,m⟩)
  .exact⟨b,c,mN.2<| .inl h,m⟩
  .exact⟨y,c,mN.2<| .inr ⟨rfl,h⟩,m⟩
def nO{x y:BV}{D:A3 BV}{z:BV}:Uno x y (D++[z]) p↔Uno x y D p\/Met x y z p:=by unfold Uno;simp[Bi,Xx,exists_or]
def Crs(l:A3 BV)(X:Q3->Prop)(out:A3 T3):Prop:=∃C:A3 Q3,out=C.map As/\C.Nodup/\(∀p∈C,BS 500 p)/\C.length<=l.length*(l.length*l.length)/\∀p,p∈C↔Mem (l.map rh) p/\X p
theorem Crs.congr{X Y:Q3->Prop}{out:A3 T3}(h:Crs l X out)(e:∀p,X p↔Y p):Crs l Y out:=by grind [Crs]
theorem ael(o:∀h∈l,Bh h)(N:l.length<=50):Yd (λr=>Crs l (Tri l) r) (ZH l):=by
 have asv:l.length*(l.length*l.length)<=125000:=Em N<|Em N N
 have d:∀{A C:A3 BV} {x:BV},l=A++x::C->(∀y∈A,y∈l):=λh y my=>by rw[h];exact Fq _ my
 unfold ZH;refine Bw l (λ(s:A3 T3) i=>(s,i)) (λA s=>Crs l (Tri A) s) (λA x C s k g O next=>?_) (λs k O=>?_) (s0:=[]) ⟨[],rfl,List.nodup_nil,AO,AO,λp=>by simp[Tri]⟩ A4
 .dsimp;rw[Bt g,BF];have al:=CC g;refine Bw A (λ(t:A3 T3) i=>(t,i)) (λB t=>Crs l (λp=>Tri A p\/Duo x B p) t) (λB y D t k2 I P Gi=>?_) (λt k2 P=>?_) (s0:=s) (O.congr λp=>by simp[Duo]) A4
  .dsimp;rw[Bt I,BF];have bl:=CC I;have f:l=B++y::(D++x::C):=by rw[g,I];simp
   refine Bw B (λ(u:A3 T3) i=>(u,i)) (λE u=>Crs l (λp=>(Tri A p\/Duo x B p)\/Uno x y E p) u) (λE z F u k3 J Q QV=>?_) (λu k3 Q=>?_) (s0:=t) (P.congr λp=>by simp[Uno]) A4
   .dsimp;rw[Bt J,BF];have el:=CC J;have w:l=E++z::(F++y::(D++x::C)):=by rw[f,J];simp
    have ox:=o x<|at_mem g
    have oy:=o y<|at_mem f
    have oz:=o z<|at_mem w
    refine CZ (λR=>Crs l (λp=>(Tri A p\/Duo x B p)\/Uno x y (E++[z]) p) R) (λR h'=>A5 (Bk J A4)<|QV R h') λKp j=>?_
    refine A5 (Bl g)<|A5 (Bl f)<|A5 (Bl w)<|A5 (agb ox oy oz) ?_
    let⟨W,T,U,K,V,X⟩:=Q;by_cases G:Cq (rh x).1 (rh y).1 (rh z).1=0
    .rw[B1 G,BF];refine j u ⟨W,T,U,K,V,λp=>?_⟩;rw[X];dsimp;rw[nO];have: ¬Met x y z p:=λm=>m.1 G
     simp[this]
    .rw[Bb G,Av];have lp:=am4 ox oy oz G;have hm:∀p,Met x y z p↔p=Gq (rh x) (rh y) (rh z):=λp=>⟨λm=>m.2,λe=>⟨G,e⟩⟩
     have Y:Mem (l.map rh) (Gq (rh x) (rh y)<|rh z)->∀q,q∈W++[Gq (rh x) (rh y)<|rh z]↔Mem (l.map rh) q/\((Tri A q\/Duo x B q)\/Uno x y (E++[z]) q):=λL q=>by
      rw[Bi,X,nO,hm,CW];constructor
      .grind
      .grind
     generalize Gq (rh x) (rh y) (rh z)=v at*
     refine Au (um o A4 lp A4) λb hb=>?_
     cases b with
     |false=>
      refine j u ⟨W,T,U,K,V,λp=>?_⟩;rw[X];dsimp;rw[nO,hm];constructor
      .grind
      .grind
     |true=>
      have L:=hb.1 rfl;show Yd _ (bd (TT u<|As v) _);rw[T];refine A5 (afk A4 K lp A4) ?_;by_cases Z:v∈W
      .rw[B1 Z];refine j _ ⟨W,rfl,U,K,V,λp=>?_⟩;have:=Y L p;rw[<-this,Bi,CW];exact⟨.inl,λh=>h.elim id λe=>by rw[e];exact Z⟩
      .rw[Bb Z];show Yd _ (bd (BC 48 _ _) _);have nd:(W++[v]).Nodup:=AK;refine A5 (app_1 A4 (by rw[BL];omega))<|j _ ⟨W++[v],AO,nd,λp mp=>?_,?_,Y L⟩
       .grind
       .have e:l.length=(l.map rh).length:=(BL _).symm;rw[e];refine c7 nd λp mp=>?_
        let⟨a,b⟩:=(Y L p).1 mp;have H:∀{a b c:BV},a∈l->b∈l->c∈l->Met a b c p->BW (l.map rh) p:=λ{a' b' c'} ma mb mc m=>UH.2 ⟨a,_,B4.2 ⟨_,ma,rfl⟩,_,B4.2 ⟨_,mb,rfl⟩,_,B4.2 ⟨_,mc,rfl⟩,m.1,m.2⟩
        rcases b with(⟨a',b',c',s,m⟩|⟨b',c',s,m⟩)|⟨c',mc,m⟩
        .exact H (d g _<|s.subset AO) (d g _<|s.subset AO) (d g _<|s.subset AO) m
        .exact H (at_mem g) (d f _<|s.subset AO) (d f _<|s.subset AO) m
        .grind
   .dsimp;rw[Bs,Av];exact A5 (Bk I A4) (Gi u (Q.congr λp=>by rw[akR,or_assoc]))
  .dsimp;rw[Bs,Av];exact A5 (Bk g A4) (next t (P.congr λp=>by rw[aj1]))
 .dsimp;rw[Bs,Av];exact AV O
def alC:Mem (l.map rh) p/\Tri l p↔BW (l.map rh) p:=by
 rw[ahA];refine and_congr Iff.rfl ⟨?_,?_⟩
 .rintro⟨a,b,c,s,m⟩;exact⟨rh a,rh b,rh c,s.map rh,m.1,m.2⟩
 .rintro⟨a,b,c,s,m⟩;let⟨r,d,e⟩:=List.sublist_map_iff.1 s
  match r,e with
  |[c',b',a'],e=>simp[JT,Y1,List.cons.injEq,and_true] at e;obtain⟨rfl,rfl,rfl⟩:=e;exact⟨a',b',c',d,m⟩
def aj8(w:∀p∈C,BS 500 p)(O:C.length<=100000000):Yd (λr=>(r<3/\∃m:Q3,m≠o3/\∃c,∀p∈C,AI m p=c)\/(r=3/\∃a∈C,∃b∈C,∃c∈C,∃d∈C,Cq (Ae b a) (Ae c a) (Ae d a)≠0)) (Zt<|C.map As):=by
 unfold Zt;rw[BL];cases C with
 |nil=>exact AV<| .inl ⟨IK,_,Xg,0,AO⟩
 |cons a T=>
  rw[Bb (show¬((a::T).length:Int)=0 by simp;omega),Av];refine OQ (a::T) (λ(s:T3×T3×Int) i=>(s.1,s.2.1,s.2.2,i)) (λA s=>∃u n:Q3,GW a (a::T) A u n s.2.2/\(s.2.2=1->s.1=As u/\BS 1001 u)/\(s.2.2=2->s.2.1=As n/\BS 4005 n)) (λA p D s k j t next=>?_) (λs k t=>?_) [a] T (s0:=(([],[],[]),([],[],[]),0)) rfl ⟨o3,o3,.inl ⟨rfl,AO⟩,λh=>by simp at h,λh=>by simp at h⟩ A4
  .dsimp only;rw[Bt j,BF];have q:=at_mem j;have lp:=w p q;have y:=w a Ca;have f:=S6 lp y;let⟨u,n,h,B,E⟩:=t;refine CZ (λs':T3×T3×Int=>∃u n:Q3,GW a (a::T) (A++[p]) u n s'.2.2/\(s'.2.2=1->s'.1=As u/\BS 1001 u)/\(s'.2.2=2->s'.2.1=As n/\BS 4005 n)) (λs' F=>A5 (Bk j A4)<|next s' F) λP g=>?_
   have G:AB ((a::T).map As) (A.length:Int)=some (As p):=by have:=Bl j;rw[Hq] at this⊢;rw[Fp,this];rfl
   refine A5 G<|A5 (x:=As a) rfl<|A5 (Sr lp y A4) ?_
   have v:s.2.2=0\/s.2.2=1\/s.2.2=2:=by rcases h with⟨e,_⟩|⟨e,_⟩|⟨e,_⟩<;>simp[e]
   let⟨s1,s2,H⟩:=s;dsimp only at*;rcases v with rfl|rfl|rfl
   .rw[show gd (decide<|(0:Int)=0) true=true from rfl,C6 rfl];refine A5 (qQ f A4) ?_;by_cases e:Ae p a=o3
    .rw[B1 e];exact g (s1,s2,0) ⟨u,n,h.s0 e,λh=>by simp at h,λh=>by simp at h⟩
    .rw[Bb e];exact g (As<|Ae p a,s2,1) ⟨_,n,h.s01 q e,λ_=>⟨rfl,Dx f A4⟩,λh=>by simp at h⟩
   .let⟨e1,l1⟩:=B rfl;subst e1;have z:=Js l1 f;show Yd _ (bd (Ji (As u)<|As<|Ae p a) _);refine A5 (QR l1 f A4) ?_;rw[show gd (decide<|(1:Int)=1) true=true from rfl,C6 rfl];refine A5 (qQ z A4) ?_;by_cases e:AZ u (Ae p a)=o3
    .rw[B1 e];exact g (As u,s2,1) ⟨u,n,h.s1 e,λ_=>⟨rfl,l1⟩,λh=>by simp at h⟩
    .rw[Bb e];show Yd _ (bd (Ji (As u)<|As<|Ae p a) _);exact A5 (QR l1 f A4) (g (As u,As<|AZ u<|Ae p a,2) ⟨u,_,h.Db q e,λh=>by simp at h,λ_=>⟨rfl,Dx z A4⟩⟩)
   .let⟨e1,l1⟩:=E rfl;subst e1;show Yd _ (bd (Lq (As n)<|As<|Ae p a) _);refine A5 (Sx l1 f A4) ?_;rw[show gd (decide<|(2:Int)=2) true=true from rfl,C6 rfl];refine A5 (yN (OX l1 f) A4) ?_;by_cases e:AI n (Ae p a)=0
    .rw[B1 e];exact g (s1,As n,2) ⟨u,n,h.s2 e,λh=>by simp at h,λ_=>⟨rfl,l1⟩⟩
    .rw[Bb e];let⟨b,I,c,J,K⟩:=h.s3 e;exact AV<| .inr ⟨rfl,a,Ca,b,I,c,J,p,q,K⟩
  .dsimp only;rw[Bs,Av];let⟨u,n,h,_⟩:=t;let⟨m,L,N⟩:=h.flat;refine AV<| .inl ⟨?_,m,L,_,N⟩
   rcases h with⟨e,_⟩|⟨e,_⟩|⟨e,_⟩<;>rw[e]<;>decide
def FM(C:A3 Q3)(h:H3):Nat:=(C.filter λp=>decide<|val h p=0).length
structure IM(hs:A3 BV)(p:Q3)(o:A3 Int):Prop where
 nd:o.Nodup
 iff:∀j:Int,j∈o↔∃(m:Nat) (h:BV),j=(m:Int)/\hs[m]? =some h/\val (rh h) p=0
def IM.len{a:A3 BV}{o:A3 Int}(h:IM a p o):o.length<=a.length:=by
 have:=IT (l:=o) (T:=(List.range a.length).map λm:Nat=>(m:Int)) h.nd λj b=>by let⟨m,x,e,c,_⟩:=(h.iff j).1 b;exact B4.2 ⟨m,OG.2 (EP.1 c).1,e.symm⟩
 simpa using this
theorem IM.at{a:A3 BV}{o:A3 Int}(h:IM a p o){m:Nat}{x:BV}(b:a[m]? =some x):(m:Int)∈o↔val (rh x) p=0:=by
 rw[h.iff];constructor
 .grind
 .grind
theorem aeb(o:∀h∈l,Bh h)(B:l.length<=50)(q:BS 500 p):Yd (λr=>IM l p r) (ZO l<|As p):=by
 unfold ZO;refine Bw l (λ(s:A3 Int) i=>(s,i)) (λA s=>IM A p s) (λA x C s k d c next=>?_) (λs k c=>?_) (s0:=[]) ⟨List.nodup_nil,λj=>by simp⟩ A4
 .dsimp;rw[Bt d,BF];have D:=CC d;have E:=c.len;have F:∀j:Int,(∃(m:Nat) (h:BV),j=(m:Int)/\(A++[x])[m]? =some h/\val (rh h) p=0)↔j∈s\/(j=(A.length:Int)/\val (rh x) p=0):=λj=>by
   rw[c.iff];constructor
   .rintro⟨m,h,e,f,t⟩;by_cases u:m<A.length
    .grind
    .grind
   .rintro(⟨m,h,e,f,t⟩|⟨e,t⟩)
    .grind
    .exact⟨A.length,x,e,AO,t⟩
  refine CZ (λs':A3 Int=>IM (A++[x]) p s') (λs' v=>A5 (Bk d A4)<|next s' v) λk5 g=>?_
  refine A5 (Bl d)<|A5 (gH (o x<|at_mem d) q A4) ?_
  rw[sign_zero];refine Ab (λw=>A5 (app_1 A4 A4)<|g _ ⟨?_,λj=>?_⟩) λw=>g _ ⟨c.nd,λj=>?_⟩
  .rw[QM];refine⟨c.nd,AO,λa y b z e=>?_⟩;let⟨m,h,G,f,_⟩:=(c.iff a).1 y;rw[CW.1 z] at e;have:=(EP.1 f).1;omega
  .grind
  .grind
 .dsimp;rw[Bs,Av];exact AV c
theorem mS{a b:A3 Int}(m:b.Nodup)(H:a.length<=100)(u:b.length<=100):Tc a b=some (a.filter λx=>decide<|x∈b):=by
 refine F8 ?_;unfold Tc;refine Bw a (λ(s:A3 Int) i=>(s,i)) (λA s=>s=A.filter λx=>decide<|x∈b) (λA x C s k c f next=>?_) (λs k f=>?_) (s0:=[]) rfl A4
 .dsimp;rw[Bt c,BF];have I:=CC c;have J:s.length<=A.length:=AK;refine Bw b (λ(t:A3 Int) i=>(t,i)) (λB t=>t=s++(bif decide (x∈B) then [x] else [])) (λB y D t v d g w=>?_) (λt v g=>?_) (s0:=s) AO A4
  .dsimp;rw[Bt d,BF];refine CZ (λj:A3 Int=>j=s++(bif decide (x∈B++[y]) then [x] else [])) (λj z=>A5 (Bk d A4)<|w j z) λK q=>?_
   refine A5 (Bl c)<|A5 (Bl d)<|Ab (λr=>?_) λr=>q _ ?_
   .have e:=Aq r;have E:x∉B:=λF=>by rw[d,QM] at m;exact m.2.2 x F y Ca e
    have t0:t=s:=by rw[g];simp[E]
    refine A5 (Bl c) (A5 (app_1 A4 (by rw[t0];omega))<|q _ ?_);rw[t0,B1 (show x∈B++[y] by simp[e])];rfl
   .grind
  .dsimp;rw[Bs,Av];refine A5 (Bk c A4)<|next t ?_
   rw[g,f,LL];cases G:decide (x∈b)<;>simp[G]
 .dsimp;rw[Bs,Av];exact AV f
abbrev ZL:=A3<|Q3×A3 Int
theorem aiZ(o:∀h∈l,Bh h)(O:l.length<=50)(w:∀p∈C,BS 500 p)(P:C.length<=1000000):Yd (λr=>r.1=(l.filter λh=>decide<|3<=FM C (rh h))/\r.2.1=C.map As/\∃Z:ZL,Z.map (·.1)=C/\r.2.2=Z.map (·.2)/\∀z∈Z,IM r.1 z.1 z.2) (Zw l<|C.map As):=by
 have cm:(C.map As).length=C.length:=BL _;unfold Zw;refine Bw l (λ(s:A3 BV×A3 T3×A3 (A3 Int)) i=>(s,i)) (λA s=>s.1=(A.filter λh=>decide<|3<=FM C (rh h))/\s.2.2=[]) (λA x D s k c d next=>?_) (λs k d=>?_) (s0:=([],[],[])) ⟨rfl,rfl⟩ A4
 .dsimp;rw[Bt c,BF];have Q:=CC c;have I:=o x<|at_mem c
  refine CZ (λs':A3 BV×A3 T3×A3 (A3 Int)=>s'.1=((A++[x]).filter λh=>decide<|3<=FM C (rh h))/\s'.2.2=[]) (λs' g=>A5 (Bk c A4)<|next s' g) λk5 y=>?_
  refine Bw C (λ(t:Int) i=>(t,i)) (λB t=>t=(FM B (rh x):Int)) (λB p E t j a b q=>?_) (λt j b=>?_) (s0:=0) rfl A4
  .dsimp;rw[cm,Bt a,BF];have bl:=CC a;have u:AB (C.map As) (B.length:Int)=some (As p):=by have:=Bl a;rw[Hq] at this⊢;rw[Fp,this];rfl
   have R:FM B (rh x)<=B.length:=Uq _ _;refine CZ (λv:Int=>v=(FM (B++[p]) (rh x):Int)) (λv g=>A5 (Bk a A4)<|q v g) λHN F=>?_
   have G:FM (B++[p]) (rh x)=FM B (rh x)+bif decide (val (rh x) p=0) then 1 else 0:=by unfold FM;rw[LL,DD];cases J:decide (val (rh x) p=0)<;>simp[J]
   refine A5 (Bl c)<|A5 u<|A5 (gH I (w p<|at_mem a) A4) ?_
   rw[sign_zero];refine Ab (λf=>A5 BE (F _ (by rw[G,f,b];simp))) λf=>F _ (by rw[G,f,b];simp)
  .dsimp;rw[cm,Bs,Av];have e:decide (3<=t)=decide (3<=FM C (rh x)):=F5.2 A4;rw[e];have T:s.1.length<=A.length:=AK;refine Ab (λf=>A5 (Bl c)<|A5 (app_1 A4 A4)<|y _ ⟨?_,d.2⟩) λf=>y _ ⟨?_,d.2⟩
   .grind
   .grind
 .dsimp;rw[Bs,Av];have os:∀h∈s.1,Bh h:=λh H=>o h (by rw[d.1] at H;exact(EG.1 H).1)
  have U:s.1.length<=l.length:=AK;refine Bw C (λ(t:A3 (A3 Int)) i=>((s.1,C.map As,t),i)) (λB t=>∃Z:ZL,Z.map (·.1)=B/\t=Z.map (·.2)/\∀z∈Z,IM s.1 z.1 z.2) (λB p E t j a b q=>?_) (λt j b=>?_) (s0:=s.2.2) ⟨[],rfl,by rw[d.2];rfl,AO⟩ A4
  .dsimp;rw[cm,Bt a,BF];have bl:=CC a;have u:AB (C.map As) (B.length:Int)=some (As p):=by have:=Bl a;rw[Hq] at this⊢;rw[Fp,this];rfl
   let⟨Z,K,L,z3⟩:=b;have V:t.length=B.length:=AK;refine A5 u (Au (aeb os A4<|w p<|at_mem a) λr W=>A5 (app_1 A4 A4) (A5 (Bk a A4) (q _ ⟨Z++[(p,r)],by simp[K],by simp[L],λz N=>?_⟩)));rcases Bi.1 N with m|m
   .exact z3 z m
   .grind
  .dsimp;rw[cm,Bs,Av];exact AV ⟨d.1,rfl,b⟩
structure Rel(K:BV->Prop)(l A:A3 BV)(T:A3 Int)(hv:A3 BV):Prop where
 len:T.length=l.length
 HO:hv.Pairwise Hs
 mem:∀h,h∈hv↔h∈A/\K h
 at_:∀(j:Nat) (x:BV),A[j]? =some x->∃t:Int,T[j]? =some t/\((¬K x/\t= -1)\/(K x/\∃m:Nat,t=(m:Int)/\hv[m]? =some x))
def bQ{c:A3 BV}(h:c.Pairwise Hs):c.Nodup:=List.Pairwise.imp (λ{a b} (k:Hs a b) (e:a=b)=>fI b.1 (by rw[e] at k;exact k)) h
theorem n9{l:A3 α}(h:l.Nodup){i j:Nat}(hi:l[i]? =some x)(a:l[j]? =some x):i=j:=by
 let⟨b,d⟩:=EP.1 hi;let⟨b2,e⟩:=EP.1 a;have p:=YI.1 h;rcases Nat.lt_trichotomy i j with c|c|c
 .grind
 .exact c
 .grind
def XY(u v:A3 BV)(h:u.length+v.length<=1000):BC 40 u v=some (u++v):=by unfold BC;rw[B1 (show(u.length+v.length)*40<=140737488355328 by omega),B1 (show u.length+v.length<=9223372036854775807 by omega)];rfl
def ft{l:A3 α}{i:Nat}(h:i<l.length):AB l (i:Int)=some l[i]:=by rw[Hq];exact FT h
def aas(l:A3 BV)(Z:ZL)(cs:A3 T3)(r:A3 BV×A3 T3×A3 (A3 Int)):Prop:=r.1.Pairwise Hs/\(∀h,h∈r.1↔h∈l/\3<=FM (Z.map (·.1)) (rh h))/\r.2.1=cs/\∃a:ZL,a.map (·.1)=Z.map (·.1)/\r.2.2=a.map (·.2)/\∀z∈a,IM r.1 z.1 z.2
theorem amO(hl:l.length<=60)(Ow:l.Nodup){Z:ZL}(hZ:Z.length<=1000000000)(FZ:∀z∈Z,IM l z.1 z.2){cs:A3 T3}
 (hd:∀x∈l,∀y∈l,3<=FM (Z.map (·.1)) (rh x)->3<=FM (Z.map (·.1)) (rh y)->x.1=y.1->x=y):Yd (aas l Z cs) (aJ l cs<|Z.map (·.2)):=by
 have zm:(Z.map (·.2)).length=Z.length:=BL _;have zl:∀z∈Z,z.2.length<=60:=λz X=>CA (FZ z X).len hl
 unfold aJ;refine A5 (x:=List.replicate l.length 0) (by rw[NU A4 A4 A4];simp) ?_;refine Bw l (λ(s:A3 Int×A3 BV) i=>(s.1,s.2,i)) (λA s=>Rel (λx=>3<=FM (Z.map (·.1)) (rh x)) l A s.1 s.2) (λA x C s k R r next=>?_) (λs k r=>?_) (s0:=(List.replicate l.length 0,[])) ⟨AO,List.Pairwise.nil,AO,AO⟩ A4
 .dsimp only;rw[Bt R,BF];have al:=CC R;have mx:=at_mem R;have lx:l[A.length]? =some x:=by rw[R];simp
  have hxA:x∉A:=λc=>by rw[R,QM] at Ow;exact Ow.2.2 x c x Ca rfl
  obtain⟨t9,w⟩:=s;dsimp only at r⊢;have hvl:w.length<=A.length:=IT (bQ r.HO) λh Y=>((r.mem h).1 Y).1
  refine CZ (λs':A3 Int×A3 BV=>Rel (λx=>3<=FM (Z.map (·.1)) (rh x)) l (A++[x]) s'.1 s'.2) (λs' h'=>A5 (Bk R A4)<|next s' h') λk7 h7=>?_
  refine Bw Z (λ(t:Int) i=>(t,i)) (λB t=>t=(FM (B.map (·.1)) (rh x):Int)) (λB z E t k9 F hQ Gi=>?_) (λt k9 hQ=>?_) (s0:=0) rfl A4
  .dsimp;rw[zm,Bt F,BF];have bl:=CC F;have X:=at_mem F;have ix:AB (Z.map (·.2)) (B.length:Int)=some z.2:=by have:=Bl F;rw[Hq] at this⊢;rw[Fp,this];rfl
   have cb:FM (B.map (·.1)) (rh x)<=B.length:=by
    have:=Uq (λp=>decide<|val (rh x) p=0)<|B.map (·.1)
    rw[BL] at this;exact this
   refine CZ (λt':Int=>t'=(FM ((B++[z]).map (·.1)) (rh x):Int)) (λt' h'=>A5 (Bk F A4)<|Gi t' h') λG6 TU=>?_
   have ca:FM ((B++[z]).map (·.1)) (rh x)=FM (B.map (·.1)) (rh x)+bif decide (val (rh x) z.1=0) then 1 else 0:=by unfold FM;rw[I5,LL,DD];cases hd:decide (val (rh x) z.1=0)<;>simp[hd]
   refine A5 ix (A5 (mS (b:=[(A.length:Int)]) AO (by have:=zl z X;omega) AO) ?_);have hlen:decide ((0:Int)<((z.2.filter λx=>decide<|x∈[(A.length:Int)]).length:Int))=decide (val (rh x) z.1=0):=by
    rw[F5,<-(FZ z X).at lx];constructor
    .intro h;obtain⟨y,P⟩:=List.exists_mem_of_length_pos (show 0<(z.2.filter λx=>decide<|x∈[(A.length:Int)]).length by omega);obtain⟨m1,m2⟩:=EG.1 P;have:y=(A.length:Int):=by simpa using m2
     rw[<-this];exact m1
    .intro h;have:=List.length_pos_of_mem (EG.2 ⟨h,AO⟩:(A.length:Int)∈z.2.filter λx=>decide<|x∈[(A.length:Int)]);omega
   rw[hlen];refine Ab (λJ=>A5 BE (TU _ (by rw[ca,J,hQ];simp))) λJ=>TU _ (by rw[ca,J,hQ];simp)
  .dsimp only;rw[zm,Bs,Av];have hi:A.length<t9.length:=by rw[r.len];omega
   refine A5 (ft hi)<|A5 (ft hi) ?_
   have I:∀(v:Int) (j:Nat),j≠A.length->(t9.set A.length v)[j]? =t9[j]? :=λv j H=>by rw[pN<|Ne.symm H]
   refine Ab (λJ=>h7 _ ?_) λJ=>?_
   .have hk: ¬3<=FM (Z.map (·.1)) (rh x):=by have:=Aq J;omega
    rw[CL];refine⟨by simp[r.len],r.HO,λh=>?_,λj y H=>?_⟩
    .rw[r.mem,Bi,CW];constructor
     .rintro⟨a,b⟩;exact⟨.inl a,b⟩
     .rintro⟨a|a,b⟩
      .exact⟨a,b⟩
      .rw[a] at b;exact absurd b hk
    .by_cases U:j<A.length
     .rw[K4 U] at H;rw[I _ _ A4];exact r.at_ j y H
     .grind
   .have hk:3<=FM (Z.map (·.1)) (rh x):=by have:=BX J;omega
    have fin:∀B D:A3 BV,w=B++D->(∀h∈B,Hs h x)->(∀h∈D,Hs x h)->Yd (aas l Z cs)
      (BA (λk41 (d:A3 Int×Int)=>cond (decide<|d.2<(A.length:Int)) (jn (λ(s43:(A3 Int))=>bd (AG<|d.2+1) λMb=>k41 (s43,Mb)) λk44=>bd (AB d.1 d.2) λnI=>bd (AB d.1 d.2) λVQ=>cond (decide<|(B.length:Int)<=VQ) (bd (AB d.1 d.2) λNZ=>bd (AB d.1 d.2) λJe=>bd (AG<|Je+1) λLW=>bd (AB d.1 d.2) λNb=>bd (AB d.1 d.2) λLf=>k44 (d.1.set (d.2).toNat LW)) (k44 d.1)) (bd (AB d.1 (A.length:Int)) λNa=>bd (AB d.1 (A.length:Int)) λx64=>bd (Bo w 0 (B.length:Int)) λx66=>bd (BC 40 ([]:A3 ((Int×Int×Int)×AA)) x66) λx68=>bd (AB l (A.length:Int)) λx70=>bd (BC 40 x68 ([x70]:A3 ((Int×Int×Int)×AA))) λx72=>bd (Bo w (B.length:Int) (w.length:Int)) λfP=>bd (BC 40 x72 fP) λx76=>k7 ((d.1.set ((A.length:Int)).toNat (B.length:Int)),x76))) ((t9.set ((A.length:Int)).toNat<| -1),0)):=λB D e hb hdd=>by
     rw[CL];have bl:B.length<=w.length:=by rw[e];simp
     have dl:w.length=B.length+D.length:=by rw[e];simp
     refine Bw A (λ(T:A3 Int) i=>(T,i)) (λG T=>T.length=l.length/\∀j:Nat,T[j]? =(if j<G.length then((t9.set A.length<| -1)[j]?).map (λt=>bif decide ((B.length:Int)<=t) then t+1 else t) else(t9.set A.length<| -1)[j]?)) (λG y E T k41 L W QV=>?_) (λT k41 W=>?_) (s0:=t9.set A.length<| -1) ⟨by simp[r.len],λj=>by simp⟩ A4
     .dsimp only;rw[Bt L,BF];have gl:=CC L;have yA:A[G.length]? =some y:=by rw[L];simp
      obtain⟨t,t1,t2⟩:=r.at_ _ _ yA;have T0:T[G.length]? =some t:=by rw[W.2,if_neg A4,I _ _ A4,t1]
      have tb: -1<=t/\t<=1000:=by
       rcases t2 with⟨_,e⟩|⟨_,m,e,q⟩
       .omega
       .have:=(EP.1 q).1;omega
      have Q:AB T (G.length:Int)=some t:=by rw[Hq];exact T0
      have gT:G.length<T.length:=(EP.1 T0).1;refine CZ (λT':A3 Int=>T'.length=l.length/\∀j:Nat,T'[j]? =(if j<(G++[y]).length then((t9.set A.length<| -1)[j]?).map (λt=>bif decide ((B.length:Int)<=t) then t+1 else t) else(t9.set A.length<| -1)[j]?)) (λT' h'=>A5 (Bk L A4)<|QV T' h') λk44 VK=>?_
      have z0:(t9.set A.length<| -1)[G.length]? =some t:=by rw[I _ _ A4,t1]
      refine A5 Q (A5 Q (Ab (λJ=>A5 Q (A5 Q (A5 BE (A5 Q (A5 Q (VK _ ⟨by simp[W.1],λj=>?_⟩)))))) λJ=>VK _ ⟨W.1,λj=>?_⟩))
      .rw[CL];by_cases H:j=G.length
       .subst H;rw[Us gT,if_pos AO,z0];simp[NC,J,BF]
       .grind
      .by_cases H:j=G.length
       .subst H;rw[T0,if_pos AO,z0];simp[NC,J,Av]
       .rw[W.2];have:(j<G.length)=(j<(G++[y]).length):=propext Co;simp[this]
     .dsimp;rw[Bs,Av];have Q:A.length<T.length:=by rw[W.1];omega
      have s1:Bo w 0 (B.length:Int)=some B:=by rw[DV A4 A4 A4,e];simp
      have s2:Bo w (B.length:Int) (w.length:Int)=some D:=by rw[DV A4 A4 A4];simp;rw[e];simp
      refine A5 (ft Q)<|A5 (ft Q)<|A5 s1<|A5 (XY [] B Co)<|A5 (Bl R)<|A5 (XY _ _ Co)<|A5 s2<|A5 (XY _ _ Co)<|h7 _ ?_
      rw[Fy];have sa:=r.HO;rw[e] at sa;obtain⟨a1,a2,a3⟩:=G1.1 sa;refine⟨by simp[W.1],G1.2 ⟨G1.2 ⟨a1,SU _ _,λh Y y P=>by rw[CW.1 P];exact hb h Y⟩,a2,λh Y y P=>?_⟩,λh=>?_,λj y H=>?_⟩
      .rcases Bi.1 Y with m|m
       .exact a3 h m y P
       .rw[CW.1 m];exact hdd y P
      .have q:=r.mem h;rw[e,Bi] at q;simp only[Bi,CW];constructor
       .grind
       .grind
      ·
       by_cases U:j<A.length
       .rw[K4 U] at H;obtain⟨t,t1,t2⟩:=r.at_ j y H;rw[pN A4,W.2,if_pos U,I _ _ A4,t1];refine⟨_,rfl,?_⟩;rcases t2 with⟨n,e2⟩|⟨n,m,e2,q⟩
        .left;refine⟨n,?_⟩;rw[e2];dsimp;rw[decide_eq_false A4];rfl
        .right;refine⟨n,?_⟩;rw[e] at q;by_cases hbm:B.length<=m
         .refine⟨m+1,by rw[e2];dsimp;rw[decide_eq_true A4];rfl,?_⟩;rw[K5 hbm] at q;rw[K5 (by simp<;>omega)];have:m+1-(B++[x]).length=m-B.length:=AO;rw[this];exact q
         .grind
       .have:j=A.length:=by have:=(EP.1 H).1;simp at this;omega
        subst this;simp at H;refine⟨(B.length:Int),by rw[Us Q],.inr ⟨by rw[<-H];exact hk,B.length,rfl,?_⟩⟩;rw[Fz,K5<|BJ _];simp[H]
    refine Bw w (λ(_:Unit) i=>i) (λB _=>∀h∈B,Hs h x) (λB h D t Im F V QV=>?_) (λt Im V=>?_) (s0:=()) AO A4
    .have hg:gd (decide<|(B.length:Int)<(w.length:Int)) true=true:=by rw[Bt F];rfl
     have bl:=CC F;have Y:=at_mem F;rw[C6 hg];refine A5 (Bl F) ?_;rw[C6 hg];refine A5 (Bl F) ?_;rw[C6 hg];refine A5 (Bl R) ?_;rw[C6 hg];refine A5 (lR h.1 x.1) ?_;rw[Bt F,I3];refine Ab (λJ=>A5 (Bk F A4)<|QV () λg mg=>?_) λJ=>fin B (h::D) F V λy P=>?_
     .rcases Bi.1 mg with m|m
      .exact V g m
      .rw[CW.1 m];exact Aq J
     .have Qr:=BX J;obtain⟨hA',hK⟩:=(r.mem h).1 Y;have hne:h.1≠x.1:=λe=>hxA (by rw[<-hd h (by rw[R];exact Fq _ hA') x mx hK hk e];exact hA')
      have hxh:Hs x h:=((aBS h.1 x.1).resolve_left hne).resolve_left Qr;rcases Ak.1 P with e|m
      .rw[e];exact hxh
      .have sa:=r.HO;rw[F] at sa;exact aaM hxh<|(Fh.1 (G1.1 sa).2.1).1 y m
    .have hg:gd (decide<|(w.length:Int)<(w.length:Int)) true=false:=by rw[Bs];rfl
     rw[DG hg,DG hg,DG hg,DG hg];rw[Bs,M4,Av];exact fin w [] AO V AO
 .dsimp;rw[Bs,Av];obtain⟨t9,w⟩:=s;dsimp only at r⊢;have hvn:=bQ r.HO;have look:∀(j:Nat) (x:BV),l[j]? =some x->∃t:Int,AB t9 (j:Int)=some t/\((¬3<=FM (Z.map (·.1)) (rh x)/\t= -1)\/(3<=FM (Z.map (·.1)) (rh x)/\∃m:Nat,t=(m:Int)/\w[m]? =some x)):=λj x H=>by obtain⟨t,t1,t2⟩:=r.at_ j x H;exact⟨t,by rw[Hq];exact t1,t2⟩
  refine Bw Z (λ(t:A3 (A3 Int)) i=>((w,cs,t),i)) (λB t=>∃Z':ZL,Z'.map (·.1)=B.map (·.1)/\t=Z'.map (·.2)/\∀z∈Z',IM w z.1 z.2) (λB z E t k81 F hQ Gi=>?_) (λt k81 hQ=>?_) (s0:=[]) ⟨[],rfl,rfl,AO⟩ A4
  .dsimp;rw[zm,Bt F,BF];have bl:=CC F;have X:=at_mem F;have oz:=FZ z X;have ix:AB (Z.map (·.2)) (B.length:Int)=some z.2:=by have:=Bl F;rw[Hq] at this⊢;rw[Fp,this];rfl
   obtain⟨Z',z1,z2,z3⟩:=hQ;have tl:t.length=B.length:=by rw[z2,BL,<-BL (f:=λz:Q3×A3 Int=>z.1),z1,BL]
   have zz:=zl z X;refine Bw z.2 (λ(u:A3 Int) i=>(u,i)) (λG u=>u.length<=G.length/\u.Nodup/\∀K:Int,K∈u↔∃(j m:Nat) (x:BV),(j:Int)∈G/\l[j]? =some x/\K=(m:Int)/\w[m]? =some x) (λG j E u k84 L hU QV=>?_) (λu k84 hU=>?_) (s0:=[]) ⟨AO,List.nodup_nil,AO⟩ A4
   .dsimp;refine A5 ix ?_;rw[Bt L,BF];have gl:=CC L;obtain⟨n,x,e,hx,tx⟩:=(oz.iff j).1<|at_mem L
    subst e;obtain⟨tv,O,tv2⟩:=look n x hx;refine CZ (λu':A3 Int=>u'.length<=(G++[(n:Int)]).length/\u'.Nodup/\∀K:Int,K∈u'↔∃(j m:Nat) (x:BV),(j:Int)∈G++[(n:Int)]/\l[j]? =some x/\K=(m:Int)/\w[m]? =some x) (λu' h'=>A5 (Bk L A4)<|QV u' h') λk89 h89=>?_
    refine A5 ix<|A5 (Bl L)<|A5 O<|A5 O ?_
    have split:∀K:Int,(∃(j m:Nat) (x:BV),(j:Int)∈G++[(n:Int)]/\l[j]? =some x/\K=(m:Int)/\w[m]? =some x)↔K∈u\/∃m:Nat,K=(m:Int)/\w[m]? =some x:=λK=>by
     rw[hU.2.2];constructor
     .rintro⟨j,m,y,N,hy,e,q⟩;rcases Bi.1 N with N|N
      .exact .inl ⟨j,m,y,N,hy,e,q⟩
      .have:j=n:=by have:=CW.1 N;omega
       rw[this,hx] at hy;cases hy;exact .inr ⟨m,e,q⟩
     .rintro(⟨j,m,y,N,hy,e,q⟩|⟨m,e,q⟩)
      .exact⟨j,m,y,Fq _ N,hy,e,q⟩
      .exact⟨n,m,x,AO,hx,e,q⟩
    rcases tv2 with⟨hk,e⟩|⟨hk,m,e,q⟩
    .rw[e,show decide ((0:Int)<= -1)=false from rfl,Av];refine h89 _ ⟨Co,hU.2.1,λK=>?_⟩;rw[split];refine⟨.inl,λh=>h.elim id λ⟨m,_,q⟩=>?_⟩;exact absurd ((r.mem x).1<|HC q).2 hk
    .rw[e,decide_eq_true (show(0:Int)<=(m:Int) by omega),BF];rw[e] at O;refine A5 ix<|A5 (Bl L)<|A5 O<|A5 O<|A5 (app_1 A4 A4)<|h89 _ ⟨Co,?_,λK=>?_⟩
     .rw[QM];refine⟨hU.2.1,AO,λa ma b mb e2=>?_⟩;rw[CW.1 mb] at e2;obtain⟨j,m',y,N,hy,e3,Lg⟩:=(hU.2.2 a).1 ma;have:m'=m:=A4;rw[this,q] at Lg;cases Lg;have hjn:j=n:=n9 Ow hy hx;have hnG:(n:Int)∉G:=λc=>by have:=oz.nd;rw[L,QM] at this;exact this.2.2 _ c _ Ca rfl
      rw[hjn] at N;exact hnG N
     .rw[Bi,CW,split];refine or_congr Iff.rfl ⟨λh=>⟨m,h,q⟩,λ⟨m',h,Lg⟩=>?_⟩;have:m'=m:=n9 hvn Lg q;rw[h,this]
   .dsimp;refine A5 ix ?_;rw[Bs,Av];refine A5 (app_1 A4 A4) (A5 (Bk F A4) (Gi _ ⟨Z'++[(z.1,u)],by simp[z1],by simp[z2],λy P=>?_⟩));rcases Bi.1 P with m|m
    .exact z3 y m
    .rw[CW.1 m];refine⟨hU.2.1,λK=>?_⟩;rw[hU.2.2];constructor
     .rintro⟨j,m,x,N,hx,e,q⟩;exact⟨m,x,e,q,(oz.at hx).1 N⟩
     .rintro⟨m,x,e,q,tx⟩;obtain⟨ml,_⟩:=(r.mem x).1<|HC q
      obtain⟨j,H⟩:=SQ.1 ml;exact⟨j,m,x,(oz.at H).2 tx,H,e,q⟩
  .dsimp;rw[zm,Bs,Av];exact AV ⟨r.HO,r.mem,rfl,hQ⟩
abbrev G7:=A3 BV×A3 T3×A3 (A3 Int)
structure RS(s:G7)(M:A3 H3)(Z:ZL):Prop where
 ok:∀h∈s.1,Bh h
 HO:s.1.Pairwise Hs
 fac:∀k,k∈s.1.map rh↔k∈M/\3<=FM (Z.map (·.1)) k
 cor:s.2.1=Z.map (λz=>As z.1)
 on:s.2.2=Z.map (·.2)
 nd:(Z.map (·.1)).Nodup
 mem:∀p,p∈Z.map (·.1)↔BW M p
 FZ:∀z∈Z,IM s.1 z.1 z.2
def K8.refl(M:A3 H3):K8 M M:=⟨λ_ h=>h,λh a=>⟨h,a,rfl,El⟩⟩
def RS.KF{s:G7}{Z:ZL}(R:RS s M Z)(I:By S M)(k:H3):k∈s.1.map rh↔k∈S.map (·.1):=by rw[R.fac,Wu I (K8.refl M) R.mem R.nd];rfl
def RS.EB{s:G7}{Z:ZL}(R:RS s M Z){z:Q3×A3 Int}(a:z∈Z):BW M z.1:=(R.mem z.1).1<|B4.2 ⟨z,a,rfl⟩
def RS.len{s:G7}{Z:ZL}(R:RS s M Z):s.1.length<=M.length:=by
 have b:(s.1.map rh).Nodup:=J7.2 (QO (λ{x y} a c h e=>by rw[OT (R.ok x a) (R.ok y c) e] at h;exact fI _ h) R.HO)
 have:=IT b λx a=>((R.fac x).1 a).1
 rwa [BL] at this
def RS.qy{s:G7}{Z:ZL}(R:RS s M Z)(h:M.length<=31):Z.length<=29791:=by
 have:=c7 R.nd λp a=>(R.mem p).1 a
 rw[BL] at this;have:=Em h<|Em h h
 omega
theorem ku(o:∀h∈l,Bh h)(u:l.length<=50):Yd (λr=>(r.2=13/\ ¬Dp (l.map rh))\/(r.2=12/\Dp (l.map rh)/\ ¬HJ (l.map rh))\/(r.2=0/\Dp (l.map rh)/\HJ (l.map rh)/\r.1.1.Pairwise Hs/\(∀S,By S (l.map rh)->∀h,h∈r.1.1↔h∈l/\rh h∈S.map (·.1))/\∃Z,RS r.1 (l.map rh) Z)) (PR l):=by
 unfold PR;refine Au (aei o u) λb H=>Ab (λB=>AV<| .inl ⟨rfl,λc=>?_⟩) λB=>?_
 .grind
 have v:Dp (l.map rh):=H.1 (by simpa using B);refine Au (ahP o u) λs ⟨S,sl⟩=>?_
 have os:∀h∈s,Bh h:=λh f=>o h<|S.sub h f
 have L:=S.least;refine Au (ael os A4) λr J=>?_
 let⟨C,K,y,E,c4,N⟩:=J;have O:s.length*(s.length*s.length)<=125000:=Em (show s.length<=50 by omega) (Em (show s.length<=50 by omega) (show s.length<=50 by omega));have i:∀p,p∈C↔BW (s.map rh) p:=λp=>by rw[N,alC]
 rw[K];refine Au (aj8 E A4) λd P=>?_
 rcases P with⟨d3,m,m0,c,hm⟩|⟨rfl,a,ma,b,mb,c,mc,d,md,arC⟩
 .rw[B1 d3,BF];exact AV<| .inr<| .inl ⟨rfl,v,afH v m0 λp Q=>hm p<|(i p).2<|(L.EB p).2 Q⟩
 .rw[show decide ((3:Int)<3)=false from rfl,Av];have mem:∀{p},p∈C->Mem (l.map rh) p:=λT=>((L.EB _).1<|(i _).1 T).1
  have hi:HJ (l.map rh):=akC (λk j=>(Bh.LP o k j).nz) (mem ma) (mem mb) (mem mc) (mem md) arC;let⟨w,_,hw⟩:=zT o u;have I:By w.1 (l.map rh):=AK;refine Au (aiZ os A4 E A4) λD ⟨G,U,Z,t,V,z3⟩=>?_
  have R:RS D (l.map rh) Z:=by
   refine⟨λh f=>?_,?_,λk=>?_,?_,V,by rw[t];exact y,λp=>by rw[t,i,L.EB],z3⟩
   .grind
   .rw[G];exact S.HO.filter _
   .rw[t,G,<-show _↔k∈l.map rh/\3<=FM C k from Wu I (K8.refl _) (λp=>by rw[i,L.EB]) y k,Wu I L i y];constructor
    .intro j;let⟨x,z,e⟩:=B4.1 j;let⟨W,X⟩:=EG.1 z;rw[<-e];exact⟨B4.2 ⟨x,W,rfl⟩,Aq X⟩
    .rintro⟨j,h3⟩;let⟨x,z,e⟩:=B4.1 j;rw[<-e] at h3⊢;exact B4.2 ⟨x,EG.2 ⟨z,B1 h3⟩,rfl⟩
   .rw[U,<-t,LB];rfl
  refine AV<| .inr<| .inr ⟨rfl,v,hi,R.HO,λF hF h=>⟨λf=>?_,λ⟨f,Y⟩=>?_⟩,Z,R⟩
  .have mr:rh h∈D.1.map rh:=B4.2 ⟨h,f,rfl⟩;let⟨g,q,e⟩:=B4.1 ((R.fac<|rh h).1 mr).1;rw[<-OT (o g q) (R.ok h f) e];exact⟨q,by rw[e];exact(R.KF hF _).1 mr⟩
  .let⟨g,q,e⟩:=B4.1 ((R.KF hF _).2 Y);rw[<-OT (R.ok g q) (o h f) e];exact q
def amx{h:H3}(I:By S M)(f:Gv 14 (h::M))(c:M.length<=60)(d:∀g∈h::M,GF g.1)(hi:HJ (h::M)):∃i,By i (h::M):=by
 obtain⟨r,_,⟨_,e⟩|⟨_,e⟩⟩:=Yd.ae I f A4 c (d h Ca).nz λa j b k=>Rk (d a j)<|d b k
 .exact⟨_,e⟩
 .exact absurd hi e
def akJ{a:A3 BY}{h:H3}(I:By S M)(j:By a (h::M)){f:BY}(m:f∈a)(b:f.1∈M):f.1∈S.map (·.1):=by let⟨z,q,c,r⟩:=aaH j m;let⟨o,s⟩:=I.int;let⟨g,d,e⟩:=I.cover z (λk t=>q k<|Bg _ t) ⟨f.1,b,c⟩;have i:=(I.Ck g d).1;have:=qA s I.nz I.norm b i (r g.1 (Bg _ i) e) c e;exact B4.2 ⟨g,d,this.symm⟩
end
section
variable(n:Int)(k:H3)(Z:ZL)
def HT(a b:A3 Int):A3 Int:=a.filter λx=>decide<|x∈b
def IA(z w:Q3×A3 Int):ZL:=bif decide (val k z.1<0)&&decide (0<val k w.1)&&decide (2<=(HT z.2 w.2).length) then [(Er k z.1 w.1,HT z.2 w.2++[n])] else []
def Jh(z:Q3×A3 Int):ZL:=(bif decide (val k z.1<0) then [z] else [])++(bif decide (val k z.1=0) then [(z.1,z.2++[n])] else [])
def I9(z:Q3×A3 Int):ZL:=Jh n k z++Z.flatMap (IA n k z)
end
def SZ{α β:Type}{f:α->A3 β}{w:Nat}:∀{l:A3 α},(∀x∈l,(f x).length<=w)->(l.flatMap f).length<=l.length*w
 |[],_=>by simp
 |x::l,h=>by
  have:=SZ (l:=l) λy a=>h y<|Bg _ a
  have:=h x Ca;rw[M7,DD,DP,QE];omega
def xq(n:Int)(k:H3)(z:Q3×A3 Int):(Jh n k z).length<=2:=by unfold Jh;cases decide (val k z.1<0)<;>cases decide (val k z.1=0)<;>simp
def xr(n:Int)(k:H3)(z w:Q3×A3 Int):(IA n k z w).length<=1:=by unfold IA;cases decide (val k z.1<0)&&decide (0<val k w.1)&&decide (2<=(HT z.2 w.2).length)<;>simp
def xn(n:Int)(k:H3)(Z:ZL)(z:Q3×A3 Int):(I9 n k Z z).length<=2+Z.length:=by
 unfold I9;rw[DD];have:=xq n k z;have:=SZ (l:=Z) (f:=IA n k z) (w:=1) λw _=>xr n k z w
 omega
def Xi{a b:A3 Int}{x:Int}:x∈HT a b↔x∈a/\x∈b:=by unfold HT;simp
section
variable{s:G7}{M:List H3}{Z:ZL}{S:List BY}{h:BV}
variable{y:Q3×A3 Int}{n:Int}{z:Q3×A3 Int}
def aat(S:A3 BY)(k:H3)(z w:Q3):Prop:=val k z<0/\0<val k w/\∃f∈S,∃g∈S,f.1≠g.1/\val f.1 z=0/\val f.1 w=0/\val g.1 z=0/\val g.1 w=0
theorem br(R:RS s M Z)(I:By S M){w:Q3×A3 Int}(u:z∈Z)(E:w∈Z)(d:y∈IA n (rh h) z w):y=(Er (rh h) z.1 w.1,HT z.2 w.2++[n])/\aat S (rh h) z.1 w.1:=by
 unfold IA at d;cases q:decide (val (rh h) z.1<0)&&decide (0<val (rh h) w.1)&&decide (2<=(HT z.2 w.2).length) with
 |false=>rw[q] at d;cases d
 |true=>
  rw[q] at d;rw[Bq,Bq,G0,G0,G0] at q;let⟨⟨F,G⟩,H⟩:=q;have nd:(HT z.2 w.2).Nodup:=(R.FZ z u).nd.sublist List.filter_sublist;refine⟨CW.1 d,F,G,?_⟩
  match e:HT z.2 w.2,H,nd with
  |i::j::r,_,nd=>
   have J:i∈HT z.2 w.2:=by rw[e];simp
   have K:j∈HT z.2 w.2:=by rw[e];simp
   have L:i≠j:=λc=>by rw[c] at nd;simp at nd
   let⟨N,O⟩:=Xi.1 J;let⟨P,Q⟩:=Xi.1 K;obtain⟨a,x,rfl,m,T⟩:=((R.FZ z u).iff i).1 N;obtain⟨b,y',rfl,t,ty⟩:=((R.FZ z u).iff j).1 P;have v:=((R.FZ w E).at m).1 O;have U:=((R.FZ w E).at t).1 Q;let⟨f,V,B⟩:=B4.1<|(R.KF I<|rh x).1<|B4.2 ⟨x,HC m,rfl⟩
   let⟨g,W,D⟩:=B4.1<|(R.KF I<|rh y').1<|B4.2 ⟨y',HC t,rfl⟩
   refine⟨f,V,g,W,λc=>?_,by rw[B];exact T,by rw[B];exact v,by rw[D];exact ty,by rw[D];exact U⟩;rw[B,D] at c;have:=OT (R.ok x<|HC m) (R.ok y'<|HC t) c;rw[this] at m;have:=n9 (bQ R.HO) m t;exact L A4
theorem xo{k:H3}(a:y∈Jh n k z):(y=z/\val k z.1<0)\/(y=(z.1,z.2++[n])/\val k z.1=0):=by
 unfold Jh at a;rw[Bi] at a;rcases a with a|a
 .grind
 .grind
theorem XS(R:RS s M Z)(I:By S M)(b:z∈Z)(a:y∈I9 n (rh h) Z z):(y=z/\val (rh h) z.1<0)\/(y=(z.1,z.2++[n])/\val (rh h) z.1=0)\/∃w∈Z,y=(Er (rh h) z.1 w.1,HT z.2 w.2++[n])/\aat S (rh h) z.1 w.1:=by
 unfold I9 at a;rw[Bi] at a;rcases a with a|a
 .rcases xo a with c|c
  .exact .inl c
  .grind
 .let⟨w,mw,a⟩:=JZ.1 a;exact .inr<| .inr ⟨w,mw,br R I b mw a⟩
theorem agO(R:RS s M Z)(I:By S M)(n:Int):((Z.flatMap<|I9 n (rh h) Z).map (·.1)).Nodup:=by
 have N:Z.Pairwise λa b=>a.1≠b.1:=J7.1 R.nd
 refine J7.2<|eL.2 ⟨λz j=>?_,?_⟩
 .unfold I9;rw[G1];refine⟨?_,eL.2 ⟨λw B=>?_,?_⟩,λx E y d=>?_⟩
  .unfold Jh;by_cases c:val (rh h) z.1=0
   .grind
   .rw[Bb c];cases decide (val (rh h) z.1<0)<;>simp
  .unfold IA;cases decide (val (rh h) z.1<0)&&decide (0<val (rh h) w.1)&&decide (2<=(HT z.2 w.2).length)<;>simp
  .refine QO (λ{a b} m i ne x E y d e=>?_) N;let⟨D,F,G,f,H,g,J,q,K,L,a3,a4⟩:=br R I j m E;let⟨r,t,u,_⟩:=br R I j i d;rw[D,r] at e;exact ne (yO I (R.EB j) (R.EB m) (R.EB j) (R.EB i) F G t u H J q K L a3 a4 e).2
  .let⟨w,B,d⟩:=JZ.1 d;let⟨r,t,u,_⟩:=br R I j B d;have D:x.1=z.1:=by rcases xo E with⟨e,_⟩|⟨e,_⟩<;>rw[e]
   rw[D,r];exact λe=>pe (R.EB j) (R.EB B) (R.EB j) t u e.symm
 .refine QO (λ{a b} m i ne x E y d e=>?_) N;have O:∀{z y:Q3×A3 Int},(y=z/\val (rh h) z.1<0)\/(y=(z.1,z.2++[n])/\val (rh h) z.1=0)->y.1=z.1:=λ{z y} c=>by rcases c with⟨e,_⟩|⟨e,_⟩<;>rw[e]
  rcases or_assoc.2 (XS R I m E) with P|⟨w,B,D,F,G,f,H,g,J,q,K,L,a3,a4⟩
  .rcases or_assoc.2 (XS R I i d) with cy|⟨v,mv,r,t,u,_⟩
   .grind
   .rw[O P,r] at e;exact pe (R.EB i) (R.EB mv) (R.EB m) t u e.symm
  .rcases or_assoc.2 (XS R I i d) with cy|⟨v,mv,r,t,u,_⟩
   .rw[O cy,D] at e;exact pe (R.EB m) (R.EB B) (R.EB i) F G e
   .rw[D,r] at e;exact ne (yO I (R.EB m) (R.EB B) (R.EB i) (R.EB mv) F G t u H J q K L a3 a4 e).1
theorem ajn(R:RS s M Z)(I:By S M)(U:(rh h).1≠o3)(p:Q3):p∈(Z.flatMap<|I9 (s.1.length:Int) (rh h) Z).map (·.1)↔BW (rh h::M) p:=by
 constructor
 .intro mp;obtain⟨y,m,rfl⟩:=B4.1 mp;let⟨z,d,m⟩:=JZ.1 m;rcases XS R I d m with⟨e,i⟩|⟨e,i⟩|⟨w,q,e,r,F,f,G,g,H,j,B,D,a3,a4⟩
  .rw[e];exact bU (R.EB (z:=z) d)<|EF i
  .rw[e];show BW _ z.1;exact bU (R.EB (z:=z) d) (by rw[i];exact El)
  .rw[e];show BW _ (Er (rh h) z.1 w.1);exact(akQ I (R.EB d) (R.EB q) r F G H j B D a3 a4).1
 .intro hp;have N:∀z∈Z,val (rh h) z.1<=0->z.1∈(Z.flatMap<|I9 (s.1.length:Int) (rh h) Z).map (·.1):=λz d i=>by
   by_cases r:val (rh h) z.1=0
   .refine B4.2 ⟨(z.1,z.2++[(s.1.length:Int)]),JZ.2 ⟨z,d,?_⟩,rfl⟩;unfold I9 Jh;rw[B1 r];simp
   .refine B4.2 ⟨z,JZ.2 ⟨z,d,?_⟩,rfl⟩;unfold I9 Jh;rw[B1 (show val (rh h) z.1<0 by grind)];simp
  rcases age I hp with i|⟨u,v,O,i,r,F,e,f,G,g,H,j,B,D,a3,a4⟩
  .obtain⟨z,d,rfl⟩:=B4.1 ((R.mem p).2 i);exact N z d<|hp.1 _ Ca
  .obtain⟨z,d,rfl⟩:=B4.1 ((R.mem u).2 O);obtain⟨w,q,rfl⟩:=B4.1<|(R.mem v).2 i
   refine B4.2 ⟨(Er (rh h) z.1 w.1,HT z.2 w.2++[(s.1.length:Int)]),JZ.2 ⟨z,d,?_⟩,e.symm⟩;have two:2<=(HT z.2 w.2).length:=by
    let⟨x,t,K⟩:=B4.1<|(R.KF I f.1).2<|B4.2 ⟨f,G,rfl⟩
    let⟨y,m,L⟩:=B4.1<|(R.KF I g.1).2<|B4.2 ⟨g,H,rfl⟩
    let⟨a,E⟩:=SQ.1 t;let⟨b,J⟩:=SQ.1 m;rw[<-K] at B D;rw[<-L] at a3 a4;have P:(a:Int)∈HT z.2 w.2:=Xi.2 ⟨((R.FZ z d).at E).2 B,((R.FZ w q).at E).2 D⟩;have Q:(b:Int)∈HT z.2 w.2:=Xi.2 ⟨((R.FZ z d).at J).2 a3,((R.FZ w q).at J).2 a4⟩;have V:a≠b:=λc=>j (by rw[<-K,<-L];rw[c,J] at E;cases E;rfl)
    have:=IT (l:=[(a:Int),(b:Int)]) (T:=HT z.2 w.2) Co (by
     intro x t;rcases Ak.1 t with e|t
     .rw[e];exact P
     .rw[CW.1 t];exact Q)
    exact this
   unfold I9;refine QN _<|JZ.2 ⟨w,q,?_⟩
   unfold IA;rw[B1 r,B1 F,B1 two];simp
theorem ajm(R:RS s M Z)(I:By S M)(B:∀x∈s.1,rh x∈M)(v:y∈Z.flatMap (I9 (s.1.length:Int) (rh h) Z)):IM (s.1++[h]) y.1 y.2:=by
 have D:∀{p:Q3} {o:A3 Int},IM s.1 p o->∀j:Int,(∃(m:Nat) (x:BV),j=(m:Int)/\(s.1++[h])[m]? =some x/\val (rh x) p=0)↔j∈o\/(j=(s.1.length:Int)/\val (rh h) p=0):=λ{p o} d j=>by
  rw[d.iff];constructor
  .grind
  .rintro(⟨m,x,e,i,t⟩|⟨e,t⟩)
   .grind
   .exact⟨s.1.length,h,e,AO,t⟩
 have r:∀{p:Q3} {o:A3 Int},IM s.1 p o->(s.1.length:Int)∉o:=λ{p o} d c=>by let⟨m,x,e,i,_⟩:=(d.iff _).1 c;have:=(EP.1 i).1;omega
 have u:∀{p:Q3} {o:A3 Int},IM s.1 p o->val (rh h) p=0->IM (s.1++[h]) p (o++[(s.1.length:Int)]):=λ{p o} d t=>by
  refine⟨?_,λj=>?_⟩
  .rw[QM];refine⟨d.nd,AO,λa E b F e=>r d ?_⟩;rw[CW.1 F] at e;rw[<-e];exact E
  .grind
 let⟨z,q,v⟩:=JZ.1 v;rcases XS R I q v with⟨e,hv⟩|⟨e,hv⟩|⟨w,mw,e,h0,h1,f,mf,g,mg,hne,a1,a2,a3,a4⟩
 .rw[e];refine⟨(R.FZ z q).nd,λj=>?_⟩;rw[D<|R.FZ z q];refine⟨.inl,λc=>c.elim id λ⟨_,t⟩=>?_⟩;rw[t] at hv;exact absurd hv AK
 .rw[e];exact u (R.FZ z q) hv
 .rw[e];have d:FK (val (rh h) z.1) (val (rh h) w.1)=true:=IV.2<| .inl ⟨h0,h1⟩
  refine u ⟨(R.FZ z q).nd.sublist List.filter_sublist,λj=>?_⟩<|Xf d
  rw[Xi];constructor
  .rintro⟨j1,j2⟩;let⟨m,x,e,i,t⟩:=((R.FZ z q).iff j).1 j1;rw[e] at j2;exact⟨m,x,e,i,(Pn (R.EB q).1 (R.EB mw).1 d<|B x<|HC i).2 ⟨t,((R.FZ w mw).at i).1 j2⟩⟩
  .rintro⟨m,x,e,i,t⟩;let⟨G,H⟩:=(Pn (R.EB q).1 (R.EB mw).1 d<|B x<|HC i).1 t;rw[e];exact⟨((R.FZ z q).at i).2 G,((R.FZ w mw).at i).2 H⟩
end
section
variable{S:A3 BY}{l:A3 BV}{α:Type}{M:A3 H3}{s:G7}{Z:ZL}{b:A3 BV}
def FG{β:Type}{l A C:A3 α}{x:α}(f:α->β)(h:l=A++x::C):AB (l.map f) (A.length:Int)=some (f x):=by have:=Bl h;rw[Hq] at this⊢;rw[Fp,this];rfl
def ui(I:By S M){f:BY}(a:f∈S){p:Q3}(c:p∈f.2):BW M p:=(((I.Ck f a).2.2.2 p).1 c).1
def aCZ(M:A3 H3)(h:BV)(r:G7×Bool):Prop:=(r.2=true/\(∃a,RS r.1 (rh h::M) a)/\∃c,By c (rh h::M))\/(r=(([],[],[]),false)/\ ¬HJ (rh h::M))
def anl{k:H3}(R:RS s M Z)(I:By S M)(j:k.1≠o3)(m:∀a∈k::M,∀b∈k::M,Oo a b->a=b)(r:∀z∈Z,val k z.1<=0):RS s (k::M) Z/\By S (k::M):=by
 have c:∀f∈S,∀p∈f.2,val k p<=0:=λf t p u=>by
  let⟨z,v,e⟩:=B4.1<|(R.mem p).2<|ui I t u
  rw[<-e];exact r z v
 have d:=I.out j m c;have i:=λp=>(R.mem p).trans (yl I.HZ (λq=>xm I c) p).symm
 exact⟨⟨R.ok,R.HO,λg=>(R.KF I g).trans<|Wu d (K8.refl _) i R.nd g,R.cor,R.on,R.nd,i,R.FZ⟩,d⟩
def JI(W:ZL):A3 T3×A3 (A3 Int):=(W.map<|λz=>As z.1,W.map (·.2))
def pY(W:ZL)(z:Q3×A3 Int):JI (W++[z])=((JI W).1++[As z.1],(JI W).2++[z.2]):=by unfold JI;simp
def aAg(W:ZL):(JI W).1.length=W.length/\(JI W).2.length=W.length:=by unfold JI;simp
def aC3{b:Nat}{s:A3 α}(a:b<=1000)(d:s.length<=1000000000):BC b [] s=some s:=by unfold BC;have c:(([]:A3 α).length+s.length)*b<=140737488355328:=CA (Em (show([]:A3 α).length+s.length<=1000000000 by simp;omega) a) A4;rw[B1 c,B1 (show([]:A3 α).length+s.length<=9223372036854775807 by simp;omega)];rfl
theorem lS{h:BV}(R:RS s M Z)(I:By S M)(O:Bh h)(hM:Gv 14 M)(hp:∀g∈M,GF g.1)(hlen:M.length<=31):Yd (aCZ M h) (PY s h):=by
 have hM':Gv 14 (rh h::M):=λg Q=>(Ak.1 Q).elim (λe=>by rw[e];exact⟨O.lvn A4,O.HU⟩)<|hM g
 have T:∀g∈rh h::M,GF g.1:=λg Q=>(Ak.1 Q).elim (λe=>by rw[e];exact O.VZ)<|hp g
 have hnm:∀a∈rh h::M,∀b∈rh h::M,Oo a b->a=b:=λa ma b mb=>Rk (T a ma)<|T b mb
 have hz:(rh h).1≠o3:=O.VZ.nz;have zl:=R.qy hlen;have P:∀z∈Z,BS 500 z.1:=λz E=>Dx (fE hM<|R.EB E) A4
 have sl:=R.len;let⟨d,cs,os⟩:=s;have ecs:cs=Z.map (λz=>As z.1):=R.cor;have eos:os=Z.map (·.2):=R.on;subst ecs eos;have cl:(Z.map λz=>As z.1).length=Z.length:=BL _;unfold PY;dsimp only at sl⊢;refine Bw Z (λ(t:A3 AA×Bool×Bool) i=>(t.1,t.2.1,t.2.2,i)) (λA t=>t=(A.map<|λz=>An<|val (rh h) z.1,A.any<|λz=>decide<|val (rh h) z.1<0,A.any<|λz=>decide<|0<val (rh h) z.1)) (λA z C t k G hP next=>?_) (λt k hP=>?_) (s0:=([],false,false)) rfl A4
 .dsimp;rw[cl,Bt G,BF];have E:=at_mem G;have al:=CC G;let⟨vv,U⟩:=fF O (P z E) A4;have X:=OZ U A4;rw[hP];refine A5 (FG _ G) (A5 vv (A5 (app_1 A4 (by rw[BL];omega)) ?_));have N:∀TG R6:Int,(A.any (λz=>decide<|val (rh h) z.1<0)=false->TG=(val (rh h) z.1).num.sign)->(A.any (λz=>decide<|0<val (rh h) z.1)=false->R6=(val (rh h) z.1).num.sign)->Yd (aCZ M h) (bd (AG<|(A.length:Int)+1) λNi=>k (A.map (λz=>An<|val (rh h) z.1)++[An<|val (rh h) z.1],(A.any (λz=>decide<|val (rh h) z.1<0)||decide (TG<0)),(A.any (λz=>decide<|0<val (rh h) z.1)||decide (0<R6)),Ni)):=λTG R6 e1 e2=>by
   refine A5 (Bk G A4)<|next (_,_,_) ?_
   refine Prod.ext AO<|Prod.ext ?_ ?_
   .dsimp;rw[Ud];cases c:A.any (λz=>decide<|val (rh h) z.1<0) with|true=>rfl|false=>rw[e1 c,sign_neg];simp
   .dsimp;rw[Ud];cases c:A.any (λz=>decide<|0<val (rh h) z.1) with|true=>rfl|false=>rw[e2 c,Pr];simp
  refine FC (λH=>⟨_,X,FC (λY=>⟨_,X,N _ _ (λ_=>rfl) λ_=>rfl⟩) λY=>N _ _ (λ_=>rfl) λc=>?_⟩) λH=>FC (λY=>⟨_,X,N _ _ (λc=>?_) λ_=>rfl⟩) λY=>N _ _ (λc=>?_) λc=>?_
  .rw[c] at Y;cases Y
  .rw[c] at H;cases H
  .rw[c] at H;cases H
  .rw[c] at Y;cases Y
 .dsimp;rw[cl,Bs,Av,hP];refine Ab (λj=>AV<| .inr ⟨rfl,?_⟩) λj=>Ab (λK=>AV<| .inl ⟨rfl,?_⟩) λK=>?_
  .refine I.empty λf mf p mp=>?_
   let⟨z,E,e⟩:=B4.1<|(R.mem p).2<|ui I mf mp
   rw[<-e,<-Rat.not_lt];intro c;rw[F6,Un] at j;exact j z E<|B1 c
  .rw[F6,Un] at K;have:=anl R I hz hnm λz E=>Rat.not_lt.1 λc=>K z E<|B1 c
   exact⟨⟨_,this.1⟩,_,this.2⟩
  .rw[Uo,Y8] at j K;let⟨zi,mzi,hzi⟩:=j;let⟨zo,mzo,hzo⟩:=K;have hzi:=Aq hzi;have hzo:=Aq hzo;have j:HJ (rh h::M):=by let⟨o,ho⟩:=I.int;let⟨q,q1,q2⟩:=rB ho (R.EB mzi).1 hzi;exact⟨q,λg Q=>(Ak.1 Q).elim (λe=>by rw[e];exact q2)<|q1 g⟩
   let⟨S',I'⟩:=amx I hM' A4 T j;have nw:∀W:ZL,W.length<=1000000000->(JI W).1.length<=1000000000/\(JI W).2.length<=1000000000:=λW hW=>by rw[(aAg W).1,(aAg W).2];exact⟨hW,hW⟩
   refine Bw Z (λ(t:A3 T3×A3 (A3 Int)) i=>(t.1,t.2,i)) (λA t=>t=JI (A.flatMap<|I9 (d.length:Int) (rh h) Z)) (λA z C t Yk G hQ next=>?_) (λt Yk hQ=>?_) (s0:=([],[])) rfl A4
   .dsimp;rw[Bt G,BF];have E:=at_mem G;have al:=CC G;have wl:(A.flatMap<|I9 (d.length:Int) (rh h) Z).length<=29791*29793:=by
     have:=SZ (l:=A) (f:=I9 (d.length:Int) (rh h) Z) (w:=29793) λz _=>by have:=xn (d.length:Int) (rh h) Z z;omega
     exact CA this<|Em A4<|BJ _
    generalize hW:A.flatMap (I9 (d.length:Int) (rh h) Z)=W at wl hQ
    let⟨vv,U⟩:=fF O (P z E) A4;have X:=OZ U A4;have L:=FG (λz:Q3×A3 Int=>An<|val (rh h) z.1) G;have ic:=FG (λz:Q3×A3 Int=>As z.1) G;have io:=FG (λz:Q3×A3 Int=>z.2) G;have zo:=(R.FZ z E).len;have zn:z.2.length<=100:=by dsimp only at zo;omega
    refine A5 L<|A5 L<|A5 X ?_
    refine CZ (λt':A3 T3×A3 (A3 Int)=>t'=JI (W++bif decide (val (rh h) z.1<0) then [z] else [])) (λt' h'=>?_) λIm QU=>?_
    .refine A5 L (A5 L<|A5 X ?_);refine CZ (λt':A3 T3×A3 (A3 Int)=>t'=JI (W++Jh (d.length:Int) (rh h) z)) (λt2 h2=>?_) λk47 fQ=>?_
     .refine Bw Z (λ(t:A3 T3×A3 (A3 Int)) i=>(t.1,t.2,i)) (λB t=>t=JI (W++(Jh (d.length:Int) (rh h) z++B.flatMap (IA (d.length:Int) (rh h) z)))) (λB w D u k62 hB hU Gi=>?_) (λu k62 hU=>?_) (s0:=t2) (by rw[h2];simp) A4
      .dsimp;rw[Bt hB,BF];have mw:=at_mem hB;have bl:=CC hB;have el:(Jh (d.length:Int) (rh h) z++B.flatMap (IA (d.length:Int) (rh h) z)).length<=29793:=by
        rw[DD];have:=xq (d.length:Int) (rh h) z;have:=SZ (l:=B) (f:=IA (d.length:Int) (rh h) z) (w:=1) λw _=>xr _ _ _ _
        omega
       generalize hV:Jh (d.length:Int) (rh h) z++B.flatMap (IA (d.length:Int) (rh h) z)=V at el hU
       let⟨ww,wl2⟩:=fF O (P w mw) A4;have sgw:=OZ wl2 A4;have jv:=FG (λz:Q3×A3 Int=>An<|val (rh h) z.1) hB;have jc:=FG (λz:Q3×A3 Int=>As z.1) hB;have jo:=FG (λz:Q3×A3 Int=>z.2) hB;have wo:=(R.FZ w mw).len;have wn:w.2.length<=100:=by dsimp only at wo;omega
       have fl:Jh (d.length:Int) (rh h) z++(B++[w]).flatMap (IA (d.length:Int) (rh h) z)=V++IA (d.length:Int) (rh h) z w:=by rw[<-hV];simp
       refine CZ (λt':A3 T3×A3 (A3 Int)=>t'=JI (W++(V++IA (d.length:Int) (rh h) z w))) (λt' h'=>A5 (Bk hB A4) (Gi (_,_) (by rw[fl,<-h']))) λk65 h65=>?_
       refine A5 io<|A5 jo<|A5 (mS (R.FZ w mw).nd zn wn)<|A5 L<|A5 L<|A5 X ?_
       have two:decide ((2:Int)<=((List.filter (λx=>decide<|x∈w.2) z.2).length:Int))=decide (2<=(HT z.2 w.2).length):=F5.2 (by unfold HT;omega);rw[sign_neg,two];by_cases h0:val (rh h) z.1<0
       .have H:gd (decide<|val (rh h) z.1<0) true=true:=by rw[B1 h0];rfl
        rw[C6 H];refine A5 jv ?_;rw[C6 H];refine A5 jv ?_;rw[C6 H];refine A5 sgw ?_;rw[Pr];refine Ab (λJ=>?_) λJ=>h65 _ (by rw[hU];unfold IA;rw[J];simp)
        have h1:0<val (rh h) w.1:=by rw[Bq,Bq] at J;exact Aq J.1.2
        have Li:=lvs U wl2;have hne:val (rh h) z.1-val (rh h) w.1≠0:=AK;have hdv:=Hu U<|lvi Li hne
        rw[<-N6] at hdv;have hwz:=S6 (P w mw)<|P z E
        have hsc:=NO hwz hdv;refine A5 L<|A5 L<|A5 L<|A5 L<|A5 jv<|A5 jv<|A5 (Qk U wl2 A4 A4)<|A5 (aq5 U Li A4 A4 hne)<|A5 ic<|A5 jc<|A5 ic<|A5 (Sr (P w mw) (P z E) A4)<|A5 (Sb hwz hdv A4)<|A5 (Yg (P z E) hsc A4) ?_
        have wv:(W++V).length<=1000000000:=by rw[DD];omega
        rw[hU];refine A5 (app_1 A4 (nw _ wv).1)<|A5 (app_1 A4 ?_)<|A5 (app_1 A4 (nw _ wv).2)<|h65 _ ?_
        .have:=Uq (λx=>decide<|x∈w.2) z.2;omega
        .unfold IA;rw[J,BF,<-Fz,pY];rfl
       .have H:gd (decide<|val (rh h) z.1<0) true=false:=by rw[Bb h0];rfl
        rw[DG H,DG H,DG H];rw[Bb h0,M4,M4,Av];refine h65 _ (by rw[hU];unfold IA;rw[Bb h0];simp)
      .dsimp;rw[Bs,Av];refine A5 (Bk G A4)<|next (_,_) ?_
       rw[List.flatMap_append,hW];simp[M7,List.flatMap_nil,HB];exact hU
     .have eq0:decide ((val (rh h) z.1).num.sign=0)=decide (val (rh h) z.1=0):=sign_zero _;rw[eq0,h'];have wv:(W++bif decide (val (rh h) z.1<0) then [z] else []).length<=1000000000:=by rw[DD];cases decide (val (rh h) z.1<0)<;>simp<;>omega
      refine Ab (λJ=>A5 ic<|A5 (app_1 A4 (nw _ wv).1)<|A5 io<|A5 (aC3 A4 A4)<|A5 (app_1 A4 A4)<|A5 (app_1 A4 (nw _ wv).2)<|fQ _ ?_) λJ=>fQ _ ?_
      .unfold Jh;rw[J,BF,<-Fz,pY]
      .unfold Jh;rw[J,Av,HB]
    .rw[sign_neg,hQ];refine Ab (λJ=>A5 ic<|A5 (app_1 A4 (nw W A4).1)<|A5 io<|A5 (aC3 A4 A4)<|A5 (app_1 A4 (nw W A4).2)<|QU _ ?_) λJ=>QU _ ?_
     .rw[J,BF,pY]
     .rw[J,Av,HB]
   .dsimp;rw[Bs,Av,hQ];have hvn:=bQ R.HO;have hsl:d.length<=31:=A4;have sM:∀x∈d,rh x∈M:=λx v=>((R.fac<|rh x).1<|B4.2 ⟨x,v,rfl⟩).1
    have VM:h∉d:=λc=>by
     have:=(R.EB mzo).1 _<|sM h c
     grind
    have Zm:=λp=>ajn (s:=(d,_,_)) R I hz p
    have Zn:=agO (s:=(d,_,_)) (h:=h) R I (d.length:Int);have Zo:=λy=>ajm (s:=(d,_,_)) (h:=h) R I sM (y:=y)
    dsimp only at Zm Zo
    generalize hW:Z.flatMap (I9 (d.length:Int) (rh h) Z)=W at Zm Zn Zo
    have Wl:W.length<=1000000000:=by
     have:=SZ (l:=Z) (f:=I9 (d.length:Int) (rh h) Z) (w:=29793) λz _=>by have:=xn (d.length:Int) (rh h) Z z;omega
     rw[hW] at this;exact CA this<|CA (Em zl<|BJ _) A4
    have F:=Wu I' (K8.refl _) Zm Zn;have lM:∀x∈d++[h],rh x∈rh h::M:=λx v=>(Bi.1 v).elim (λm=>Bg _<|sM x m) λm=>by rw[CW.1 m];exact Ca
    have lo:∀x∈d++[h],Bh x:=λx v=>(Bi.1 v).elim (R.ok x) λm=>by rw[CW.1 m];exact O
    refine A5 (XY [] d Co)<|A5 (XY _ _ Co) ?_
    rw[Fy];refine Au (amO (l:=d++[h]) Co ?_ Wl Zo (cs:=(JI W).1) λx v y my cx cy e=>?_) λr hr=>AV<| .inl ⟨rfl,?_,S',I'⟩
    .rw[QM];exact⟨hvn,AO,λa ma b mb e=>VM (by rw[<-CW.1 mb,<-e];exact ma)⟩
    .let⟨f,mf,ef⟩:=B4.1 ((F<|rh x).2 ⟨lM x v,cx⟩);let⟨g,Q,eg⟩:=B4.1<|(F<|rh y).2 ⟨lM y my,cy⟩
     have:=aiX I' mf Q (by rw[ef,eg];show rn x.1=rn y.1;rw[e]);rw[ef,eg] at this;exact OT (lo x v) (lo y my) this
    .let⟨r1,r2,r3,Z',e1,e2,e3⟩:=hr;refine⟨Z',λx v=>lo x ((r2 x).1 v).1,r1,λk=>?_,?_,e2,by rw[e1];exact Zn,λp=>by rw[e1];exact Zm p,e3⟩
     .rw[e1];constructor
      .intro mk;let⟨x,v,e⟩:=B4.1 mk;rw[<-e];exact⟨lM x ((r2 x).1 v).1,((r2 x).1 v).2⟩
      .rintro⟨mk,ck⟩;rcases Ak.1 mk with e|mk'
       .rw[e] at ck⊢;exact B4.2 ⟨h,(r2 h).2 ⟨AO,ck⟩,rfl⟩
       .let⟨f,mf,ef⟩:=B4.1 ((F k).2 ⟨mk,ck⟩);have:=akJ I I' mf (by rw[ef];exact mk');rw[ef] at this;let⟨x,v,e⟩:=B4.1<|(R.KF I k).2 this
        rw[<-e] at ck⊢;exact B4.2 ⟨x,(r2 x).2 ⟨Fq _ v,ck⟩,rfl⟩
     .rw[r3];unfold JI;have:W.map (λz=>As z.1)=(W.map (·.1)).map As:=by rw[LB];rfl
      rw[this,<-e1,LB];rfl
def uA{F:A3 BY}(o:∀h∈l,Bh h)(a:l.length<=50)(I:By F (l.map rh)):Yd (λr=>∃Z,RS r (l.map rh) Z) (Fu l):=by
 unfold Fu;refine Au (ku o a) λx c=>AV ?_
 rcases c with⟨_,h⟩|⟨_,_,h⟩|⟨_,_,_,_,_,h⟩
 .exact absurd I.HZ h
 .exact absurd I.int h
 .exact h
def tS(R:RS s (l.map rh) Z)(I:By S (l.map rh))(u:∀h∈l,Bh h)(f:∀h∈b,Bh h)(v:l.length+b.length<=32):Yd (λt=>(t.2=true/\∃N S Z,(∀k,k∈N↔k∈b.map rh\/k∈l.map rh)/\RS t.1 N Z/\By S N)\/(t.2=false/\ ¬HJ (b.map rh++l.map rh))) (RF s b):=by
 unfold RF;refine Bw b (λ(t:G7×Bool) i=>(t.1,t.2,i)) (λA t=>(t.2=true/\∃N S Z,(∀k,k∈N↔k∈A.map rh\/k∈l.map rh)/\N.length=A.length+l.length/\RS t.1 N Z/\By S N)\/(t.2=false/\ ¬HJ (b.map rh++l.map rh))) (λA h C t k d j next=>?_) (λt k j=>?_) (s0:=(s,true)) (.inl ⟨rfl,l.map rh,S,Z,AO,AO,R,I⟩) A4
 .dsimp only;rw[Bt d,I3];have F:=CC d;rcases j with⟨e,N,T,Y,n1,n2,R1,I1⟩|⟨e,hn⟩
  .rw[e,BF];have w:=f h<|at_mem d
   have sub:∀g∈rh h::N,g∈b.map rh++l.map rh:=λg c=>by
    rcases Ak.1 c with e|c
    .rw[e];exact Fq _<|B4.2 ⟨h,at_mem d,rfl⟩
    .rcases(n1 g).1 c with m|m
     .let⟨x,mx,e⟩:=B4.1 m;exact Fq _ (B4.2 ⟨x,by rw[d];exact Fq _ mx,e⟩)
     .exact QN _ m
   have F1:Gv 14 N:=λg c=>by
    rcases Bi.1 (sub g<|Bg _ c) with m|m
    .exact Bh.F1 f g m
    .exact Bh.F1 u g m
   have B:∀g∈N,GF g.1:=λg c=>by
    rcases Bi.1 (sub g<|Bg _ c) with m|m
    .exact Bh.LP f g m
    .exact Bh.LP u g m
   refine A5 (Bl d)<|Au (lS R1 I1 w F1 B A4) λr D=>A5 (Bk d A4)<|next r ?_
   rcases D with⟨e1,⟨Z',R'⟩,S',I'⟩|⟨e1,hn⟩
   .refine .inl ⟨e1,_,S',Z',λk=>?_,Co,R',I'⟩;rw[Ak,n1,I5,Bi];simp only[JT,Y1,CW];constructor
    .rintro(a|a|a)
     .exact .inl<| .inr a
     .exact .inl<| .inl a
     .exact .inr a
    .rintro((a|a)|a)
     .exact .inr<| .inl a
     .exact .inl a
     .exact .inr<| .inr a
   .exact .inr ⟨by rw[e1],λ⟨q,E⟩=>hn ⟨q,λg c=>E g<|sub g c⟩⟩
  .rw[e,Av];exact AV<| .inr ⟨rfl,hn⟩
 .dsimp only;rw[Bs,M4,Av];rcases j with⟨e,N,T,Y,n1,n2,R1,I1⟩|⟨e,hn⟩
  .exact AV<| .inl ⟨e,N,T,Y,n1,R1,I1⟩
  .exact AV<| .inr ⟨e,hn⟩
def afE(I:By S (l.map rh))(d:∀h∈l,Bh h)(f:∀h∈b,Bh h)(a:l.length+b.length<=32):Yd (λr=>r=true↔HJ (b.map rh++l.map rh)) (Zx l b):=by
 unfold Zx;refine Au (uA d A4 I) λs ⟨Z,R⟩=>Au (tS R I d f a) λr i=>AV ?_
 rcases i with⟨e,N,T,Y,n1,R1,I1⟩|⟨e,hn⟩
 .refine⟨λ_=>?_,λ_=>e⟩;let⟨q,j⟩:=I1.int;exact⟨q,λg m=>j g<|(n1 g).2<|Bi.1 m⟩
 .exact⟨λc=>(by rw[e] at c;cases c),λc=>absurd c hn⟩
def abY(l:A3 BV)(r:Int):Prop:=(r=11/\ ¬Asc l)\/(Asc l/\((r=13/\ ¬Dp (l.map rh))\/(r=12/\Dp (l.map rh)/\ ¬HJ (l.map rh))\/(Dp (l.map rh)/\HJ (l.map rh)/\∃b:A3 BV,b.Pairwise Hs/\(∀S,By S (l.map rh)->∀h,h∈b↔h∈l/\rh h∈S.map (·.1))/\r=bif decide (b.length<l.length) then 1 else 0)))
def aeD(o:∀h∈l,Bh h)(v:ZD l=some 0)(L:l.length<=32):Yd (abY l) (Hd l):=by
 unfold Hd;rw[Bb (show¬32<(l.length:Int) by omega),Av,v];refine A5 rfl ?_;show Yd _ (lp _ _ 1);have j:Asc l->∀k:Int->A9 Int,Yd (abY l)
   (bd (PR l) λq=>cond ((decide<|q.2=0)&&(decide<|(q.1.1.length:Int)<(l.length:Int))) (some 1)<|some q.2):=λd _=>by
  refine Au (ku o A4) λr w=>?_
  rcases w with⟨e,h⟩|⟨e,h1,h2⟩|⟨e,h1,h2,h3,h4,_⟩
  .rw[e];exact AV<| .inr ⟨d,.inl ⟨rfl,h⟩⟩
  .rw[e];exact AV<| .inr ⟨d,.inr<| .inl ⟨rfl,h1,h2⟩⟩
  .rw[e];have D:decide ((r.1.1.length:Int)<(l.length:Int))=decide (r.1.1.length<l.length):=F5.2 A4;rw[D];show Yd _ (cond (decide<|r.1.1.length<l.length) (some 1)<|some 0);cases u:decide (r.1.1.length<l.length)
   .exact AV (.inr ⟨d,.inr (.inr ⟨h1,h2,r.1.1,h3,h4,by rw[u];rfl⟩)⟩)
   .exact AV (.inr ⟨d,.inr (.inr ⟨h1,h2,r.1.1,h3,h4,by rw[u];rfl⟩)⟩)
 cases l with
 |nil=>obtain⟨F,hF⟩:∃F,18446744073709551616=F+1:=⟨18446744073709551615,rfl⟩;rw[hF];exact j (λA x y C e=>by cases A<;>cases e) λ_=>none
 |cons a T=>
  refine OQ (a::T) (λ(_:Unit) i=>i) (λA _=>A≠[]/\Asc A) (λA x C s k g d next=>?_) (λs k d=>?_) [a] T (s0:=()) rfl ⟨AO,λA x y C e=>by have:=congrArg List.length e;simp at this;omega⟩ A4
  .rw[Bt g,BF];let⟨E,d⟩:=d;obtain rfl|⟨B,y,rfl⟩:A=[]\/∃B y,A=B++[y]:=(eK A).imp id λ⟨B,y,h⟩=>⟨B,y,by rw[h,List.concat_eq_append]⟩
   .exact absurd rfl E
   .have i1:AB (a::T) (B.length:Int)=some y:=by rw[Hq,g];simp
    have G:=Bl g;have N:=CC g;have f:=Bk g A4;have H:(B++[y]).length=B.length+1:=AO;have I:=next ()
    have J:=aBk (l:=a::T) (A:=B) (x:=y) (y:=x) (C:=C) (by rw[g];simp) d
    generalize (B++[y]).length=m at*
    subst H;refine A5 (x:=(B.length:Int)) (by rw[Dj ⟨A4,A4⟩];exact congrArg some A4)<|A5 i1<|A5 G<|A5 (lR y.1 x.1) ?_
    refine Ab (λt=>AV<| .inl ⟨rfl,λc=>?_⟩) λt=>A5 f (I ⟨AO,J (by simpa using t)⟩)
    have:=c B y x C (by rw[g];simp);have K: ¬HY y.1 x.1:=by simpa using t
    exact K this
  .rw[Bs,Av];exact j d.2 k
def ajE(o:∀h∈l,Bh h)(I:By S (l.map rh))(i:b.Pairwise Hs)(c:∀h,h∈b↔h∈l/\rh h∈S.map (·.1)):b.length=S.length:=by
 have j:(S.map (·.1)).Nodup:=J7.2<|I.Ld.imp λh=>h
 have m:(b.map rh).Nodup:=J7.2 (QO (λ{x y} a q h e=>by rw[OT (o x ((c x).1 a).1) (o y ((c y).1 q).1) e] at h;exact fI _ h) i)
 have r:=IT m λx a=>by obtain⟨h,d,rfl⟩:=B4.1 a;exact((c h).1 d).2
 have t:=IT j λx a=>by obtain⟨f,g,rfl⟩:=B4.1 a;let⟨h,d,e⟩:=B4.1 (I.Ck f g).1;refine B4.2 ⟨h,(c h).2 ⟨d,?_⟩,e⟩;rw[e];exact B4.2 ⟨f,g,rfl⟩
 rw[BL,BL] at r t;omega
abbrev DL:=A3 BV
def Small(l:DL):Prop:=(∀h∈l,in3 h.1)/\l.length<=10/\∀h∈l,h.2.length<=14
def Ht(l:DL)(S:A3 BY):Prop:=(∀h∈l,Bh h)/\By S (l.map rh)/\∀k∈l.map rh,k∈S.map (·.1)
def agv{l:DL}(I:By S (l.map rh))(h: ¬S.length<l.length):∀k∈l.map rh,k∈S.map (·.1):=λk a=>CB λc=>by
 have d:(k::S.map (·.1)).Nodup:=Ug.2 ⟨c,J7.2<|I.Ld.imp λh=>h⟩;have:=IT d λx g=>(Ak.1 g).elim (λe=>by rw[e];exact a) λm=>by obtain⟨f,i,rfl⟩:=B4.1 m;exact(I.Ck f i).1
 simp at this;omega
theorem bO{l:DL}(m:Small l):∃k,Nl l=some k/\Hd l=some k.2/\(k.2=0->Ht l k.1):=by
 let⟨hi,q,short⟩:=m;let⟨c,g,i,t⟩:=ach (λh j=>⟨hi h j,short h j⟩) A4;have a:decide ((32:Int)<(l.length:Int))=false:=Bb A4;by_cases d:c=0
 .subst d;have o:=t rfl;let⟨k,k1,f⟩:=agp o g A4;let⟨r,r1,r2⟩:=aeD o i A4;have u:k.2=r:=by
   rcases f with⟨e,h⟩|⟨h,f⟩<;>rcases r2 with⟨e',h'⟩|⟨h',r2⟩
   .rw[e,e']
   .grind
   .grind
   .rcases f with⟨e,n⟩|⟨e,n1,n2⟩|⟨I,e⟩<;>rcases r2 with⟨e',n'⟩|⟨e',n1',n2'⟩|⟨n1',n2',b',p1,p2,e'⟩
    .rw[e,e']
    .grind
    .grind
    .grind
    .rw[e,e']
    .grind
    .exact absurd I.HZ n'
    .exact absurd I.int n2'
    .rw[e,e',ajE o I p1<|p2 _ I]
  refine⟨k,k1,by rw[u];exact r1,λz=>?_⟩;rcases f with⟨e,h⟩|⟨h,⟨e,_⟩|⟨e,_⟩|⟨I,e⟩⟩
  .grind
  .grind
  .grind
  .refine⟨o,I,agv I λc=>?_⟩;rw[e,B1 c] at z;cases z
 .refine⟨([],c),?_,?_,λz=>absurd z d⟩
  .unfold Nl;rw[a,Av,g];show cond (!decide (c=0)) _ _=_;rw[Bb d];rfl
  .unfold Hd;rw[a,Av,i];show cond (!decide (c=0)) _ _=_;rw[Bb d];rfl
def Yd.tw(h:S.length<=1000):Yd (λr=>r=S.map (·.1)) (R8 S):=by
 unfold R8;refine Bw S (λ(t:A3 H3) i=>(t,i)) (λA t=>t=A.map (·.1)) (λA f C t k a c next=>?_) (λt k c=>?_) (s0:=[]) rfl A4
 .dsimp;have d:=CC a;rw[Bt a,BF];exact A5 (Bl a) (A5 (app_1 A4 (by rw[c,BL];omega)) (A5 (Bk a A4) (next _ (by rw[c];simp))))
 .dsimp;rw[Bs,Av];exact AV c
def LO(y x:DL):Prop:= ¬HJ (y.map rh++x.map rh)
def OY(f:DL->Int):A3 DL->Int
 |[]=>0|x::l=>if f x=0 then OY f l else f x
def nD{f:DL->Int}{x:DL}{C:A3 DL}(a:f x≠0):∀{A:A3 DL},(∀y∈A,f y=0)->OY f (A++x::C)=f x
 |[],_=>by rw[Fy,OY,if_neg a]
 |y::A,h=>by rw[OJ,OY,if_pos<|h y Ca];exact nD a λz c=>h z<|Bg _ c
def nu{f:DL->Int}:∀{A:A3 DL},(∀y∈A,f y=0)->OY f A=0
 |[],_=>rfl
 |y::A,h=>by rw[OY,if_pos<|h y Ca];exact nu λz a=>h z<|Bg _ a
def L1{A:A3 α}{x:α}{p:α->Prop}(h:∀y∈A,p y)(a:p x):∀y∈A++[x],p y:=λy c=>(Bi.1 c).elim (h y) λm=>by rw[CW.1 m];exact a
def R5(f:DL->Int)(l:A3 DL)(v:Int):Prop:=(OY f l≠0/\v=OY f l)\/(OY f l=0/\((v=16/\ ¬l.Pairwise LO)\/(v=0/\l.Pairwise LO)))
theorem R5.same{f:DL->Int}{l:A3 DL}{v w:Int}(a:R5 f l v)(b:R5 f l w):v=w:=by unfold R5 at a b;grind
theorem ko{l:A3 DL}(T:l.length<=64)(j:∀x∈l,Small x):Yd (R5 (λx=>(Hd x).getD 0) l) (PA l):=by
 have F:∀x∈l,Hd x=some ((Hd x).getD 0):=λx m=>by
  let⟨k,_,e,_⟩:=bO<|j x m
  rw[e];rfl
 unfold PA;rw[Bb (show¬(64:Int)<(l.length:Int) by omega),Av];refine Bw l (λ(_:Unit) i=>i) (λA _=>∀y∈A,(Hd y).getD 0=0) (λA x C s k a d next=>?_) (λs k d=>?_) (s0:=()) AO A4
 .rw[Bt a,BF];refine A5 (Bl a) (A5 (F x<|at_mem a) (Ab (λg=>AV<| .inl ?_) λg=>A5 (Bk a A4) (next () (L1 d (by simpa using g)))));have t:(Hd x).getD 0≠0:=by simpa using g
  have:=nD (f:=λx=>(Hd x).getD 0) (C:=C) t d;rw[a,this];exact⟨t,rfl⟩
 .rw[Bs,Av];have E:=nu (f:=λx=>(Hd x).getD 0) d;refine Bw l (λ(_:Unit) i=>i) (λA _=>A.Pairwise LO) (λA x C s k a v next=>?_) (λs k v=>?_) (s0:=()) List.Pairwise.nil A4
  .rw[Bt a,BF];have U:=CC a;have m:=at_mem a;let⟨V,_,G,t⟩:=bO<|j x m
   let⟨H,I,_⟩:=t (by have:=d x m;rw[G] at this;exact this);refine Bw A (λ(_:Unit) i=>i) (λB _=>∀y∈B,LO y x) (λB y D s J u w K=>?_) (λs J w=>?_) (s0:=()) AO A4
   .rw[Bt u,BF];have q:y∈l:=AK;let⟨W,_,L,N⟩:=bO<|j y q
    let⟨O,_,_⟩:=N (by have:=d y q;rw[L] at this;exact this);have P:AB l (B.length:Int)=some y:=Bl (C:=D++x::C) (by rw[a,u];simp);have s1:=(j x m).2.1;have s2:=(j y q).2.1;refine A5 (Bl a)<|A5 P<|Au (afE I H O A4) λr Q=>Ab (λg=>AV<| .inr ⟨E,.inl ⟨rfl,λc=>?_⟩⟩) λg=>A5 (Bk u A4)<|K ()<|L1 w λc=>?_
    .rw[a] at c;exact(G1.1 c).2.2 y (at_mem u) x Ca<|Q.1 g
    .grind
   .rw[Bs,Av];exact A5 (Bk a A4) (next () (G1.2 ⟨v,SU _ _,λy q z R=>by rw[CW.1 R];exact w y q⟩))
  .rw[Bs,Av];exact AV<| .inr ⟨E,.inr ⟨rfl,v⟩⟩
theorem aha{l:A3 DL}(hl:l.length<=64)(L:∀x∈l,Small x):Yd (λr=>R5 (λx=>(Hd x).getD 0) l r.2/\(r.2=0->∃W:A3 (DL×A3 BY),l=W.map (·.1)/\r.1=W.map (·.2)/\∀w∈W,Ht w.1 w.2/\Nl w.1=some (w.2,0))) (He l):=by
 unfold He;rw[Bb (show¬(64:Int)<(l.length:Int) by omega),Av];refine Bw l (λ(t:A3 (A3 BY)) i=>(t,i)) (λA t=>(∀y∈A,(Hd y).getD 0=0)/\∃W:A3 (DL×A3 BY),A=W.map (·.1)/\t=W.map (·.2)/\∀w∈W,Ht w.1 w.2/\Nl w.1=some (w.2,0)) (λA x C t k d O next=>?_) (λt k O=>?_) (s0:=[]) ⟨AO,[],rfl,rfl,AO⟩ A4
 .dsimp;rw[Bt d,BF];have al:=CC d;let⟨P,e1,e2,F⟩:=bO<|L x<|at_mem d
  have Q:(Hd x).getD 0=P.2:=by rw[e2];rfl
  let⟨G,W,j,R,E⟩:=O;have tl:t.length=A.length:=AK;refine A5 (Bl d)<|A5 e1<|Ab (λv=>AV ⟨.inl ?_,λc=>?_⟩) λv=>A5 (app_1 A4 A4)<|A5 (Bk d A4)<|next _ ?_
  .have F:(Hd x).getD 0≠0:=by rw[Q];simpa using v
   have:=nD (f:=λx=>(Hd x).getD 0) (C:=C) F G;rw[d,this];exact⟨F,Q.symm⟩
  .grind
  .have z:P.2=0:=by simpa using v
   exact⟨L1 G<|Q.trans z,W++[(x,P.1)],by rw[j];simp,by rw[R];simp,L1 E ⟨F z,by rw[e1,<-z]⟩⟩
 .dsimp;rw[Bs,Av];let⟨G,W,j,R,E⟩:=O;have f0:=nu (f:=λx=>(Hd x).getD 0) G;have wl:W.length<=64:=AK;rw[R];have T:(W.map (·.2)).length=W.length:=BL _;refine Bw W (λ(_:Unit) i=>i) (λA _=>(A.map (·.1)).Pairwise LO) (λA x C s k d U next=>?_) (λs k U=>?_) (s0:=()) List.Pairwise.nil A4
  .rw[T,Bt d,BF];have al:=CC d;have mx:=at_mem d;let⟨ox,Ix,fx⟩:=(E x mx).1;have sb:Bo (W.map (·.2)) 0 (A.length:Int)=some (A.map (·.2)):=by rw[DV A4 A4 (by rw[T];omega),d];simp
   refine A5 (FG _ d)<|A5 sb ?_
   have I:(A.map (·.2)).length=A.length:=BL _;refine Bw A (λ(_:Unit) i=>i) (λB _=>∀y∈B,LO y.1 x.1) (λB y D s k2 J V Gi=>?_) (λs k2 V=>?_) (s0:=()) AO A4
   .rw[I,Bt J,BF];have K:y∈W:=AK;let⟨oy,Iy,fy⟩:=(E y K).1;have s1:=(L x.1 (by rw[j];exact B4.2 ⟨x,mx,rfl⟩)).2.1;have s2:=(L y.1 (by rw[j];exact B4.2 ⟨y,K,rfl⟩)).2.1;have ly:=Iy.len;rw[BL] at ly;have X:∀k∈y.2.map (·.1),k∈y.1.map rh:=λk mk=>by obtain⟨f,mf,rfl⟩:=B4.1 mk;exact(Iy.Ck f mf).1
    have F1:Gv 14 (y.2.map (·.1)++x.1.map rh):=λg u=>(Bi.1 u).elim (λm=>Bh.F1 oy g<|X g m)<|Bh.F1 ox g
    have Y:∀g∈y.2.map (·.1)++x.1.map rh,GF g.1:=λg u=>(Bi.1 u).elim (λm=>Bh.LP oy g<|X g m)<|Bh.LP ox g
    refine A5 (FG _ J)<|Au (Yd.tw A4) λH eH=>?_
    rw[eH];refine Au (Yd.kJ Ix F1 A4 Co (λh mh=>(Y h<|Fq _ mh).nz) λa I b mb=>Rk (Y a I)<|Y b mb) λr hr=>?_
    have hr:r.2=true↔HJ (y.1.map rh++x.1.map rh):=by
     rcases hr with⟨e,N,n1,_,n3⟩|⟨e,hn⟩
     .refine⟨λ_=>?_,λ_=>e⟩;let⟨q,hq⟩:=n3.int;exact⟨q,λg u=>hq g<|(n1 g).2<|(Bi.1 u).imp (fy g) id⟩
     .refine⟨λc=>(by rw[e] at c;cases c),λ⟨q,hq⟩=>absurd ⟨q,λg u=>hq g ?_⟩ hn⟩;exact Bi.2<|(Bi.1 u).imp (X g) id
    refine Ab (λv=>AV ⟨.inr ⟨f0,.inl ⟨rfl,λc=>?_⟩⟩,λc=>by cases c⟩) λv=>A5 (Bk J A4)<|Gi ()<|L1 V λc=>?_
    .rw[j,d,I5,JT] at c;exact(G1.1 c).2.2 y.1 (B4.2 ⟨y,at_mem J,rfl⟩) x.1 Ca<|hr.1 v
    .grind
   .rw[I,Bs,Av];refine A5 (Bk d A4)<|next () ?_
    rw[I5];refine G1.2 ⟨U,SU _ _,λy K z mz=>?_⟩;obtain⟨w,mw,rfl⟩:=B4.1 K;rw[CW.1 mz];exact V w mw
  .rw[T,Bs,Av];exact AV ⟨.inr ⟨f0,.inr ⟨rfl,by rw[j];exact U⟩⟩,λ_=>⟨W,j,rfl,E⟩⟩
def ae9{l:DL}{n k:Nat}(g:n<=100000000):Yd (λb=>b=true->l.length<=n/\∀h∈l,h.2.length<=k) (ZI l (n:Int) (k:Int)):=by
 unfold ZI;refine Ab (λ_=>AV λc=>by cases c) λa=>?_
 have f:l.length<=n:=by have:=BX a;omega
 refine Bw l (λ(_:Unit) i=>i) (λA _=>∀h∈A,h.2.length<=k) (λA x C u k d e next=>?_) (λu k e=>?_) (s0:=()) AO A4
 .rw[Bt d,BF];refine A5 (Bl d) (Ab (λ_=>AV λc=>by cases c) λa=>A5 (Bk d A4)<|next ()<|L1 e ?_);have:=BX a;omega
 .rw[Bs,Av];exact AV λ_=>⟨f,e⟩
def bY{l:A3 DL}{n:Nat}(j:n<=100000000):Yd (λb=>b=true->l.length<=n/\∀x∈l,x.length<=10/\∀h∈x,h.2.length<=14) (Tn l (n:Int)):=by
 unfold Tn;refine Ab (λ_=>AV λc=>by cases c) λa=>?_
 have f:l.length<=n:=by have:=BX a;omega
 refine Bw l (λ(_:Unit) i=>i) (λA _=>∀x∈A,x.length<=10/\∀h∈x,h.2.length<=14) (λA x C u k d e next=>?_) (λu k e=>?_) (s0:=()) AO A4
 .rw[Bt d,BF];refine A5 (Bl d) (Au (ae9 (n:=10) (k:=14) A4) λb g=>Ab (λ_=>AV λc=>by cases c) λa=>A5 (Bk d A4)<|next ()<|L1 e<|g ?_);simpa using a
 .rw[Bs,Av];exact AV λ_=>⟨f,e⟩
end
section
variable{s:List UInt8}(h:s.length<=100)
include h
theorem xN:Yd (λk=>0<=k/\k<=(s.length:Int)) (JK s):=by
 unfold JK;refine Bw s (λ(_:Unit) i=>i) (λA _=>True) (λA x C u k a _ next=>?_) (λu k _=>?_) (s0:=()) trivial A4
 .have al:=CC a;rw[Bt a,BF];exact A5 (Bl a)<|Ab (λ_=>AV ⟨A4,A4⟩) λ_=>A5 (Bk a A4)<|next () trivial
 .rw[Bs,Av];exact AV ⟨A4,A4⟩
theorem ao1:Yd (λr=>r.length<=100) (Ra s):=by unfold Ra;exact Au (xN h) λk a=>A5 (DV A4 A4 A4) (AV (by rw[Hj,Dd];omega))
theorem aog:Yd (λr=>r.length<=100) (Rc s):=by
 unfold Rc;refine Au (xN h) λk c=>Ab (λ_=>AV IK) λa=>?_
 have:=BX a;exact A5 BE (A5 (DV A4 A4 A4) (AV (by rw[Hj,Dd];omega)))
theorem ap9:Yd (λ_=>True) (Re s):=by
 unfold Re Hv;have a:∀r:Int,(r<0->0<s.length)->Yd (λ_=>True) (cond (decide<|r<0) (bd (Bo s 1 (s.length:Int)) λd=>some d)<|some s):=λr e=>Ab (λf=>by
  have:=e<|Aq f
  exact A5 (DV A4 A4 A4)<|AV trivial) λ_=>AV trivial
 refine Au (S:=λr=>r<0->0<s.length) (Ab (λ_=>AV λc=>absurd c<|Int.lt_irrefl 0) λ_=>?_) a;cases s with
 |nil=>exact AV λc=>absurd c IK
 |cons x t=>rw[B1 (show(0:Int)<((x::t).length:Int) by simp),show gd true true=true from rfl,C6 rfl];exact A5 (x:=x) rfl (Ab (λ_=>AV λ_=>by simp) λ_=>AV λ_=>by simp)
end
section
variable{n:Nat}{x:Rat}
def gS{α ρ:Type}{R:ρ->Prop}{S:α->Prop}{g:Bool}{d:α}{e:A9 α}{K:α->A9 ρ}(a:Yd S e)(c:S d)(k:∀x,S x->Yd R (K x)):Yd R (Trn.Aw g d e K):=by let⟨x,e,f⟩:=a;exact FC (λ_=>⟨x,e,k x f⟩) λ_=>k d c
def aoS{s:AA}(h:s.length<=14):Yd (λ_=>True) (aU s 5):=by
 let⟨c,_,a,_⟩:=X6 h;unfold aU;refine A5 (x:=10) rfl<|A5 (x:=12) rfl ?_
 exact gS (S:=λ_=>True) ⟨c,a,trivial⟩ trivial λ_ _=>gS (ao1 A4) IK λ_ d=>gS (ap9 d) trivial λ_ _=>gS (aog A4) IK λ_ _=>AV trivial
def aga{h:BV}(hi:in3 h.1)(j:h.2.length<=14):Yd (λ_=>True) (ZX h 999 5):=by
 let⟨c,_,w,_⟩:=jw hi j;let⟨f,E,_⟩:=aoS j;unfold ZX;refine A5 w ?_;have a:∀m:Bool,Yd (λ_=>True) (cond ((!decide (c=0))||(!m)) (some false) (BA (λk7 (d:Int)=>cond (decide<|d<3) (bd (AB ([h.1.1,h.1.2.1,h.1.2.2]:A3 Int) d) λq=>bd (AG<|0-999) λr=>Aw (gd (decide<|q<r) false) (0) (AB ([h.1.1,h.1.2.1,h.1.2.2]:A3 Int) d) λF=>cond (((decide<|q<r)||(decide<|999<F))) (some false) (bd (AG<|d+1) λg=>k7 g)) (some true)) 0)):=λm=>Ab (λ_=>AV trivial) λ_=>by
  refine Bw [h.1.1,h.1.2.1,h.1.2.2] (λ(_:Unit) i=>i) (λB _=>True) (λB x D t u e G next=>?_) (λt u G=>?_) (s0:=()) trivial AO
  .have bl:=CC e;rw[show [h.1.1,h.1.2.1,h.1.2.2].length=3 from rfl] at bl;rw[B1 (show(B.length:Int)<3 by omega),BF];refine A5 (Bl e)<|A5 (x:= -999) rfl ?_
   have v:=A5 (K:=λg=>u g) (Bk e AO)<|next () trivial
   exact FC (λ_=>⟨x,Bl e,Ab (λ_=>AV trivial) λ_=>v⟩) λ_=>Ab (λ_=>AV trivial) λ_=>v
  .rw[show decide ((([h.1.1,h.1.2.1,h.1.2.2].length:Nat):Int)<3)=false from rfl,Av];exact AV trivial
 exact FC (λ_=>⟨f,E,a f⟩) λ_=>a false
def aiV{l:A3 DL}(t:n<=60)(u:l.length<=n)(d:∀x∈l,Small x):Yd (λ_=>True) (aS l (n:Int) 5):=by
 unfold aS;refine Au (bY A4) λb v=>Ab (λ_=>AV trivial) λ_=>?_
 refine Bw l (λ(_:Unit) i=>i) (λA _=>True) (λA x C s k a e next=>?_) (λs k e=>?_) (s0:=()) trivial A4
 .rw[Bt a,BF];let⟨f,w,g⟩:=d x<|at_mem a
  refine Bw x (λ(_:Unit) i=>i) (λB _=>True) (λB y D s j c m q=>?_) (λs j m=>?_) (s0:=()) trivial A4
  .refine A5 (Bl a) ?_;rw[Bt c,BF];exact A5 (Bl a)<|A5 (Bl c)<|Au (aga (f y<|at_mem c)<|g y<|at_mem c) λr _=>Ab (λ_=>AV trivial) λ_=>A5 (Bk c A4)<|q () trivial
  .refine A5 (Bl a) ?_;rw[Bs,Av];exact A5 (Bk a A4)<|next () trivial
 .rw[Bs,Av];exact Au (ko A4 d) λ_ _=>AV trivial
def ak0{l:A3 DL}(m:n<=60)(hi:∀x∈l,∀h∈x,in3 h.1):Yd (λr=>r=false->64<l.length\/(l.length<=n/\∀x∈l,Small x)) (a8 l (n:Int)):=by
 unfold a8;refine Ab (λg=>?_) λg=>?_
 .have hl:=Aq g;have HX:64<l.length:=A4;refine FC (λ_=>⟨_,DV A4 A4 A4,?_⟩) λ_=>?_
  .refine FC (λ_=>?_) λ_=>AV λ_=> .inl HX
   let⟨r,r1,_⟩:=bY (l:=(l.take (1:Int).toNat).drop (0:Int).toNat) (n:=1) A4;exact⟨r,r1,AV λ_=> .inl HX⟩
  .refine FC (λ_=>?_) λ_=>AV λ_=> .inl HX
   let⟨r,r1,_⟩:=bY (l:=([]:A3 DL)) (n:=1) A4;exact⟨r,r1,AV λ_=> .inl HX⟩
 .refine Au (bY A4) λb e=>?_
  cases b with
  |false=>exact AV λc=>by cases c
  |true=>
   let⟨d,e⟩:=e rfl;have a:∀x∈l,Small x:=λx i=>⟨hi x i,e x i⟩
   let⟨v,v1,_⟩:=ko A4 a;let⟨f,j,_⟩:=aiV m d a;refine FC (λ_=>⟨v,v1,?_⟩) λ_=>FC (λ_=>⟨f,j,AV λ_=> .inr ⟨d,a⟩⟩) λ_=>AV λ_=> .inr ⟨d,a⟩
   exact FC (λ_=>⟨f,j,AV λ_=> .inr ⟨d,a⟩⟩) λ_=>AV λ_=> .inr ⟨d,a⟩
def aoA{x m:Nat}(k:Nat)(e:m=3*k)(h:x<2^m):x<10^k:=by rw[e,Nat.pow_mul] at h;exact I6 h<|pM A4 k
theorem zX{z:Int}(f:Cc z=true):U6 z=some (decide<|600<(B5 z.natAbs).length):=by
 have key:Yd (λb=>b=decide (600<(B5 z.natAbs).length)) (U6 z):=by
  unfold U6 qn;rw[f];refine A5 (x:=(bif decide (z=0) then 0 else(Nat.log2 z.natAbs:Int)+1)) rfl ?_;cases a:decide ((1800:Int)<(bif decide (z=0) then 0 else(Nat.log2 z.natAbs:Int)+1))
  .refine AV (Bb λc=>?_).symm;have a:=BX a;have j:(B5 z.natAbs).length<=600:=by
    refine Jt 600 _ A4 ?_;by_cases g:z=0
    .grind
    .rw[Bb g,Av] at a;have:=(N7 (n:=z.natAbs) (k:=1800) A4).1 A4;exact aoA (m:=1800) 600 rfl this
   omega
  .rw[C6 Dn];refine A5 (x:=Br z) (by unfold ND;rw[f];rfl) ?_;rw[C6 Dn];have d:R7 (Br z) [45]=some (B5 z.natAbs):=by
    unfold Br;cases q:decide (z<0)
    .rw[Av];have i:(B5 z.natAbs).head?≠some 45:=λe=>by
      have:=DC.1 (KR z.natAbs).1 45<|List.mem_of_mem_head? e
      cases this
     unfold R7 Vl;rw[vF i];rfl
    .rw[BF];unfold R7 Vl;rw[uX];show bd (bd (Bo (45::B5 z.natAbs) (([45]:AA).length:Int) ((45::B5 z.natAbs).length:Int)) _) _=_;rw[DV AO Co A4];simp;rfl
   refine A5 d<|AV ?_
   rw[I3];exact F5.2 A4
 obtain⟨r,e,rfl⟩:=key;exact e
def HX(q:Rat):Bool:=decide (600<(B5 q.num.natAbs).length)||decide (600<(B5 q.den).length)
def MY(v:Q3):Bool:=HX v.1||(HX v.2.1||HX v.2.2)
def ao7(h:lv n x)(a:n<=90000000):Cc x.num=true/\Cc (x.den:Int)=true:=by have b:=KA h;exact⟨Lx b.1 A4,Lx (by rw[EH];exact b.2) A4⟩
def ax(h:lv n x)(a:n<=90000000):PD x=some (HX x):=by
 let⟨s1,s2⟩:=ao7 h a;unfold PD HX;rw[zX s1,Bx];cases decide (600<(B5 x.num.natAbs).length)
 .rw[C6 Dn,zX s2,EH];rfl
 .rfl
def alB{v:Q3}(h:BS n v)(a:n<=90000000):ZV v=some (MY v):=by
 unfold ZV MY;rw[ax h.1 a,Bx];cases HX v.1
 .rw[C6 Dn,ax h.2.1 a,Bx];cases HX v.2.1
  .rw[C6 Dn,ax h.2.2 a];rfl
  .rfl
 .rfl
def gM(h:HX x=false):x.num.natAbs<10^600/\x.den<10^600:=by unfold HX at h;let⟨c,d⟩:=Ie.1 h;have a:=BX c;have b:=BX d;exact⟨fG (k:=600)<|Y7 a,fG (k:=600)<|Y7 b⟩
def anP{v:Q3}(h:MY v=false):Za v=some (As v):=by unfold MY at h;let⟨e,d⟩:=Ie.1 h;let⟨d,f⟩:=Ie.1 d;have a:=gM e;have b:=gM d;have c:=gM f;unfold Za;rw[bJ a.1 a.2,Bx,bJ b.1 b.2,Bx,bJ c.1 c.2];rfl
end
section
variable{n:Nat}{x:Rat}(h:lv n x)(hn:n<=1800000)
include h hn
theorem aAX:JK (An x)=some ((Br x.num).length:Int):=by
 have g:=OW h hn;have e:An x=Br x.num++DQ x:=by unfold An DQ;cases decide (x.den=1)<;>simp
 have j:∀y∈Br x.num,y≠47:=λy a=>by
  unfold Br at a;cases d:decide (x.num<0)
  .rw[d,Av] at a;exact bM _ y a
  .rw[d,BF] at a;rcases Ak.1 a with e|m
   .rw[e];decide
   .exact bM _ y m
 refine mT (by rw[e,DD];omega) (λi hi c=>?_) (λf=>?_) A4
 .grind
 .rw[e,K5<|BJ _,pK];rw[e,DD] at f;unfold DQ at f⊢;cases d:decide (x.den=1)
  .rfl
  .grind
theorem aq0:Ra (An x)=some (Br x.num):=by
 have a:=OW h hn;have e:An x=Br x.num++DQ x:=by unfold An DQ;cases decide (x.den=1)<;>simp
 have l:(An x).length=(Br x.num).length+(DQ x).length:=AK;unfold Ra;rw[aAX h hn,Bx,DV A4 A4 A4];rw[e];simp[Trn.bd]
theorem aq6:Rc (An x)=some (B5 x.den):=by
 have f:=OW h hn;have e:An x=Br x.num++DQ x:=by unfold An DQ;cases decide (x.den=1)<;>simp
 have l:(An x).length=(Br x.num).length+(DQ x).length:=AK;refine F8 ?_;unfold Rc;refine A5 (aAX h hn)<|Ab (λa=>AV ?_) λa=>?_
 .have a:=Aq a;have:(DQ x).length=0:=A4;unfold DQ at this;cases c:decide (x.den=1)
  .grind
  .rw[Aq c,aaF]
 .have a:=BX a;have t:DQ x=47::B5 x.den:=by
   unfold DQ;cases c:decide (x.den=1)
   .rfl
   .exfalso;refine a ?_;rw[l];unfold DQ;rw[c];simp
  rw[t,DP] at l;refine A5 BE<|A5 (DV A4 A4 A4)<|AV ?_
  rw[e,t];have d:(((Br x.num).length:Int)+1).toNat=(Br x.num++[47]).length:=AO;rw[d,CL,List.take_length,show Br x.num++47::B5 x.den=(Br x.num++[47])++B5 x.den by simp,Uc]
theorem amz:Zz (An x)=some (bif HX x then 4 else 0):=by
 have m:=OW h hn;have e:An x=Br x.num++DQ x:=by unfold An DQ;cases decide (x.den=1)<;>simp
 have l:(An x).length=(Br x.num).length+(DQ x).length:=AK;have f:Re (Br x.num)=some (B5 x.num.natAbs):=by
  have g:lv n (x.num:Rat):=⟨by rw[SF];exact h.1,by rw[Ue];exact Xv A4⟩;have d:=OZ g hn;rw[vt,SF] at d;refine F8 ?_;unfold Re;refine A5 d<|Ab (λa=>?_) λa=>AV ?_
  .have a:x.num<0:=dm.1 (Aq a);have t:Br x.num=45::B5 x.num.natAbs:=by unfold Br;rw[B1 a];rfl
   refine A5 (DV A4 (by rw[t];simp;omega) A4)<|AV ?_
   rw[t];simp
  .have a: ¬x.num<0:=λc=>BX a (dm.2 c)
   unfold Br;rw[Bb a];rfl
 refine F8 ?_;unfold Zz HX;refine A5 (aq0 h hn)<|A5 f ?_
 have i:decide ((600:Int)<((B5 x.num.natAbs).length:Int))=decide (600<(B5 x.num.natAbs).length):=F5.2 A4;have j:decide ((600:Int)<((B5 x.den).length:Int))=decide (600<(B5 x.den).length):=F5.2 A4;rw[i];cases decide (600<(B5 x.num.natAbs).length)
 .rw[C6 Dn];refine A5 (aq6 h hn) ?_;rw[j];cases decide (600<(B5 x.den).length)<;>exact AV rfl
 .exact AV rfl
end
section
variable{n:Nat}
def akN{v:Q3}(h:BS n v)(hn:n<=1800000):ZP (As v)=some (bif MY v then 4 else 0):=by
 refine F8 ?_;unfold ZP jL;refine Au (S:=λr=>r=bif MY v then 4 else 0) ?_ λr e=>AV e
 refine Bw [v.1,v.2.1,v.2.2] (λ(_:Unit) i=>i) (λA _=>A.any HX=false) (λA x C s k a c next=>?_) (λs k c=>?_) (s0:=()) rfl AO
 .have al:=CC a;rw[show [v.1,v.2.1,v.2.2].length=3 from rfl] at al;rw[B1 (show(A.length:Int)<([(As v).1,(As v).2.1,(As v).2.2].length:Int) by simp;omega),BF];have f:AB [An v.1,An v.2.1,An v.2.2] (A.length:Int)=some (An x):=by have:=Bl a;rw[Hq] at this⊢;have:=congrArg (Option.map An) this;rwa [<-Fp] at this
  have g:lv n x:=by
   have:=at_mem a;simp at this;rcases this with rfl|rfl|rfl
   .exact h.1
   .exact h.2.1
   .exact h.2.2
  refine A5 f<|A5 (amz g hn) ?_
  cases d:HX x
  .rw[show(!decide ((bif false then(4:Int) else 0)=0))=false from rfl,Av];exact A5 (Bk a AO) (next () (by rw[Ud,c];simp[d]))
  .rw[show(!decide ((bif true then(4:Int) else 0)=0))=true from rfl,BF];refine AV ?_;have:MY v=true:=by unfold MY;have:=at_mem a;simp at this;rcases this with rfl|rfl|rfl<;>rw[d]<;>simp
   rw[this];rfl
 .rw[show decide ((([v.1,v.2.1,v.2.2].length:Nat):Int)<([(As v).1,(As v).2.1,(As v).2.2].length:Int))=false from rfl,Av];refine AV ?_;have:MY v=false:=by unfold MY;simpa[List.any] using c
  rw[this];rfl
def qf{m:Nat}{x y:Rat}(a:lv m x)(c:lv n y)(d:m<=8000)(hn:n<=8000):Nw (An x) (An y)=some (x-y).num.sign:=by unfold Nw;rw[Qk a c A4 A4,Bx,OZ (lvs a c) A4];rfl
instance(a b:Q3):Decidable (Dv a b):=by unfold Dv;exact inferInstance
theorem ajN{a b:Q3}(f:BS n a)(g:BS n b)(hn:n<=5000):aK (As a) (As b)=some (decide<|Dv a b):=by
 refine F8 ?_;unfold aK;refine Bw [(a.1,b.1),(a.2.1,b.2.1),(a.2.2,b.2.2)] (λ(_:Unit) i=>i) (λA _=>∀p∈A,p.1=p.2) (λA x C s k c d next=>?_) (λs k d=>?_) (s0:=()) AO AO
 .have al:=CC c;rw[show [(a.1,b.1),(a.2.1,b.2.1),(a.2.2,b.2.2)].length=3 from rfl] at al;rw[B1 (show(A.length:Int)<3 by omega),BF];have q:AB [(As a).1,(As a).2.1,(As a).2.2] (A.length:Int)=some (An x.1):=FG (λp:Rat×Rat=>An p.1) c;have r:AB [(As b).1,(As b).2.1,(As b).2.2] (A.length:Int)=some (An x.2):=FG (λp:Rat×Rat=>An p.2) c;have j:lv n x.1/\lv n x.2:=by
   have:=at_mem c;simp only[Ak,QL,or_false] at this;rcases this with e|e|e<;>rw[e]
   .exact⟨f.1,g.1⟩
   .exact⟨f.2.1,g.2.1⟩
   .exact⟨f.2.2,g.2.2⟩
  refine A5 q<|A5 r<|A5 (qf j.1 j.2 A4 A4) ?_
  rw[sign_zero,sign_neg];refine Ab (λm=>AV<|F5.2 ?_) λm=>A5 (Bk c AO)<|next () λp w=>?_
  .have hne:x.1-x.2≠0:=by simpa using m
   unfold Dv;rcases A with _|⟨a0,_|⟨B,_|⟨D,A⟩⟩⟩
   .grind
   .grind
   .grind
   .simp at al
  .grind
 .rw[show decide ((([(a.1,b.1),(a.2.1,b.2.1),(a.2.2,b.2.2)].length:Nat):Int)<3)=false from rfl,Av];refine AV (Bb ?_).symm;have t:=d _ (by simp:(a.1,b.1)∈_);have u:=d _ (by simp:(a.2.1,b.2.1)∈_);have v:=d _ (by simp:(a.2.2,b.2.2)∈_);dsimp only at t u v;unfold Dv
  grind
def gz{α:Type}{b:Nat}{u v:A3 α}(a:b<=1000)(h:u.length+v.length<=1000000000):BC b u v=some (u++v):=by unfold BC;have c:(u.length+v.length)*b<=140737488355328:=CA (Em h a) A4;rw[B1 c,B1 (show u.length+v.length<=9223372036854775807 by omega)];rfl
def gR{ρ:Type}{R:ρ->Prop}{r B D:A3 Q3}(e:r=B++D){l:A3 T3}{i:Int}{x:Q3}(a:AB l i=some (As x))(c:r.length<=1000000){K:A3 T3->A9 ρ}(h:Yd R (K<|(B++x::D).map As)):Yd R (Trn.bd (Bo (r.map As) 0 (B.length:Int)) λd=>Trn.bd (BC 48 ([]:A3 T3) d) λf=>Trn.bd (AB l i) λg=>Trn.bd (BC 48 f [g]) λj=>Trn.bd (Bo (r.map As) (B.length:Int) (r.length:Int)) λq=>Trn.bd (BC 48 j q) K):=by
 subst e;rw[DD] at c;have m:((B++D).map As).length=B.length+D.length:=AO;have s1:Bo ((B++D).map As) 0 (B.length:Int)=some (B.map As):=by rw[DV A4 A4 A4];simp[I5,Uj]
 have s2:Bo ((B++D).map As) (B.length:Int) ((B++D).length:Int)=some (D.map As):=by rw[DV A4 Co (by rw[m];simp),CL,CL,Ce AO,I5];simp[LC]
 refine A5 s1<|A5 (gz A4 Co)<|A5 a<|A5 (gz A4 Co)<|A5 s2<|A5 (gz A4 Co) ?_
 have:[]++B.map As++[As x]++D.map As=(B++x::D).map As:=AO;rw[this];exact h
end
section
variable{n:Nat}(hn:n<=4000)
include hn
theorem agB{C:A3 Q3}(E:∀p∈C,BS n p)(nd:C.Nodup)(T:C.length<=1000000):Yd (λr=>∃c:A3 Q3,r=c.map As/\c.Pairwise Dv/\∀z,z∈c↔z∈C) (ZB<|C.map As):=by
 unfold ZB;rw[BL];refine Bw C (λ(s:A3 T3) i=>(s,i)) (λA s=>∃r:A3 Q3,s=r.map As/\r.Pairwise Dv/\(∀z,z∈r↔z∈A)/\r.length=A.length) (λA x U s k d u next=>?_) (λs k u=>?_) (s0:=[]) ⟨[],rfl,List.Pairwise.nil,AO,rfl⟩ A4
 .dsimp only;rw[Bt d,BF];have V:=CC d;obtain⟨r,rfl,r1,r2,W⟩:=u;have H:=E x<|at_mem d
  have I:∀h∈r,BS n h:=λh f=>E h (by rw[d];exact Fq _<|(r2 h).1 f)
  have v:AB (C.map As) (A.length:Int)=some (As x):=FG As d;have F:=Bk d A4;have J:x∉r:=λK=>by rw[d,QM] at nd;exact nd.2.2 x ((r2 x).1 K) x Ca rfl
  rw[BL];have g:∀B D:A3 Q3,r=B++D->(∀h∈B,Dv h x)->(∀h∈D,Dv x h)->∃c:A3 Q3,(B++x::D).map As=c.map As/\c.Pairwise Dv/\(∀z,z∈c↔z∈A++[x])/\c.length=(A++[x]).length:=λB D e X L=>by
   rw[e] at r1;let⟨N,O,a3⟩:=G1.1 r1;refine⟨B++x::D,rfl,G1.2 ⟨N,Fh.2 ⟨L,O⟩,λh f y G=>?_⟩,λz=>?_,?_⟩
   .grind
   .grind
   .grind
  refine Bw r (λ(_:Unit) i=>i) (λB _=>∀h∈B,Dv h x) (λB h D t P a q Q=>?_) (λt P q=>?_) (s0:=()) AO A4
  .have hg:gd (decide<|(B.length:Int)<(r.length:Int)) true=true:=by rw[Bt a];rfl
   have bl:=CC a;have f:=at_mem a;have ih:AB (r.map As) (B.length:Int)=some (As h):=FG As a;rw[C6 hg];refine A5 ih ?_;rw[C6 hg];refine A5 ih ?_;rw[C6 hg];refine A5 v ?_;rw[C6 hg];refine A5 (ajN (I h f) H A4) ?_;rw[Bt a,I3];refine Ab (λw=>A5 (Bk a A4)<|Q ()<|L1 q<|Aq w) λw=>?_
   have R:=BX w;have j:Dv x h:=((zV x h).resolve_left λe=>J (by rw[e];exact f)).resolve_right R;refine gR a v A4<|A5 F<|next _<|g B (h::D) a q λy G=>?_
   rcases Ak.1 G with e|m
   .rw[e];exact j
   .rw[a] at r1;exact qO j<|(Fh.1 (G1.1 r1).2.1).1 y m
  .have hg:gd (decide<|(r.length:Int)<(r.length:Int)) true=false:=by rw[Bs];rfl
   rw[DG hg,DG hg,DG hg,DG hg,Bs,M4,Av];exact gR (D:=[]) AO v A4<|A5 F<|next _<|g r [] AO q AO
 .dsimp only;rw[Bs,Av];let⟨r,e,r1,r2,_⟩:=u;exact AV ⟨r,e,r1,r2⟩
structure Rnd(f:H3)(C r:A3 Q3):Prop where
 ex:∃p s,r=p::s/\(∀x∈s,Dv p x)/\s.Pairwise λx y=>0<BZ f.1 p x y
 mem:∀z,z∈r↔z∈C
omit hn in
theorem Rnd.same {f:H3} {C r q:A3 Q3} (a:Rnd f C r) (b:Rnd f C q):r=q:=by
 obtain⟨⟨p,s,rfl,c,g⟩,a3⟩:=a;obtain⟨⟨o,t,rfl,d,b2⟩,b3⟩:=b;have e:p=o:=by
  rcases Ak.1 ((b3 p).2<|(a3 p).1 Ca) with e|m
  .exact e
  .rcases Ak.1 ((a3 o).2<|(b3 o).1 Ca) with e|m'
   .exact e.symm
   .exact absurd (qO (c o m')<|d p m)<|OD p
 subst e
 congr 1
 refine w7 g b2 (λx _ y _ h k=>?_) λz=>?_
 .have:BZ f.1 p y x= -BZ f.1 p x y:=by unfold BZ AI AZ Ae;grind
  grind
 .have:=(a3 z).trans (b3 z).symm;rw[Ak,Ak] at this;constructor
  .intro mz;exact(this.1<| .inr mz).resolve_left λe=>OD p (by have:=c z mz;rw[e] at this;exact this)
  .intro mz;exact(this.2<| .inr mz).resolve_left λe=>OD p (by have:=d z mz;rw[e] at this;exact this)
theorem ahu{L:A3 H3}{f:H3}(U:f.1≠o3){C:A3 Q3}(V:∀p∈C,BW L p/\val f p=0/\BS n p)(W:BS n f.1)(nd:C.Nodup)(h0:C≠[])(hn:n<=600)(hl:C.length<=1000000):Yd (λr=>∃v:A3 Q3,r=v.map As/\Rnd f C v) (Zu (As f.1)<|C.map As):=by
 unfold Zu;refine Au (agB (n:=n) A4 (λp mp=>(V p mp).2.2) nd hl) λr ⟨v,e,r1,r2⟩=>?_
 subst e;obtain⟨p,t,rfl⟩:∃p t,v=p::t:=by
  cases v with
  |nil=>let⟨x,c⟩:=YG C h0;exact absurd ((r2 x).2 c) AO
  |cons p t=>exact⟨p,t,rfl⟩
 let⟨g1,g2⟩:=Fh.1 r1;have N:∀x∈p::t,BW L x/\val f x=0/\BS n x:=λx c=>V x<|(r2 x).1 c
 let⟨vp,X,lp⟩:=N p Ca;have rl:(p::t).length<=C.length:=IT (r1.imp λh=>Ye h) λx c=>(r2 x).1 c
 rw[BL];have i0:AB ((p::t).map As) 0=some (As p):=rfl;refine A5 i0 ?_;refine OQ (p::t) (λ(s:A3 T3) i=>(s,i)) (λA s=>∃q,s=(p::q).map As/\q.Pairwise (λx y=>0<BZ f.1 p x y)/\(∀z,z∈p::q↔z∈A)/\(p::q).length=A.length/\∀y∈q,Dv p y) (λA x C' s k g O next=>?_) (λs k O=>?_) [p] t (s0:=[As p]) rfl ⟨[],rfl,List.Pairwise.nil,AO,rfl,AO⟩ A4
 .dsimp only;rw[Bt g,BF];have al:=CC g;obtain⟨q,rfl,q1,w,Y,P⟩:=O;have c:=at_mem g;let⟨vx,tx,lx⟩:=N x c;have hq:∀y∈p::q,BW L y/\val f y=0/\BS n y:=λy E=>N y (by rw[g];exact Fq _<|(w y).1 E)
  have xA:x∉A:=λm=>by
   have:=r1.imp λ{a b} h=>Ye h
   rw[g] at this;exact(G1.1 this).2.2 x m x Ca rfl
  have xp:x≠p:=λe=>xA (by rw[e];exact(w p).1 Ca)
  have xt:Dv p x:=g1 x<|(Ak.1 c).resolve_left xp
  have Q:AB ((p::t).map As) (A.length:Int)=some (As x):=FG As g;have fx:=Bk g A4;have ld:=S6 lx lp;refine A5 Q<|A5 i0<|A5 (Sr lx lp A4) ?_
  rw[BL];have sw:∀y,BZ f.1 p x y= -BZ f.1 p y x:=λy=>by unfold BZ AI AZ Ae;grind
  have F:∀B D:A3 Q3,q=B++D->(∀h∈B,0<BZ f.1 p h x)->(∀h∈D,0<BZ f.1 p x h)->∃G:A3 Q3,((p::B)++x::D).map As=(p::G).map As/\G.Pairwise (λx y=>0<BZ f.1 p x y)/\(∀z,z∈p::G↔z∈A++[x])/\(p::G).length=(A++[x]).length/\∀y∈G,Dv p y:=λB D e H hd=>by
   rw[e] at q1;let⟨a1,a2,a3⟩:=G1.1 q1;refine⟨B++x::D,rfl,G1.2 ⟨a1,Fh.2 ⟨hd,a2⟩,λh I y E=>?_⟩,λz=>?_,?_,λy E=>?_⟩
   .grind
   .grind
   .grind
   .grind
  refine OQ (p::q) (λ(_:Unit) i=>i) (λB _=>∃B',B=p::B'/\∀h∈B',0<BZ f.1 p h x) (λB h D u k7 j R Gi=>?_) (λu k7 R=>?_) [p] q (s0:=()) rfl ⟨[],rfl,AO⟩ A4
  .have hg:gd (decide<|(B.length:Int)<((p::q).length:Int)) true=true:=by rw[Bt j];rfl
   have bl:=CC j;obtain⟨B',rfl,H⟩:=R;have K:q=B'++h::D:=by simpa using j
   have I:h∈q:=by rw[K];simp
   let⟨vh,th,lh⟩:=hq h<|Bg _ I
   have ih:AB ((p::q).map As) ((p::B').length:Int)=some (As h):=FG As j;have l1:=S6 lh lp;have l2:=Js l1 ld;have l3:=OX W l2;rw[C6 hg];refine A5 ih ?_;rw[C6 hg];refine A5 ih ?_;rw[C6 hg];refine A5 i0 ?_;rw[C6 hg];refine A5 (Sr lh lp A4) ?_;rw[C6 hg];refine A5 (QR l1 ld A4) ?_;rw[C6 hg];refine A5 (Sx W l2 A4) ?_;rw[C6 hg];refine A5 (OZ l3 A4) ?_;rw[Bt j,I3,Pr];refine Ab (λT=>A5 (Bk j A4)<|Gi () ⟨B'++[h],rfl,L1 H<|Aq T⟩) λT=>?_
   have Qr: ¬0<BZ f.1 p h x:=BX T;have hne:BZ f.1 p h x≠0:=oJ U vp vh vx X th tx (λe=>OD p (by have:=P h I;rw[<-e] at this;exact this)) xp.symm (λe=>xA (by rw[<-e];exact(w h).1<|Bg _ I));have J:0<BZ f.1 p x h:=by rw[sw];grind
   refine gR (B:=p::B') j Q A4<|A5 fx<|next _<|F B' (h::D) K H λy E=>?_
   rcases Ak.1 E with e|m
   .rw[e];exact J
   .have my':y∈q:=by rw[K];simp[m]
    let⟨vy,ty,_⟩:=hq y<|Bg _ my'
    rw[K] at q1;exact aaP (d:=f.2) U X tx th ty xt (P h I) (P y my') J<|(Fh.1 (G1.1 q1).2.1).1 y m
  .have hg:gd (decide<|((p::q).length:Int)<((p::q).length:Int)) true=false:=by rw[Bs];rfl
   let⟨B',e,H⟩:=R;cases e;rw[DG hg,DG hg,DG hg,DG hg,DG hg,DG hg,DG hg,Bs,M4,Av];exact gR (D:=[]) AO Q A4<|A5 fx<|next _<|F q [] AO H AO
 .dsimp only;rw[Bs,Av];obtain⟨q,rfl,q1,w,_,Y⟩:=O;exact AV ⟨p::q,rfl,⟨p,q,rfl,Y,q1⟩,λz=>(w z).trans<|r2 z⟩
end
theorem Rnd.len{f:H3}{C r:A3 Q3}(a:Rnd f C r):r.Nodup:=by obtain⟨⟨p,s,rfl,c,d⟩,_⟩:=a;refine Ug.2 ⟨λm=>OD p<|c p m,?_⟩;exact d.imp λ{x y} h e=>by rw[e,Lz] at h;exact absurd h AK
theorem wH{s:G7}{M:A3 H3}{Z:ZL}(R:RS s M Z)(F:M.length<=31)(G:∀p,BW M p->BS 70 p){h:BV}{m:Nat}(j:s.1[m]? =some h):Yd (λr=>∃(C d:A3 Q3),r=d.map As/\Rnd (rh h) C d/\∀z,z∈C↔BW M z/\val (rh h) z=0) (To s (m:Int)):=by
 have g:=HC j;have T:=R.qy F;have U:=R.len;have H:s.2.1.length=Z.length:=by rw[R.cor,BL]
 unfold To;rw[H];refine Bw Z (λ(t:A3 T3) i=>(t,i)) (λA t=>t=(((A.filter λz=>decide<|val (rh h) z.1=0).map (·.1)).map As)) (λA z D t k a B next=>?_) (λt k B=>?_) (s0:=[]) rfl A4
 .dsimp only;rw[Bt a,BF];have V:=CC a;have I:=at_mem a;refine CZ (λq:A3 T3=>q=((((A++[z]).filter λz=>decide<|val (rh h) z.1=0).map (·.1)).map As)) (λq J=>A5 (Bk a A4)<|next q J) λk5 E=>?_
  have on:=R.FZ z I;have W:=on.len;have K:AB s.2.2 (A.length:Int)=some z.2:=by rw[R.on];exact FG (·.2) a
  have N:AB s.2.1 (A.length:Int)=some (As z.1):=by rw[R.cor];exact FG (λz:Q3×A3 Int=>As z.1) a
  have X:t.length<=A.length:=AK;refine A5 K<|A5 (mS AO A4 AO) ?_
  have u:decide ((0:Int)<((z.2.filter λx=>decide<|x∈[(m:Int)]).length:Int))=decide (val (rh h) z.1=0):=F5.2 (by
   rw[<-on.at j];have:(0:Int)<((z.2.filter λx=>decide<|x∈[(m:Int)]).length:Int)↔0<(z.2.filter λx=>decide<|x∈[(m:Int)]).length:=A4;rw[this,List.length_pos_iff_exists_mem];constructor
   .grind
   .intro mm;exact⟨_,EG.2 ⟨mm,B1<|CW.2 rfl⟩⟩)
  rw[u];refine Ab (λO=>A5 N<|A5 (app_1 A4 A4)<|E _ ?_) λO=>E _ ?_
  .grind
  .grind
 .dsimp only;rw[Bs,Av];have ih:AB s.1 (m:Int)=some h:=by rw[Hq];exact j
  refine A5 ih<|A5 (Py<|R.ok h g) ?_
  rw[B];have mem:∀z,z∈(Z.filter λz=>decide<|val (rh h) z.1=0).map (·.1)↔BW M z/\val (rh h) z=0:=λz=>by
   rw[<-R.mem,B4,B4];constructor
   .grind
   .rintro⟨⟨w,mw,rfl⟩,t⟩;exact⟨w,EG.2 ⟨mw,B1 t⟩,rfl⟩
  have nd:((Z.filter λz=>decide<|val (rh h) z.1=0).map (·.1)).Nodup:=(List.filter_sublist.map _).nodup R.nd;have ne:(Z.filter λz=>decide<|val (rh h) z.1=0).map (·.1)≠[]:=λe=>by have c:=((R.fac<|rh h).1<|B4.2 ⟨h,g,rfl⟩).2;unfold FM at c;rw[List.filter_map,BL] at c;have:=congrArg List.length e;rw[BL,SG] at this;have Y:3<=(Z.filter λz=>decide<|val (rh h) z.1=0).length:=c;omega
  have P:((Z.filter λz=>decide<|val (rh h) z.1=0).map (·.1)).length<=Z.length:=AK
  generalize (Z.filter λz=>decide<|val (rh h) z.1=0).map (·.1)=C at mem nd ne P
  refine Au (ahu (n:=70) A4 (L:=M) (f:=rh h) (R.ok h g).VZ.nz (λp v=>⟨((mem p).1 v).1,((mem p).1 v).2,G p ((mem p).1 v).1⟩) ((R.ok h g).lvn A4) nd ne A4 A4) λr ⟨d,e,Q⟩=>AV ⟨C,d,e,Q,mem⟩
def GD(l:A3 Q3):Q3:=BG (Qg l)<|1/2
def aix:An (1/2)=[49,47,50]:=A6
def pH:lv 1 (1/2:Rat):=⟨Cs A6,Cs A6⟩
def Ol(n:Nat):BS n o3:=by have:lv n (0:Rat):=⟨EU _,Xv A4⟩;exact⟨this,this,this⟩
def yr:As o3=([48],[48],[48]):=by show(An 0,An 0,An 0)=_;rw[uv]
theorem nY{l:A3 Q3}(g:∀x∈l,BS 70 x)(F:3<=l.length)(J:l.length<=25):Te (l.map As)=some (As<|GD l)/\BS (600*l.length+1) (GD l):=by
 obtain⟨o,p,t,rfl⟩:∃o p t,l=o::p::t:=by match l,F with|o::p::t,_=>exact⟨o,p,t,rfl⟩
 have lo:=g o AO;have key:Yd (λr=>r=As (GD (o::p::t))/\BS (600*(o::p::t).length+1) (GD (o::p::t))) (Te<|(o::p::t).map As):=by
  unfold Te RI;rw[BL];have i0:AB ((o::p::t).map As) 0=some (As o):=rfl;refine A5 rfl ?_;rw[<-yr];refine OQ (o::p::t) (λ(s:T3) i=>(s,i)) (λA s=>∃q,A=o::p::q/\s=As (JH o p q)/\BS (600*A.length) (JH o p q)) (λA x D s k d j next=>?_) (λs k j=>?_) [o,p] t (s0:=As o3) rfl ⟨[],rfl,rfl,Ol _⟩ A4
  .dsimp only;rw[Bt d,BF];have K:=CC d;obtain⟨q,rfl,rfl,f⟩:=j;obtain⟨B,y,e⟩:∃B y,p::q=B++[y]:=by
    rcases eK (p::q) with e|⟨B,y,e⟩
    .cases e
    .grind
   have m:o::p::t=(o::B)++y::x::D:=by rw[d,e];simp
   have u:=g y<|at_mem m
   have v:=g x<|at_mem d
   have G:AB ((o::p::t).map As) ((o::B).length:Int)=some (As y):=FG As m;have H:=FG As d;have L:(o::p::q).length=(o::B).length+1:=by rw[e];simp
   have fm:AG (((o::p::q).length:Int)-1)=some ((o::B).length:Int):=by rw[Dj ⟨A4,A4⟩];exact congrArg some A4
   have w:=S6 u lo;have E:=S6 v lo;have c:=Js w E;have a:=M0 f c;refine A5 fm<|A5 G<|A5 i0<|A5 (Sr u lo A4)<|A5 H<|A5 i0<|A5 (Sr v lo A4)<|A5 (QR w E A4)<|A5 (Yg f c A4)<|A5 (Bk d A4)<|next _ ⟨q++[x],AO,?_,?_⟩
   .rw[o0 o x q p y B e]
   .rw[o0 o x q p y B e];refine Dx a ?_;rw[DD,G2];omega
  .dsimp only;rw[Bs,Av];obtain⟨q,e,rfl,f⟩:=j;cases e;have sc:=Sb f pH A4;rw[aix] at sc;have I:GD (o::p::t)=BG (JH o p t) (1/2):=by unfold GD;rw[xW]
   rw[I];exact A5 sc<|AV ⟨rfl,NO f pH⟩
 obtain⟨r,e,rfl,h⟩:=key;exact⟨e,h⟩
def ai0{l:A3 Q3}(f:∀x∈l,BS 70 x)(v:l.length<=25):Tq l=some (GD l):=by
 have w:(D5 l).length=l.length:=by rw[<-RZ,XA]
 have r:∀x∈D5 l,x.1∈l/\x.2∈l:=λx g=>by rw[<-RZ] at g;let⟨i,hi⟩:=SQ.1 g;let⟨a,b,_⟩:=nZ hi;exact⟨HC a,HC b⟩
 refine F8 ?_;unfold Tq Tl;have e:Pq l=some (D5 l):=by unfold Pq;rw[GR (show l.length+1<=1000000000 by omega)|>(λh=>(h:Nat.blt l.length 1000000000=true)),RZ];rfl
 refine A5 (x:=o3) A6<|A5 rfl<|A5 e ?_
 refine asw (D5 l) (λA s=>s=r8 A/\BS (300*A.length+1) s) (λA x D s k j d next=>?_) (λs d=>?_) ⟨rfl,Ol _⟩
 .have al:=CC j;let⟨m,q⟩:=r x<|at_mem j
  let⟨t,B⟩:=mK (f _ m) (f _ q) A4 A4;have c:=Js (f _ m)<|f _ q
  let⟨u,_⟩:=UW (n:=10000) (Dx d.2 A4) (Dx c A4) A4 A4;refine A5 t<|A5 u<|next _ ⟨?_,?_⟩
  .rw[d.1];unfold r8;rw[List.foldl_append];rfl
  .refine Dx (M0 d.2 c) ?_;rw[DD,G2];omega
 .obtain⟨rfl,ls⟩:=d;refine A5 (x:=1) rfl<|A5 (x:=2) rfl<|A5 (x:=(1/2:Rat)) A6<|A5 (mJ (n:=10000) (Dx ls A4) (Cz pH A4) A4 A4).1<|AV ?_
  unfold GD;rw[ahJ]
theorem akK{S:A3 BY}{M:A3 H3}(I:By S M){f g:BY}(d:f∈S)(i:g∈S)(e:f.1=g.1):f=g:=by
 have:∀{S:A3 BY},S.Pairwise (λf g=>f.1≠g.1)->f∈S->g∈S->f=g:=λ{S} h=>by
  induction S with
  |nil=>intro m;cases m
  |cons x S ih=>
   intro a c;let⟨r,t⟩:=Fh.1 h;rcases Ak.1 a with j|a<;>rcases Ak.1 c with q|c
   .rw[j,q]
   .grind
   .grind
   .grind
 exact this I.Ld d i
def aip{x:Rat}{n:Nat}(h:lv n x)(hn:n+1<=600):HX x=false:=by have b:=gK (KA h) A4;unfold HX;rw[Bb A4,Bb A4];rfl
section
variable{l:DL}{S:List BY}(o:Ht l S)(hl:l.length<=10)
include o hl
theorem qP{f:BY}(c:f∈S):f.2.length<=10:=by let⟨ok,I,d⟩:=o;let⟨a,e,f3,g⟩:=I.Ck f c;have:=bh I.HZ a (I.nz _ a) e f3 g;rw[BL] at this;omega
theorem ai2:Yd (λr=>r.Pairwise Dv/\∀z,z∈r↔BW (l.map rh) z) (TJ S):=by
 have t:S.length<=10:=by have:=o.2.1.len;rw[BL] at this;omega
 unfold TJ;refine Bw S (λ(s:A3 Q3) i=>(s,i)) (λA s=>s=A.flatMap (·.2)) (λA f C s k a c next=>?_) (λs k c=>?_) (s0:=[]) rfl A4
 .dsimp only;rw[Bt a,BF];have u:=CC a;have j:s.length<=A.length*10:=by rw[c];exact SZ λx d=>qP o hl (by rw[a];exact Fq _ d)
  have w:=qP o hl<|at_mem a
  refine A5 (Bl a)<|A5 (gz A4 A4)<|A5 (Bk a A4)<|next _ ?_
  rw[c,List.flatMap_append];simp
 .dsimp only;rw[Bs,Av];have j:s.length<=S.length*10:=by rw[c];exact SZ λx d=>qP o hl d
  have mem:∀z,z∈s↔BW (l.map rh) z:=λz=>by
   rw[c,JZ];constructor
   .rintro⟨f,e,g⟩;exact(((o.2.1.Ck f e).2.2.2 z).1 g).1
   .intro v;let⟨f,e,g⟩:=nE o.2.1 v;exact⟨f,e,g⟩
  let⟨r,r1,r2,m⟩:=uj (n:=70) (λp q=>QW o.1<|(mem p).1 q) A4 (l:=s) A4;exact A5 r1<|AV ⟨r2,λz=>(m z).trans<|mem z⟩
end
section
variable{S:A3 BY}{l:DL}{n:Nat}{s:G7}{q:Q3}{h:BV}{M N:A3 H3}{b:DL}
theorem we(T:Q3->Q3->Rat)(x y:Q3):∀(B:A3 Q3) (p:Q3),JG T p (B++[x,y])=JG T p (B++[x])+T x y
 |[],p=>by show T p x+(T x y+0)=T p x+0+T x y;grind|b::B,p=>by show T p b+JG T b (B++[x,y])=T p b+JG T b (B++[x])+T x y;rw[we T x y B b];grind
theorem bK(c:Rat)(w z o x y:Q3):∀B:A3 Q3,Fj c w z (o::(B++[x,y]))=Fj c w z (o::(B++[x]))+kk c w z o x y
 |[]=>by show kk c w z o x y+0=0+kk c w z o x y;grind|b::B=>we _ x y B b
def T8(z:Q3)(l:A3 Q3):Q3:=(Fj 0 (1,0,0) z l,Fj 0 (0,1,0) z l,Fj 0 (0,0,1) z l)
theorem ajo(z o x y:Q3)(B:A3 Q3):T8 z (o::(B++[x,y]))=BK (T8 z (o::(B++[x]))) (BG (BK (BK z o)<|BK x y)<|kk 1 o3 z o x y):=by unfold T8;rw[bK,bK,bK];unfold BK BG;refine Hi ?_ ?_ ?_<;>dsimp<;>congr 1<;>unfold kk AI BK o3<;>grind
def GI{α:Type}(f:α->Q3)(l:A3 α):Q3:=(sm (λx=>(f x).1) l,sm (λx=>(f x).2.1) l,sm (λx=>(f x).2.2) l)
theorem Sh{α:Type}(f:α->Rat)(A:A3 α)(x:α):sm f (A++[x])=sm f A+f x:=by rw[aDh];show _=_;unfold sm;unfold sm;grind
def Xh{α:Type}(f:α->Q3)(A:A3 α)(x:α):GI f (A++[x])=BK (GI f A) (f x):=by unfold GI;rw[Sh,Sh,Sh];rfl
def Ik(S:A3 BY):Rat:=sm (λf:BY=>Fj 1 o3 o3 f.2) S
def VU(S:A3 BY):Q3:=GI (λf:BY=>T8 o3 f.2) S
def aqO:lv 1 (1/6:Rat):=⟨Cs A6,Cs A6⟩
def aqP:lv 1 (1/4:Rat):=⟨Cs A6,Cs A6⟩
def apS:lv 1 (6:Rat):=⟨Cs A6,Cs A6⟩
def apV:lv 1 (4:Rat):=⟨Cs A6,Cs A6⟩
def alA{a b c:Q3}(d:BS n a)(e:BS n b)(f:BS n c)(g:1<=n)(hn:n<=1000000):XB a b c=some (Cq a b c):=by let⟨i,k1⟩:=mK d e g A4;let⟨j,_⟩:=cW k1 (Dx f (show n<=16*n by omega)) A4 A4;unfold XB;rw[i,Bx,j];rfl
theorem aa9(a b c:Q3):kk 1 o3 o3 a b c=Cq a b c:=by unfold kk Cq AI AZ Ae BK o3;grind
theorem apW{x:Rat}(h:lv n x):lv (n+1) (x/6):=by have:=Hu h aqO;rwa [show x*(1/6)=x/6 by grind] at this
theorem apX{x:Rat}(h:lv n x):lv (n+1) (x/4):=by have:=Hu h aqP;rwa [show x*(1/4)=x/4 by grind] at this
def ao9{a b c:Q3}(d:BS n a)(e:BS n b)(f:BS n c):lv (15*n+5) (Cq a b c):=Cz (OX (Js d e) f) A4
theorem afF(hS:S.length<=40)(hF:∀f∈S,3<=f.2.length/\f.2.length<=40/\∀x∈f.2,BS 70 x):Me S=some (Ik S/6,BG (VU S)<|1/24)/\lv (60000*S.length+1) (Ik S/6)/\BS (60000*S.length+1) (BG (VU S)<|1/24):=by
 have key:Yd (λr=>r=(Ik S/6,BG (VU S)<|1/24)/\lv (60000*S.length+1) r.1/\BS (60000*S.length+1) r.2) (Me S):=by
  unfold Me;refine A5 (x:=(0:Rat)) A6<|A5 (x:=o3) A6 ?_
  refine Bw S (λ(s:Rat×Q3) i=>(s.1,s.2,i)) (λA s=>s.1=Ik A/6/\s.2=BG (VU A) (1/24)/\lv (60000*A.length+1) s.1/\BS (60000*A.length+1) s.2) (λA f C s k v J next=>?_) (λs k J=>?_) (s0:=((0:Rat),o3)) ⟨by unfold Ik sm;grind,by unfold VU GI sm;exact F9,(Ol _).1,Ol _⟩ A4
  .dsimp;rw[Bt v,BF];have al:=CC v;let⟨f3,X,g⟩:=hF f<|at_mem v
   let⟨s1,s2,s3,K⟩:=J;refine A5 (Bl v) ?_;obtain⟨o,p,t,e⟩:∃o p t,f.2=o::p::t:=by match h:f.2,f3 with|o::p::t,_=>exact⟨o,p,t,rfl⟩
   have i0:AB f.2 0=some o:=by rw[e];rfl
   have lo:=g o (by rw[e];simp);refine OQ f.2 (λ(s:Rat×Q3) i=>(s.1,s.2,i)) (λB r=>1<=B.length/\B.length+1<=f.2.length/\r.1=s.1+Fj 1 o3 o3 (f.2.take<|B.length+1)/6/\r.2=BK s.2 (BG (T8 o3<|f.2.take<|B.length+1)<|1/24)/\lv (60000*A.length+1+1300*B.length) r.1/\BS (60000*A.length+1+1300*B.length) r.2) (λB x D r Y a L j=>?_) (λr Y L=>absurd L.2.1 A4) [o] (p::t) (s0:=s) (by rw[e];rfl) ⟨AO,by rw[e];simp,?_,?_,Cz s3 AO,Dx K AO⟩ A4
   .dsimp;have bl:=CC a;let⟨b1,_,F,G,O,P⟩:=L;have tk:f.2.take (B.length+1)=B++[x]:=AK;rw[tk] at F G;refine A5 (Bk a A4) ?_;cases D with
    |nil=>
     have el:f.2.length=B.length+1:=by rw[a];simp
     rw[Bb A4,Av];have eb:B++[x]=f.2:=a.symm;rw[eb] at F G;refine A5 (Bk v A4) (next (r.1,r.2) ⟨?_,?_,Cz O (by rw[DD,G2];omega),Dx P (by rw[DD,G2];omega)⟩)
     .unfold Ik at s1⊢;rw[Sh];dsimp;rw[F,s1];grind
     .unfold VU at s2⊢;rw[Xh];dsimp;rw[G,s2];exact F9
    |cons y D=>
     have u:f.2=(B++[x])++y::D:=by rw[a];simp
     have Q:=CC u;rw[DD,G2] at Q;rw[B1 A4,BF];have H:=g x<|at_mem a
     have I:=g y<|at_mem u
     have iy:AB f.2 ((B.length+1:Nat):Int)=some y:=by have:=Bl u;rwa [DD,G2] at this
     have d:=alA lo H I A4 A4;have U:=ao9 lo H I;have c:=apW U;have w:=apX c;have V:=M0 lo H;have W:=M0 V I;have sc:=NO W w;have R:=(qN (n:=2000) (Cz U A4) (Cz apS A4) A4 A4 IK).1;have T:=(qN (n:=2000) (Cz c A4) (Cz apV A4) A4 A4 IK).1;have ad:=(Sm (n:=10000000) (Cz O A4) (Cz c A4) A4 A4).1;have v1:=(UW (n:=2000) (Dx lo A4) (Dx H A4) A4 A4).1;have v2:=(UW (n:=2000) (Dx V A4) (Dx I A4) A4 A4).1;have vs:=(mJ (n:=2000) (Dx W A4) (Cz w A4) A4 A4).1;have vm:=(UW (n:=10000000) (Dx P A4) (Dx sc A4) A4 A4).1;obtain⟨B',rfl⟩:∃B',B=o::B':=by cases B with|nil=>simp at b1|cons q B'=>rw[e] at a;simp at a;exact⟨B',by rw[a.1]⟩
     have E:f.2.take ((o::B'++[x]).length+1)=o::(B'++[x,y]):=AK;refine A5 i0<|A5 (Bl a)<|A5 (Bk a A4)<|A5 iy<|A5 d<|A5 (x:=(6:Rat)) A6<|A5 R<|A5 ad<|A5 v1<|A5 v2<|A5 (x:=(4:Rat)) A6<|A5 T<|A5 vs<|A5 vm<|A5 (Bk a A4)<|j (_,_) ⟨?_,?_,?_,?_,?_,?_⟩
     .simp
     .grind
     .dsimp only;rw[E,bK,aa9,F];show _=s.1+(Fj 1 o3 o3 (o::B'++[x])+_)/6
      grind
     .dsimp only;rw[E,ajo,aa9,G];show _=BK s.2 (BG (BK (T8 o3 (o::B'++[x])) _) _)
      generalize T8 o3 (o::B'++[x])=m
      generalize Cq o x y=q
      exact F9
     .dsimp only;exact Cz (lva O c) (by rw[DD,G2];omega)
     .dsimp only;exact Dx (M0 P sc) (by rw[DD,G2];omega)
   .show s.1=_;rw[e];show s.1=s.1+0/6
    grind
   .show s.2=_;rw[e];show s.2=BK s.2 (BG (0,0,0)<|1/24);exact F9
  .dsimp;rw[Bs,Av];let⟨s1,s2,s3,K⟩:=J;exact AV ⟨by rw[s1,s2],s3,K⟩
 obtain⟨r,e,rfl,h1,h2⟩:=key;exact⟨e,h1,h2⟩
structure E9(l:DL)(S:A3 BY)(s:G7):Prop where
 ok:∀h∈l,Bh h
 I:By S (l.map rh)
 R:∃Z,RS s (l.map rh) Z
def afJ(h:Ht l S)(hl:l.length<=50):Yd (λs=>E9 l S s) (Fu l):=(uA h.1 hl h.2.1).imp λs a=>⟨h.1,h.2.1,a⟩
def E9.mem(P:E9 l S s)(h:BV):h∈s.1↔h∈l/\rh h∈S.map (·.1):=by
 let⟨Z,R⟩:=P.R;constructor
 .intro mh;have c:rh h∈s.1.map rh:=B4.2 ⟨h,mh,rfl⟩;let⟨g,a,e⟩:=B4.1 ((R.fac<|rh h).1 c).1;rw[<-OT (P.ok g a) (R.ok h mh) e];exact⟨a,by rw[e];exact(R.KF P.I _).1 c⟩
 .rintro⟨mh,mf⟩;let⟨g,a,e⟩:=B4.1<|(R.KF P.I _).2 mf
  rw[<-OT (R.ok g a) (P.ok h mh) e];exact a
def aim(P:E9 l S s)(c:Bh h)(hl:l.length<=31):∃r q,Kq S (rh h)=some r/\PY s h=some q/\((r.2=true/\q.2=true/\E9 (h::l) r.1 q.1)\/(r.2=false/\q.2=false/\ ¬HJ (rh h::l.map rh))):=by
 have o:∀g∈h::l,Bh g:=λg i=>(Ak.1 i).elim (λe=>by rw[e];exact c)<|P.ok g
 have F1:Gv 14 (rh h::l.map rh):=Bh.F1 o;have d:∀g∈rh h::l.map rh,GF g.1:=Bh.LP o;have j:(l.map rh).length<=31:=by rw[BL];exact hl
 let⟨Z,R⟩:=P.R;let⟨r,r1,r2⟩:=Yd.ae P.I F1 A4 A4 c.VZ.nz λa t b u=>Rk (d a t)<|d b u
 let⟨q,q1,v⟩:=lS R P.I c (Bh.F1 P.ok) (Bh.LP P.ok) j;refine⟨r,q,r1,q1,?_⟩;rcases r2 with⟨e,I⟩|⟨e,n⟩<;>rcases v with⟨f,hZ,S',I'⟩|⟨f,m⟩
 .exact .inl ⟨e,f,o,I,hZ⟩
 .exact absurd I.int m
 .exact absurd I'.int n
 .exact .inr ⟨by rw[e],by rw[f],n⟩
def vk(h:∀k,k∈N↔k∈M)(p:Q3):BW N p↔BW M p:=⟨λv=>⟨λk a=>v.1 k<|(h k).2 a,λd c=>v.2 d λk a=>c k<|(h k).1 a⟩,λv=>⟨λk a=>v.1 k<|(h k).1 a,λd c=>v.2 d λk a=>c k<|(h k).2 a⟩⟩
def By.congr(I:By S M)(h:∀k,k∈N↔k∈M):By S N:=by
 refine⟨λd j=>?_,?_,λk i=>I.nz k<|(h k).1 i,λa m b r=>I.norm a ((h a).1 m) b<|(h b).1 r,λf u=>?_,I.Ld,λp v w=>?_⟩
 .obtain⟨k,i,e⟩:=I.HZ d j;exact⟨k,(h k).2 i,e⟩
 .obtain⟨o,ho⟩:=I.int;exact⟨o,λk i=>ho k<|(h k).1 i⟩
 .obtain⟨a,b,c,d⟩:=I.Ck f u;exact⟨(h _).2 a,b,c,λp=>by rw[d,vk h]⟩
 .obtain⟨k,i,t⟩:=w;exact I.cover p (λg B=>v g<|(h g).2 B) ⟨k,(h k).1 i,t⟩
def RS.congr{Z:ZL}(R:RS s M Z)(h:∀k,k∈N↔k∈M):RS s N Z:=⟨R.ok,R.HO,λk=>by rw[R.fac,h],R.cor,R.on,R.nd,λp=>by rw[R.mem,vk h],R.FZ⟩
def alb(I:By S (l.map rh)){f:BY}(i:f∈S){r:A3 Q3}(h:Rnd f.1 f.2 r):DO f.1.1 r/\3<=r.length/\r.length<=l.length/\∀x,x∈r↔x∈f.2:=by
 let⟨d,e,f3,g⟩:=I.Ck f i;have n:=bh I.HZ d (I.nz _ d) e f3 g;rw[BL] at n;have a:=IT (e.nodup f3) λx c=>(h.mem x).2 c
 have b:=IT h.len λx c=>(h.mem x).1 c
 have m:=h.mem;obtain⟨⟨p,s,rfl,u,j⟩,t⟩:=h;exact⟨wF (I.nz _ d) (L:=l.map rh) (λx c=>(g x).1<|(t x).1 c) j,A4,A4,m⟩
theorem vD(P:E9 l S s)(hl:l.length<=31):∃W:A3 (BY×A3 Q3),W.length=s.1.length/\W.map (λw=>w.1.1)=s.1.map rh/\(W.map (·.1)).Perm S/\
  (∀w∈W,DO w.1.1.1 w.2/\3<=w.2.length/\w.2.length<=l.length/\(∀x,x∈w.2↔x∈w.1.2)/\∀x∈w.2,BS 70 x)/\
  ∀{A:A3 (BY×A3 Q3)} {w:BY×A3 Q3} {C:A3 (BY×A3 Q3)},W=A++w::C->To s (A.length:Int)=some (w.2.map As):=by
 let⟨Z,R⟩:=P.R;have j:∀p,BW (l.map rh) p->BS 70 p:=λp Q=>QW P.ok Q
 have O:(l.map rh).length<=31:=AK;have D:∀{h:BV} {f:BY} {C u:A3 Q3},f∈S->f.1=rh h->Rnd (rh h) C u->(∀z,z∈C↔BW (l.map rh) z/\val (rh h) z=0)->Rnd f.1 f.2 u:=λ{h f C u} t e v E=>by rw[e];exact⟨v.ex,λz=>by rw[v.mem,E,(P.I.Ck f t).2.2.2,e]⟩
 have T:∀h:BV,∃w:BY×A3 Q3,h∈s.1->w.1∈S/\w.1.1=rh h/\Rnd w.1.1 w.1.2 w.2:=λh=>by
  by_cases i:h∈s.1
  .let⟨m,F⟩:=SQ.1 i;let⟨f,t,e⟩:=B4.1<|(R.KF P.I _).1<|B4.2 ⟨h,i,rfl⟩
   let⟨r,_,C,u,_,v,E⟩:=wH R O j F;exact⟨(f,u),λ_=>⟨t,e,D t e v E⟩⟩
  .exact⟨(((o3,0),[]),[]),λc=>absurd c i⟩
 let⟨G,H⟩:=Classical.axiomOfChoice T;refine⟨s.1.map G,BL _,by rw[LB];exact eG λh i=>(H h i).2.1,om ?_ (P.I.Ld.imp λh e=>h (by rw[e])) λf=>⟨λm=>?_,λt=>?_⟩,λw U=>?_,λ{A w C} V=>?_⟩
 .rw[LB];refine J7.2<|QO (λ{x y} K X b e=>?_) R.HO
  have e:(G x).1=(G y).1:=e;have:rh x=rh y:=AK;rw[OT (R.ok x K) (R.ok y X) this] at b;exact fI _ b
 .grind
 .let⟨h,i,e⟩:=B4.1 ((R.KF P.I f.1).2<|B4.2 ⟨f,t,rfl⟩);let⟨B,J,_⟩:=H h i;exact B4.2 ⟨G h,B4.2 ⟨h,i,rfl⟩,akK P.I B t (by rw[J,e])⟩
 .obtain⟨h,i,rfl⟩:=B4.1 U;let⟨B,J,L⟩:=H h i;let⟨a,b,c,d⟩:=alb P.I B L;exact⟨a,b,c,d,λx K=>j x (((P.I.Ck _ B).2.2.2 x).1<|(d x).1 K).1⟩
 .have g:(s.1.map G)[A.length]? =some w:=by rw[V];simp
  rw[Fp] at g;obtain⟨h,F,rfl⟩:=Option.map_eq_some_iff.1 g;let⟨B,J,L⟩:=H h<|HC F
  let⟨r,r1,Y,u,e,v,E⟩:=wH R O j F;rw[r1,e,(D B J v E).same L]
def ahF:An (1/3)=[49,47,51]:=A6
def y4:lv 1 (1/3:Rat):=⟨Cs A6,Cs A6⟩
def uH(P:E9 l S s):∃y,AB s.2.1 0=some (As y)/\BS 70 y:=by
 let⟨Z,R⟩:=P.R;have a:=akz P.I
 match S,P.I,a with
 |[],_,a=>exact absurd a<|Rat.lt_irrefl
 |f::S,I,_=>
  let⟨d,e,f3,c⟩:=I.Ck f Ca
  match h:f.2,f3 with
  |x::L,_=>
   have v:=((c x).1 (by rw[h];simp)).1;have m:=(R.mem x).2 v
   match Z,R,m with|z::Z,R,_=>exact⟨z.1,by rw[R.cor];rfl,QW P.ok<|(R.mem z.1).1 AO⟩
theorem aeU(P:E9 l S s)(hl:l.length<=16):RC s=some (An<|Ik S/6)/\lv 470000 (Ik S/6):=by
 let⟨W,Q,_,T,u,E⟩:=vD P A4;let⟨y,U,H⟩:=uH P;have Y:W.length<=16:=by let⟨Z,R⟩:=P.R;have:=R.len;rw[BL] at this;omega
 have key:Yd (λr=>r=An (Ik S/6)/\lv 470000 (Ik S/6)) (RC s):=by
  unfold RC;rw[<-Q];have t0:An ((0:Rat)/2)=[48]:=A6;refine Bw W (λ(t:AA) i=>(t,i)) (λA t=>t=An (sm (λw:BY×A3 Q3=>Fj 1 o3 y w.2) A/2)/\lv (29300*A.length+1) (sm (λw:BY×A3 Q3=>Fj 1 o3 y w.2) A/2)) (λA w C t k c F next=>?_) (λt k F=>?_) (s0:=[48]) ⟨t0.symm,by show lv _ ((0:Rat)/2);rw[show(0:Rat)/2=0 by grind];exact(Ol _).1⟩ A4
  .dsimp;rw[Bt c,BF];have al:=CC c;let⟨B,a⟩:=F;let⟨c1,J,c3,c4,K⟩:=u w<|at_mem c
   let⟨V,D⟩:=nY K J A4;obtain⟨o,p,g,e⟩:∃o p g,w.2=o::p::g:=by match h:w.2,J with|o::p::g,_=>exact⟨o,p,g,rfl⟩
   have i0:AB (w.2.map As) 0=some (As o):=by rw[e];rfl
   have lo:=K o (by rw[e];simp);have d:=S6 lo H;have D:BS 9601 (GD w.2):=Dx D A4;have L:=OX d D;have X:AI (Ae o y) (GD w.2)=Fj 1 o3 y w.2/2:=by
    unfold GD;rw[Ef,e,xW,yM];show _=JG (kk 1 o3 y o) p g/2
    grind
   have j:sm (λw:BY×A3 Q3=>Fj 1 o3 y w.2) A/2+AI (Ae o y) (GD w.2)=sm (λw:BY×A3 Q3=>Fj 1 o3 y w.2) (A++[w])/2:=by rw[X,Sh];grind
   rw[B];refine A5 (E c) (A5 i0 (A5 U (A5 (Sr lo H A4) (A5 V (A5 (Sx d D A4) (A5 (Sy a L A4 A4) (A5 (Bk c A4) (next _ ⟨by rw[j],?_⟩))))))));rw[<-j];exact Cz (lva a L) (by rw[DD,G2];omega)
  .dsimp;rw[Bs,Av];let⟨B,a⟩:=F;have v:=aDb P.I 1 o3 o3 y T λw G=>⟨(u w G).1,(u w G).2.1,(u w G).2.2.2.1⟩
   rw[v] at B a;have m:=Om y4 a A4 A4;have e:1/3*(sm (λf:BY=>Fj 1 o3 o3 f.2) S/2)=Ik S/6:=by unfold Ik;grind
   have O:=Hu y4 a;rw[e] at O m;rw[ahF] at m;rw[B];exact A5 m<|AV ⟨rfl,Cz O A4⟩
 obtain⟨r,e,rfl,h⟩:=key;exact⟨e,h⟩
abbrev PS:=DL×A3 BY×G7
def Prs(n:Nat)(v:PS):Prop:=E9 v.1 v.2.1 v.2.2/\v.1.length<=n
def Prs.mono{m:Nat}{v:PS}(h:Prs m v)(hn:m<=n):Prs n v:=⟨h.1,CA h.2 hn⟩
def noR:G7×Bool:=(([],[],[]),false)
def GJ(v:PS)(h:BV):A3 BY×Bool:=(Kq v.2.1<|rh h).getD ([],false)
def clR(v:PS)(h:BV):G7×Bool:=(PY v.2.2 h).getD noR
def stp(v:PS)(h:BV):PS:=(h::v.1,(GJ v h).1,(clR v h).1)
theorem bN{v:PS}(P:Prs n v)(hn:n<=31)(f:Bh h):Kq v.2.1 (rh h)=some (GJ v h)/\PY v.2.2 h=some (clR v h)/\(GJ v h).2=(clR v h).2/\((GJ v h).2=true->Prs (n+1) (stp v h))/\(HJ (rh h::v.1.map rh)->(GJ v h).2=true):=by
 let⟨r,q,d,e,g⟩:=aim P.1 f (by have:=P.2;omega);have w:GJ v h=r:=by unfold GJ;rw[d];rfl
 have u:clR v h=q:=by unfold clR;rw[e];rfl
 refine⟨by rw[w];exact d,by rw[u];exact e,?_,?_,?_⟩
 .grind
 .intro c;rw[w] at c;rcases g with⟨_,_,p⟩|⟨a,_⟩
  .refine⟨?_,by show v.1.length+1<=n+1;have:=P.2;omega⟩;show E9 (h::v.1) (GJ v h).1 (clR v h).1;rw[w,u];exact p
  .grind
 .grind
theorem akj{f:DL->Int}{l:A3 DL}(h:R5 f l 0):l.Pairwise LO:=by
 unfold R5 at h;rcases h with⟨a,b⟩|⟨_,⟨b,_⟩|⟨_,b⟩⟩
 .grind
 .cases b
 .exact b
def aj9(hn:n<=60){l:A3 DL}(h:64<l.length\/(l.length<=n/\∀x∈l,Small x)):∃X c,He l=some (X,c)/\PA l=some c/\(c=0->l.length<=n/\l.Pairwise LO/\∃V:A3 PS,l=V.map (·.1)/\X=V.map (·.2.1)/\∀v∈V,Ht v.1 v.2.1/\E9 v.1 v.2.1 v.2.2/\Fu v.1=some v.2.2/\v.1.length<=10):=by
 rcases h with h|⟨j,g⟩
 .refine⟨[],5,?_,?_,λc=>by cases c⟩
  .unfold He;rw[B1 (show(64:Int)<(l.length:Int) by omega)];rfl
  .unfold PA;rw[B1 (show(64:Int)<(l.length:Int) by omega)];rfl
 .let⟨v,v1,v2⟩:=ko A4 g;let⟨w,m,i,r⟩:=aha A4 g;have e:v=w.2:=v2.same i;refine⟨w.1,w.2,m,by rw[<-e];exact v1,λc=>⟨j,akj (by rw[c] at i;exact i),?_⟩⟩;let⟨W,a,b,d⟩:=r c;have ok:∀u∈W,E9 u.1 u.2 ((Fu u.1).getD ([],[],[]))/\Fu u.1=some ((Fu u.1).getD ([],[],[]))/\u.1.length<=10:=λu f=>by have sm:=(g u.1 (by rw[a];exact B4.2 ⟨u,f,rfl⟩)).2.1;let⟨s,e,P⟩:=afJ (d u f).1 A4;rw[e];exact⟨P,rfl,sm⟩
  refine⟨W.map λu=>(u.1,u.2,(Fu u.1).getD ([],[],[])),by rw[a,LB];rfl,by rw[b,LB];rfl,λv t=>?_⟩;obtain⟨u,f,rfl⟩:=B4.1 t;exact⟨(d u f).1,ok u f⟩
def ajV{x:Q3}(h:BS n x)(hn:n<=1700000):∃r,Mj x=some r/\PW r.1 r.2 (As x)=some true:=by
 have a:=alB h A4;have b:=akN h A4;cases c:MY x<;>rw[c] at a b
 .refine⟨(As x,0),?_,?_⟩
  .unfold Mj;rw[a,Bx,Av,anP c];rfl
  .unfold PW;rw[b,Bx,show(!decide ((bif false then(4:Int) else 0)=0))=false from rfl,Av];simp
 .refine⟨(([],[],[]),4),?_,?_⟩
  .unfold Mj;rw[a];rfl
  .unfold PW;rw[b];rfl
theorem aaE(c d:Int):RQ [c,d]=some (bif !decide (c=0) then c else d):=by
 obtain⟨F,hF⟩:∃F,18446744073709551616=F+3:=⟨18446744073709551613,rfl⟩;unfold RQ;rw[hF];show cond (!decide (c=0)) (some c) (cond (!decide (d=0)) (some d)<|some 0)=_;cases a:decide (c=0)
 .rfl
 .grind
theorem Q1(c d:Int):Nt [c,d]=some (bif !decide (c=0) then c else d):=by
 obtain⟨F,hF⟩:∃F,18446744073709551616=F+3:=⟨18446744073709551613,rfl⟩;unfold Nt;rw[hF];show cond (!decide (c=0)) (some c) (cond (!decide (d=0)) (some d)<|some 0)=_;cases a:decide (c=0)
 .rfl
 .grind
theorem akt{A B:A3 H3}{p:Q3}(d:∀h∈A,val h p<0)(f:Mem B p)(hi:∃o,∀h∈B,val h o<0):∃z,∀h∈A++B,val h z<0:=by
 let⟨o,g⟩:=hi;let⟨e,r,i⟩:=room (L:=A) (q:=p) (w:=Ae o p) (λh c=>EF<|d h c) λh c u=>by have:=d h c;grind
 obtain⟨t,t0,v,D⟩:∃t:Rat,0<t/\t<=e/2/\t<1:=by
  rcases Xz (a:=e/2) (b:=1/2) with h|h
  .exact⟨e/2,AK,AK,AK⟩
  .grind
 refine⟨BK p<|BG (Ae o p) t,λh c=>?_⟩;rcases Bi.1 c with m|m
 .have h1:=i (2*t) AK AK h m;have j:=d h m;rw[JW] at h1⊢
  grind
 .have h1:=f h m;have j:=g h m;rw[JW,val_sub];have a:=Ed t0 (show 0< -val h o by grind);have b:=Cr (show 0<=1-t by grind) (show 0<= -val h p by grind)
  grind
def ab5:rq [48]=0:=A6
def aqM:rq [49]=1:=A6
def apd:isNum [48] (rq [48]):=by rw[ab5];exact⟨A6,⟨Cs A6,Cs A6⟩,A6⟩
def apc:isNum [49] (rq [49]):=by rw[aqM];exact⟨A6,⟨Cs A6,Cs A6⟩,A6⟩
def cn(h:BV):BV:=(h.1,[48])
def cn3(h:H3):H3:=(h.1,0)
def Bh.cn{h:BV}(o:Bh h):Bh (cn h):=⟨apd,o.x,o.y,o.z,o.g⟩
def qc(h:BV):rh (cn h)=cn3 (rh h):=by show(rn h.1,rq [48])=(rn h.1,0);rw[ab5]
def Ho:DL:=[((1,0,0),[49]),((-1,0,0),[49]),((0,1,0),[49]),((0,-1,0),[49]),((0,0,1),[49]),((0,0,-1),[49])]
def yV:∀h∈Ho,Bh h:=λh e=>by
 have k:∀n:N3,EK n.1=false->EK n.2.1=false->EK n.2.2=false->GG n=1->Bh (n,[49]):=λn a b c d=>⟨apc,a,b,c,d⟩
 unfold Ho at e;simp[Ak,QL,or_false] at e;rcases e with rfl|rfl|rfl|rfl|rfl|rfl<;>exact k _ Dn Dn Dn Dn
def yW:Ho.map rh=[((1,0,0),1),((-1,0,0),1),((0,1,0),1),((0,-1,0),1),((0,0,1),1),((0,0,-1),1)]:=A6
theorem akZ(k:H3):k∈Ho.map rh↔k∈Cu 1:=by
 rw[yW];unfold Cu;simp[Ak,QL,or_false]
 grind
def aie:∃S s,JM 1=some S/\Ky=some s/\E9 Ho S s:=by
 let⟨S,e,I⟩:=aB9 (a:=1) (k:=1) IK A4 ⟨Cs A6,Cs A6⟩ A4;have I:By S (Ho.map rh):=I.congr akZ;let⟨r,r1,d⟩:=ku yV IK;have c:Ky=bd (PR Ho) λx=>some x.1:=by obtain⟨F,hF⟩:∃F,18446744073709551616=F+4:=⟨18446744073709551612,rfl⟩;unfold Ky;rw[hF];rfl
 rw[r1] at c;rcases d with⟨_,n⟩|⟨_,_,n⟩|⟨_,_,_,_,_,Z,R⟩
 .exact absurd I.HZ n
 .exact absurd I.int n
 .exact⟨S,r.1,e,c,yV,I,Z,R⟩
def akY(e:JM 1=some S){r:Rat×Q3}(h:Me S=some r):r.1=8:=by have k:(bd (JM 1) λS=>bd (Me S) λr=>some r.1)=some 8:=A6;rw[e,Bx,h,Bx] at k;exact E2 k
theorem aeI{L:A3 H3}(P:E9 l S s)(d:∀h∈b,Bh h)(j:∀k,k∈L↔k∈b.map rh)(G:L.length<=20)(hl:l.length+b.length<=32)(r:HJ (b.map rh++l.map rh)):∃T t,KJ S L=some (T,true)/\RF s b=some (t,true)/\E9 (b++l) T t:=by
 have o:∀g∈b++l,Bh g:=λg i=>(Bi.1 i).elim (d g)<|P.ok g
 have F1:Gv 14 (L++l.map rh):=λg i=>(Bi.1 i).elim (λm=>Bh.F1 d g<|(j g).1 m)<|Bh.F1 P.ok g
 have u:∀g∈L++l.map rh,GF g.1:=λg i=>(Bi.1 i).elim (λm=>Bh.LP d g<|(j g).1 m)<|Bh.LP P.ok g
 let⟨Z,R⟩:=P.R;let⟨⟨T,x⟩,r1,r2⟩:=Yd.kJ P.I F1 A4 Co (λh w=>(u h<|Fq _ w).nz) λa B c D=>Rk (u a B)<|u c D
 let⟨⟨t,y⟩,q1,E⟩:=tS R P.I P.ok d hl;have at_:∀{N:A3 H3},(∀k,k∈N↔k∈b.map rh\/k∈l.map rh)->∀k,k∈(b++l).map rh↔k∈N:=λn k=>by rw[n,I5,Bi]
 have v:HJ (L++l.map rh):=by let⟨z,F⟩:=r;exact⟨z,λg i=>F g<|Bi.2<|(Bi.1 i).imp (j g).1 id⟩
 rcases r2 with⟨e,N,n1,_,I1⟩|⟨e,n⟩
 .rcases E with⟨f,N',T',Z',m1,R1,J1⟩|⟨f,m⟩
  .have n1:∀k,k∈N↔k∈b.map rh\/k∈l.map rh:=λk=>by rw[n1,j]
   dsimp only at e f;subst e f;exact⟨T,t,r1,q1,o,I1.congr<|at_ n1,Z',R1.congr<|at_ m1⟩
  .grind
 .exact absurd v n
def akg(P:E9 l S s)(hl:l.length<=16):(∃m,Me S=some (Ik S/6,m))/\RC s=some (An<|Ik S/6)/\lv 470000 (Ik S/6):=by have L:=P.I.len;rw[BL] at L;refine⟨⟨_,(afF A4 λf d=>?_).1⟩,aeU P hl⟩;let⟨a,e,f3,c⟩:=P.I.Ck f d;have n:=bh P.I.HZ a (P.I.nz _ a) e f3 c;rw[BL] at n;exact⟨f3,A4,λx g=>QW P.ok ((c x).1 g).1⟩
theorem agf(ok:∀h∈b,Bh h)(hi:∃o,∀h∈b.map rh,val h o<0):HJ (((b.filter λh=>decide<|val (rh h) q=0).map cn).map rh++Ho.map rh):=by
 let⟨o,j⟩:=hi;have c:∀h∈Ho.map rh,val h o3<0:=λh a=>by rw[yW] at a;simp[Ak,QL,or_false] at a;rcases a with rfl|rfl|rfl|rfl|rfl|rfl<;>(unfold val AI o3;grind)
 let⟨e,i,r⟩:=room (L:=Ho.map rh) (q:=o3) (w:=Ae o q) (λh a=>EF<|c h a) λh a u=>by have:=c h a;grind
 refine⟨BK o3<|BG (Ae o q)<|e/2,λh a=>?_⟩;rcases Bi.1 a with m|m
 .obtain⟨g,mg,rfl⟩:=B4.1 m;obtain⟨k,t,rfl⟩:=B4.1 mg;let⟨k1,f⟩:=EG.1 t;have f:=Aq f;have v:=j _<|B4.2 ⟨k,k1,rfl⟩
  have d:=val_sub (rh k) q o;rw[qc,JW];have z:val (cn3<|rh k) o3=0:=by unfold val cn3;rw[Ql];grind
  rw[z];show 0+e/2*AI (rh k).1 (Ae o q)<0;rw[d,f];have:=Ed i (show 0< -val (rh k) o by grind)
  grind
 .have h1:=r e (EF i) El h m;have B:=c h m;rw[JW] at h1⊢
  grind
def qL{s:AA}{q:Rat}(h:isNum s q):lv 14 q:=⟨by rw[Iu];exact QF h.2.1.1,QF h.2.1.2⟩
def Yc{p:T3}(h:Kh p q):BS 14 q:=⟨qL h.1,qL h.2.1,qL h.2.2⟩
def vn{p:T3}(h:Kh p q):p=As q:=by let⟨a,b,c⟩:=p;let⟨d,e,f⟩:=h;show(a,b,c)=(An q.1,An q.2.1,An q.2.2);rw[<-d.1,<-e.1,<-f.1]
def Dg(q:Q3)(v:PS):Bool:=(v.1.map rh).all λh=>decide<|val h q<=0
def YK{v:PS}:Dg q v=true↔Mem (v.1.map rh) q:=by unfold Dg Mem;rw[DC];exact⟨λh k a=>Aq<|h k a,λh k a=>B1<|h k a⟩
def Gc(q:Q3)(v:PS):DL:=(v.1.filter λh=>decide<|val (rh h) q=0).map cn
def TC(q:Q3)(v:PS):A3 H3:=((v.2.1.map (·.1)).filter λh=>decide<|val h q=0).map cn3
def Gf(S:A3 BY)(q:Q3)(v:PS):Rat:=Ik ((KJ S<|TC q v).getD ([],false)).1/6
def UY(o:Ht b S)(k:H3):k∈S.map (·.1)↔k∈b.map rh:=by refine⟨λa=>?_,o.2.2 k⟩;obtain⟨f,c,rfl⟩:=B4.1 a;exact(o.2.1.Ck f c).1
end
section
variable{V:List PS}(hV:∀v∈V,Ht v.1 v.2.1/\E9 v.1 v.2.1 v.2.2/\Fu v.1=some v.2.2/\v.1.length<=10){S8:List BY}{s8:G7}(P8:E9 Ho S8 s8)(c1:JM 1=some S8)(c2:Ky=some s8){q:Q3}
include hV P8
theorem nv{v:PS}(i:v∈V):∃T t,KJ S8 (TC q v)=some (T,true)/\RF s8 (Gc q v)=some (t,true)/\(∃m,Me T=some (Gf S8 q v,m))/\RC t=some (An<|Gf S8 q v)/\lv 470000 (Gf S8 q v):=by
 let⟨o,P,_,d⟩:=hV v i;have L:=P.I.len;rw[BL] at L;have H:(Gc q v).length<=10:=by unfold Gc;rw[BL];exact CA (Uq _ _) d
 have j:(TC q v).length<=20:=by unfold TC;rw[BL];refine CA (Uq _ _) ?_;rw[BL];omega
 have e:∀h∈Gc q v,Bh h:=λh a=>by obtain⟨g,c,rfl⟩:=B4.1 a;exact(o.1 g (EG.1 c).1).cn
 have mem:∀k,k∈TC q v↔k∈(Gc q v).map rh:=λk=>by
  constructor
  .intro m;obtain⟨h,a,rfl⟩:=B4.1 m;let⟨u,w⟩:=EG.1 a;obtain⟨g,c,rfl⟩:=B4.1<|(UY o h).1 u
   exact B4.2 ⟨cn g,B4.2 ⟨g,EG.2 ⟨c,w⟩,rfl⟩,qc g⟩
  .intro m;obtain⟨h,a,rfl⟩:=B4.1 m;obtain⟨g,c,rfl⟩:=B4.1 a;let⟨B,D⟩:=EG.1 c;exact B4.2 ⟨rh g,EG.2 ⟨(UY o _).2<|B4.2 ⟨g,B,rfl⟩,D⟩,(qc g).symm⟩
 let⟨T,t,f,E,t3⟩:=aeI P8 e mem j (by rw[show Ho.length=6 from rfl];omega)<|agf o.1 o.2.1.int
 have F:Gf S8 q v=Ik T/6:=by unfold Gf;rw[f];rfl
 let⟨m,r,G⟩:=akg t3 (by rw[DD,show Ho.length=6 from rfl];omega);rw[F];exact⟨T,t,f,E,m,r,G⟩
end
section
variable{V:List PS}(hV:∀v∈V,Ht v.1 v.2.1/\E9 v.1 v.2.1 v.2.2/\Fu v.1=some v.2.2/\v.1.length<=10){S8:List BY}{s8:G7}(P8:E9 Ho S8 s8)(c1:JM 1=some S8)(c2:Ky=some s8){q:Q3}
include hV P8
include c1
theorem apv{v:PS}(c:v∈V)(h:TC q v=[]):Gf S8 q v=8:=by
 let⟨T,t,a,_,⟨m,t3⟩,_⟩:=nv hV P8 (q:=q) c;have e:KJ S8 []=some (S8,true):=by obtain⟨F,hF⟩:∃F,18446744073709551616=F+1:=⟨18446744073709551615,rfl⟩;unfold KJ;rw[hF];rfl
 rw[h,e] at a;cases a;exact akY c1 t3
end
section
variable{V:List PS}(hV:∀v∈V,Ht v.1 v.2.1/\E9 v.1 v.2.1 v.2.2/\Fu v.1=some v.2.2/\v.1.length<=10){S8:List BY}{s8:G7}(P8:E9 Ho S8 s8)(c1:JM 1=some S8)(c2:Ky=some s8){q:Q3}
include hV P8
include c1
variable(vl:V.length<=3){p:T3}(hq:Kh p q)
include vl hq
theorem ajQ{l:A3 DL}(W:He l=some (V.map (·.2.1),0))(X:KK p=some 0):Lk l p=some ((bif !V.any (Dg q) then -1 else bif decide (sm (Gf S8 q) (V.filter<|Dg q)=8) then 1 else 0),0):=by
 have Y:=Yc hq;refine F8 ?_;unfold Lk;refine A5 W<|A5 X<|A5 (Q1 0 0) ?_
 rw[show(!decide ((bif !decide ((0:Int)=0) then(0:Int) else 0)=0))=false from rfl,Av];refine A5 (vM hq)<|A5 (x:=(0:Rat)) A6 ?_
 rw[BL];refine Bw V (λ(s:Rat×Bool) i=>(s.1,s.2,i)) (λA s=>s.1=sm (Gf S8 q) (A.filter<|Dg q)/\s.2=A.any (Dg q)/\lv (470001*A.length+1) s.1) (λA v C s k f F next=>?_) (λs k F=>?_) (s0:=((0:Rat),false)) ⟨rfl,rfl,(Ol _).1⟩ A4
 .dsimp;rw[Bt f,BF];have al:=CC f;have O:=at_mem f;let⟨o,P,_,l10⟩:=hV v O;have L:=P.I.len;rw[BL] at L;let⟨G,Q,j⟩:=F;have al2:(A++[v]).length=A.length+1:=AO;refine CZ (λt:Rat×Bool=>t.1=sm (Gf S8 q) ((A++[v]).filter<|Dg q)/\t.2=(A++[v]).any (Dg q)/\lv (470001*(A++[v]).length+1) t.1) (λt w=>A5 (Bk f A4)<|next t w) λYh R=>?_
  refine A5 (FG (λv:PS=>v.2.1) f)<|Au (Yd.tw A4) λr hr=>?_
  subst hr;have lh:∀h∈v.2.1.map (·.1),BS 14 h.1/\lv 14 h.2:=λh mh=>by
   obtain⟨g,U,rfl⟩:=B4.1<|(UY o h).1 mh
   exact⟨(o.1 g U).lvn A4,(o.1 g U).HU⟩
  refine Bw (v.2.1.map (·.1)) (λ(c:A3 H3) i=>(c,i)) (λB c=>(∀h∈B,val h q<=0)/\c=(B.filter λh=>decide<|val h q=0).map cn3) (λB h D c H e E a=>?_) (λc H E=>?_) (s0:=[]) ⟨AO,rfl⟩ (by rw[BL];omega)
  .dsimp;rw[Bt e,BF];have bl:=CC e;rw[BL] at bl;have cl:c.length<=B.length:=AK;refine CZ (λt:A3 H3=>val h q<=0/\t=((B++[h]).filter λh=>decide<|val h q=0).map cn3) (λt w=>A5 (Bk e (by rw[BL];omega))<|a t ⟨L1 E.1 w.1,w.2⟩) λk25 u=>?_
   refine A5 (Bl e)<|A5 (X3 (lh h<|at_mem e) Y A4 A4).1<|A5 rfl ?_
   rw[Pr,sign_zero];refine Ab (λd=>R _ ?_) λd=>Ab (λJ=>A5 (x:=(0:Rat)) A6 (A5 (app_1 A4 A4) (u _ ⟨by have:=Aq J;grind,?_⟩))) λJ=>u _ ⟨by have:=BX d;grind,?_⟩
   .have no:Dg q v=false:=by
     rw[Bool.eq_false_iff];intro c;have:=YK.1 c h<|(UY o h).1<|at_mem e
     have:=Aq d
     grind
    refine⟨?_,?_,Cz j A4⟩
    .grind
    .grind
   .rw[E.2,LL];simp[J,cn3]
   .grind
  .dsimp;rw[Bs,Av];obtain⟨q1,rfl⟩:=E;have K:Dg q v=true:=YK.2 λk mk=>q1 k<|(UY o k).2 mk
   let⟨T,t,t1,_,⟨m,t3⟩,_,t5⟩:=nv hV P8 (q:=q) O;have ad:=(Sm (n:=10000000) (Cz j A4) (Cz t5 A4) A4 A4).1;refine A5 (x:=(1:Rat)) A6<|A5 c1<|A5 t1<|A5 t3<|A5 ad<|R _ ⟨?_,?_,Cz (lva j t5) A4⟩
   .rw[LL,G];simp[K,Sh]
   .grind
 .dsimp;rw[Bs,Av];let⟨G,Q,j⟩:=F;rw[Q];refine Ab (λd=>AV (by rw[d];rfl)) λd=>?_
  have e8:Ki s.1 8=some (decide<|s.1=8):=by unfold Ki;rw[Ia j A4,show EC 8=true from by kernel_rfl];rfl
  refine A5 (x:=(8:Rat)) A6<|A5 e8 ?_
  rw[d,Av,<-G];cases decide (s.1=8)<;>exact AV rfl
end
def apF:An 8=[56]:=A6
section
variable{V:List PS}(hV:∀v∈V,Ht v.1 v.2.1/\E9 v.1 v.2.1 v.2.2/\Fu v.1=some v.2.2/\v.1.length<=10){S8:List BY}{s8:G7}(P8:E9 Ho S8 s8)(c1:JM 1=some S8)(c2:Ky=some s8){q:Q3}(vl:V.length<=3){p:T3}(hq:Kh p q)
include hV vl hq
theorem ahx:Zy (V.map (·.1)) p=some ((V.filter<|Dg q).map<|Gc q):=by
 have u:=Yc hq;rw[vn hq];refine F8 ?_;unfold Zy;rw[BL];refine Bw V (λ(s:A3 DL) i=>(s,i)) (λA s=>s=(A.filter<|Dg q).map (Gc q)) (λA v C s k e j next=>?_) (λs k j=>?_) (s0:=[]) rfl A4
 .dsimp;rw[Bt e,BF];have K:=CC e;let⟨o,P,_,G⟩:=hV v<|at_mem e
  have f:AB (V.map (·.1)) (A.length:Int)=some v.1:=FG (λv:PS=>v.1) e;have L:s.length<=3:=AK;refine CZ (λt:A3 DL=>t=((A++[v]).filter<|Dg q).map (Gc q)) (λt m=>A5 (Bk e A4)<|next t m) λk5 w=>?_
  refine A5 f<|Au (um o.1 A4 u A4) λb H=>?_
  have I:b=Dg q v:=by rw[SE,H,YK]
  subst I;refine Ab (λE=>w _ ?_) λE=>?_
  .grind
  .have yes:Dg q v=true:=by simpa using E
   refine Bw v.1 (λ(c:DL) i=>(c,i)) (λB c=>c=(B.filter λh=>decide<|val (rh h) q=0).map cn) (λB h D c G6 d r a=>?_) (λc G6 r=>?_) (s0:=[]) rfl A4
   .dsimp;have bl:=CC d;have O:c.length<=B.length:=AK;refine A5 f ?_;rw[Bt d,BF];refine CZ (λt:DL=>t=((B++[h]).filter λh=>decide<|val (rh h) q=0).map cn) (λt m=>A5 (Bk d A4)<|a t m) λJ g=>?_
    refine A5 f<|A5 (Bl d)<|A5 (gH (o.1 h<|at_mem d) u A4) ?_
    rw[sign_zero];refine Ab (λF=>A5 f<|A5 (Bl d)<|A5 (app_1 A4 A4)<|g _ ?_) λF=>g _ ?_
    .rw[r,LL];simp[F,cn]
    .grind
   .dsimp;refine A5 f ?_;rw[Bs,Av];refine A5 (app_1 A4 A4)<|w _ ?_
    rw[j,r,LL];simp[yes,Gc]
 .dsimp;rw[Bs,Av];exact AV j
end
section
variable{V:List PS}(hV:∀v∈V,Ht v.1 v.2.1/\E9 v.1 v.2.1 v.2.2/\Fu v.1=some v.2.2/\v.1.length<=10){S8:List BY}{s8:G7}(P8:E9 Ho S8 s8)(c1:JM 1=some S8)(c2:Ky=some s8){q:Q3}(vl:V.length<=3){p:T3}(hq:Kh p q)
include hV vl hq
omit hq
include P8 c2
theorem alc(h:∀v∈V.filter (Dg q),Gc q v≠[]):RH ((V.filter<|Dg q).map<|Gc q)=some (An<|sm (Gf S8 q)<|V.filter<|Dg q)/\lv 1500000 (sm (Gf S8 q)<|V.filter<|Dg q):=by
 have F:(V.filter<|Dg q).length<=3:=CA (Uq _ _) vl;have m:∀v∈V.filter (Dg q),v∈V:=λv d=>(EG.1 d).1
 generalize V.filter (Dg q)=W at*
 have key:Yd (λr=>r=An (sm (Gf S8 q) W)/\lv 1500000 (sm (Gf S8 q) W)) (RH<|W.map<|Gc q):=by
  unfold RH;have t0:An (0:Rat)=[48]:=A6;rw[<-t0,BL];refine Bw W (λ(t:AA) i=>(t,i)) (λA t=>t=An (sm (Gf S8 q) A)/\lv (470001*A.length+1) (sm (Gf S8 q) A)) (λA v C t k a f next=>?_) (λt k f=>?_) (s0:=An 0) ⟨rfl,(Ol _).1⟩ A4
  .dsimp;rw[Bt a,BF];have G:=CC a;have d:=at_mem a;let⟨u,g⟩:=f;have j:AB (W.map<|Gc q) (A.length:Int)=some (Gc q v):=FG (Gc q) a;have ne:decide (((Gc q v).length:Int)=0)=false:=Bb λc=>h v d<|Hk A4
   let⟨T,H,I,w,_,t4,t5⟩:=nv hV P8 (q:=q)<|m v d
   have B:(A++[v]).length=A.length+1:=AO;refine CZ (λt:AA=>t=An (sm (Gf S8 q)<|A++[v])/\lv (470001*(A++[v]).length+1) (sm (Gf S8 q)<|A++[v])) (λt D=>A5 (Bk a A4)<|next t D) λk5 E=>?_
   refine A5 j ?_;rw[ne,Av];refine A5 c2<|A5 j<|A5 w ?_
   rw[BF,u];refine A5 t4<|A5 (Sy g t5 A4 A4)<|E _ ?_
   rw[Sh];exact⟨rfl,Cz (lva g t5) A4⟩
  .dsimp;rw[Bs,Av];exact AV ⟨f.1,Cz f.2 A4⟩
 obtain⟨r,e,rfl,h⟩:=key;exact⟨e,h⟩
end
section
variable{V:List PS}(hV:∀v∈V,Ht v.1 v.2.1/\E9 v.1 v.2.1 v.2.2/\Fu v.1=some v.2.2/\v.1.length<=10){S8:List BY}{s8:G7}(P8:E9 Ho S8 s8)(c1:JM 1=some S8)(c2:Ky=some s8){q:Q3}(vl:V.length<=3){p:T3}(hq:Kh p q)
include hV vl hq
omit hq
include P8 c2
omit P8 c2 vl
theorem alone(d:(V.map (·.1)).Pairwise LO){v:PS}(r:v∈V.filter (Dg q))(h:Gc q v=[]):V.filter (Dg q)=[v]:=by
 have d:V.Pairwise λa b=>LO a.1 b.1:=J7.1 d
 have d:=d.filter<|Dg q
 have j:∀u∈V.filter (Dg q),u∈V/\Dg q u=true:=λu f=>EG.1 f
 generalize V.filter (Dg q)=W at*
 have strict:∀k∈v.1.map rh,val k q<0:=λk i=>by
  obtain⟨g,w,rfl⟩:=B4.1 i;have a:=YK.1 (j v r).2 _ i;have b:val (rh g) q≠0:=λc=>by have:cn g∈Gc q v:=B4.2 ⟨g,EG.2 ⟨w,B1 c⟩,rfl⟩;rw[h] at this;cases this
  grind
 have t:∀u∈W,∃z,∀k∈v.1.map rh++u.1.map rh,val k z<0:=λu f=>akt strict (YK.1 (j u f).2) (hV u (j u f).1).1.2.1.int
 let⟨A,C,e⟩:=YB r;subst e;let⟨_,B,D⟩:=G1.1 d;have E:A=[]:=by
  cases A with
  |nil=>rfl
  |cons a A=>let⟨z,m⟩:=t a AO;exact absurd ⟨z,λk i=>m k<|Bi.2<|(Bi.1 i).elim .inr .inl⟩<|D a AO v AO
 have F:C=[]:=by
  cases C with
  |nil=>rfl
  |cons c C=>let⟨z,m⟩:=t c AO;exact absurd ⟨z,m⟩<|(Fh.1 B).1 c AO
 rw[E,F];rfl
end
section
variable{V:List PS}(hV:∀v∈V,Ht v.1 v.2.1/\E9 v.1 v.2.1 v.2.2/\Fu v.1=some v.2.2/\v.1.length<=10){S8:List BY}{s8:G7}(P8:E9 Ho S8 s8)(c1:JM 1=some S8)(c2:Ky=some s8){q:Q3}(vl:V.length<=3){p:T3}(hq:Kh p q)
include hV vl hq
omit hq
include P8 c2
omit P8 c2 vl
include P8 c1 c2 vl hq
theorem ajS(j:(V.map (·.1)).Pairwise LO)(m:He (V.map (·.1))=some (V.map (·.2.1),0))(r:KK p=some 0):∃n,Lk (V.map (·.1)) p=some (n,0)/\W6 (V.map (·.1)) p=some n:=by
 refine⟨_,ajQ hV P8 c1 vl hq m r,?_⟩;have t:((V.filter<|Dg q).map<|Gc q).length=(V.filter<|Dg q).length:=BL _;unfold W6;rw[ahx hV vl hq,Bx,t];by_cases d:V.filter (Dg q)=[]
 .have:V.any (Dg q)=false:=by rw[Un];intro v a c;have:v∈V.filter (Dg q):=EG.2 ⟨a,c⟩;rw[d] at this;cases this
  rw[this,d];rfl
 .have:V.any (Dg q)=true:=by let⟨v,a⟩:=YG _ d;exact Y8.2 ⟨v,EG.1 a⟩
  rw[this];have hn:decide (((V.filter<|Dg q).length:Int)=0)=false:=Bb λc=>d<|Hk A4
  rw[hn,Av,dW,Av];by_cases f:∃v∈V.filter (Dg q),Gc q v=[]
  .let⟨v,a,e⟩:=f;have i:=(EG.1 a).1;have w:=alone hV j a e;have u:TC q v=[]:=by
    refine List.eq_nil_iff_forall_not_mem.2 λk B=>?_
    obtain⟨h,D,rfl⟩:=B4.1 B;let⟨E,G⟩:=EG.1 D;obtain⟨g,H,rfl⟩:=B4.1<|(UY (hV v i).1 h).1 E
    have:cn g∈Gc q v:=B4.2 ⟨g,EG.2 ⟨H,G⟩,rfl⟩;rw[e] at this;cases this
   have I:=apv hV P8 c1 i u;have J:RH ((V.filter<|Dg q).map<|Gc q)=some [56]:=by obtain⟨F,hF⟩:∃F,18446744073709551616=F+1:=⟨18446744073709551615,rfl⟩;rw[w,List.map_singleton,e];unfold RH;rw[hF];rfl
   rw[J,w];have:sm (Gf S8 q) [v]=8:=by show Gf S8 q v+0=8;rw[I];grind
   rw[this];rfl
  .let⟨r1,r2⟩:=alc hV P8 c2 vl (q:=q) λv a c=>f ⟨v,a,c⟩
   rw[r1,Bx];have K:(An (sm (Gf S8 q)<|V.filter<|Dg q)==([56]:AA))=decide (sm (Gf S8 q) (V.filter<|Dg q)=8):=by rw[SE,N5,G0,<-apF];refine⟨λh=>gn r2 (n:=1) ⟨Cs A6,Cs A6⟩ A4 A4 h,λh=>by rw[h]⟩
   rw[K];cases decide (sm (Gf S8 q) (V.filter<|Dg q)=8)<;>rfl
end
def I8(v:PS)(h:BV):Q3:=GI (λf:BY=>GD f.2)<|(GJ v h).1.filter λf=>decide<|f.1=rh h
def alT{α:Type}(f:α->Q3):GI f []=o3:=rfl
theorem yY{v:PS}{n:Nat}(P:Prs n v)(hn:n<=31){h:BV}(c:Bh h)(m:(GJ v h).2=false):(GJ v h).1=[]:=by
 have o:∀g∈h::v.1,Bh g:=λg f=>(Ak.1 f).elim (λe=>by rw[e];exact c)<|P.1.ok g
 have F1:Gv 14 (rh h::v.1.map rh):=Bh.F1 o;have d:∀g∈rh h::v.1.map rh,GF g.1:=Bh.LP o;let⟨r,r1,r2⟩:=Yd.ae P.1.I F1 A4 (by have:=P.2;rw[BL];omega) c.VZ.nz λa i b j=>Rk (d a i)<|d b j
 rw[(bN P hn c).1] at r1;cases r1;rcases r2 with⟨e,_⟩|⟨e,_⟩
 .grind
 .rw[e]
theorem ag5{f:BY}{h:H3}{n:Nat}(d:BS n f.1.1/\lv n f.1.2)(g:BS n h.1/\lv n h.2)(hn:n<=1000){ρ:Type}{R:ρ->Prop}{K:Bool->A9 ρ}(k:Yd R (K<|decide<|f.1=h)):Yd R (bd (Ku f.1.1 h.1) λa=>Aw (gd a true) (false) (Ki f.1.2 h.2) λc=>K<|a&&c):=by
 have s1:Ku f.1.1 h.1=some (decide<|f.1.1=h.1):=by let⟨v,v1,_,v3⟩:=cd d.1 g.1 A4;unfold Ku;rw[v1,Bx,F5.2 v3]
 have s2:Ki f.1.2 h.2=some (decide<|f.1.2=h.2):=by unfold Ki;rw[Ia d.2 A4,Ia g.2 A4];rfl
 have e:decide (f.1=h)=(decide (f.1.1=h.1)&&decide (f.1.2=h.2)):=AK;rw[e] at k;refine A5 s1 ?_;cases i:decide (f.1.1=h.1)
 .rw[i] at k;exact k
 .rw[i] at k;rw[show gd true true=true from rfl,C6 rfl];exact A5 s2 k
section
variable{V:List PS}(hV:∀v∈V,Ht v.1 v.2.1/\E9 v.1 v.2.1 v.2.2/\Fu v.1=some v.2.2/\v.1.length<=10)(vl:V.length<=3){h:BV}(oh:Bh h)
include hV vl oh
theorem oZ{v:PS}(a:v∈V):Prs 10 v:=⟨(hV v a).2.1,(hV v a).2.2.2⟩
theorem xP{v:PS}(t:v∈V){f:BY}(c:f∈(GJ v h).1):(BS 14 f.1.1/\lv 14 f.1.2)/\3<=f.2.length/\f.2.length<=11/\(∀x∈f.2,BS 70 x)/\(GJ v h).1.length<=11:=by
 have P:=oZ hV vl oh t;let⟨_,_,_,c4,_⟩:=bN P A4 oh;cases i:(GJ v h).2
 .rw[yY P A4 oh i] at c;cases c
 .let⟨a,j⟩:=c4 i;have a:E9 (stp v h).1 (GJ v h).1 (stp v h).2.2:=a;have j:(stp v h).1.length<=11:=j;have L:=a.I.len;rw[BL] at L;let⟨d,u,f3,m⟩:=a.I.Ck f c;have n:=bh a.I.HZ d (a.I.nz _ d) u f3 m;rw[BL] at n;let⟨g,r,e⟩:=B4.1 d;refine⟨?_,f3,A4,λx w=>QW a.ok ((m x).1 w).1,A4⟩;rw[<-e];exact⟨(a.ok g r).lvn A4,(a.ok g r).HU⟩
theorem aeW{l:A3 DL}(J:He l=some (V.map (·.2.1),0))(L:Kr h=some 0){x:T3×Int}(O:Mj (GI (λv=>I8 v h) V)=some x):PE l h=some x:=by
 have E:∀v∈V,Kq v.2.1 (rh h)=some (GJ v h):=λv d=>(bN (oZ hV vl oh d) A4 oh).1
 refine F8 ?_;unfold PE;refine A5 J<|A5 L<|A5 (Q1 0 0) ?_
 rw[show(!decide ((bif !decide ((0:Int)=0) then(0:Int) else 0)=0))=false from rfl,Av];refine A5 oh.from (A5 (x:=o3) A6 ?_)
 rw[BL];refine Bw V (λ(s:Q3) i=>(s,i)) (λA s=>s=GI (λv=>I8 v h) A/\BS (100000*A.length+1) s) (λA v C s k g u next=>?_) (λs k u=>?_) (s0:=o3) ⟨rfl,Ol _⟩ A4
 .dsimp;rw[Bt g,BF];have X:=CC g;have d:=at_mem g;have P:(A++[v]).length=A.length+1:=AO;refine A5 (FG (λv:PS=>v.2.1) g)<|A5 (E v d) ?_
  have Y:(GJ v h).1.length<=11:=by cases e:(GJ v h).1 with|nil=>simp|cons f F=>rw[<-e];exact(xP hV vl oh d (f:=f) (by rw[e];simp)).2.2.2.2
  refine Bw (GJ v h).1 (λ(t:Q3) i=>(t,i)) (λB t=>t=BK s (GI (λf:BY=>GD f.2)<|B.filter λf=>decide<|f.1=rh h)/\BS (100000*A.length+1+8000*B.length) t) (λB f D t G j a c=>?_) (λt G a=>?_) (s0:=s) ⟨by rw[List.filter_nil,alT,VH],Dx u.2 A4⟩ A4
  .dsimp;rw[Bt j,BF];have bl:=CC j;let⟨Q,f3,R,m,_⟩:=xP hV vl oh d<|at_mem j
   have T:(B++[f]).length=B.length+1:=AO;refine CZ (λt:Q3=>t=BK s (GI (λf:BY=>GD f.2)<|(B++[f]).filter λf=>decide<|f.1=rh h)/\BS (100000*A.length+1+8000*(B++[f]).length) t) (λt U=>A5 (Bk j A4)<|c t U) λk23 r=>?_
   refine A5 (Bl j)<|ag5 (K:=λb=>cond b (bd (Tq f.2) λH=>bd (JJ t H) λW=>k23 W)<|k23 t) Q ⟨oh.lvn A4,oh.HU⟩ A4 ?_
   refine Ab (λI=>?_) λI=>r _ ⟨by rw[a.1,LL];simp[I],Dx a.2 A4⟩
   have w:=(nY m f3 A4).2;have w:BS 6700 (GD f.2):=Dx w A4;refine A5 (ai0 m A4)<|A5 (UW (n:=10000000) (Dx a.2 A4) (Dx w A4) A4 A4).1<|r _ ⟨?_,Dx (M0 a.2 w) A4⟩
   rw[a.1,LL,ay];simp[I,Xh]
  .dsimp;rw[Bs,Av];refine A5 (Bk g A4)<|next t ⟨?_,Dx a.2 A4⟩
   rw[a.1,u.1,Xh];rfl
 .dsimp;rw[Bs,Av,u.1];exact A5 O<|AV rfl
omit vl oh in
theorem ag4 (vl:V.length<=3):Zd (V.map (·.1))=some (V.map (·.2.2)):=by
 refine F8 ?_;unfold Zd;rw[BL];refine Bw V (λ(s:A3 G7) i=>(s,i)) (λA s=>s=A.map (·.2.2)) (λA v C s k a c next=>?_) (λs k c=>?_) (s0:=[]) rfl A4
 .dsimp;rw[Bt a,BF];have d:=CC a;exact A5 (FG (λv:PS=>v.1) a) (A5 (hV v<|at_mem a).2.2.1 (A5 (app_1 A4 (by rw[c,BL];omega)) (A5 (Bk a A4) (next _ (by rw[c];simp)))))
 .dsimp;rw[Bs,Av];exact AV c
end
theorem xe{l:DL}{h:BV}(hl:l.length<=1000):Yd (λi=>(i= -1/\h∉l)\/∃A C,l=A++h::C/\i=(A.length:Int)) (Zv l h):=by
 unfold Zv;refine Bw l (λ(_:Unit) i=>i) (λA _=>h∉A) (λA x C s k a c next=>?_) (λs k c=>?_) (s0:=()) AO A4
 .rw[Bt a,BF];refine A5 (Bl a)<|Ab (λd=>AV<| .inr ⟨A,C,?_,rfl⟩) λd=>A5 (Bk a A4)<|next () ?_
  .grind
  .grind
 .rw[Bs,Av];exact AV<| .inl ⟨rfl,c⟩
def yK:∀{S:A3 BY},S.Pairwise (λf g=>f.1≠g.1)->∀{f:BY},f∈S->S.filter (λg=>decide<|g.1=f.1)=[f]
 |[],_,_,m=>nomatch m
 |x::S,hp,f,m=>by
  let⟨a,d⟩:=Fh.1 hp;rcases Ak.1 m with e|m
  .subst e;rw[SH,B1 rfl,if_pos rfl,List.filter_eq_nil_iff.2 λg i c=>a g i (Aq c).symm]
  .rw[SH,Bb<|a f m,if_neg AO,yK d m]
def air{n:Q3}{l m:A3 Q3}(hl:DO n l)(c:DO n m)(a:3<=l.length)(d:3<=m.length)(h:∀x,x∈l↔x∈m):GD m=GD l:=by
 match l,a with
 |p::s,a=>unfold GD;rw[akW hl c d (hl.nodup a) h]
section
variable{V:List PS}(hV:∀v∈V,Ht v.1 v.2.1/\E9 v.1 v.2.1 v.2.2/\Fu v.1=some v.2.2/\v.1.length<=10)(vl:V.length<=3){h:BV}(oh:Bh h)
include hV vl oh
theorem afC:PF (V.map (·.1)) h=some (As<|GI (λv=>I8 v h) V)/\BS 400000 (GI (λv=>I8 v h) V):=by
 have key:Yd (λr=>r=As (GI (λv=>I8 v h) V)/\BS 400000 (GI (λv=>I8 v h) V)) (PF (V.map (·.1)) h):=by
  unfold PF RI;rw[<-yr];refine A5 rfl<|A5 (ag4 hV vl) ?_
  rw[BL];refine Bw V (λ(s:T3) i=>(s,i)) (λA s=>s=As (GI (λv=>I8 v h) A)/\BS (100000*A.length+1) (GI (λv=>I8 v h) A)) (λA v C s k d j next=>?_) (λs k j=>?_) (s0:=As o3) ⟨rfl,Ol _⟩ A4
  .dsimp;rw[Bt d,BF];have al:=CC d;have mv:=at_mem d;have al2:(A++[v]).length=A.length+1:=AO;let⟨L,G⟩:=j;have P:=oZ hV vl oh mv;let⟨c1,c2,O,c4,_⟩:=bN P A4 oh;refine CZ (λt:T3=>t=As (GI (λv=>I8 v h)<|A++[v])/\BS (100000*(A++[v]).length+1) (GI (λv=>I8 v h)<|A++[v])) (λt ht=>A5 (Bk d A4)<|next t ht) λQ H=>?_
   refine A5 (FG (λv:PS=>v.2.2) d)<|A5 c2 ?_
   have none:I8 v h=o3->Q s=Q s/\(s=As (GI (λv=>I8 v h)<|A++[v])/\BS (100000*(A++[v]).length+1) (GI (λv=>I8 v h)<|A++[v])):=λe=>by rw[Xh,e,VH];exact⟨rfl,L,Dx G A4⟩
   cases m:(GJ v h).2
   .have cn:(GJ v h).1=[]:=yY P A4 oh m;have e0:I8 v h=o3:=by unfold I8;rw[cn];rfl
    have rn:(clR v h).1.1=[]:=by
     let⟨Z,R⟩:=P.1.R;let⟨q,q1,q2⟩:=lS R P.1.I oh (Bh.F1 P.1.ok) (Bh.LP P.1.ok) (by rw[BL];have:=P.2;omega);rw[c2] at q1;cases q1;rcases q2 with⟨e,_⟩|⟨e,_⟩
     .grind
     .rw[e]
    refine Au (xe (l:=(clR v h).1.1) (h:=h) (by rw[rn];simp)) λi hi=>?_
    rw[<-O,m,M4,Av];exact H _ (none e0).2
   .let⟨a,g⟩:=c4 m;have a:E9 (h::v.1) (GJ v h).1 (clR v h).1:=a;have g:(h::v.1).length<=11:=g;let⟨W,w1,T,w2,w3,J⟩:=vD a A4;have sl:(clR v h).1.1.length<=11:=by let⟨Z,R⟩:=a.R;have:=R.len;rw[BL] at this;omega
    refine Au (xe (l:=(clR v h).1.1) (h:=h) A4) λi hi=>?_
    rw[<-O,m,I3];rcases hi with⟨rfl,hn⟩|⟨B,D,eB,rfl⟩
    .rw[show decide ((0:Int)<= -1)=false from rfl,Av];refine H _ (none ?_).2;unfold I8;rw[List.filter_eq_nil_iff.2 λf u c=>hn<|(a.mem h).2 ⟨Ca,B4.2 ⟨f,u,Aq c⟩⟩];rfl
    .rw[B1 A4,BF];obtain⟨w,E,F,U,ew,el⟩:∃w E F,W=E++w::F/\w.1.1=rh h/\E.length=B.length:=by rw[eB,I5,JT] at T;let⟨E,F',e1,e2,e3⟩:=List.map_eq_append_iff.1 T;let⟨w,F,e4,e5,e6⟩:=List.map_eq_cons_iff.1 e3;exact⟨w,E,F,by rw[e1,e4],e5,by have:=congrArg List.length e2;rwa [BL,BL] at this⟩
     have X:w∈W:=by rw[U];simp
     have u:w.1∈(GJ v h).1:=w2.mem_iff.1<|B4.2 ⟨w,X,rfl⟩
     let⟨a1,Y,a3,a4,a5⟩:=w3 w X;let⟨f1,f2,f3,f4⟩:=a.I.Ck _ u;have K:I8 v h=GD w.2:=by
      unfold I8;rw[<-ew,yK a.I.Ld u];have:GI (λf:BY=>GD f.2) [w.1]=GD w.1.2:=by unfold GI;exact Hi (by simp[sm];grind) (by simp[sm];grind) (by simp[sm];grind)
      rw[this,air a1 f2 Y f3 a4]
     have fa:=J U;rw[el] at fa;let⟨r1,r2⟩:=nY a5 Y A4;have r2:BS 7000 (GD w.2):=Dx r2 A4;rw[L];refine A5 fa<|A5 r1<|A5 (Yg G r2 A4)<|H _ ?_
     rw[Xh,K];exact⟨rfl,Dx (M0 G r2) A4⟩
  .dsimp;rw[Bs,Av];exact AV ⟨j.1,Dx j.2 A4⟩
 obtain⟨r,e,rfl,h⟩:=key;exact⟨e,h⟩
end
section
variable{n:Nat}{x:Rat}
theorem ao6{L:A3 Rat}(j:∀x∈L,lv n x)(hn:n<=10000000000)(v:L≠[])(hl:L.length<=10000001):Yd (λr=>r∈L/\∀x∈L,r<=x) (Z6 L λx=>Jf x.1 x.2):=by
 unfold Z6;cases L with
 |nil=>exact absurd rfl v
 |cons y T=>
  rw[Bb (show¬(((y::T).length:Nat):Int)<1 by simp;omega),Av];refine A5 (x:=y) rfl ?_;refine OQ (y::T) (λ(m:Rat) i=>(m,i)) (λA m=>m∈y::T/\∀x∈A,m<=x) (λA x C m k c d next=>?_) (λm k d=>?_) [y] T (s0:=y) rfl ⟨AO,by simp[El]⟩ A4
  .dsimp only;rw[Bt c,BF];have t:=at_mem c;refine CZ (λf:Rat=>f∈y::T/\∀z∈A++[x],f<=z) (λf w=>A5 (Bk c A4)<|next f w) λB u=>?_
   refine A5 (Bl c)<|A5 (Yn (j x t) (j m d.1) hn)<|Ab (λe=>A5 (Bl c)<|u x ⟨t,λz a=>?_⟩) λe=>u m ⟨d.1,λz a=>?_⟩
   .have hm:x<=m:=by
     refine CB λg=>?_
     rw[Bb (show¬x<m by grind),B1 (show m<x by grind)] at e;cases e
    rcases Bi.1 a with a|a
    .grind
    .grind
   .have hm:m<=x:=by
     refine CB λg=>?_
     rw[B1 (show x<m by grind)] at e;cases e
    rcases Bi.1 a with a|a
    .exact d.2 z a
    .grind
  .dsimp only;rw[Bs,Av];exact AV d
def wJ(h:lv n x)(hn:n+1<=600):Tu x=some (An x,0):=by have b:=aip h hn;have t:=gM b;unfold Tu;rw[ax h A4,Bx,b,Av,bJ t.1 t.2];rfl
def aj2(x:Rat):(An x==([]:AA))=false:=by rw[Bool.eq_false_iff];intro c;let⟨d,r,e,_⟩:=lL x.num (bif decide (x.den=1) then [] else 47::B5 x.den);have e:An x=d::r:=e;rw[eq_of_beq c] at e;cases e
theorem aq2{m:Nat}{y:Rat}(c:lv m x)(d:lv n y)(f:m<=8000)(hn:n<=8000):Wq (An x) (An y)=some (An<|bif decide (x<=y) then x else y):=by
 unfold Wq;have e:decide ((x-y).num.sign<=0)=decide (x<=y):=by
  have:=Pr<|x-y
  have a:decide ((x-y).num.sign<=0)= !decide (0<(x-y).num.sign):=AK;rw[a,this,<-decide_not];exact F5.2 AK
 rw[qf c d f hn,Bx,e];cases decide (x<=y)<;>rfl
theorem aq3{m:Nat}{y:Rat}(c:lv m x)(d:lv n y)(f:m<=8000)(hn:n<=8000):Wr (An x) (An y)=some (An<|bif decide (y<=x) then x else y):=by
 unfold Wr;have e:decide (0<=(x-y).num.sign)=decide (y<=x):=by
  have:=sign_neg<|x-y
  have a:decide (0<=(x-y).num.sign)= !decide ((x-y).num.sign<0):=AK;rw[a,this,<-decide_not];exact F5.2 AK
 rw[qf c d f hn,Bx,e];cases decide (y<=x)<;>rfl
def KE(d:Q3)(A:A3 PS)(x:Rat):Prop:=∃v∈A,∃z,BW (v.1.map rh) z/\x=AI d z
def Xtn(P:Rat->Prop)(s:AA×AA):Prop:=(s=([],[])/\∀x,¬P x)\/∃a b,s=(An a,An b)/\lv 254 a/\lv 254 b/\P a/\P b/\∀x,P x->a<=x/\x<=b
def Xtn.congr{P Q:Rat->Prop}{s:AA×AA}(h:Xtn P s)(e:∀x,Q x↔P x):Xtn Q s:=by
 have:Q=P:=funext λx=>propext<|e x
 rw[this];exact h
end
section
variable{V:List PS}(hV:∀v∈V,Ht v.1 v.2.1/\E9 v.1 v.2.1 v.2.2/\Fu v.1=some v.2.2/\v.1.length<=10)(vl:V.length<=3){p:T3}{d:Q3}(hd:Kh p d)
include hV hd
theorem aa2{v:PS}(a:v∈V){z:Q3}(c:BW (v.1.map rh) z):lv 254 (AI d z):=Cz (OX (Yc hd)<|QW (hV v a).1.1 c) A4
end
section
variable{V:List PS}(hV:∀v∈V,Ht v.1 v.2.1/\E9 v.1 v.2.1 v.2.2/\Fu v.1=some v.2.2/\v.1.length<=10)(vl:V.length<=3){p:T3}{d:Q3}(hd:Kh p d)
include hV hd
include vl
theorem afG(T:V≠[]){l:A3 DL}(c:He l=some (V.map (·.2.1),0))(Y:KK p=some 0):∃a b,No l p=some (An a,An b,0)/\KE d V a/\KE d V b/\∀x,KE d V x->a<=x/\x<=b:=by
 have key:Yd (λr:AA×AA×Int=>∃a b,r=(An a,An b,0)/\KE d V a/\KE d V b/\∀x,KE d V x->a<=x/\x<=b) (No l p):=by
  have vp:0<V.length:=SN.2 T;unfold No;refine A5 c<|A5 Y<|A5 (Q1 0 0) ?_
  rw[show(!decide ((bif !decide ((0:Int)=0) then(0:Int) else 0)=0))=false from rfl,Av];rw[BL,Bb A4,Av];refine Bw V (λ(s:A3 Rat) i=>(s,i)) (λA s=>s.length<=1000*A.length/\∀x,x∈s↔KE d A x) (λA v C s k w J next=>?_) (λs k J=>?_) (s0:=[]) ⟨AO,λx=>⟨λm=>(nomatch m),λ⟨v,m,_⟩=>(nomatch m)⟩⟩ A4
  .dsimp;rw[Bt w,BF];have al:=CC w;have f:=at_mem w;let⟨o,P,_,K⟩:=hV v f;have L:(A++[v]).length=A.length+1:=AO;refine A5 (FG (λv:PS=>v.2.1) w)<|Au (ai2 o K) λr F=>?_
   have rl:r.length<=1000:=by
    have:=c7 (F.1.imp λh=>Ye h) λx O=>(F.2 x).1 O
    have Q:(v.1.map rh).length<=10:=AK;have:=Em Q<|Em Q Q
    omega
   refine Bw r (λ(t:A3 Rat) i=>(t,i)) (λB t=>t=s++B.map (AI d)) (λB z D t R E G g=>?_) (λt R G=>?_) (s0:=s) AO A4
   .dsimp;rw[Bt E,BF];have bl:=CC E;have tl:t.length<=10000:=AK;have j:=(F.2 z).1<|at_mem E
    refine A5 (Bl E)<|A5 (vM hd)<|A5 (cW (n:=100) (Dx (Yc hd) A4) (Dx (QW o.1 j) A4) A4 A4).1<|A5 (app_1 A4 A4)<|A5 (Bk E A4)<|g _ ?_
    rw[G];simp
   .dsimp;rw[Bs,Av];refine A5 (Bk w A4) (next t ⟨by rw[G,DD,BL,L];omega,λx=>?_⟩);rw[G,Bi,J.2,B4];constructor
    .rintro(⟨u,mu,h⟩|⟨z,mz,rfl⟩)
     .exact⟨u,Fq _ mu,h⟩
     .exact⟨v,AO,z,(F.2 z).1 mz,rfl⟩
    .rintro⟨u,mu,z,j,rfl⟩;rcases Bi.1 mu with m|m
     .exact .inl ⟨u,m,z,j,rfl⟩
     .grind
  .dsimp;rw[Bs,Av];let⟨sl,c⟩:=J;have H:∀x∈s,lv 254 x:=λx O=>by obtain⟨v,f,z,j,rfl⟩:=(c x).1 O;exact aa2 hV hd f j
   have ne:s≠[]:=λe=>by let⟨v,f⟩:=YG V T;let⟨y,_,_⟩:=uH (hV v f).2.1;let⟨i,hi⟩:=(hV v f).2.1.I.int;let⟨z,j,_⟩:=MC (hV v f).2.1.I.HZ (p:=i) (λh mh=>EF<|hi h mh) i;have:=(c<|AI d z).2 ⟨v,f,z,j,rfl⟩;rw[e] at this;cases this
   refine Au (ao6 H A4 ne A4) λa ⟨U,ha⟩=>A5 (wJ (H a U) A4)<|Au (aEy H A4 ne A4) λb ⟨W,hb⟩=>A5 (wJ (H b W) A4)<|A5 (Q1 0 0) ?_
   rw[show(!decide ((bif !decide ((0:Int)=0) then(0:Int) else 0)=0))=false from rfl,Av];exact AV ⟨a,b,rfl,(c a).1 U,(c b).1 W,λx X=>⟨ha x<|(c x).2 X,hb x<|(c x).2 X⟩⟩
 obtain⟨r,e,a,b,rfl,h⟩:=key;exact⟨a,b,e,h⟩
theorem agD:Yd (Xtn<|KE d V) (PL (V.map (·.1)) p):=by
 rw[vn hd];unfold PL;rw[BL];refine Bw V (λ(s:AA×AA) i=>(s.1,s.2,i)) (λA s=>Xtn (KE d A) s) (λA v C s k j E next=>?_) (λs k E=>?_) (s0:=([],[])) (.inl ⟨rfl,λx ⟨v,m,_⟩=>nomatch m⟩) A4
 .dsimp;rw[Bt j,BF];have al:=CC j;have Q:=at_mem j;let⟨o,P,W,X⟩:=hV v Q;let⟨Z,R⟩:=P.R;have zl:=R.qy (by rw[BL];omega);have Y:v.2.2.2.1=Z.map λz=>As z.1:=R.cor
  refine A5 (FG (λv:PS=>v.1) j)<|A5 W ?_
  rw[Y,BL];refine Bw Z (λ(t:AA×AA) i=>(t.1,t.2,i)) (λB t=>Xtn (λx=>KE d A x\/∃z∈B,x=AI d z.1) t) (λB z D t T f F c=>?_) (λt T F=>?_) (s0:=s) (E.congr λx=>⟨λh=>h.elim id λ⟨z,m,_⟩=>(nomatch m),.inl⟩) A4
  .dsimp;rw[Bt f,BF];have bl:=CC f;have lz:=QW o.1<|R.EB<|at_mem f
   have r:=aa2 hV hd Q<|R.EB<|at_mem f
   refine A5 (FG (λz:Q3×A3 Int=>As z.1) f)<|A5 (Sx (Yc hd) lz A4) ?_
   generalize hy:AI d z.1=y at r
   have stp:∀a b:Rat,lv 254 a->lv 254 b->(∀x,(KE d A x\/∃z∈B,x=AI d z.1)->a<=x/\x<=b)->((KE d A a\/∃z∈B,a=AI d z.1)\/a=y)->((KE d A b\/∃z∈B,b=AI d z.1)\/b=y)->Yd (Xtn<|KE d V) (bd (Wq (An a)<|An y) λTH=>bd (Wr (An b)<|An y) λVm=>bd (AG<|(B.length:Int)+1) λWA=>T (TH,Vm,WA)):=λa b G H U I J=>by
    refine A5 (aq2 G r A4 A4)<|A5 (aq3 H r A4 A4)<|A5 (Bk f A4)<|c (_,_)<| .inr ⟨_,_,rfl,?_,?_,?_,?_,λx K=>?_⟩
    .grind
    .grind
    .cases L:decide (a<=y)
     .grind
     .rcases I with(h|⟨u,g,e⟩)|e
      .exact .inl h
      .grind
      .grind
    .cases L:decide (y<=b)
     .grind
     .rcases J with(h|⟨u,g,e⟩)|e
      .exact .inl h
      .grind
      .grind
    .have ex:x=y\/(a<=x/\x<=b):=by
      rcases K with h|⟨u,g,e⟩
      .grind
      .grind
     cases L:decide (a<=y)<;>cases V5:decide (y<=b)<;>simp at L V5⊢ <;>grind
   rcases F with⟨rfl,hn⟩|⟨a,b,rfl,G,H,I,J,U⟩
   .exact stp y y r r (λx K=>absurd K<|hn x) (.inr rfl)<| .inr rfl
   .dsimp;show Yd _ (jn _ λYh=>cond (An a==[]) _ _);rw[aj2];exact stp a b G H U (.inl I)<| .inl J
  .dsimp;rw[Bs,Av];refine A5 (Bk j A4)<|next t<|F.congr λx=>⟨?_,?_⟩
   .rintro⟨u,g,z,hz,rfl⟩;rcases Bi.1 g with m|m
    .exact .inl ⟨u,m,z,hz,rfl⟩
    .rw[CW.1 m] at hz;let⟨w,O,e⟩:=B4.1<|(R.mem z).2 hz
     exact .inr ⟨w,O,by rw[e]⟩
   .rintro(⟨u,g,h⟩|⟨w,O,rfl⟩)
    .exact⟨u,Fq _ g,h⟩
    .exact⟨v,AO,w.1,R.EB O,rfl⟩
 .dsimp;rw[Bs,Av];exact AV E
theorem akO(c:V≠[])(f:He (V.map (·.1))=some (V.map (·.2.1),0))(g:KK p=some 0):∃a b,No (V.map (·.1)) p=some (a,b,0)/\PL (V.map (·.1)) p=some (a,b):=by
 let⟨a,b,e,j,m,t⟩:=afG hV vl hd c f g;let⟨r,u,i⟩:=agD hV vl hd;rcases i with⟨_,hn⟩|⟨a',b',rfl,_,_,qa,qb,hn⟩
 .grind
 .grind
end
def am7(p:T3):Yd (λb=>b=false->short p) (aM [p]):=by
 unfold aM;refine Bw [p] (λ(_:Unit) i=>i) (λA _=>∀x∈A,short x) (λA x C s k e f next=>?_) (λs k f=>?_) (s0:=()) AO AO
 .rw[Bt e,BF];refine Bw [x.1,x.2.1,x.2.2] (λ(_:Unit) i=>i) (λB _=>∀y∈B,y.length<=14) (λB y D t j g a m=>?_) (λt j a=>?_) (s0:=()) AO AO
  .have bl:=CC g;rw[show [x.1,x.2.1,x.2.2].length=3 from rfl] at bl;rw[B1 (show(B.length:Int)<3 by omega),BF];refine A5 (Bl e) (A5 (Bl g) (Ab (λ_=>AV λc=>by cases c) λr=>A5 (Bk g AO)<|m ()<|L1 a ?_));have:=BX r;omega
  .rw[show decide ((([x.1,x.2.1,x.2.2].length:Nat):Int)<3)=false from rfl,Av];exact A5 (Bk e AO)<|next ()<|L1 f ⟨a _ AO,a _ AO,a _ AO⟩
 .rw[Bs,Av];exact AV λ_=>f p AO
section
variable{l:List DL}{p:T3}{h:BV}{X:List (List BY)}{c k kh:Int}(x1:He l=some (X,c))
 (x3:c=0->l.length<=3/\l.Pairwise LO/\∃V:List PS,l=V.map (·.1)/\X=V.map (·.2.1)/\∀v∈V,Ht v.1 v.2.1/\E9 v.1 v.2.1 v.2.2/\Fu v.1=some v.2.2/\v.1.length<=10)
include x1 x3
theorem agI(k1:KK p=some k)(k3:k=0->∃q,Kh p q):∃n,Lk l p=some (n,bif !decide (c=0) then c else k)/\((bif !decide (c=0) then c else k)=0->W6 l p=some n)/\((bif !decide (c=0) then c else k)≠0->n=0):=by
 by_cases a:(bif !decide (c=0) then c else k)=0
 .have hc:c=0:=CB λn=>by rw[Bb n] at a;exact n a
  subst hc;have e:k=0:=a;subst e;obtain⟨g,i,V,rfl,rfl,hV⟩:=x3 rfl;let⟨q,hq⟩:=k3 rfl;let⟨S,s,j,m,P8⟩:=aie;let⟨n,r,t⟩:=ajS hV P8 j m (by rwa [BL] at g) hq i x1 k1;exact⟨n,r,λ_=>t,λh=>absurd rfl h⟩
 .refine⟨0,?_,λh=>absurd h a,λ_=>rfl⟩;unfold Lk;rw[x1,Bx,k1,Bx,Q1,Bx]
  generalize (bif !decide (c=0) then c else k)=f at a
  rw[Bb a];rfl
theorem agJ(k1:KK p=some k)(k3:k=0->∃q,Kh p q):∃r,No l p=some r/\((bif !decide (c=0) then c else k)≠0->r=([],[],bif !decide (c=0) then c else k))/\((bif !decide (c=0) then c else k)=0->(l.length=0->r=([],[],12))/\(l.length≠0->r.2.2=0/\PL l p=some (r.1,r.2.1))):=by
 by_cases e:(bif !decide (c=0) then c else k)=0
 .have hc:c=0:=CB λn=>by rw[Bb n] at e;exact n e
  subst hc;have i:k=0:=e;subst i;obtain⟨j,_,V,rfl,rfl,hV⟩:=x3 rfl;let⟨q,hq⟩:=k3 rfl;by_cases g:V=[]
  .subst g;refine⟨([],[],12),?_,λn=>absurd rfl n,λ_=>⟨λ_=>rfl,λn=>absurd rfl n⟩⟩;unfold No;rw[x1,Bx,k1,Bx,Q1,Bx];rfl
  .let⟨a,b,e1,e2⟩:=akO hV (by rwa [BL] at j) hq g x1 k1;refine⟨_,e1,λn=>absurd rfl n,λ_=>⟨λn=>absurd (Hk (by rwa [BL] at n)) g,λ_=>⟨rfl,e2⟩⟩⟩
 .refine⟨_,?_,λ_=>rfl,λh=>absurd h e⟩;unfold No;rw[x1,Bx,k1,Bx,Q1,Bx]
  generalize (bif !decide (c=0) then c else k)=f at e
  rw[Bb e];rfl
theorem agH(k1:Kr h=some kh)(k3:kh=0->Bh h):∃x,PE l h=some x/\((bif !decide (c=0) then c else kh)≠0->x=(([],[],[]),bif !decide (c=0) then c else kh))/\((bif !decide (c=0) then c else kh)=0->∃w,PF l h=some w/\PW x.1 x.2 w=some true):=by
 by_cases a:(bif !decide (c=0) then c else kh)=0
 .have hc:c=0:=CB λn=>by rw[Bb n] at a;exact n a
  subst hc;have e:kh=0:=a;subst e;obtain⟨j,_,V,rfl,rfl,hV⟩:=x3 rfl;have vl:V.length<=3:=AK;let⟨r1,r2⟩:=afC hV vl<|k3 rfl
  let⟨x,g,i⟩:=ajV r2 A4;exact⟨x,aeW hV vl (k3 rfl) x1 k1 g,λn=>absurd rfl n,λ_=>⟨_,r1,i⟩⟩
 .refine⟨_,?_,λ_=>rfl,λh=>absurd h a⟩;unfold PE;rw[x1,Bx,k1,Bx,Q1,Bx]
  generalize (bif !decide (c=0) then c else kh)=f at a
  rw[Bb a];rfl
end
theorem acj(K:RT=some true)(l:A3 DL)(p:T3)(h:BV)(hi:∀x∈l,∀h∈x,in3 h.1)(ih:in3 h.1):TK l p h=some true:=by
 refine F8 ?_;have E:Yd (λr=>r=true) (bd (some true) λL=>some L):=AV rfl;unfold TK;rw[K];refine Au (ak0 (n:=3) A4 hi) λg O=>?_
 cases g with
 |true=>rw[show gd true false=false from rfl,DG rfl];exact E
 |false=>
  rw[show gd false false=true from rfl,C6 rfl];refine Au (am7 p) λb P=>?_
  cases b with
  |true=>exact E
  |false=>
   rw[Y2,SD];refine Ab (λ_=>E) λhl=>?_
   have hl:=BX hl;let⟨X,c,x1,Q,x3⟩:=aj9 (n:=3) A4<|O rfl
   let⟨k,k1,R,k3⟩:=aeJ<|P rfl
   let⟨kh,T,U,W⟩:=jw ih (show h.2.length<=14 by omega);let⟨n,Y,v,I⟩:=agI x1 x3 k1 k3;let⟨x,s1,s2,s3⟩:=agH x1 x3 T W;let⟨r,e1,J,B⟩:=agJ x1 x3 k1 k3;refine A5 Y<|A5 s1<|A5 e1<|A5 Q<|A5 R<|A5 (aaE c k) ?_
   generalize (bif !decide (c=0) then c else k)=e at v I J B
   have rest:Yd (λr=>r=true) (bd (Lj h) λF=>bd (RQ ([c,F]:A3 Int)) λa=>cond (!decide (a=0)) (Aw (gd ((decide<|x.1=([],[],[]))&&(decide<|x.2=a)) true) (false) (some true) λi=>some (((decide<|x.1=([],[],[]))&&(decide<|x.2=a))&&i)) (bd (PF l h) λG=>bd (PW x.1 x.2 G) λm=>Aw (gd m true) (false) (some true) λH=>some (m&&H))):=by
    refine A5 U<|A5 (aaE c kh) ?_
    generalize (bif !decide (c=0) then c else kh)=f at s2 s3
    by_cases D:f=0
    .let⟨w,w1,w2⟩:=s3 D;rw[B1 D,dW,Av];refine A5 w1<|A5 w2 ?_
     rw[show gd true true=true from rfl,C6 rfl];exact AV rfl
    .rw[Bb D,Bool.not_false,BF,s2 D];rw[B1<|show f=f from rfl,show decide ((([],[],[]):T3)=([],[],[]))=true from rfl,show gd (true&&true) true=true from rfl,C6 rfl];exact AV rfl
   rw[B1<|show e=e from rfl];have j:∀w:Int,∀s:AA×AA,r=(s.1,s.2,w)->Yd (λr=>r=true) (cond ((((!decide (r.2.2=w))||(!(r.1==s.1)))||(!(r.2.1==s.2)))) (some false) (bd (Lj h) λF=>bd (RQ ([c,F]:A3 Int)) λa=>cond (!decide (a=0)) (Aw (gd ((decide<|x.1=([],[],[]))&&(decide<|x.2=a)) true) (false) (some true) λi=>some (((decide<|x.1=([],[],[]))&&(decide<|x.2=a))&&i)) (bd (PF l h) λG=>bd (PW x.1 x.2 G) λm=>Aw (gd m true) (false) (some true) λH=>some (m&&H)))):=λw s er=>by rw[er];rw[B1<|show w=w from rfl];have q:((!true|| !(s.1==s.1))|| !(s.2==s.2))=false:=AO;rw[q,Av];exact rest
   by_cases t:e=0
   .subst t;have v:=v rfl;let⟨B,e4⟩:=B rfl;rw[show(gd ((!true)||((!decide ((0:Int)=0))&&(!decide (n=0)))) false&&gd (decide<|(0:Int)=0) true)=true from rfl,C6 rfl];refine A5 v ?_;rw[B1<|show n=n from rfl];have q1:(((!true)||((!decide ((0:Int)=0))&&(!decide (n=0))))||(decide ((0:Int)=0)&& !true))=false:=AK;have q2:(decide ((0:Int)=0)&&decide ((l.length:Int)=0))=decide ((l.length:Int)=0):=rfl;rw[q1,Av,q2];by_cases u:l.length=0
    .rw[B1 (show(l.length:Int)=0 by omega)];exact j 12 ([],[])<|B u
    .let⟨r0,rx⟩:=e4 u;rw[Bb (show¬(l.length:Int)=0 by omega)];show Yd _ (bd (PL l p) _);refine A5 rx ?_;exact j 0 (r.1,r.2.1) (by rw[<-r0])
   .have n0:=I t;subst n0;rw[Bb t,show(gd ((!true)||((!false)&&(!decide ((0:Int)=0)))) false&&gd false true)=false from rfl,DG rfl];show Yd _ (cond (decide<|e=0) (bd (PL l p) _) _);rw[Bb t];exact j e ([],[])<|J t
abbrev H5:A3 BV:=[((-1,0,0),[48]),((0,-1,0),[48]),((0,0,-1),[48]),((0,0,1),[52]),((0,1,0),[51]),((1,0,0),[50])]
abbrev bxC:A3 BV:=[((-1,0,0),[45,49]),((0,-1,0),[45,49]),((0,0,-1),[45,49]),((0,0,1),[53]),((0,1,0),[52]),((1,0,0),[51])]
abbrev bxD:A3 BV:=[((-1,0,0),[45,50]),((0,-1,0),[48]),((0,0,-1),[48]),((0,0,1),[49]),((0,1,0),[49]),((1,0,0),[51])]
def aqa:ji [H5]=some ([50,52],0):=A6
def aql:l7 [H5] [bxC]=some ([[((-1,0,0),[45,49]),((0,-1,0),[45,49]),((0,0,-1),[45,49]),((0,0,1),[52]),((0,1,0),[51]),((1,0,0),[50])]],0):=A6
def aqh:kR [H5] [bxC]=some ([[((-1,0,0),[48]),((0,-1,0),[48]),((0,0,-1),[48]),((0,0,1),[52]),((0,1,0),[51]),((1,0,0),[49])],[((-1,0,0),[45,49]),((0,-1,0),[48]),((0,0,-1),[48]),((0,0,1),[52]),((0,1,0),[49]),((1,0,0),[50])],[((-1,0,0),[45,49]),((0,-1,0),[45,49]),((0,0,-1),[48]),((0,0,1),[49]),((0,1,0),[51]),((1,0,0),[50])]],0):=A6
def aqk:l6 [H5] ((1,1,0),[51])=some ([[((-1,0,0),[48]),((0,-1,0),[48]),((0,0,-1),[48]),((0,0,1),[52]),((1,0,0),[50]),((1,1,0),[51])]],0):=A6
def aqd:PE [H5] ((1,1,0),[51])=some (([56],[56],[48]),0):=A6
def aqc:jK [H5] [bxD]=some ([(((1,0,0),[50]),[49],[48],[48])],0):=A6
def aqb:kP [H5] [bxD]=some ([H5,bxD],0):=A6
def aqf:Lk [H5] ([50],[49,47,50],[49,47,50])=some (0,0):=A6
def aqe:Lk [H5,bxD] ([50],[49,47,50],[49,47,50])=some (1,0):=A6
def aqi:kY [([48],[48],[48]),([49],[48],[48]),([48],[49],[48]),([48],[48],[49])]=some ([((-1,0,0),[48]),((0,-1,0),[48]),((0,0,-1),[48]),((1,1,1),[49])],0):=A6
def aqZ:kQ H5 ([48],[48],[49])=some ([((-1,0,0),[48]),((0,-1,0),[48]),((0,0,-1),[48]),((0,0,1),[53]),((0,1,0),[51]),((1,0,0),[50])],0):=A6
def aqY:jj [H5]=some (([49],[51,47,50],[50]),0):=A6
def aqg:WJ (H5.take 3)=some ([],13):=A6
def aqj:WJ (H5++[((1,0,0),[48])])=some ([],12):=A6
def aiI:RT=some true:=by refine F8 ?_;unfold RT;refine A5 (x:=H5) rfl ?_;refine A5 (x:=bxC) rfl ?_;refine A5 (x:=bxD) rfl ?_;refine A5 aqa ?_;refine A5 aql ?_;refine A5 aqh ?_;refine A5 (x:=((1,1,0),[51])) rfl ?_;refine A5 aqk ?_;refine A5 (x:=((1,1,0),[51])) rfl ?_;refine A5 aqd ?_;refine A5 aqc ?_;refine A5 aqb ?_;refine A5 aqf ?_;refine A5 aqe ?_;refine A5 (x:=([48],[48],[48])) A6 ?_;refine A5 (x:=([49],[48],[48])) A6 ?_;refine A5 (x:=([48],[49],[48])) A6 ?_;refine A5 (x:=([48],[48],[49])) A6 ?_;refine A5 aqi ?_;refine A5 (x:=H5) rfl ?_;refine A5 (x:=([48],[48],[49])) A6 ?_;refine A5 aqZ ?_;refine A5 aqY ?_;refine A5 (x:=H5) rfl ?_;refine A5 (x:=H5.take 3) rfl ?_;refine A5 aqg ?_;refine A5 (x:=H5) rfl ?_;refine A5 (x:=H5) rfl ?_;refine A5 (x:=((1,0,0),[48])) rfl ?_;refine A5 (x:=H5++[((1,0,0),[48])]) rfl ?_;refine A5 aqj ?_;exact⟨true,A6,rfl⟩
def ack(l:A3 DL)(p:T3)(h:BV)(hi:∀x∈l,∀h∈x,in3 h.1)(ih:in3 h.1):TK l p h=some true:=acj aiI l p h hi ih
end Trn
