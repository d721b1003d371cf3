/-
  Part of the proof of SolidOperations.
-/
import Derived.Test.YtieipfegkfhllaaGreatDoorLc
set_option maxRecDepth 100000
set_option maxHeartbeats 20000000
set_option linter.all false
open Go Go.RowKit Go.Proofs Go.Proofs.Tryz
namespace Trn
section
variable{a b:List D9}{V U:List PS}(sa:Sd a V)(sb:Sd b U)(la:a.length<=2)(lb:b.length<=2)
include sa sb la lb
theorem alR:∃C:A3 PS,YM (V.map (·.2.1)) (U.map (·.2.1))=some (C.map (·.2.1))/\(OC a=some (V.map (·.2.2))->TX a b=some (C.map (·.2.2.1)))/\(∀w∈C,Gg 20 w)/\C.length<=1000:=by
 have vl:=sa.len;have ul:=sb.len;have bl:∀(v:PS) (A:A3 PS),(A.flatMap<|HH v).length<=A.length*1:=λv A=>SM λu _=>anX v u
 have al:∀A:A3 PS,(A.flatMap λv=>U.flatMap<|HH v).length<=A.length*2:=λA=>SM λv _=>by have:=bl v U;omega
 have P:∀w∈V.flatMap λv=>U.flatMap<|HH v,Gg 20 w:=λw mw=>by let⟨v,mv,m⟩:=Lx.1 mw;let⟨u,mu,m⟩:=Lx.1 m;exact(pE (sa.pr v mv) (sb.ok u mu).1 (sb.ok u mu).2.2).2.2.2 w m
 have CL:=al V;refine⟨V.flatMap λv=>U.flatMap<|HH v,?_,λsh=>?_,P,A4⟩
 ·have key:Yd (λr=>r=(V.flatMap λv=>U.flatMap<|HH v).map (·.2.1)) (YM (V.map (·.2.1))<|U.map (·.2.1)):=by
   unfold YM;rw[BY,BY];refine C9 V (λ(s:A3 (A3 CC)) i=>(s,i)) (λA s=>s=(A.flatMap λv=>U.flatMap<|HH v).map (·.2.1)) (λA v C s k hA hP next=>?_) (λs k hP=>?_) (s0:=[]) rfl A4
   ·dsimp;rw[CD hA,BH];have aln:=Cn hA;have sl:=al A;refine A6 (Jq (λv:PS=>v.2.1) hA) ?_;refine C9 U (λ(t:A3 (A3 CC)) i=>(t,i)) (λB t=>t=s++(B.flatMap<|HH v).map (·.2.1)) (λB u D t k2 hB hQ FE=>?_) (λt k2 hQ=>?_) (s0:=s) AV A4
    ·dsimp;rw[CD hB,BH];have bln:=Cn hB;let⟨ou,_,u10⟩:=sb.ok u<|at_mem hB
     let⟨c1,c2,c3,_⟩:=pE (sa.pr v<|at_mem hA) ou u10;have arh:=ou.2.1.len;rw[BY] at arh;have tl:=bl v B;refine DJ (λt':A3 (A3 CC)=>t'=s++((B++[u]).flatMap<|HH v).map (·.2.1)) (λt' h'=>A6 (C4 hB A4)<|FE t' h') λHw BK=>?_
     refine A6 (Jq (λv:PS=>v.2.1) hB)<|Aq (Yd.vL A4) λH eH=>?_
     rw[eH];refine A6 c1 ?_;have fe:((B++[u]).flatMap<|HH v).map (λw:PS=>w.2.1)=(B.flatMap<|HH v).map (·.2.1)++(HH v u).map (·.2.1):=AK;rw[fe] at BK;cases hc:(aW v u).2
     ·refine BK _ ?_;rw[hQ];unfold HH;rw[hc];simp
     ·refine A6 (app_1 A4 (by rw[hQ,hP,Dg,BY,BY];omega)) (BK _ ?_);rw[hQ];unfold HH;rw[hc];simp
    ·dsimp;rw[CG,Ar];exact A6 (C4 hA A4) (next _ (by rw[hQ,hP,Zb,G9];simp))
   ·dsimp;rw[CG,Ar];exact AU hP
  obtain⟨r,e,rfl⟩:=key;exact e
 ·have key:Yd (λr=>r=(V.flatMap λv=>U.flatMap<|HH v).map (·.2.2.1)) (TX a b):=by
   unfold TX;refine A6 sh ?_;rw[BY,ul];refine C9 V (λ(s:A3 H6) i=>(s,i)) (λA s=>s=(A.flatMap λv=>U.flatMap<|HH v).map (·.2.2)) (λA v C s k hA hP next=>?_) (λs k hP=>?_) (s0:=[]) rfl A4
   ·dsimp;rw[CD hA,BH];have aln:=Cn hA;have sl:=al A;refine C9 U (λ(t:A3 H6) i=>(t,i)) (λB t=>t=s++(B.flatMap<|HH v).map (·.2.2)) (λB u D t k2 hB hQ FE=>?_) (λt k2 hQ=>?_) (s0:=s) AV A4
    ·dsimp;rw[CD hB,BH];have bln:=Cn hB;let⟨ou,_,u10⟩:=sb.ok u<|at_mem hB
     let⟨c1,c2,c3,_⟩:=pE (sa.pr v<|at_mem hA) ou u10;have tl:=bl v B;refine DJ (λt':A3 H6=>t'=s++((B++[u]).flatMap<|HH v).map (·.2.2)) (λt' h'=>A6 (C4 hB A4)<|FE t' h') λHw BK=>?_
     have ib:AB b (B.length:Int)=some u.1:=by rw[sb.eq];exact Jq (·.1) hB
     refine A6 (Jq (λv:PS=>v.2.2) hA)<|A6 ib<|A6 c2 ?_
     have fe:((B++[u]).flatMap<|HH v).map (λw:PS=>w.2.2)=(B.flatMap<|HH v).map (·.2.2)++(HH v u).map (·.2.2):=AK;rw[fe] at BK;rw[<-c3];cases hc:(aW v u).2
     ·refine BK _ ?_;rw[hQ];unfold HH;rw[hc];simp
     ·refine A6 (app_1 A4 (by rw[hQ,hP,Dg,BY,BY];omega)) (BK _ ?_);rw[hQ];unfold HH;rw[hc];simp
    ·dsimp;rw[CG,Ar];exact A6 (C4 hA A4) (next _ (by rw[hQ,hP,Zb,G9];simp))
   ·dsimp;rw[CG,Ar,hP];exact A6 (xd P A4 A4)<|AU rfl
  obtain⟨r,e,rfl⟩:=key;exact e
theorem wY:∃C:A3 PS,RU (V.map (·.2.1)) b=some (C.map (·.2.1))/\(OC a=some (V.map (·.2.2))->RV a b=some (C.map (·.2.2.1)))/\(∀w∈C,Gg 30 w)/\C.length<=1000:=by
 have vl:=sa.len;have ob:=sb.okh;have inv:∀(A C:A3 D9),b=A++C->(∀w∈A.foldl Ir V,Gg (10+10*A.length) w)/\(A.foldl Ir V).length<=2*11^A.length:=λA=>by
  suffices h:∀(n:Nat) (A C:A3 D9),A.length=n->b=A++C->(∀w∈A.foldl Ir V,Gg (10+10*A.length) w)/\(A.foldl Ir V).length<=2*11^A.length from λC e=>h _ A C rfl e
  intro n
  induction n with
  |zero=>intro A C h e;have:=List.length_eq_zero_iff.1 h;subst this;exact⟨sa.pr,DC⟩
  |succ n ih=>
   intro A C h e;rcases iX A with rfl|⟨B,x,rfl⟩
   ·simp at h
   rw[qP] at h e⊢;have e:b=B++x::C:=by rw[e];simp
   let⟨h1,h2⟩:=ih B _ (by simp at h;exact h) e;have aln:=Cn e;let⟨w1,w2⟩:=pK h1 (ob x<|at_mem e) A4;rw[ZZ,Dg,IE];refine⟨λw mw=>(w1 w mw).mono A4,?_⟩;show(Ir (B.foldl Ir V) x).length<=_;rw[Qc];omega
 have lim:∀A C:A3 D9,b=A++C->(A.foldl Ir V).length<=242:=λA C e=>by have h:=(inv A C e).2;have:A.length<=2:=AK;have:11^A.length<=11^2:=KD A4 this;omega
 let⟨P,_⟩:=inv b [] AV;have CL:=lim b [] AV;have P:∀w∈b.foldl Ir V,Gg 30 w:=λw mw=>(P w mw).mono A4
 refine⟨b.foldl Ir V,?_,λsh=>?_,P,A4⟩
 ·have key:Yd (λr=>r=(b.foldl Ir V).map (·.2.1)) (RU (V.map (·.2.1)) b):=by
   unfold RU;refine C9 b (λ(s:A3 (A3 CC)) i=>(s,i)) (λA s=>s=(A.foldl Ir V).map (·.2.1)) (λA x C s k hA hP next=>?_) (λs k hP=>?_) (s0:=V.map λv:PS=>v.2.1) rfl A4
   ·dsimp;rw[CD hA,BH,hP];have aln:=Cn hA;have i1:=(inv A _ hA).1;have l1:=lim A _ hA;refine A6 (Bk hA)<|aij (n:=10+10*A.length) (K:=λt=>Trn.bd (AH<|(A.length:Int)+1) λBr=>k (t,Br)) i1 (ob x<|at_mem hA) A4 A4 ?_
    exact A6 (C4 hA A4) (next _ (by rw[ZZ];rfl))
   ·dsimp;rw[CG,Ar];exact AU hP
  obtain⟨r,e,rfl⟩:=key;exact e
 ·have key:Yd (λr=>r=(b.foldl Ir V).map (·.2.2.1)) (RV a b):=by
   unfold RV;refine A6 sh ?_;refine C9 b (λ(s:A3 H6) i=>(s,i)) (λA s=>s=(A.foldl Ir V).map (·.2.2)) (λA x C s k hA hP next=>?_) (λs k hP=>?_) (s0:=V.map λv:PS=>v.2.2) rfl A4
   ·dsimp;rw[CD hA,BH,hP];have aln:=Cn hA;have i1:=(inv A _ hA).1;have l1:=lim A _ hA;refine aid (n:=10+10*A.length) (K:=λt=>Trn.bd (AH<|(A.length:Int)+1) λBr=>k (t,Br)) i1 (Bk hA) (ob x<|at_mem hA) A4 A4 ?_;exact A6 (C4 hA A4) (next _ (by rw[ZZ];rfl))
   ·dsimp;rw[CG,Ar,hP];exact A6 (xd P A4 A4)<|AU rfl
  obtain⟨r,e,rfl⟩:=key;exact e
end
def yM{l:A3 D9}(h:64<l.length\/(l.length<=2/\∀x∈l,Small x)):∃X c,MC l=some (X,c)/\OD l=some c/\(c=0->l.length<=2/\∃V,Sd l V/\X=V.map (·.2.1)/\OC l=some (V.map (·.2.2))):=by
 rcases h with h|⟨h2,hs⟩
 ·refine⟨[],5,?_,?_,λc=>by cases c⟩
  ·unfold MC;rw[B5 (show(64:Int)<(l.length:Int) by omega)];rfl
  ·unfold OD;rw[B5 (show(64:Int)<(l.length:Int) by omega)];rfl
 ·let⟨v,v1,v2⟩:=mX A4 hs;let⟨w,w1,w2,w3⟩:=aiO A4 hs;have e:v=w.2:=v2.same w2;refine⟨w.1,w.2,w1,by rw[<-e];exact v1,λc=>⟨h2,?_⟩⟩;let⟨W,a,b,d⟩:=w3 c;let⟨V,sd,e1,e2⟩:=ahD a d hs A4;exact⟨V,sd,by rw[b,e2],e1⟩
theorem abS(c d:Int):YA [c,d]=some (bif !decide (c=0) then c else d):=by
 obtain⟨F,hF⟩:∃F,18446744073709551616=F+3:=⟨18446744073709551613,rfl⟩;unfold YA;rw[hF];show cond (!decide (c=0)) (some c) (cond (!decide (d=0)) (some d)<|some 0)=_;cases hc:decide (c=0)
 ·rfl
 ·grind
def anc{a b:A3 D9}{X Y:A3 (A3 CC)}{c d:Int}(h1:MC a=some (X,c))(h2:MC b=some (Y,d)):NN a b=some (bif !decide (c=0) then([],[],c) else(X,Y,d)):=by unfold NN;rw[h1,h2,Cm,Cm];cases decide (c=0)<;>rfl
def ajN{A B:A3 (A3 CC)}(ha:A.length<=10000)(hb:B.length<=10000):bV [A,B]=some (A++B):=by
 refine GJ ?_;unfold bV;have sz:∀x∈[A,B],x.length<=10000:=λx mx=>by
  simp[Ao,ZX,or_false] at mx;rcases mx with rfl|rfl
  ·exact ha
  ·exact hb
 refine C9 [A,B] (λ(s:Int) i=>(s,i)) (λP s=>0<=s/\s<=10000*P.length) (λP x C s k hA hP next=>?_) (λs k hP=>?_) (s0:=0) ⟨A4,AV⟩ AV
 ·dsimp only;rw[CD hA,BH];have al:=Cn hA;rw[show [A,B].length=2 from rfl] at al;have:=sz x<|at_mem hA
  refine A6 (Bk hA)<|A6 (EO ⟨A4,A4⟩) ?_
  rw[Bu A4,Ar];exact A6 (C4 hA AV) (next _ ⟨A4,by rw[Dg,IE];omega⟩)
 ·dsimp only;rw[CG,Ar];rw[show [A,B].length=2 from rfl] at hP;have g:aL ([]:A3 (A3 CC)) s=some []:=by unfold aL;rw[B5 hP.1,B5 (show s<=100000000 by omega)];rfl
  refine A6 g ?_;refine C9 [A,B] (λ(t:A3 (A3 CC)) i=>(t,i)) (λP t=>t=P.flatten/\t.length<=10000*P.length) (λP x C t k hA hQ next=>?_) (λt k hQ=>?_) (s0:=[]) ⟨rfl,AV⟩ AV
  ·dsimp only;rw[CD hA,BH];have al:=Cn hA;rw[show [A,B].length=2 from rfl] at al;have:=sz x<|at_mem hA
   let⟨q1,q2⟩:=hQ;refine A6 (Bk hA) (A6 (Sl A4 A4) (A6 (C4 hA AV) (next _ ⟨by rw[q1];simp,?_⟩)));rw[Dg,Dg,IE];omega
  ·dsimp only;rw[CG,Ar];exact AU (by rw[hQ.1];simp)
def Sd.self{l:A3 D9}{V:A3 PS}(s:Sd l V):V.map (·.2.2.1)=l:=by
 rw[s.eq];refine iU λv mv=>?_
 let⟨o,GW,_⟩:=s.ok v mv;let⟨P,_⟩:=s.pr v mv;let⟨Z,R⟩:=P.R;refine nv R.GW GW (λx _ y _ a c=>WZ _<|Wj a c) λh=>?_
 rw[P.mem];exact⟨λm=>m.1,λm=>⟨m,o.2.2 _<|BR.2 ⟨h,m,rfl⟩⟩⟩
section
variable{a b:List D9}{V U:List PS}(sa:Sd a V)(sb:Sd b U)(la:a.length<=2)(lb:b.length<=2)(ra:OC a=some (V.map (·.2.2)))(rb:OC b=some (U.map (·.2.2)))
 (hb:NN a b=some (V.map (·.2.1),U.map (·.2.1),0))
include sa sb la lb ra rb hb
theorem ao0:∃x w,QH a b=some x/\TX a b=some w/\JC x.1 x.2 0 w=some true:=by let⟨C,c1,c2,c3,c4⟩:=alR sa sb la lb;have wr:=eh c3 A4 A4;refine⟨_,_,?_,c2 ra,oS c3 A4 A4 wr⟩;unfold QH;rw[hb,Cm,show(!decide ((0:Int)=0))=false from rfl,Ar,c1,Cm,wr];rfl
theorem ak4:∃x w,QF a b=some x/\RV a b=some w/\JC x.1 x.2 0 w=some true:=by let⟨C,c1,c2,c3,c4⟩:=wY sa sb la lb;have wr:=eh c3 A4 A4;refine⟨_,_,?_,c2 ra,oS c3 A4 A4 wr⟩;unfold QF;rw[hb,Cm,show(!decide ((0:Int)=0))=false from rfl,Ar,c1,Cm,wr];rfl
theorem ak3:∃x w,QE a b=some x/\VN a b=some w/\JC x.1 x.2 0 w=some true:=by
 let⟨C,c1,c2,c3,c4⟩:=wY sb sa lb la;have vl:=sa.len;have P:∀w∈V++C,Gg 30 w:=λw mw=>(Bs.1 mw).elim (λm=>(sa.pr w m).mono A4)<|c3 w
 have L:(V++C).length<=10000:=AK;have wr:=eh P A4 L;have un:VN a b=some ((V++C).map (·.2.2.1)):=by unfold VN;rw[qc A4 A4,Cm,c2 rb,Cm,Sl A4 (by rw[BY];omega),G9,sa.self];rfl
 refine⟨_,_,?_,un,oS P A4 L wr⟩;unfold QE;rw[hb,Cm,show(!decide ((0:Int)=0))=false from rfl,Ar,c1,Cm,ajN (by rw[BY];omega) (by rw[BY];omega),Cm,<-G9,wr];rfl
end
theorem anz{a b:A3 D9}{e:Int}(h:e≠0){X Y:A3 (A3 CC)}(hb:NN a b=some (X,Y,e)):QH a b=some ([],e)/\QF a b=some ([],e)/\QE a b=some ([],e)/\vR a b=some (false,e):=by have d:(!decide (e=0))=true:=AK;unfold QH QF QE vR;rw[hb,Cm,Cm,Cm,Cm,d];exact⟨rfl,rfl,rfl,rfl⟩
theorem adJ(ha:TU=some true)(a b:A3 D9)(ia:∀x∈a,∀h∈x,in3 h.1)(ib:∀x∈b,∀h∈x,in3 h.1):Uv a b=some true:=by
 have aw:Yd (λr=>r=true) (bd (some true) λx6=>some x6):=AU rfl;refine GJ ?_;unfold Uv;rw[ha];refine Aq (zB (n:=2) A4 ia) λg hg=>?_
 cases g with
 |true=>rw[show gd true false=false from rfl,Ex rfl];exact aw
 |false=>
  rw[show gd false false=true from rfl,Ck rfl];refine Aq (zB (n:=2) A4 ib) λg' hg'=>?_
  cases g' with
  |true=>exact aw
  |false=>
   rw[ZN,Ar];let⟨X,c,x1,x2,x3⟩:=yM<|hg rfl
   let⟨Y,d,y1,y2,y3⟩:=yM<|hg' rfl
   have hb:=anc x1 y1;have err:∀e:Int,e≠0->(bif !decide (c=0) then c else d)=e->(∃X Y,NN a b=some (X,Y,e))->Yd (λr=>r=true) (bd (QH a b) λx8=>bd (QF a b) λB9=>bd (QE a b) λBJ=>bd (OD a) λBh=>bd (OD b) λBV=>bd (YA [Bh,BV]) λBl=>cond (!decide (Bl=0)) (bd (JC x8.1 x8.2 Bl []) λC8=>Au (gd C8 true) (false) (JC B9.1 B9.2 Bl []) λCF=>Au (gd (C8&&CF) true) (false) (JC BJ.1 BJ.2 Bl []) λCo=>Au (gd ((C8&&CF)&&Co) true) (false) (some true) λD7=>some (((C8&&CF)&&Co)&&D7)) (bd (TX a b) λFG=>bd (JC x8.1 x8.2 0 FG) λDy=>Au (gd Dy true) ([]) (RV a b) λFH=>Au (gd Dy true) (false) (JC B9.1 B9.2 0 FH) λEL=>Au (gd (Dy&&EL) true) ([]) (VN a b) λEs=>Au (gd (Dy&&EL) true) (false) (JC BJ.1 BJ.2 0 Es) λF7=>Au (gd ((Dy&&EL)&&F7) true) (false) (some true) λGq=>some (((Dy&&EL)&&F7)&&Gq))):=λe he h1 ⟨X,Y,h2⟩=>by
    let⟨e1,e2,e3,_⟩:=anz he h2;have we:=ai2 he;refine A6 e1<|A6 e2<|A6 e3<|A6 x2<|A6 y2<|A6 (abS c d) ?_
    rw[h1,Bu he,Bool.not_false,BH];refine A6 we ?_;rw[show gd true true=true from rfl,Ck rfl];refine A6 we ?_;rw[show gd (true&&true) true=true from rfl,Ck rfl];refine A6 we ?_;rw[show gd (true&&true&&true) true=true from rfl,Ck rfl];exact AU rfl
   by_cases hc:c=0
   ·by_cases hd:d=0
    ·subst hc hd;obtain⟨la,V,sa,rfl,ra⟩:=x3 rfl;obtain⟨lb,U,sb,rfl,rb⟩:=y3 rfl;have hb:NN a b=some (V.map (·.2.1),U.map (·.2.1),0):=hb;let⟨p,p',p1,p2,p3⟩:=ao0 sa sb la lb ra rb hb;let⟨q,q',q1,q2,q3⟩:=ak4 sa sb la lb ra rb hb;let⟨r,r',r1,r2,r3⟩:=ak3 sa sb la lb ra rb hb;refine A6 p1<|A6 q1<|A6 r1<|A6 x2<|A6 y2<|A6 (abS 0 0) ?_
     rw[show(!decide ((bif !decide ((0:Int)=0) then(0:Int) else 0)=0))=false from rfl,Ar];refine A6 p2<|A6 p3 ?_
     rw[show gd true true=true from rfl,Ck rfl];refine A6 q2 ?_;rw[Ck rfl];refine A6 q3 ?_;rw[show gd (true&&true) true=true from rfl,Ck rfl];refine A6 r2 ?_;rw[Ck rfl];refine A6 r3 ?_;rw[show gd (true&&true&&true) true=true from rfl,Ck rfl];exact AU rfl
    ·grind
   ·grind
abbrev JB:A3 Bc:=[((-1,0,0),[48]),((0,-1,0),[48]),((0,0,-1),[48]),((0,0,1),[52]),((0,1,0),[51]),((1,0,0),[50])]
abbrev bxC:A3 Bc:=[((-1,0,0),[45,49]),((0,-1,0),[45,49]),((0,0,-1),[45,49]),((0,0,1),[53]),((0,1,0),[52]),((1,0,0),[51])]
abbrev bxD:A3 Bc:=[((-1,0,0),[45,50]),((0,-1,0),[48]),((0,0,-1),[48]),((0,0,1),[49]),((0,1,0),[49]),((1,0,0),[51])]
def asF:lO [JB]=some ([50,52],0):=A7
def asr:QH [JB] [bxC]=some ([[((-1,0,0),[45,49]),((0,-1,0),[45,49]),((0,0,-1),[45,49]),((0,0,1),[52]),((0,1,0),[51]),((1,0,0),[50])]],0):=A7
def asm:QF [JB] [bxC]=some ([[((-1,0,0),[48]),((0,-1,0),[48]),((0,0,-1),[48]),((0,0,1),[52]),((0,1,0),[51]),((1,0,0),[49])],[((-1,0,0),[45,49]),((0,-1,0),[48]),((0,0,-1),[48]),((0,0,1),[52]),((0,1,0),[49]),((1,0,0),[50])],[((-1,0,0),[45,49]),((0,-1,0),[45,49]),((0,0,-1),[48]),((0,0,1),[49]),((0,1,0),[51]),((1,0,0),[50])]],0):=A7
def asq:me [JB] ((1,1,0),[51])=some ([[((-1,0,0),[48]),((0,-1,0),[48]),((0,0,-1),[48]),((0,0,1),[52]),((1,0,0),[50]),((1,1,0),[51])]],0):=A7
def asI:lE [JB] ((1,1,0),[51])=some (([56],[56],[48]),0):=A7
def asH:l6 [JB] [bxD]=some ([(((1,0,0),[50]),[49],[48],[48])],0):=A7
def asG:QE [JB] [bxD]=some ([JB,bxD],0):=A7
def asj:Xd [JB] ([50],[49,47,50],[49,47,50])=some (0,0):=A7
def asS:Xd [JB,bxD] ([50],[49,47,50],[49,47,50])=some (1,0):=A7
def asn:mR [([48],[48],[48]),([49],[48],[48]),([48],[49],[48]),([48],[48],[49])]=some ([((-1,0,0),[48]),((0,-1,0),[48]),((0,0,-1),[48]),((1,1,1),[49])],0):=A7
def asD:mH JB ([48],[48],[49])=some ([((-1,0,0),[48]),((0,-1,0),[48]),((0,0,-1),[48]),((0,0,1),[53]),((0,1,0),[51]),((1,0,0),[50])],0):=A7
def asC:lP [JB]=some (([49],[51,47,50],[50]),0):=A7
def asl:Xn (JB.take 3)=some ([],13):=A7
def asp:Xn (JB++[((1,0,0),[48])])=some ([],12):=A7
def aj1:TU=some true:=by refine GJ ?_;unfold TU;refine A6 (x:=JB) rfl ?_;refine A6 (x:=bxC) rfl ?_;refine A6 (x:=bxD) rfl ?_;refine A6 asF ?_;refine A6 asr ?_;refine A6 asm ?_;refine A6 (x:=((1,1,0),[51])) rfl ?_;refine A6 asq ?_;refine A6 (x:=((1,1,0),[51])) rfl ?_;refine A6 asI ?_;refine A6 asH ?_;refine A6 asG ?_;refine A6 asj ?_;refine A6 asS ?_;refine A6 (x:=([48],[48],[48])) A7 ?_;refine A6 (x:=([49],[48],[48])) A7 ?_;refine A6 (x:=([48],[49],[48])) A7 ?_;refine A6 (x:=([48],[48],[49])) A7 ?_;refine A6 asn ?_;refine A6 (x:=JB) rfl ?_;refine A6 (x:=([48],[48],[49])) A7 ?_;refine A6 asD ?_;refine A6 asC ?_;refine A6 (x:=JB) rfl ?_;refine A6 (x:=JB.take 3) rfl ?_;refine A6 asl ?_;refine A6 (x:=JB) rfl ?_;refine A6 (x:=JB) rfl ?_;refine A6 (x:=((1,0,0),[48])) rfl ?_;refine A6 (x:=JB++[((1,0,0),[48])]) rfl ?_;refine A6 asp ?_;exact⟨true,A7,rfl⟩
def adK(a b:A3 D9)(ia:∀x∈a,∀h∈x,in3 h.1)(ib:∀x∈b,∀h∈x,in3 h.1):Uv a b=some true:=adJ aj1 a b ia ib
end Trn
