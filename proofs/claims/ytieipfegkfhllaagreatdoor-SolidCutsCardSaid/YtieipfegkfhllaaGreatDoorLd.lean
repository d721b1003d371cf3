/- Part of SolidCuts. -/
import Derived.Test.YtieipfegkfhllaaGreatDoorLc
set_option maxRecDepth 100000
set_option maxHeartbeats 20000000
set_option linter.all false
open Go Go.RowKit Go.Proofs Go.Proofs.Tryz
namespace Trn
theorem alI{a:A3 DH}{V:A3 PS}(sa:Sd a V)(la:a.length<=2)(ra:NG a=some (V.map (·.2.2)))(hx:Lf a=some (V.map (·.2.1),0)){h:BZ}(oh:Bs h)(hc:O7 h=some 0):∃x w,RU a h=some x/\VQ a h=some w/\OA x.1 x.2 0 w=some true:=by
 have vl:=sa.len;have one:∀v:PS,(bif (Gu v h).2 then [stp v h] else []).length<=1:=λv=>by cases(Gu v h).2<;>simp
 have len:∀A:A3 PS,(A.flatMap λv=>bif (Gu v h).2 then [stp v h] else []).length<=A.length*1:=λA=>UH λv _=>one v
 have P:∀w∈V.flatMap λv=>bif (Gu v h).2 then [stp v h] else [],Hg 11 w:=λw mw=>by
  let⟨v,mv,m⟩:=MQ.1 mw;let⟨_,_,_,c4,_⟩:=Ya (sa.pr v mv) A4 oh;cases hd:(Gu v h).2
  .grind
  .grind
 have CL:=len V;have wr:=vh P A4 A4;refine⟨_,_,?_,?_,ajY P A4 A4 wr⟩
 .have f2:QC [0,0]=some 0:=by obtain⟨F,hF⟩:∃F,18446744073709551616=F+3:=⟨18446744073709551613,rfl⟩;unfold QC;rw[hF];rfl
  unfold RU;rw[hx,Ck,hc,Ck,f2,Ck,show(!decide ((0:Int)=0))=false from rfl,As];refine Fz ?_;rw[Be];refine CB V (λ(s:A3 (A3 CQ)) i=>(s,i)) (λA s=>s=(A.flatMap λv=>bif (Gu v h).2 then [stp v h] else []).map (·.2.1)) (λA v C s k hA hP next=>?_) (λs k hP=>?_) (s0:=[]) rfl A4
  .dsimp;rw[CE hA,BI];have al:=Cz hA;have sl:=len A;let⟨c1,_⟩:=Ya (sa.pr v<|at_mem hA) A4 oh;refine DI (λt:A3 (A3 CQ)=>t=((A++[v]).flatMap λv=>bif (Gu v h).2 then [stp v h] else []).map (·.2.1)) (λt ht=>A6 (C7 hA A4)<|next t ht) λIQ Bu=>?_
   refine A6 (Kd (λv:PS=>v.2.1) hA)<|A6 oh.from (A6 c1 ?_)
   cases hd:(Gu v h).2
   .grind
   .refine A6 (app_1 A4 (by rw[hP,Be];omega)) (Bu _ ?_);rw[hP,ZW,Ge];simp[hd,stp]
  .dsimp;rw[CP,As,hP,wr];exact AU rfl
 .refine Fz ?_;unfold VQ;refine A6 ra ?_;rw[Be];refine CB V (λ(s:A3 HT) i=>(s,i)) (λA s=>s=(A.flatMap λv=>bif (Gu v h).2 then [stp v h] else []).map (·.2.2)) (λA v C s k hA hP next=>?_) (λs k hP=>?_) (s0:=[]) rfl A4
  .dsimp;rw[CE hA,BI];have al:=Cz hA;have sl:=len A;let⟨_,c1,c2,_⟩:=Ya (sa.pr v<|at_mem hA) A4 oh;refine DI (λt:A3 HT=>t=((A++[v]).flatMap λv=>bif (Gu v h).2 then [stp v h] else []).map (·.2.2)) (λt ht=>A6 (C7 hA A4)<|next t ht) λIQ Bu=>?_
   refine A6 (Kd (λv:PS=>v.2.2) hA)<|A6 c1 ?_
   rw[<-c2];cases hd:(Gu v h).2
   .grind
   .refine A6 (app_1 A4 (by rw[hP,Be];omega)) (Bu _ ?_);rw[hP,ZW,Ge];simp[hd,stp]
  .dsimp;rw[CP,As,hP];exact A6 (xI P A4 A4)<|AU rfl
theorem alw(c d:Int):QC [c,d]=some (bif !decide (c=0) then c else d):=by
 obtain⟨F,hF⟩:∃F,18446744073709551616=F+3:=⟨18446744073709551613,rfl⟩;unfold QC;rw[hF];show cond (!decide (c=0)) (some c) (cond (!decide (d=0)) (some d)<|some 0)=_;cases hc:decide (c=0)
 .rfl
 .grind
def aiV{a b:A3 DH}{V U:A3 PS}(sa:Sd a V)(sb:Sd b U)(la:a.length<=2)(lb:b.length<=2)(ra:NG a=some (V.map (·.2.2)))(rb:NG b=some (U.map (·.2.2)))
  (hb:P8 a b=some (V.map (·.2.1),U.map (·.2.1),0)):∃t,TO a b=some (t,0)/\Y9 a b=some t:=by
 let⟨M,N,m1,n1,e1⟩:=xU sa sb la lb ra;let⟨M',N',m2,n2,e2⟩:=xU sb sa lb la rb;refine⟨decide ((N.length:Int)=0)&&decide ((N'.length:Int)=0),?_,?_⟩
 .unfold TO;rw[hb,Ck,show(!decide ((0:Int)=0))=false from rfl,As,m1,Ck,e1];cases decide ((N.length:Int)=0)
  .rfl
  .rw[show gd true true=true from rfl,Cs rfl,m2,Ck,e2]
 .unfold Y9;rw[n1,Ck];cases decide ((N.length:Int)=0)
  .rfl
  .rw[show gd true true=true from rfl,Cs rfl,n2];rfl
def aeX(ha:TK=some true)(a b:A3 DH)(h:BZ)(ia:∀x∈a,∀h∈x,in3 h.1)(ib:∀x∈b,∀h∈x,in3 h.1)(ih:in3 h.1):Us a b h=some true:=by
 have aw:Yd (λr=>r=true) (bd (some true) λx6=>some x6):=AU rfl;refine Fz ?_;unfold Us;rw[ha];refine Ap (yj (n:=2) A4 ia) λg hg=>?_
 cases g with
 |true=>rw[show gd true false=false from rfl,Ep rfl];exact aw
 |false=>
  rw[show gd false false=true from rfl,Cs rfl];refine Ap (yj (n:=2) A4 ib) λg' hg'=>?_
  cases g' with
  |true=>exact aw
  |false=>
   rw[ZI,Tx];refine Ac (λ_=>aw) λhl=>?_
   have hl:=Bg hl;let⟨X,c,x1,x2,x3⟩:=xz<|hg rfl
   let⟨Y,d,y1,y2,y3⟩:=xz<|hg' rfl
   let⟨k,k1,k2,k3⟩:=lR ih (show h.2.length<=14 by omega);have hb:=anY x1 y1;have sm:∃t u,TO a b=some (t,bif !decide (c=0) then c else d)/\((bif !decide (c=0) then c else d)=0->Y9 a b=some u/\t=u)/\((bif !decide (c=0) then c else d)≠0->t=false):=by
    by_cases hc:c=0
    .by_cases hd:d=0
     .subst hc hd;obtain⟨la,V,sa,rfl,ra⟩:=x3 rfl;obtain⟨lb,U,sb,rfl,rb⟩:=y3 rfl;let⟨t,t1,t2⟩:=aiV sa sb la lb ra rb hb;exact⟨t,t,t1,λ_=>⟨t2,rfl⟩,λn=>absurd rfl n⟩
     .subst hc;exact⟨false,false,(aai hd hb).2.2.2,λn=>absurd n hd,λ_=>rfl⟩
    .rw[Bo hc] at hb⊢;exact⟨false,false,(aai hc hb).2.2.2,λn=>absurd n hc,λ_=>rfl⟩
   have ct:∃x,RU a h=some x/\((bif !decide (c=0) then c else k)≠0->x=([],bif !decide (c=0) then c else k))/\((bif !decide (c=0) then c else k)=0->∃w,VQ a h=some w/\OA x.1 x.2 0 w=some true):=by
    by_cases hf:(bif !decide (c=0) then c else k)=0
    .have hc:c=0:=Co λn=>by rw[Bo n] at hf;exact n hf
     subst hc;have hk:k=0:=hf;subst hk;obtain⟨la,V,sa,rfl,ra⟩:=x3 rfl;let⟨x,w,p1,p2,p3⟩:=alI sa la ra x1 (k3 rfl) k1;exact⟨x,p1,λn=>absurd hf n,λ_=>⟨w,p2,p3⟩⟩
    .refine⟨_,?_,λ_=>rfl,λn=>absurd n hf⟩;unfold RU;rw[x1,Ck,k1,Ck,alw,Ck]
     generalize (bif !decide (c=0) then c else k)=f at hf
     rw[Bo hf];rfl
   let⟨t,u,s1,s2,s3⟩:=sm;let⟨x,c1,c2,c3⟩:=ct;refine A6 s1<|A6 c1<|A6 x2<|A6 y2<|A6 (abC c d) ?_
   generalize (bif !decide (c=0) then c else d)=e at s2 s3
   have rest:Yd (λr=>r=true) (bd (O6 a) λCC=>bd (Oz h) λCJ=>bd (VJ [CC,CJ]) λCp=>cond (!decide (Cp=0)) (bd (OA x.1 x.2 Cp []) λER=>B1 (gd ER true) (false) (some true) λDx=>some (ER&&Dx)) (bd (VQ a h) λDP=>bd (OA x.1 x.2 0 DP) λFL=>B1 (gd FL true) (false) (some true) λED=>some (FL&&ED))):=by
    refine A6 x2<|A6 k2<|A6 (abC c k) ?_
    generalize (bif !decide (c=0) then c else k)=f at c2 c3
    by_cases hf:f=0
    .let⟨w,w1,w2⟩:=c3 hf;rw[B4 hf,PY,As];refine A6 w1<|A6 w2 ?_
     rw[show gd true true=true from rfl,Cs rfl];exact AU rfl
    .rw[Bo hf,Bool.not_false,BI,c2 hf];refine A6 (ahw hf) ?_;rw[show gd true true=true from rfl,Cs rfl];exact AU rfl
   rw[B4<|show e=e from rfl];by_cases he:e=0
   .obtain⟨u1,rfl⟩:=s2 he;rw[B4 he,show(gd (!true) false&&gd true true)=true from rfl,Cs rfl];refine A6 u1 ?_;have q:((!true)||(!(t==(true&&t))))=false:=by cases t<;>rfl
    rw[q,As];exact rest
   .rw[Bo he,show(gd (!true) false&&gd false true)=false from rfl,Ep rfl,s3 he];exact rest
abbrev J7:A3 BZ:=[((-1,0,0),[48]),((0,-1,0),[48]),((0,0,-1),[48]),((0,0,1),[52]),((0,1,0),[51]),((1,0,0),[50])]
abbrev bxC:A3 BZ:=[((-1,0,0),[45,49]),((0,-1,0),[45,49]),((0,0,-1),[45,49]),((0,0,1),[53]),((0,1,0),[52]),((1,0,0),[51])]
abbrev bxD:A3 BZ:=[((-1,0,0),[45,50]),((0,-1,0),[48]),((0,0,-1),[48]),((0,0,1),[49]),((0,1,0),[49]),((1,0,0),[51])]
def asf:lF [J7]=some ([50,52],0):=A7
def asu:YG [J7] [bxC]=some ([[((-1,0,0),[45,49]),((0,-1,0),[45,49]),((0,0,-1),[45,49]),((0,0,1),[52]),((0,1,0),[51]),((1,0,0),[50])]],0):=A7
def asq:Xs [J7] [bxC]=some ([[((-1,0,0),[48]),((0,-1,0),[48]),((0,0,-1),[48]),((0,0,1),[52]),((0,1,0),[51]),((1,0,0),[49])],[((-1,0,0),[45,49]),((0,-1,0),[48]),((0,0,-1),[48]),((0,0,1),[52]),((0,1,0),[49]),((1,0,0),[50])],[((-1,0,0),[45,49]),((0,-1,0),[45,49]),((0,0,-1),[48]),((0,0,1),[49]),((0,1,0),[51]),((1,0,0),[50])]],0):=A7
def ast:RU [J7] ((1,1,0),[51])=some ([[((-1,0,0),[48]),((0,-1,0),[48]),((0,0,-1),[48]),((0,0,1),[52]),((1,0,0),[50]),((1,1,0),[51])]],0):=A7
def asj:kv [J7] ((1,1,0),[51])=some (([56],[56],[48]),0):=A7
def ash:km [J7] [bxD]=some ([(((1,0,0),[50]),[49],[48],[48])],0):=A7
def asg:Xr [J7] [bxD]=some ([J7,bxD],0):=A7
def aso:XW [J7] ([50],[49,47,50],[49,47,50])=some (0,0):=A7
def asl:XW [J7,bxD] ([50],[49,47,50],[49,47,50])=some (1,0):=A7
def asr:mI [([48],[48],[48]),([49],[48],[48]),([48],[49],[48]),([48],[48],[49])]=some ([((-1,0,0),[48]),((0,-1,0),[48]),((0,0,-1),[48]),((1,1,1),[49])],0):=A7
def ase:lz J7 ([48],[48],[49])=some ([((-1,0,0),[48]),((0,-1,0),[48]),((0,0,-1),[48]),((0,0,1),[53]),((0,1,0),[51]),((1,0,0),[50])],0):=A7
def asd:lG [J7]=some (([49],[51,47,50],[50]),0):=A7
def asp:Xg (J7.take 3)=some ([],13):=A7
def ass:Xg (J7++[((1,0,0),[48])])=some ([],12):=A7
def aj6:TK=some true:=by refine Fz ?_;unfold TK;refine A6 (x:=J7) rfl ?_;refine A6 (x:=bxC) rfl ?_;refine A6 (x:=bxD) rfl ?_;refine A6 asf ?_;refine A6 asu ?_;refine A6 asq ?_;refine A6 (x:=((1,1,0),[51])) rfl ?_;refine A6 ast ?_;refine A6 (x:=((1,1,0),[51])) rfl ?_;refine A6 asj ?_;refine A6 ash ?_;refine A6 asg ?_;refine A6 aso ?_;refine A6 asl ?_;refine A6 (x:=([48],[48],[48])) A7 ?_;refine A6 (x:=([49],[48],[48])) A7 ?_;refine A6 (x:=([48],[49],[48])) A7 ?_;refine A6 (x:=([48],[48],[49])) A7 ?_;refine A6 asr ?_;refine A6 (x:=J7) rfl ?_;refine A6 (x:=([48],[48],[49])) A7 ?_;refine A6 ase ?_;refine A6 asd ?_;refine A6 (x:=J7) rfl ?_;refine A6 (x:=J7.take 3) rfl ?_;refine A6 asp ?_;refine A6 (x:=J7) rfl ?_;refine A6 (x:=J7) rfl ?_;refine A6 (x:=((1,0,0),[48])) rfl ?_;refine A6 (x:=J7++[((1,0,0),[48])]) rfl ?_;refine A6 ass ?_;exact⟨true,A7,rfl⟩
def aeY(a b:A3 DH)(h:BZ)(ia:∀x∈a,∀h∈x,in3 h.1)(ib:∀x∈b,∀h∈x,in3 h.1)(ih:in3 h.1):Us a b h=some true:=aeX aj6 a b h ia ib ih
end Trn
