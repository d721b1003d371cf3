/-
  Part of the proof of SolidFacets.
-/
import Derived.Test.YtiacmffbhnfhdaaGreatDoorHb
set_option maxRecDepth 100000
set_option maxHeartbeats 20000000
set_option linter.all false
open Go Go.RowKit Go.Proofs Go.Proofs.Tryz
namespace Trn
section
variable{t x:Rat}{α:Type}{y:Rat}
abbrev Q3:=Rat×Rat×Rat
abbrev H3:=Q3×Rat
def AK(v w:Q3):Rat:=v.1*w.1+v.2.1*w.2.1+v.2.2*w.2.2
def B7(v w:Q3):Q3:=(v.1-w.1,v.2.1-w.2.1,v.2.2-w.2.2)
def Ac(v w:Q3):Q3:=(v.2.1*w.2.2-v.2.2*w.2.1,v.2.2*w.1-v.1*w.2.2,v.1*w.2.1-v.2.1*w.1)
def Bw(v w:Q3):Q3:=(v.1+w.1,v.2.1+w.2.1,v.2.2+w.2.2)
def Ba(v:Q3)(a:Rat):Q3:=(v.1*a,v.2.1*a,v.2.2*a)
def o3:Q3:=(0,0,0)
def val(h:H3)(p:Q3):Rat:=AK h.1 p-h.2
def Mem(L:A3 H3)(p:Q3):Prop:=∀h∈L,val h p<=0
def Eg(L:A3 H3):Prop:=∀d:Q3,d≠o3->∃h∈L,0<AK h.1 d
def C1(L:A3 H3)(p:Q3):Prop:=Mem L p/\∀d:Q3,(∀h∈L,val h p=0->AK h.1 d=0)->d=o3
def KK{v w:Q3}(h1:v.1=w.1)(h2:v.2.1=w.2.1)(h3:v.2.2=w.2.2):v=w:=by
 obtain⟨a,b,c⟩:=v;obtain⟨d,e,f⟩:=w;simp only at h1 h2 h3;rw[h1,h2,h3]
theorem PQ(n p d:Q3):AK n (Bw p d)=AK n p+AK n d:=by unfold AK Bw;grind
theorem WO(n p d:Q3):AK n (B7 p d)=AK n p-AK n d:=by unfold AK B7;grind
theorem GF(n d:Q3)(a:Rat):AK n (Ba d a)=a*AK n d:=by unfold AK Ba;grind
theorem NB(n d:Q3):AK n d=AK d n:=by unfold AK;grind
theorem Kw(n d:Q3)(a:Rat):AK (Ba d a) n=a*AK d n:=by unfold AK Ba;grind
theorem Wu(n:Q3):AK n o3=0:=by unfold AK o3;grind
theorem S7(h:H3)(p d:Q3)(r:Rat):val h (Bw p<|Ba d r)=val h p+r*AK h.1 d:=by
 unfold val;rw[PQ,GF];grind
theorem bN(x:Rat):0<=x*x:=by
 rcases gG (a:=0) (b:=x) with h|h
 ·exact Dz h h
 ·have:=Dz (a:= -x) (b:= -x) AY AY;grind
def pO(h:x*x<=0):x=0:=by
 rcases IB.1 (Rat.le_antisymm h<|bN x) with h|h<;>exact h
theorem xj{d:Q3}(h:AK d d<=0):d=o3:=by
 unfold AK at h;have h1:=bN d.1;have h2:=bN d.2.1;have h3:=bN d.2.2;exact KK (pO AY) (pO AY)<|pO AY
theorem Pw{d:Q3}(h:d≠o3):0<AK d d:=by
 by_cases h1:0<AK d d
 ·exact h1
 ·exact absurd (xj AY) h
def least{α:Type}(P:α->Prop)(f:α->Rat):∀L:A3 α,(∃h∈L,P h)->∃h∈L,P h/\∀k∈L,P k->f h<=f k
 |[],⟨h,m,_⟩=>by cases m
 |x::L,hx=>by
  by_cases hL:∃h∈L,P h
  ·obtain⟨h,m,ph,hm⟩:=least P f L hL;by_cases px:P x
   ·rcases gG (a:=f x) (b:=f h) with c|c
    ·refine⟨x,Dq,px,λk mk pk=>?_⟩;rcases Ai.1 mk with e|mk
     ·rw[e];exact Gx
     ·exact Z9 c<|hm k mk pk
    ·refine⟨h,Bq _ m,ph,λk mk pk=>?_⟩;rcases Ai.1 mk with e|mk
     ·rw[e];exact c
     ·exact hm k mk pk
   ·refine⟨h,Bq _ m,ph,λk mk pk=>?_⟩;rcases Ai.1 mk with e|mk
    ·rw[e] at pk;exact absurd pk px
    ·exact hm k mk pk
  ·obtain⟨h,m,ph⟩:=hx;rcases Ai.1 m with e|m
   ·subst e;refine⟨h,Dq,ph,λk mk pk=>?_⟩;rcases Ai.1 mk with e|mk
    ·rw[e];exact Gx
    ·exact absurd ⟨k,mk,pk⟩ hL
   ·exact absurd ⟨h,m,ph⟩ hL
def filter_lt{α:Type}{p q:α->Bool}:∀{L:A3 α} {x:α},(∀y∈L,q y=true->p y=true)->x∈L->p x=true->q x=false->(L.filter q).length<(L.filter p).length
 |y::L,x,h,m,hp,hq=>by
  have hle:∀M:A3 α,(∀y∈M,q y=true->p y=true)->(M.filter q).length<=(M.filter p).length:=by
   intro M
   induction M with
   |nil=>intro _;exact BM _
   |cons z M ih=>
    intro hM;have:=ih λy my=>hM y<|Bq _ my
    have hz:=hM z Dq;rw[ZH,ZH];cases hqz:q z
    ·cases p z<;>simp<;>omega
    ·rw[hz hqz];simp;omega
  rw[ZH,ZH];rcases Ai.1 m with e|m
  ·subst e;rw[hp,hq];have:=hle L λy my=>h y<|Bq _ my
   simp;omega
  ·have:=filter_lt (λy my=>h y<|Bq _ my) m hp hq;have hy:=h y Dq;cases hqz:q y
   ·cases p y<;>simp<;>omega
   ·rw[hy hqz];simp;omega
theorem amY{L:A3 H3}(hb:Eg L){p:Q3}(hp:Mem L p)(c:Q3){d:Q3}(hd:d≠o3)(hc:0<=AK c d)(ht:∀h∈L,val h p=0->AK h.1 d=0):
  ∃q,Mem L q/\AK c p<=AK c q/\(∀h∈L,val h p=0->val h q=0)/\∃h∈L,val h p≠0/\val h q=0:=by
 obtain⟨h,mh,ph,hm⟩:=least (λh:H3=>0<AK h.1 d) (λh=> -val h p/AK h.1 d) L<|hb d hd
 have hv:=hp h mh;have hr:0<= -val h p/AK h.1 d:=by
  rw[Tg];exact Dz AY<|Ge<|Tf.2 ph
 have key:∀k:H3,0<AK k.1 d-> -val k p/AK k.1 d*AK k.1 d= -val k p:=λk hk=>PM AY
 generalize hR: -val h p/AK h.1 d=r at*
 refine⟨Bw p<|Ba d r,λk mk=>?_,?_,λk mk hk=>?_,h,mh,λe=>?_,?_⟩
 ·rw[S7];have hk:=hp k mk;by_cases g:0<AK k.1 d
  ·have h1:=hm k mk g;have h2:=key k g;have h3:=iF h1<|Ge g
   grind
  ·have:=Dz hr (show 0<= -AK k.1 d by grind)
   grind
 ·rw[PQ,GF];have:=Dz hr hc
  grind
 ·rw[S7,ht k mk hk,hk];grind
 ·have:=ht h mh e
  grind
 ·rw[S7];have:=key h ph;rw[hR] at this
  grind
theorem aob{L:A3 H3}(hb:Eg L)(c:Q3):∀(n:Nat) (p:Q3),(L.filter λh=> !decide (val h p=0)).length<=n->Mem L p->∃v,C1 L v/\AK c p<=AK c v/\∀h∈L,val h p=0->val h v=0:=by
 intro n
 induction n with
 |zero=>
  intro p hn hp;refine⟨p,⟨hp,λd hd=>?_⟩,Gx,λ_ _ h=>h⟩;have h0:(L.filter λh=> !decide (val h p=0))=[]:=Js A4;by_cases hz:d=o3
  ·exact hz
  ·obtain⟨h,mh,hh⟩:=hb d hz;have:val h p=0:=by
    by_cases e:val h p=0
    ·exact e
    ·have:h∈(L.filter λh=> !decide (val h p=0)):=HZ.2 ⟨mh,by simp[e]⟩;rw[h0] at this;cases this
   have:=hd h mh this
   grind
 |succ n ih=>
  intro p hn hp;by_cases hv:C1 L p
  ·exact⟨p,hv,Gx,λ_ _ h=>h⟩
  ·have:∃d:Q3,(∀h∈L,val h p=0->AK h.1 d=0)/\d≠o3:=by
    refine Cl λhn=>hv ⟨hp,λd hd=>?_⟩
    exact Cl λhz=>hn ⟨d,hd,hz⟩
   obtain⟨d,ht,hz⟩:=this;have go:∀d:Q3,(∀h∈L,val h p=0->AK h.1 d=0)->d≠o3->0<=AK c d->∃v,C1 L v/\AK c p<=AK c v/\∀h∈L,val h p=0->val h v=0:=by
    intro d ht hz hc;obtain⟨q,q1,q2,q3,h,mh,q4,q5⟩:=amY hb hp c hz hc ht;have:=filter_lt (L:=L) (p:=λh=> !decide (val h p=0)) (q:=λh=> !decide (val h q=0)) (x:=h) (λy my hy=>by
     simp at hy⊢;exact λe=>hy<|q3 y my e) mh (by simp[q4]) (by simp[q5])
    obtain⟨v,v1,v2,v3⟩:=ih q A4 q1;exact⟨v,v1,Z9 q2 v2,λh m e=>v3 h m<|q3 h m e⟩
   rcases gG (a:=0) (b:=AK c d) with hc|hc
   ·exact go d ht hz hc
   ·have hs:∀n:Q3,AK n (Ba d<| -1)= -AK n d:=λn=>by rw[GF];grind
    refine go (Ba d<| -1) (λh m e=>by rw[hs,ht h m e];grind) (λe=>hz ?_) (by rw[hs];grind);have e1:=congrArg Prod.fst e;have e2:=congrArg (λx=>x.2.1) e;have e3:=congrArg (λx=>x.2.2) e;simp only[Ba,o3] at e1 e2 e3;exact KK (by simp only[o3];grind) (by simp only[o3];grind) (by simp only[o3];grind)
def QV{L:A3 H3}(hb:Eg L){p:Q3}(hp:Mem L p)(c:Q3):∃v,C1 L v/\AK c p<=AK c v/\∀h∈L,val h p=0->val h v=0:=aob hb c _ p (BM _) hp
def Bn(n a b c:Q3):Rat:=AK n<|Ac (B7 b a)<|B7 c a
def Dl(a b:Q3)(t:Rat):Q3:=Bw a<|Ba (B7 b a) t
theorem HM{v w:Q3}(h:v.1=w.1/\v.2.1=w.2.1/\v.2.2=w.2.2:=by simp only[Dl,Bw,B7,Ba,Ac,o3];grind):v=w:=KK h.1 h.2.1 h.2.2
theorem Rn(n a b c:Q3):Bn n a b c=Bn n b c a:=by unfold Bn AK Ac B7;grind
theorem fj(n a b:Q3):Bn n a a b=0:=by unfold Bn AK Ac B7;grind
theorem fi(n a b:Q3):Bn n a b a=0:=by unfold Bn AK Ac B7;grind
theorem OF(n a b:Q3):Bn n b a a=0:=by unfold Bn AK Ac B7;grind
theorem fP(n p q a b:Q3)(t:Rat):Bn n p q (Dl a b t)=(1-t)*Bn n p q a+t*Bn n p q b:=by
 unfold Bn Dl AK Ac B7 Bw Ba;grind
theorem akD(n p r a b:Q3)(t:Rat):Bn n p (Dl a b t) r=(1-t)*Bn n p a r+t*Bn n p b r:=by
 unfold Bn Dl AK Ac B7 Bw Ba;grind
theorem akH(n q r a b:Q3)(t:Rat):Bn n (Dl a b t) q r=(1-t)*Bn n a q r+t*Bn n b q r:=by
 unfold Bn Dl AK Ac B7 Bw Ba;grind
theorem GM(h:H3)(a b:Q3)(t:Rat):val h (Dl a b t)=(1-t)*val h a+t*val h b:=by
 unfold val Dl AK B7 Bw Ba;grind
theorem jQ(h0:0<=t)(h1:t<=1)(hx:0<=x)(hy:0<=y):0<=(1-t)*x+t*y:=by
 have a:=Dz (show 0<=1-t by grind) hx;have b:=Dz h0 hy
 grind
def Wk(n:Q3)(l:A3 Q3):Prop:=∀a b c,[a,b,c].Sublist l->0<=Bn n a b c
def F5(n:Q3)(l:A3 Q3):Prop:=∀a b c,[a,b,c].Sublist l->0<Bn n a b c
def Wk.sub{n:Q3}{l m:A3 Q3}(h:Wk n l)(s:m.Sublist l):Wk n m:=λa b c k=>h a b c<|k.trans s
def F5.sub{n:Q3}{l m:A3 Q3}(h:F5 n l)(s:m.Sublist l):F5 n m:=λa b c k=>h a b c<|k.trans s
def F5.wk{n:Q3}{l:A3 Q3}(h:F5 n l):Wk n l:=λa b c k=>Ge<|h a b c k
def SX{x:α}{l:A3 α}(h:x∈l):[x].Sublist l:=ZS.2 h
def ann{n:Q3}{A B:A3 Q3}{a b:Q3}(h0:0<=t)(h1:t<=1)(h:Wk n (A++a::b::B)):Wk n (A++a::Dl a b t::b::B):=by
 intro p q r s;have e:A++a::Dl a b t::b::B=(A++[a])++(Dl a b t::b::B):=AS;have e':A++a::b::B=(A++[a])++(b::B):=AS;rw[e'] at h;rw[e] at s;obtain⟨s1,s2,es,k1,k2⟩:=WG.1 s;have inA:∀x∈A++[a],x=a\/[x,a].Sublist (A++[a]):=λx hx=>by
  rcases Cp.1 hx with g|g
  ·exact .inr<|(SX g).append<|Ts [a]
  ·exact .inl<|DV.1 g
 have inB:∀x∈b::B,x=b\/[b,x].Sublist (b::B):=λx hx=>by
  rcases Ai.1 hx with g|g
  ·exact .inl g
  ·exact .inr<|(SX g).cons_cons b
 have ma:[a].Sublist (A++[a]):=SX AS;have mb:[b].Sublist (b::B):=SX AS;cases k2 with
 |cons _ k2=>exact h p q r (by rw[es];exact k1.append k2)
 |cons_cons _ k2=>
  rename_i s3
  match s1,es with
  |[],es=>
   simp at es;obtain⟨rfl,rfl⟩:=es;have hq:q∈b::B:=k2.subset AS;rw[akH];refine jQ h0 h1 (h _ _ _<|ma.append k2) ?_;cases k2 with
   |cons _ k2=>exact h _ _ _<|(k2.cons_cons b).trans<|WI _ _
   |cons_cons _ k2=>rw[fj];exact Gx
  |[x],es=>
   simp at es;obtain⟨rfl,rfl,rfl⟩:=es;have hp:p∈A++[a]:=k1.subset AS;have hr:r∈b::B:=k2.subset AS;rw[akD];refine jQ h0 h1 ?_ ?_
   ·rcases inA p hp with g|g
    ·rw[g,fj];exact Gx
    ·exact h _ _ _<|g.append k2
   ·rcases inB r hr with g|g
    ·rw[g,OF];exact Gx
    ·exact h _ _ _<|k1.append g
  |[x,y],es=>
   simp at es;obtain⟨rfl,rfl,rfl,rfl⟩:=es;have hq:q∈A++[a]:=k1.subset AS;rw[fP];refine jQ h0 h1 ?_<|h _ _ _<|k1.append mb
   obtain⟨t1,t2,et,j1,j2⟩:=WG.1 k1
   match t1,et with
   |[],et=>simp at et;subst et;have:=j2.length_le;simp at this
   |[x],et=>
    simp at et;obtain⟨rfl,rfl⟩:=et;have:q=a:=by simpa using j2
    rw[this,OF];exact Gx
   |[x,y],et=>
    simp at et;obtain⟨rfl,rfl,rfl⟩:=et;exact h _ _ _<|(j1.append<|Ts [a]).trans AS
   |x::y::z::w,et=>simp at et
  |x::y::z::w,es=>simp at es
def ano{n:Q3}{A:A3 Q3}{a f:Q3}(h0:0<=t)(h1:t<=1)(hf:(A++[a]).head?=some f)(h:Wk n (A++[a])):Wk n (A++[a,Dl a f t]):=by
 intro p q r s;have e:A++[a,Dl a f t]=(A++[a])++[Dl a f t]:=AS;rw[e] at s;obtain⟨s1,s2,es,k1,k2⟩:=WG.1 s;cases k2 with
 |cons _ k2=>
  have:s2=[]:=by simpa using k2
  subst this;rw[J6] at es;exact h p q r (by rw[es];exact k1)
 |cons_cons _ k2=>
  rename_i s3;have:s3=[]:=by simpa using k2
  subst this
  match s1,es with
  |[],es=>simp at es
  |[x],es=>simp at es
  |[x,y],es=>
   simp at es;obtain⟨rfl,rfl,rfl⟩:=es;rw[fP];refine jQ h0 h1 ?_ ?_
   ·obtain⟨t1,t2,et,j1,j2⟩:=WG.1 k1
    match t1,et with
    |[],et=>simp at et;subst et;have:=j2.length_le;simp at this
    |[x],et=>
     simp at et;obtain⟨rfl,rfl⟩:=et;have:q=a:=by simpa using j2
     rw[this,OF];exact Gx
    |[x,y],et=>
     simp at et;obtain⟨rfl,rfl,rfl⟩:=et;exact h _ _ _<|j1.append<|Ts [a]
    |x::y::z::w,et=>simp at et
   ·rw[Rn,Rn]
    match hA:A++[a],hf with
    |x::M,hf=>
     have:x=f:=by simpa using hf
     subst this;rw[hA] at k1 h;cases k1 with
     |cons _ k1=>exact h _ _ _<|k1.cons_cons x
     |cons_cons _ k1=>rw[fj];exact Gx
  |x::y::z::w,es=>simp at es
theorem Pa{a b:Q3}(h:B7 b a=o3):a=b:=by
 have e1:=congrArg Prod.fst h;have e2:=congrArg (λx=>x.2.1) h;have e3:=congrArg (λx=>x.2.2) h;simp only[B7,o3] at e1 e2 e3;exact KK AY AY AY
def Wm{d:Q3}(h1:d.1=0)(h2:d.2.1=0)(h3:d.2.2=0):d=o3:=KK h1 h2 h3
theorem par{u w:Q3}(hu:u≠o3)(h:Ac u w=o3):w=Ba u (AK u w/AK u u):=by
 have hp:=Pw hu;have e1:=congrArg Prod.fst h;have e2:=congrArg (λx=>x.2.1) h;have e3:=congrArg (λx=>x.2.2) h;simp only[Ac,o3] at e1 e2 e3;have key:AK u w/AK u u*AK u u=AK u w:=PM AY
 generalize AK u w/AK u u=s at key⊢
 have z:∀x:Rat,AK u u*x=0->x=0:=λx hx=>by
  rcases IB.1 hx with g|g
  ·grind
  ·exact g
 have g1:w.1-u.1*s=0:=z _ (by unfold AK at*;grind);have g2:w.2.1-u.2.1*s=0:=z _ (by unfold AK at*;grind);have g3:w.2.2-u.2.2*s=0:=z _ (by unfold AK at*;grind);exact HM
def U8{u:Q3}:Ac u u=o3:=HM
theorem nJ(u w:Q3):AK u (Ac u w)=0:=by unfold AK Ac;grind
theorem eK(u w:Q3):AK w (Ac u w)=0:=by unfold AK Ac;grind
def along{u w d:Q3}(h:Ac u w≠o3)(h1:AK u d=0)(h2:AK w d=0):∃s,d=Ba (Ac u w) s:=by
 refine⟨_,par h ?_⟩;unfold AK at h1 h2;exact HM
theorem flat{n x y:Q3}(hn:n≠o3)(hx:AK n x=0)(hy:AK n y=0)(h:AK n (Ac x y)=0):Ac x y=o3:=by
 have hp:=Pw hn;have e:AK (Ac x y) (Ac x y)*AK n n=AK n (Ac x y)*AK n (Ac x y)+AK (Ac (Ac x y) n) (Ac (Ac x y) n):=by
  unfold AK Ac;grind
 have e2:Ac (Ac x y) n=o3:=by
  have:Ac (Ac x y) n=B7 (Ba y<|AK n x) (Ba x<|AK n y):=by
   unfold Ac B7 Ba AK;refine KK ?_ ?_ ?_<;>dsimp only<;>grind
  rw[this,hx,hy];unfold B7 Ba o3;refine KK ?_ ?_ ?_<;>dsimp only<;>grind
 rw[h,e2,Wu] at e;refine xj ?_;rcases IB.1 (show AK (Ac x y) (Ac x y)*AK n n=0 by grind) with g|g<;>grind
theorem alc{L:A3 H3}{p:Q3}(hm:Mem L p){f g h:H3}(mf:f∈L)(mg:g∈L)(mh:h∈L)(tf:val f p=0)(tg:val g p=0)(th:val h p=0)(hd:AK h.1 (Ac f.1 g.1)≠0):C1 L p:=by
 refine⟨hm,λd hd'=>?_⟩;have hc:Ac f.1 g.1≠o3:=λe=>hd (by rw[e,Wu])
 obtain⟨s,rfl⟩:=along hc (hd' f mf tf)<|hd' g mg tg
 have:=hd' h mh th;rw[GF] at this;rcases IB.1 this with e|e
 ·rw[e];exact HM
 ·grind
theorem val_sub(h:H3)(a b:Q3):AK h.1 (B7 b a)=val h b-val h a:=by unfold val;rw[WO];grind
theorem p8{L:A3 H3}{v a b:Q3}(hv:C1 L v)(ha:Mem L a)(hb:Mem L b)(h0:0<t)(h1:t<1)(e:v=Dl a b t):a=b:=by
 refine Pa<|hv.2 _ λh mh th=>?_
 rw[e,GM] at th;have x:=Dz (show 0<=1-t by grind) (show 0<= -val h a by have:=ha h mh;grind);have y:=Dz (show 0<=t by grind) (show 0<= -val h b by have:=hb h mh;grind);have x0:(1-t)*val h a=0:=AY;have y0:t*val h b=0:=AY;rw[val_sub];rcases IB.1 x0 with g|g
 ·grind
 ·grind
theorem oE{L:A3 H3}{a b c:Q3}(ha:C1 L a)(hb:C1 L b)(hc:C1 L c)(JJ:a≠b)(hac:a≠c)(hbc:b≠c):Ac (B7 b a) (B7 c a)≠o3:=by
 intro h;have hz:B7 b a≠o3:=λe=>JJ<|Pa e
 have e:=par hz h
 generalize AK (B7 b a) (B7 c a)/AK (B7 b a) (B7 b a)=s at e
 have e1:=congrArg Prod.fst e;have e2:=congrArg (λx=>x.2.1) e;have e3:=congrArg (λx=>x.2.2) e;simp only[B7,Ba] at e1 e2 e3;have hs0:s≠0:=λg=>hac (by subst g;exact KK AY AY AY)
 have hs1:s≠1:=λg=>hbc (by subst g;exact KK AY AY AY)
 by_cases h1:1<s
 ·
  have i1:=gY s hs0;have i2:0<s⁻¹ :=Tf.2 AY;have i3:s⁻¹ <1:=by
   have:=Gw i2 (show 0<s-1 by grind);grind
  refine hac<|p8 hb ha.1 hc.1 i2 i3 ?_
  exact HM
 ·by_cases h2:0<s
  ·refine JJ (p8 hc ha.1 hb.1 h2 AY ?_);exact HM
  ·
   have hs:0<1-s:=AY;have i1:=gY (1-s) AY;have i2:0<(1-s)⁻¹ :=Tf.2 hs;have i3:(1-s)⁻¹ <1:=by
    have:=Gw i2 (show 0< -s by grind);grind
   refine hbc<|p8 ha hb.1 hc.1 (t:=(1-s)⁻¹) i2 i3 ?_
   exact HM
theorem p6{L:A3 H3}{f:H3}(hf:f.1≠o3){a b c:Q3}(ha:C1 L a)(hb:C1 L b)(hc:C1 L c)(ta:val f a=0)(tb:val f b=0)(tc:val f c=0)(JJ:a≠b)(hac:a≠c)(hbc:b≠c):Bn f.1 a b c≠0:=λe=>
 oE ha hb hc JJ hac hbc (flat hf (by rw[val_sub,ta,tb];grind) (by rw[val_sub,ta,tc];grind) e)
theorem room{L:A3 H3}{q w:Q3}:Mem L q->(∀h∈L,val h q=0->AK h.1 w<=0)->∃e:Rat,0<e/\∀t,0<=t->t<=e->Mem L (Bw q<|Ba w t):=by
 induction L with
 |nil=>exact λ_ _=>⟨1,dcZ,λ_ _ _ h m=>by cases m⟩
 |cons h L ih=>
  intro hq ht;obtain⟨e,e0,he⟩:=ih (λk m=>hq k<|Bq _ m)<|λk m=>ht k<|Bq _ m
  have hv:=hq h Dq;by_cases g:0<AK h.1 w
  ·have hne:val h q≠0:=λz=>by have:=ht h Dq z;grind
   have hr:0< -val h q/AK h.1 w:=by rw[Tg];exact Gw AY<|Tf.2 g
   have hc: -val h q/AK h.1 w*AK h.1 w= -val h q:=PM AY
   generalize -val h q/AK h.1 w=r at*
   have one:∀t,0<=t->t<=r->val h (Bw q<|Ba w t)<=0:=λt t0 t1=>by
    rw[S7];have:=iF t1<|Ge g
    grind
   rcases gG (a:=e) (b:=r) with c|c
   ·refine⟨e,e0,λt t0 t1 k m=>?_⟩;rcases Ai.1 m with z|m
    ·grind
    ·exact he t t0 t1 k m
   ·refine⟨r,hr,λt t0 t1 k m=>?_⟩;rcases Ai.1 m with z|m
    ·grind
    ·exact he t t0 (Z9 t1 c) k m
  ·refine⟨e,e0,λt t0 t1 k m=>?_⟩;rcases Ai.1 m with z|m
   ·rw[z,S7];have:=Dz t0 (show 0<= -AK h.1 w by grind)
    grind
   ·exact he t t0 t1 k m
theorem VN(n:Q3):∃d:Q3,d≠o3/\AK n d=0:=by
 by_cases h:n.1=0
 ·exact⟨(1,0,0),λe=>by have:=congrArg Prod.fst e;simp only[o3] at this;grind,by unfold AK;grind⟩
 ·exact⟨(-n.2.1,n.1,0),λe=>h (by have:=congrArg (λx=>x.2.1) e;simp only[o3] at this;exact this),by unfold AK;grind⟩
theorem VU(u w:Q3):Ac w u=Ba (Ac u w) (-1):=by
 unfold Ac Ba;refine KK ?_ ?_ ?_<;>dsimp only<;>grind
theorem two{N:A3 Q3}(h:∀u∈N,∀w∈N,Ac u w=o3)(m:Q3):∃d:Q3,d≠o3/\(∀u∈N,AK u d=0)/\AK m d=0:=by
 by_cases hz:∀u∈N,u=o3
 ·obtain⟨d,d0,d1⟩:=VN m;exact⟨d,d0,λu mu=>by rw[hz u mu,NB,Wu],d1⟩
 ·obtain⟨n,hn⟩:=Classical.not_forall.1 hz;obtain⟨mn,n0⟩:=Classical.not_imp.1 hn;have ac9:∀d,AK n d=0->∀u∈N,AK u d=0:=λd hd u mu=>by
   rw[par n0<|h n mn u mu,Kw,hd];grind
  by_cases hc:Ac n m=o3
  ·obtain⟨d,d0,d1⟩:=VN n;exact⟨d,d0,ac9 d d1,by rw[par n0 hc,Kw,d1];grind⟩
  ·exact⟨_,hc,ac9 _<|nJ _ _,eK _ _⟩
theorem auj{L:A3 H3}(hb:Eg L){q:Q3}(hq:Mem L q)(hv: ¬C1 L q){f g:H3}(mf:f∈L)(mg:g∈L)(tf:val f q=0)(tg:val g q=0)(hc:Ac f.1 g.1≠o3):
  ∃u v t,C1 L u/\C1 L v/\0<t/\t<1/\q=Dl u v t/\(∀h∈L,val h q=0->val h u=0/\val h v=0)/\u≠v:=by
 have:∃d:Q3,(∀h∈L,val h q=0->AK h.1 d=0)/\d≠o3:=by
  refine Cl λhn=>hv ⟨hq,λd hd=>?_⟩
  exact Cl λhz=>hn ⟨d,hd,hz⟩
 obtain⟨d,ht,hz⟩:=this;obtain⟨v,v1,v2,v3⟩:=QV hb hq d;obtain⟨u,u1,u2,u3⟩:=QV hb hq<|Ba d<| -1
 rw[Kw,Kw] at u2;obtain⟨s0,e0⟩:=along hc (ht f mf tf)<|ht g mg tg
 obtain⟨s1,e1⟩:=along hc (d:=B7 u q) (by rw[val_sub,u3 f mf tf,tf];grind) (by rw[val_sub,u3 g mg tg,tg];grind);obtain⟨s2,e2⟩:=along hc (d:=B7 v q) (by rw[val_sub,v3 f mf tf,tf];grind) (by rw[val_sub,v3 g mg tg,tg];grind)
 generalize Ac f.1 g.1=e at*
 have he:=Pw hc;have nz:∀{x:Q3} {s:Rat},C1 L x->B7 x q=Ba e s->s≠0:=λ{x s} hx h z=>by
  rw[z] at h;have:q=x:=Pa<|h.trans<|HM
  exact hv<|this▸hx
 have n1:=nz u1 e1;have n2:=nz v1 e2;have n0:s0≠0:=λz=>hz (by rw[e0,z];exact(HM))
 have p2:0<=AK d (B7 v q):=by rw[WO];grind
 have p1:AK d (B7 u q)<=0:=by rw[WO];grind
 rw[e0,e2,GF,Kw] at p2;rw[e0,e1,GF,Kw] at p1;have q2:0<=s0*s2:=Cl λc=>by
  have:=Gw (show 0< -(s0*s2) by grind) he;grind
 have q1:s0*s1<=0:=Cl λc=>by
  have:=Gw (show 0<s0*s1 by grind) he;grind
 have r2:0<s0*s2:=by
  have:s0*s2≠0:=λc=>by rcases IB.1 c with g|g<;>contradiction
  grind
 have r1:s0*s1<0:=by
  have:s0*s1≠0:=λc=>by rcases IB.1 c with g|g<;>contradiction
  grind
 have r3:s0*(s1-s2)<0:=AY;have n3:s1-s2≠0:=λc=>by rw[c] at r3;grind
 have c1:s1/(s1-s2)*(s1-s2)=s1:=PM n3
 generalize s1/(s1-s2)=t at c1
 have c2:s0*(t*(s1-s2))=s0*s1:=by rw[c1]
 have t0:0<t:=Cl λc=>by
  have:=Dz (show 0<= -t by grind) (show 0<= -(s0*(s1-s2)) by grind)
  grind
 have t1:t<1:=Cl λc=>by
  have:=Dz (show 0<=t-1 by grind) (show 0<= -(s0*(s1-s2)) by grind)
  grind
 have k1:=congrArg Prod.fst e1;have k2:=congrArg (λx=>x.2.1) e1;have k3:=congrArg (λx=>x.2.2) e1;have l1:=congrArg Prod.fst e2;have l2:=congrArg (λx=>x.2.1) e2;have l3:=congrArg (λx=>x.2.2) e2;simp only[B7,Ba] at k1 k2 k3 l1 l2 l3;refine⟨u,v,t,u1,v1,t0,t1,?_,λh mh th=>⟨u3 h mh th,v3 h mh th⟩,λc=>n3 ?_⟩
 ·exact HM
 ·grind
def Hm(f:Q3):A3 Q3->A3 (Q3×Q3)
 |[]=>[]
 |[a]=>[(a,f)]
 |a::b::l=>(a,b)::Hm f (b::l)
def FY:A3 Q3->A3 (Q3×Q3)
 |[]=>[]
 |a::l=>Hm a (a::l)
def HN(x y:Rat):Bool:=(decide (x<0)&&decide (0<y))||(decide (0<x)&&decide (y<0))
def Jw(h:H3)(a b:Q3):Q3:=Dl a b<|val h a/(val h a-val h b)
def Lf(h:H3)(s:Q3×Q3):A3 Q3:=(bif decide (val h s.1<=0) then [s.1] else [])++(bif HN (val h s.1) (val h s.2) then [Jw h s.1 s.2] else [])
def Fa(h:H3)(l:A3 Q3):A3 Q3:=(FY l).flatMap<|Lf h
def jF(h:H3)(s:Q3×Q3):A3 Q3:=s.1::(bif HN (val h s.1) (val h s.2) then [Jw h s.1 s.2] else [])
def OG:HN x y=true↔(x<0/\0<y)\/(0<x/\y<0):=by unfold HN;simp
theorem UJ(h:HN x y=true):0<x/(x-y)/\x/(x-y)<1/\(1-x/(x-y))*x+x/(x-y)*y=0:=by
 have h:=OG.1 h;have hn:x-y≠0:=AY;have e:x/(x-y)*(x-y)=x:=PM hn
 generalize x/(x-y)=t at e
 have t0:0<t:=Cl λc=>by
  rcases h with⟨a,b⟩|⟨a,b⟩
  ·have:=Dz (show 0<= -t by grind) (show 0<=y-x by grind);grind
  ·have:=Dz (show 0<= -t by grind) (show 0<=x-y by grind);grind
 have t1:t<1:=Cl λc=>by
  rcases h with⟨a,b⟩|⟨a,b⟩
  ·have:=Dz (show 0<=t-1 by grind) (show 0<=y-x by grind);grind
  ·have:=Dz (show 0<=t-1 by grind) (show 0<=x-y by grind);grind
 exact⟨t0,t1,AY⟩
def pB{h:H3}{a b:Q3}(ho:HN (val h a) (val h b)=true):val h (Jw h a b)=0:=by
 unfold Jw;rw[GM];exact(UJ ho).2.2
def aa5{n:Q3}{h:H3}{f:Q3}:∀(l A:A3 Q3),l≠[]->(A++l).head?=some f->Wk n (A++l)->Wk n (A++(Hm f l).flatMap (jF h))
 |[],_,h0,_,_=>absurd rfl h0
 |[a],A,_,hf,hw=>by
  unfold Hm;rw[QM,List.flatMap_nil,J6];unfold jF;cases ho:HN (val h a) (val h f) with
  |false=>rw[B8];exact hw
  |true=>
   have t:=UJ ho;rw[Bf];exact ano (Ge t.1) (Ge t.2.1) hf hw
 |a::b::l,A,_,hf,hw=>by
  unfold Hm;rw[QM,<-ID];refine aa5 (b::l) _ AS ?_ ?_
  ·cases A with
   |nil=>exact hf
   |cons x A=>exact hf
  ·unfold jF;cases ho:HN (val h a) (val h b) with
   |false=>rw[B8];simpa using hw
   |true=>
    have t:=UJ ho;rw[Bf];have:=ann (Ge t.1) (Ge t.2.1) hw;simpa[Jw] using this
def yn{α β:Type}{f g:α->A3 β}:∀{l:A3 α},(∀x∈l,(f x).Sublist<|g x)->(l.flatMap f).Sublist (l.flatMap g)
 |[],_=>Ts _
 |x::l,h=>by
  rw[QM,QM];exact(h x Dq).append<|yn λy m=>h y<|Bq _ m
def anY{n:Q3}{h:H3}{l:A3 Q3}(hw:Wk n l):Wk n (Fa h l):=by
 cases l with
 |nil=>exact hw
 |cons a l=>
  have:=aa5 (h:=h) (a::l) [] AS rfl hw;refine Wk.sub this<|yn λs _=>?_
  unfold Lf jF;cases decide (val h s.1<=0)
  ·exact List.sublist_cons_self _ _
  ·exact Ts _
def vT{f:Q3}{s:Q3×Q3}:∀{l A:A3 Q3},(A++l).head?=some f->s∈Hm f l->(∃B C,A++l=B++s.1::s.2::C)\/(∃B,A++l=B++[s.1]/\s.2=f)
 |[],A,_,h=>by cases h
 |[a],A,_,h=>by
  have:s=(a,f):=by simpa[Hm] using h
  subst this;exact .inr ⟨A,rfl,rfl⟩
 |a::b::l,A,hf,h=>by
  unfold Hm at h;rcases Ai.1 h with e|h
  ·subst e;exact .inl ⟨A,l,rfl⟩
  ·have:=vT (l:=b::l) (A:=A++[a]) (by simpa using hf) h;simpa using this
def me{f a b:Q3}{C:A3 Q3}:∀{B:A3 Q3},(a,b)∈Hm f (B++a::b::C)
 |[]=>by simp[Hm]
 |[x]=>by simp[Hm]
 |x::y::B=>by
  have:=me (f:=f) (a:=a) (b:=b) (C:=C) (B:=y::B);show(a,b)∈(x,y)::Hm f (y::(B++a::b::C));exact Bq _ this
def uz{f a:Q3}:∀{B:A3 Q3},(a,f)∈Hm f (B++[a])
 |[]=>by simp[Hm]
 |[x]=>by simp[Hm]
 |x::y::B=>by
  have:=uz (f:=f) (a:=a) (B:=y::B);show(a,f)∈(x,y)::Hm f (y::(B++[a]));exact Bq _ this
def vU{f:Q3}:∀l:A3 Q3,(Hm f l).map Prod.fst=l
 |[]=>rfl
 |[a]=>rfl
 |a::b::l=>by unfold Hm;rw[Mf,vU (b::l)]
def eQ(l:A3 Q3):(FY l).map Prod.fst=l:=by
 cases l with
 |nil=>rfl
 |cons a l=>exact vU _
theorem F5.ne{n:Q3}{l:A3 Q3}(h:F5 n l){a b c:Q3}(s:[a,b,c].Sublist l):a≠b/\a≠c/\b≠c:=by
 have:=h a b c s;refine⟨λe=>?_,λe=>?_,λe=>?_⟩
 ·rw[e,fj] at this;grind
 ·rw[e,fi] at this;grind
 ·rw[e,OF] at this;grind
def F5.nodup{n:Q3}{l:A3 Q3}(h:F5 n l)(h3:3<=l.length):l.Nodup:=by
 refine iG.2 λ{a b} s e=>?_
 subst e;obtain⟨c,hc⟩:∃c,[c,a,a].Sublist l\/[a,c,a].Sublist l\/[a,a,c].Sublist l:=by
  clear h
  induction l with
  |nil=>cases s
  |cons x l ih=>
   cases s with
   |cons _ s=>exact⟨x,.inl<|s.cons_cons x⟩
   |cons_cons _ s=>
    match l,h3,s with
    |y::z::l,_,s=>
     cases s with
     |cons _ s=>exact⟨y,.inr<| .inl<|(s.cons_cons y).cons_cons a⟩
     |cons_cons _ s=>exact⟨z,.inr<| .inr<|((SX AS).cons_cons a).cons_cons a⟩
 rcases hc with s|s|s
 ·exact(h.ne s).2.2 rfl
 ·exact(h.ne s).2.1 rfl
 ·exact(h.ne s).1 rfl
theorem yP(n a b c:Q3):Bn n b a c= -Bn n a b c:=by unfold Bn AK Ac B7;grind
def Q2{n:Q3}{l:A3 Q3}(hl:F5 n l)(h3:3<=l.length){s:Q3×Q3}(hs:s∈FY l):s.1∈l/\s.2∈l/\s.1≠s.2/\∀c∈l,c≠s.1->c≠s.2->0<Bn n s.1 s.2 c:=by
 have hn:=hl.nodup h3;obtain⟨a,b⟩:=s
 match l,h3,hs with
 |f::l,h3,hs=>
  rcases vT (A:=[]) Em hs with⟨B,C,e⟩|⟨B,e,e2⟩
  ·rw[Ii] at e;rw[e] at hn hl⊢;refine⟨AS,AS,?_,λc hc h1 h2=>?_⟩
   ·have:[a,b].Sublist (B++a::b::C):=((OK C).cons_cons b|>.cons_cons a).trans (WI _ _);exact iG.1 hn this
   ·rcases Cp.1 hc with m|m
    ·rw[<-Rn];exact hl _ _ _<|(SX m).append<|((OK C).cons_cons b).cons_cons a
    ·have m:c∈C:=by simpa[h1,h2] using m
     exact hl _ _ _<|((SX m).cons_cons b|>.cons_cons a).trans<|WI _ _
  ·rw[Ii] at e;dsimp only at e e2;subst e2
   match B,e with
   |[],e=>rw[e] at h3;simp at h3
   |x::B,e=>
    have:b=x:=by simpa using congrArg List.head? e
    subst this;rw[e] at hn hl⊢;refine⟨AS,AS,?_,λc hc h1 h2=>?_⟩
    ·have:[b,a].Sublist (b::B++[a]):=((OK B).append<|Ts [a]).cons_cons b;exact λe=>iG.1 hn this e.symm
    ·have m:c∈B:=by simpa[h1,h2] using hc
     rw[Rn];exact hl _ _ _<|((SX m).append<|Ts [a]).cons_cons b
theorem aqN{l:A3 Q3}(hn:l.Nodup)(h3:3<=l.length)(a b:Q3):∃c∈l,c≠a/\c≠b:=by
 match l,h3,hn with
 |x::y::z::l,_,hn=>
  simp at hn;by_cases h1:x≠a/\x≠b
  ·exact⟨x,AS,h1⟩
  ·by_cases h2:y≠a/\y≠b
   ·exact⟨y,AS,h2⟩
   ·refine⟨z,AS,λe=>?_,λe=>?_⟩<;>subst e<;>grind
theorem xH{n:Q3}{l:A3 Q3}(hl:F5 n l)(h3:3<=l.length){a b:Q3}(h1:(a,b)∈FY l)(h2:(b,a)∈FY l):False:=by
 obtain⟨c,mc,ca,cb⟩:=aqN (hl.nodup h3) h3 a b;have p:=(Q2 hl h3 h1).2.2.2 c mc ca cb;have q:=(Q2 hl h3 h2).2.2.2 c mc cb ca;dsimp only at p q;rw[yP] at q
 grind
theorem agw{n:Q3}{l:A3 Q3}(hl:F5 n l)(h3:3<=l.length){s r:Q3×Q3}(hs:s∈FY l)(hr:r∈FY l)(hne:s.1≠r.1){u:Rat}(t0:0<=t)(t1:t<1)(u0:0<=u)(u1:u<1):Dl s.1 s.2 t≠Dl r.1 r.2 u:=by
 intro e;obtain⟨a,b⟩:=s;obtain⟨c,d⟩:=r;obtain⟨s1,s2,s3,s4⟩:=Q2 hl h3 hs;obtain⟨r1,r2,r3,r4⟩:=Q2 hl h3 hr;dsimp only at*;have z:Bn n a b (Dl a b t)=0:=by rw[fP,fi,OF];grind
 rw[e,fP] at z;have dn:0<=Bn n a b d:=by
  by_cases h1:d=a
  ·rw[h1,fi];exact Gx
  ·by_cases h2:d=b
   ·rw[h2,OF];exact Gx
   ·exact Ge<|s4 d r2 h1 h2
 by_cases hcb:c=b
 ·subst hcb;rw[OF] at z;have hda:d≠a:=λg=>xH hl h3 hs<|g▸hr
  have dp:=s4 d r2 hda<|Ne.symm r3
  have:u=0:=by
   rcases IB.1 (show u*Bn n a c d=0 by grind) with g|g
   ·exact g
   ·grind
  subst this;refine s3 ?_;have e1:=congrArg Prod.fst e;have e2:=congrArg (λx=>x.2.1) e;have e3:=congrArg (λx=>x.2.2) e;simp only[Dl,Bw,Ba,B7] at e1 e2 e3;have q1:(1-t)*(a.1-c.1)=0:=AY;have q2:(1-t)*(a.2.1-c.2.1)=0:=AY;have q3:(1-t)*(a.2.2-c.2.2)=0:=AY;have z:∀x:Rat,(1-t)*x=0->x=0:=λx h=>by
   rcases IB.1 h with g|g
   ·grind
   ·exact g
  have:=z _ q1;have:=z _ q2;have:=z _ q3;exact KK AY AY AY
 ·have cp:=s4 c r1 (Ne.symm hne) hcb;have:=Gw (show 0<1-u by grind) cp;have:=Dz u0 dn
  grind
def aqe(a b:Q3):Dl a b 0=a:=HM
def y7{h:H3}{s:Q3×Q3}{x:Q3}(hx:x∈Lf h s):(x=s.1/\val h x<=0)\/(HN (val h s.1) (val h s.2)=true/\x=Jw h s.1 s.2):=by
 unfold Lf at hx;rcases Cp.1 hx with m|m
 ·cases hd:decide (val h s.1<=0) with
  |false=>rw[hd] at m;cases m
  |true=>
   rw[hd] at m;have e:x=s.1:=DV.1 m;rw[e];exact .inl ⟨rfl,An hd⟩
 ·cases hd:HN (val h s.1) (val h s.2) with
  |false=>rw[hd] at m;cases m
  |true=>rw[hd] at m;exact .inr ⟨rfl,by simpa using m⟩
theorem ahU{n:Q3}{h:H3}{l:A3 Q3}(hl:F5 n l)(h3:3<=l.length):(Fa h l).Nodup:=by
 unfold Fa List.Nodup;have half:∀s x,x∈Lf h s->∃t:Rat,0<=t/\t<1/\x=Dl s.1 s.2 t:=λs x hx=>by
  rcases y7 hx with⟨e,_⟩|⟨ho,e⟩
  ·exact⟨0,Gx,dcZ,by rw[aqe];exact e⟩
  ·have t:=UJ ho;exact⟨_,Ge t.1,t.2.1,e⟩
 have hp:((FY l).map Prod.fst).Nodup:=by rw[eQ];exact hl.nodup h3
 have hp:=Mm.1 hp;refine List.pairwise_flatMap.2 ⟨λs hs=>?_,?_⟩
 ·unfold Lf;cases decide (val h s.1<=0)
  ·cases HN (val h s.1) (val h s.2)<;>simp
  ·cases ho:HN (val h s.1) (val h s.2)
   ·simp
   ·have t0:=(UJ ho).1;have hne:=(Q2 hl h3 hs).2.2.1;simp only[Bf,QL,Ii,HE,DV,forall_eq,S2,List.Pairwise.nil,and_true,false_implies,implies_true];intro e;refine hne<|Pa ?_
    unfold Jw at e
    generalize val h s.1/(val h s.1-val h s.2)=t at e t0
    have e1:=congrArg Prod.fst e;have e2:=congrArg (λx=>x.2.1) e;have e3:=congrArg (λx=>x.2.2) e;simp only[Dl,Bw,Ba,B7] at e1 e2 e3;have z:∀x:Rat,x*t=0->x=0:=λx h=>by
     rcases IB.1 h with g|g
     ·exact g
     ·grind
    exact Wm (z _ (by simp only[B7];grind)) (z _ (by simp only[B7];grind)) (z _ (by simp only[B7];grind))
 ·refine WH ?_ hp;intro s r hs hr hne x hx y hy e;obtain⟨t,t0,t1,ex⟩:=half s x hx;obtain⟨u,u0,u1,ey⟩:=half r y hy;exact agw hl h3 hs hr hne t0 t1 u0 u1 (by rw[<-ex,<-ey,e])
theorem adj{n:Q3}{l:A3 Q3}(hl:F5 n l){u v:Q3}(hu:u∈l)(hv:v∈l)(hne:u≠v)(h:∀x∈l,∀y∈l,Bn n u v x<0->0<Bn n u v y->False):(u,v)∈FY l\/(v,u)∈FY l:=by
 have key:∀{u v:Q3} {A D:A3 Q3},l=A++u::D->v∈D->(∀x∈l,∀y∈l,Bn n u v x<0->0<Bn n u v y->False)->(u,v)∈FY l\/(v,u)∈FY l:=by
  intro u v A D e hD h;obtain⟨B,C,rfl⟩:=gX hD;cases B with
  |nil=>
   left;rw[e]
   match A with
   |[]=>exact me (B:=[])
   |x::A=>exact me (B:=x::A)
  |cons x B=>
   have hx:Bn n u v x<0:=by
    have:=hl u x v (by
     rw[e];refine((List.Sublist.cons_cons u ?_)).trans<|WI _ _
     exact((OK B).append (OK C|>.cons_cons v)).cons_cons x)
    have e2:Bn n u v x= -Bn n u x v:=by unfold Bn AK Ac B7;grind
    rw[e2];grind
   have mx:x∈l:=by rw[e];simp
   match A,C with
   |[],[]=>right;rw[e];exact uz (B:=u::x::B)
   |y::A,_=>
    refine(h x mx y (by rw[e];simp) hx ?_).elim;rw[<-Rn];refine hl y u v ?_;rw[e];exact List.Sublist.cons_cons y<|(List.Sublist.cons_cons u<|(OK (x::B)).append (OK _|>.cons_cons v)).trans<|WI _ _
   |[],y::C=>
    refine(h x mx y (by rw[e];simp) hx ?_).elim;refine hl u v y ?_;rw[e];exact List.Sublist.cons_cons u<|(OK (x::B)).append<|(OK C|>.cons_cons y).cons_cons v
 obtain⟨A,D,e⟩:=gX hu;have LG:v∈A++u::D:=e▸hv;rcases Cp.1 LG with m|m
 ·obtain⟨A1,A2,rfl⟩:=gX m;refine(key (u:=v) (v:=u) (A:=A1) (D:=A2++u::D) (by rw[e];simp) AS λx mx y my h1 h2=>?_).symm;rw[yP] at h1 h2;exact h y my x mx AY AY
 ·exact key e (by simpa[Ne.symm hne] using m) h
abbrev CV:=H3×A3 Q3
def UR(h k:H3):Prop:=∃s:Rat,0<s/\k=(Ba h.1 s,h.2*s)
structure Da(S:A3 CV)(M:A3 H3):Prop where
 bdd:Eg M
 int:∃o,∀h∈M,val h o<0
 nz:∀h∈M,h.1≠o3
 norm:∀h∈M,∀k∈M,UR h k->h=k
 Fb:∀f∈S,f.1∈M/\F5 f.1.1 f.2/\3<=f.2.length/\∀p,p∈f.2↔C1 M p/\val f.1 p=0
 Ph:S.Pairwise λf g=>f.1≠g.1
 cover:∀p,Mem M p->(∃h∈M,val h p=0)->∃f∈S,val f.1 p=0
theorem aaS{h:H3}{p:Q3}(e:val h p=0):h.2=AK h.1 p:=by unfold val at e;grind
theorem aoK{M:A3 H3}{o:Q3}(hi:∀h∈M,val h o<0)(hz:∀h∈M,h.1≠o3)(hn:∀h∈M,∀k∈M,UR h k->h=k){h k:H3}(mh:h∈M)(mk:k∈M)(hc:Ac h.1 k.1=o3){p:Q3}(th:val h p=0)(tk:val k p=0):h=k:=by
 have e:=par (hz h mh) hc
 generalize AK h.1 k.1/AK h.1 h.1=s at e
 have e2:k.2=h.2*s:=by rw[aaS tk,aaS th,e,Kw];grind
 refine hn h mh k mk ⟨s,?_,Prod.ext e e2⟩;have a:=hi h mh;have b:=hi k mk;have c:val k o=s*val h o:=by unfold val;rw[e2,e,Kw];grind
 refine Cl λg=>?_
 have:=Dz (show 0<= -s by grind) (show 0<= -val h o by grind)
 grind
def indep{f g k:Q3}(hf:f≠o3)(h:Ac g k≠o3):Ac f g≠o3\/Ac f k≠o3:=by
 by_cases h1:Ac f g=o3
 ·by_cases h2:Ac f k=o3
  ·refine absurd ?_ h;rw[par hf h1,par hf h2];exact HM
  ·exact .inr h2
 ·exact .inl h1
theorem pM{f k:Q3}(hf:f≠o3)(h:Ac f k=o3){w:Q3}(hw:AK f w=0):AK k w=0:=by
 rw[par hf h,Kw,hw];grind
theorem xG{L:A3 H3}(hb:Eg L){f:H3}(mf:f∈L)(hf:f.1≠o3){l:A3 Q3}(hl:F5 f.1 l)(h3:3<=l.length)(hv:∀p,p∈l↔C1 L p/\val f p=0){s:Q3×Q3}(hs:s∈FY l):
  ∃g∈L,val g s.1=0/\val g s.2=0/\Ac f.1 g.1≠o3:=by
 obtain⟨u,v⟩:=s;obtain⟨mu,mv,hne,Wr⟩:=Q2 hl h3 hs;dsimp only at*;obtain⟨vu,tu⟩:=(hv u).1 mu;obtain⟨vv,tv⟩:=(hv v).1 mv;refine Cl λET=>?_
 have tight:∀g∈L,val g (Dl u v<|1/2)=0->val g u=0/\val g v=0:=λg mg tg=>by
  rw[GM] at tg;have:=vu.1 g mg;have:=vv.1 g mg
  grind
 have at6:∀g∈L,val g (Dl u v<|1/2)=0->Ac f.1 g.1=o3:=λg mg tg=>by
  obtain⟨a,b⟩:=tight g mg tg;exact Cl λc=>ET ⟨g,mg,a,b,c⟩
 have hw:AK f.1 (Ac (B7 v u) f.1)=0:=eK _ _;have hz:Ac (B7 v u) f.1≠o3:=λe=>by
  have hd:B7 v u≠o3:=λe=>hne<|Pa e
  have h0:AK f.1 (B7 v u)=0:=by rw[val_sub,tu,tv];grind
  have:=par hd e;rw[NB] at h0;rw[h0] at this;refine hf (this.trans<|Wm ?_ ?_ ?_)<;>simp only[Ba]<;>grind
 have hm:Mem L (Dl u v<|1/2):=λg mg=>by
  rw[GM];have:=vu.1 g mg;have:=vv.1 g mg
  grind
 obtain⟨e,e0,he⟩:=room hm (w:=Ac (B7 v u) f.1) λg mg tg=>by
  rw[pM hf (at6 g mg tg) hw];exact Gx
 have hq:=he e (Ge e0) Gx;obtain⟨p,p1,p2,p3⟩:=QV hb hq<|Ac (B7 v u) f.1
 have tp:=p3 f mf (by rw[S7,hw,GM,tu,tv];grind);have mp:=(hv p).2 ⟨p1,tp⟩;have ho:0<=Bn f.1 u v p:=by
  by_cases h1:p=u
  ·rw[h1,fi];exact Gx
  ·by_cases h2:p=v
   ·rw[h2,OF];exact Gx
   ·exact Ge<|Wr p mp h1 h2
 have hpos:=Gw e0<|Pw hz
 have e1:AK (Ac (B7 v u) f.1) p-AK (Ac (B7 v u) f.1) (Dl u v<|1/2)= -Bn f.1 u v p:=by
  unfold Bn Dl AK Ac B7 Bw Ba;grind
 rw[PQ,GF] at p2
 grind
theorem three{L:A3 H3}(hb:Eg L){q:Q3}(hq:Mem L q){f:H3}(mf:f∈L)(tf:val f q=0)(hf:f.1≠o3)(ht:∀g∈L,val g q=0->Ac f.1 g.1=o3){l:A3 Q3}(hl:∀p,C1 L p->val f p=0->p∈l):3<=l.length:=by
 have key:∀w,w≠o3->AK f.1 w=0->∃p∈l,AK w q<AK w p:=λw w0 hw=>by
  obtain⟨e,e0,he⟩:=room hq (w:=w) λg mg tg=>by rw[pM hf (ht g mg tg) hw];exact Gx
  obtain⟨p,p1,p2,p3⟩:=QV hb (he e (Ge e0) Gx) w;refine⟨p,hl p p1 (p3 f mf (by rw[S7,hw,tf];grind)),?_⟩;rw[PQ,GF] at p2;have:=Gw e0<|Pw w0
  grind
 have neg:∀w:Q3,w≠o3->Ba w (-1)≠o3:=λw h e=>h (by
  have e1:=congrArg Prod.fst e;have e2:=congrArg (λx=>x.2.1) e;have e3:=congrArg (λx=>x.2.2) e;simp only[Ba,o3] at e1 e2 e3;exact Wm AY AY AY)
 have both:∀w,w≠o3->AK f.1 w=0->∃p∈l,∃r∈l,AK w p≠AK w r:=λw w0 hw=>by
  obtain⟨p,mp,hp⟩:=key w w0 hw;obtain⟨r,mr,hr⟩:=key (Ba w<| -1) (neg w w0) (by rw[GF,hw];grind);rw[Kw,Kw] at hr;exact⟨p,mp,r,mr,AY⟩
 match l,both with
 |[],both=>
  obtain⟨d,d0,d1⟩:=VN f.1;obtain⟨p,mp,_⟩:=both d d0 d1;cases mp
 |[a],both=>
  obtain⟨d,d0,d1⟩:=VN f.1;obtain⟨p,mp,r,mr,h⟩:=both d d0 d1;rw[DV.1 mp,DV.1 mr] at h;exact absurd rfl h
 |[a,b],both=>
  obtain⟨d,d0,d1,d2⟩:=two (N:=[f.1]) (λu mu w mw=>by rw[DV.1 mu,DV.1 mw];exact U8)<|B7 b a
  obtain⟨p,mp,r,mr,h⟩:=both d d0<|d1 _ AS
  rw[NB,WO] at d2;have:∀x∈[a,b],AK d x=AK d a:=λx mx=>by
   rcases Ai.1 mx with e|mx
   ·rw[e]
   ·rw[DV.1 mx];grind
  rw[this p mp,this r mr] at h;exact absurd rfl h
 |_::_::_::_,_=>simp
def xv{M:A3 H3}{h:H3}{p:Q3}(hp:C1 M p)(hv:val h p<=0):C1 (h::M) p:=
 ⟨λk mk=>(Ai.1 mk).elim (λe=>by rw[e];exact hv)<|hp.1 k,λd hd=>hp.2 d λk mk=>hd k<|Bq _ mk⟩
theorem zi{h:H3}{u v:Q3}(hz:val h (Dl u v t)=0)(ho:HN (val h u) (val h v)=true):Dl u v t=Jw h u v:=by
 have h1:=OG.1 ho;have hn:val h u-val h v≠0:=AY;have e:val h u/(val h u-val h v)*(val h u-val h v)=val h u:=PM hn;unfold Jw;rw[GM] at hz
 congr 1
 generalize val h u/(val h u-val h v)=r at*
 have:(t-r)*(val h u-val h v)=0:=AY;rcases IB.1 this with g|g
 ·grind
 ·exact absurd g hn
theorem aka(u v:Q3)(t:Rat):Dl u v t=Dl v u (1-t):=by unfold Dl Bw Ba B7;refine KK ?_ ?_ ?_<;>dsimp only<;>grind
theorem yQ(x y:Rat):HN x y=HN y x:=by
 rw[ZD,OG,OG];grind
theorem xw{M:A3 H3}(hb:Eg M){h:H3}{p:Q3}(hp:C1 (h::M) p):C1 M p\/(val h p=0/\∃u v,C1 M u/\C1 M v/\HN (val h u) (val h v)=true/\p=Jw h u v/\(∀k∈M,val k p=0->val k u=0/\val k v=0)/\∃f∈M,∃g∈M,val f p=0/\val g p=0/\Ac f.1 g.1≠o3):=by
 by_cases hv:C1 M p
 ·exact .inl hv
 right;have hm:Mem M p:=λk mk=>hp.1 k<|Bq _ mk
 have hz:val h p=0:=Cl λc=>hv ⟨hm,λd hd=>hp.2 d λk mk tk=>by
  rcases Ai.1 mk with e|mk
  ·subst e;exact absurd tk c
  ·exact hd k mk tk⟩
 have:∃f∈M,∃g∈M,val f p=0/\val g p=0/\Ac f.1 g.1≠o3:=by
  refine Cl λET=>?_
  obtain⟨d,d0,d1,d2⟩:=two (N:=(M.filter λk=>decide<|val k p=0).map Prod.fst) (λu mu w mw=>by
   obtain⟨f,mf,rfl⟩:=Bv.1 mu;obtain⟨g,mg,rfl⟩:=Bv.1 mw;obtain⟨mf,tf⟩:=HZ.1 mf;obtain⟨mg,tg⟩:=HZ.1 mg;exact Cl λc=>ET ⟨f,mf,g,mg,An tf,An tg,c⟩) h.1
  refine d0<|hp.2 d λk mk tk=>?_
  rcases Ai.1 mk with e|mk
  ·subst e;exact d2
  ·exact d1 _<|Bv.2 ⟨k,HZ.2 ⟨mk,B0 tk⟩,rfl⟩
 refine⟨hz,?_⟩;obtain⟨f,mf,g,mg,tf,tg,hc⟩:=this;obtain⟨u,v,t,vu,vv,t0,t1,e,ht,hne⟩:=auj hb hm hv mf mg tf tg hc;have hz':=hz;rw[e,GM] at hz';have both:val h u≠0\/val h v≠0:=by
  refine Cl λc=>hne<|Pa<|hp.2 _ λk mk tk=>?_
  rw[val_sub];rcases Ai.1 mk with e|mk
  ·subst e;grind
  ·obtain⟨a,b⟩:=ht k mk tk;rw[a,b];grind
 have ho:HN (val h u) (val h v)=true:=by
  rw[OG];have hu:val h u≠0:=λc=>by
   rcases IB.1 (show t*val h v=0 by rw[c] at hz';grind) with g|g<;>grind
  by_cases h1:val h u<0
  ·left;refine⟨h1,Cl λc=>?_⟩;have:=Dz (show 0<=t by grind) (show 0<= -val h v by grind);have:=Gw (show 0<1-t by grind) (show 0< -val h u by grind)
   grind
  ·right;refine⟨AY,Cl λc=>?_⟩;have:=Dz (show 0<=t by grind) (show 0<=val h v by grind);have:=Gw (show 0<1-t by grind) (show 0<val h u by grind)
   grind
 exact⟨u,v,vu,vv,ho,by rw[e];exact zi (by rw[<-e];exact hz) ho,ht,f,mf,g,mg,tf,tg,hc⟩
def alF{h:H3}{u v:Q3}(ho:HN (val h u) (val h v)=true):Jw h u v=Jw h v u:=by
 have:val h (Jw h u v)=0:=pB ho;unfold Jw at this⊢;rw[aka] at this⊢;exact zi this (by rw[yQ];exact ho)
theorem Vo{M:A3 H3}(hb:Eg M){f:H3}(mf:f∈M)(hf:f.1≠o3){l:A3 Q3}(hl:F5 f.1 l)(h3:3<=l.length)(hv:∀p,p∈l↔C1 M p/\val f p=0)(h:H3)(p:Q3):p∈Fa h l↔C1 (h::M) p/\val f p=0:=by
 unfold Fa;rw[ZK];constructor
 ·rintro⟨s,hs,hx⟩;obtain⟨a1,a2,a3,a4⟩:=Q2 hl h3 hs;rcases y7 hx with⟨e,hle⟩|⟨ho,e⟩
  ·obtain⟨b1,b2⟩:=(hv s.1).1 a1;rw[e] at hle⊢;exact⟨xv b1 hle,b2⟩
  ·obtain⟨g,mg,g1,g2,hc⟩:=xG hb mf hf hl h3 hv hs;obtain⟨b1,b2⟩:=(hv s.1).1 a1;obtain⟨c1,c2⟩:=(hv s.2).1 a2;have t:=UJ ho;have hz:=pB ho;have lin:∀k:H3,val k p=(1-val h s.1/(val h s.1-val h s.2))*val k s.1+val h s.1/(val h s.1-val h s.2)*val k s.2:=λk=>by rw[e];exact GM _ _ _ _
   rw[<-e] at hz
   generalize val h s.1/(val h s.1-val h s.2)=r at*
   have tf:val f p=0:=by rw[lin,b2,c2];grind
   have tg:val g p=0:=by rw[lin,g1,g2];grind
   refine⟨alc (f:=f) (g:=g) (h:=h) (λk mk=>?_) (Bq _ mf) (Bq _ mg) Dq tf tg hz λhd=>?_,tf⟩
   ·rcases Ai.1 mk with e|mk
    ·subst e;rw[hz];exact Gx
    ·rw[lin];have:=Dz (show 0<=1-r by grind) (show 0<= -val k s.1 by have:=b1.1 k mk;grind);have:=Dz (show 0<=r by grind) (show 0<= -val k s.2 by have:=c1.1 k mk;grind)
     grind
   ·obtain⟨x,hx⟩:=along hc (d:=B7 s.2 s.1) (by rw[val_sub,b2,c2];grind) (by rw[val_sub,g1,g2];grind);have:=val_sub h s.1 s.2;rw[hx,GF,hd] at this;have:=OG.1 ho
    grind
 ·rintro⟨hp,tf⟩;rcases xw hb hp with h1|⟨hz,u,v,vu,vv,ho,e,ht,g,mg,k,mk,tg,tk,hc⟩
  ·have hm:=(hv p).2 ⟨h1,tf⟩;rw[<-eQ l] at hm;obtain⟨s,hs,e⟩:=Bv.1 hm;refine⟨s,hs,?_⟩;unfold Lf;rw[e,B0<|hp.1 h Dq];simp
  ·obtain⟨g,mg,tg,hc⟩:∃g∈M,val g p=0/\Ac f.1 g.1≠o3:=by
    rcases indep hf hc with x|x
    ·exact⟨g,mg,tg,x⟩
    ·exact⟨k,mk,tk,x⟩
   obtain⟨fu,fv⟩:=ht f mf tf;obtain⟨gu,gv⟩:=ht g mg tg;have mu:=(hv u).2 ⟨vu,fu⟩;have mv:=(hv v).2 ⟨vv,fv⟩;have hne:u≠v:=λc=>by rw[c] at ho;have:=OG.1 ho;grind
   obtain⟨x,hx⟩:=along hc (d:=B7 v u) (by rw[val_sub,fu,fv];grind) (by rw[val_sub,gu,gv];grind);have LH:∀y,val f y=0->Bn f.1 u v y= -(x*AK f.1 f.1*val g y):=λy ty=>by
    have h1:=val_sub f u y;have h2:=val_sub g u y;rw[fu,ty] at h1;rw[gu] at h2;unfold Bn;rw[hx];have e1:AK f.1 (Ac (Ba (Ac f.1 g.1) x)<|B7 y u)=x*(AK f.1 g.1*AK f.1 (B7 y u)-AK f.1 f.1*AK g.1 (B7 y u)):=by
     unfold AK Ac Ba;grind
    rw[e1,h1,h2];grind
   rcases adj hl mu mv hne (λy my z mz h1 h2=>by
    obtain⟨vy,ty⟩:=(hv y).1 my;obtain⟨vz,tz⟩:=(hv z).1 mz;rw[LH y ty] at h1;rw[LH z tz] at h2;have a:=vy.1 g mg;have b:=vz.1 g mg;by_cases c:0<=x*AK f.1 f.1
    ·have:=Dz c (show 0<= -val g y by grind)
     grind
    ·have:=Dz (show 0<= -(x*AK f.1 f.1) by grind) (show 0<= -val g z by grind)
     grind) with hs|hs
   ·refine⟨_,hs,?_⟩;unfold Lf;rw[ho,e];simp
   ·refine⟨_,hs,?_⟩;unfold Lf;dsimp only;rw[yQ,ho,e,alF ho];simp
theorem ape{L:A3 H3}{f:H3}(hf:f.1≠o3){l:A3 Q3}(hw:Wk f.1 l)(hn:l.Nodup)(hv:∀p∈l,C1 L p/\val f p=0):F5 f.1 l:=λa b c s=>by
 have h0:=hw a b c s;have hd:=List.Pairwise.sublist s hn;simp at hd;have ma:=hv a<|s.subset AS
 have mb:=hv b<|s.subset AS
 have mc:=hv c<|s.subset AS
 have:=p6 hf ma.1 mb.1 mc.1 ma.2 mb.2 mc.2 hd.1.1 hd.1.2 hd.2
 grind
theorem Vr:((1,0,0):Q3)≠o3:=by grind [o3]
def eM{M:A3 H3}{v:Q3}(hv:C1 M v){h:Q3}(hz:h≠o3):∃k∈M,val k v=0/\Ac h k.1≠o3:=by
 refine Cl λET=>?_
 obtain⟨d,d0,d1⟩:=VN h;refine d0<|hv.2 d λk mk tk=>pM hz ?_ d1
 exact Cl λc=>ET ⟨k,mk,tk,c⟩
def o0{S:A3 CV}{M:A3 H3}(I:Da S M){v:Q3}(hv:C1 M v):∃f∈S,v∈f.2:=by
 obtain⟨k,mk,tk,_⟩:=eM hv Vr;obtain⟨f,mf,tf⟩:=I.cover v hv.1 ⟨k,mk,tk⟩;exact⟨f,mf,((I.Fb f mf).2.2.2 v).2 ⟨hv,tf⟩⟩
theorem amT{S:A3 CV}{M:A3 H3}(I:Da S M){h:H3}(hn:∀f∈S,∀p∈f.2,0<=val h p){q:Q3}(hq:Mem M q):0<=val h q:=by
 obtain⟨v,v1,v2,_⟩:=QV I.bdd hq<|Ba h.1<| -1
 obtain⟨f,mf,mv⟩:=o0 I v1;have:=hn f mf v mv;rw[Kw,Kw] at v2;unfold val at*;grind
theorem akY{S:A3 CV}{M:A3 H3}(I:Da S M){h:H3}(hn:∀f∈S,∀p∈f.2,val h p<=0){q:Q3}(hq:Mem M q):val h q<=0:=by
 obtain⟨v,v1,v2,_⟩:=QV I.bdd hq h.1;obtain⟨f,mf,mv⟩:=o0 I v1;have:=hn f mf v mv;unfold val at*;grind
theorem xT{M:A3 H3}{h:H3}(hz:h.1≠o3)(ho:∀q,Mem M q->val h q<=0){p:Q3}(hp:Mem M p)(tp:val h p=0):∃k∈M,val k p=0:=by
 refine Cl λET=>?_
 obtain⟨e,e0,he⟩:=room hp (w:=h.1) λk mk tk=>absurd ⟨k,mk,tk⟩ ET
 have h1:=ho _<|he e (Ge e0) Gx
 have:=Gw e0<|Pw hz
 rw[S7,tp] at h1
 grind
theorem alb{M:A3 H3}(hb:Eg M){h:H3}(ho:∀q,Mem M q->val h q<=0)(p:Q3):C1 (h::M) p↔C1 M p:=by
 constructor
 ·intro hp;rcases xw hb hp with h1|⟨_,u,v,vu,vv,at7,_⟩
  ·exact h1
  ·have:=ho u vu.1;have:=ho v vv.1;have:=OG.1 at7
   grind
 ·exact λhp=>xv hp<|ho p hp.1
theorem Da.out{S:A3 CV}{M:A3 H3}(I:Da S M){h:H3}(hz:h.1≠o3)(hn:∀a∈h::M,∀b∈h::M,UR a b->a=b)(ho:∀f∈S,∀p∈f.2,val h p<=0):Da S (h::M):=by
 have hall:∀q,Mem M q->val h q<=0:=λq=>akY I ho
 have Hf:∀q,Mem (h::M) q->Mem M q:=λq hq k mk=>hq k<|Bq _ mk
 obtain⟨o,hi⟩:=I.int;refine⟨λd hd=>?_,⟨o,λk mk=>?_⟩,λk mk=>?_,hn,λf mf=>?_,I.Ph,λp hp ht=>?_⟩
 ·obtain⟨k,mk,hk⟩:=I.bdd d hd;exact⟨k,Bq _ mk,hk⟩
 ·rcases Ai.1 mk with e|mk
  ·subst e;have h1:=hall o λk mk=>Ge<|hi k mk
   refine Cl λc=>?_
   obtain⟨k',mk',tk'⟩:=xT hz hall (p:=o) (λk mk=>Ge<|hi k mk) AY;have:=hi k' mk'
   grind
  ·exact hi k mk
 ·rcases Ai.1 mk with e|mk
  ·subst e;exact hz
  ·exact I.nz k mk
 ·obtain⟨f1,f2,f3,f4⟩:=I.Fb f mf;exact⟨Bq _ f1,f2,f3,λp=>by rw[alb I.bdd hall];exact f4 p⟩
 ·obtain⟨k,mk,tk⟩:=ht;rcases Ai.1 mk with e|mk
  ·subst e;exact I.cover p (Hf p hp)<|xT hz hall (Hf p hp) tk
  ·exact I.cover p (Hf p hp) ⟨k,mk,tk⟩
theorem toward{a b:Rat}(ha:a<0):∃t:Rat,0<t/\t<1/\(1-t)*a+t*b<0:=by
 by_cases hb:b<=0
 ·exact⟨1/2,AY,AY,AY⟩
 ·have hn:b-a≠0:=AY;have e: -a/(b-a)*(b-a)= -a:=PM hn;have hp:0< -a/(b-a):=by rw[Tg];exact Gw AY<|Tf.2 AY
  generalize -a/(b-a)=r at*
  have h1:r<1:=Cl λc=>by
   have:=Dz (show 0<=r-1 by grind) (show 0<=b-a by grind)
   grind
  exact⟨r*(1/2),AY,AY,AY⟩
theorem acA{M:A3 H3}{o p:Q3}(hi:∀k∈M,val k o<0)(hp:Mem M p){h:H3}(ha:val h p<0):∃q,(∀k∈M,val k q<0)/\val h q<0:=by
 obtain⟨t,t0,t1,ht⟩:=toward (b:=val h o) ha;refine⟨Dl p o t,λk mk=>?_,by rw[GM];exact ht⟩;rw[GM];have a:=Dz (show 0<=1-t by grind) (show 0<= -val k p by have:=hp k mk;grind);have b:=Gw t0 (show 0< -val k o by have:=hi k mk;grind)
 grind
theorem xx(h:H3)(p:Q3):val (Ba h.1<| -1,-h.2) p= -val h p:=by unfold val;rw[Kw];grind
theorem aqd{M:A3 H3}{o p:Q3}(hi:∀k∈M,val k o<0)(hp:Mem M p){h:H3}(ha:0<val h p):∃q,(∀k∈M,val k q<0)/\0<val h q:=by
 obtain⟨q,q1,q2⟩:=acA hi hp (h:=(Ba h.1<| -1,-h.2)) (by rw[xx];grind);rw[xx] at q2;exact⟨q,q1,AY⟩
theorem api{S:A3 CV}{M:A3 H3}(I:Da S M){f:CV}(mf:f∈S):∃z,Mem M z/\val f.1 z=0/\∀g∈M,val g z=0->Ac f.1.1 g.1=o3:=by
 obtain⟨f1,f2,f3,f4⟩:=I.Fb f mf
 match hl:f.2,f3 with
 |a::b::c::l,_=>
  have ho:=f2 a b c (by rw[hl];exact((OK l).cons_cons c|>.cons_cons b).cons_cons a);obtain⟨va,ta⟩:=(f4 a).1 (by rw[hl];simp);obtain⟨vb,tb⟩:=(f4 b).1 (by rw[hl];simp);obtain⟨vc,tc⟩:=(f4 c).1 (by rw[hl];simp);refine⟨Dl (Dl a b<|1/2) c<|1/3,λk mk=>?_,?_,λg mg tg=>?_⟩
  ·rw[GM,GM];have:=va.1 k mk;have:=vb.1 k mk;have:=vc.1 k mk
   grind
  ·rw[GM,GM,ta,tb,tc];grind
  ·rw[GM,GM] at tg;have:=va.1 g mg;have:=vb.1 g mg;have:=vc.1 g mg;have ga:val g a=0:=AY;have gb:val g b=0:=AY;have gc:val g c=0:=AY;refine Cl λhc=>?_
   obtain⟨s,hs⟩:=along hc (d:=B7 b a) (by rw[val_sub,ta,tb];grind) (by rw[val_sub,ga,gb];grind);obtain⟨r,hr⟩:=along hc (d:=B7 c a) (by rw[val_sub,ta,tc];grind) (by rw[val_sub,ga,gc];grind);unfold Bn at ho;rw[hs,hr] at ho;have:AK f.1.1 (Ac (Ba (Ac f.1.1 g.1) s)<|Ba (Ac f.1.1 g.1) r)=0:=by unfold AK Ac Ba;grind
   grind
def Nd(h:H3)(S:A3 CV):A3 CV:=S.filterMap λf=>bif decide (2<(Fa h f.2).length) then some (f.1,Fa h f.2) else none
def xl{h:H3}{S:A3 CV}{g:CV}(hg:g∈Nd h S):∃f∈S,2<(Fa h f.2).length/\g=(f.1,Fa h f.2):=by
 obtain⟨f,mf,e⟩:=List.mem_filterMap.1 hg;cases hd:decide (2<(Fa h f.2).length) with
 |false=>rw[hd] at e;cases e
 |true=>rw[hd] at e;exact⟨f,mf,An hd,(E5 e).symm⟩
def alJ{h:H3}{S:A3 CV}{f:CV}(mf:f∈S)(hl:2<(Fa h f.2).length):(f.1,Fa h f.2)∈Nd h S:=
 List.mem_filterMap.2 ⟨f,mf,by rw[B0 hl];rfl⟩
def Da.Vo{S:A3 CV}{M:A3 H3}(I:Da S M)(h:H3):∀f∈S,∀p,p∈Fa h f.2↔C1 (h::M) p/\val f.1 p=0:=λf mf p=>by
 obtain⟨g1,g2,g3,g4⟩:=I.Fb f mf;exact Trn.Vo I.bdd g1 (I.nz _ g1) g2 g3 g4 h p
theorem Da.cut{S:A3 CV}{M:A3 H3}(I:Da S M){h:H3}(hz:h.1≠o3){f0 f1:CV}{p0 p1:Q3}(m0:f0∈S)(q0:p0∈f0.2)(h0:val h p0<0)(m1:f1∈S)(q1:p1∈f1.2)(h1:0<val h p1):
  (∃o,(∀k∈M,val k o<0)/\val h o<0)/\(∀p,((∃f∈S,p∈Fa h f.2)/\val h p=0)↔C1 (h::M) p/\val h p=0)/\∀l:A3 Q3,(∀p,C1 (h::M) p->val h p=0->p∈l)->3<=l.length:=by
 obtain⟨o,hi⟩:=I.int;have v0:=(((I.Fb f0 m0).2.2.2 p0).1 q0).1;have v1:=(((I.Fb f1 m1).2.2.2 p1).1 q1).1;have Hf:∀q,Mem (h::M) q->Mem M q:=λq hq k mk=>hq k<|Bq _ mk
 have hb:Eg (h::M):=λd hd=>by
  obtain⟨k,mk,hk⟩:=I.bdd d hd;exact⟨k,Bq _ mk,hk⟩
 obtain⟨o1,i1,n1⟩:=acA hi v0.1 h0;obtain⟨o2,i2,n2⟩:=aqd hi v1.1 h1;have cm:=I.Vo h;refine⟨⟨o1,i1,n1⟩,λp=>?_,λl hl=>?_⟩
 ·constructor
  ·rintro⟨⟨f,mf,mp⟩,tp⟩;exact⟨((cm f mf p).1 mp).1,tp⟩
  ·rintro⟨vp,tp⟩;refine⟨?_,tp⟩;obtain⟨k,mk,tk,hc⟩:=eM vp hz;rcases Ai.1 mk with e|mk
   ·subst e;exact absurd U8 hc
   ·obtain⟨f,mf,tf⟩:=I.cover p (Hf p vp.1) ⟨k,mk,tk⟩;exact⟨f,mf,(cm f mf p).2 ⟨vp,tf⟩⟩
 ·have ho:HN (val h o1) (val h o2)=true:=OG.2 (.inl ⟨n1,n2⟩);have t:=UJ ho;have hv:=pB ho;have neg:∀k∈M,val k (Jw h o1 o2)<0:=λk mk=>by
   unfold Jw;rw[GM]
   generalize val h o1/(val h o1-val h o2)=r at t
   have:=Gw (show 0<1-r by grind) (show 0< -val k o1 by have:=i1 k mk;grind);have:=Gw (show 0<r by grind) (show 0< -val k o2 by have:=i2 k mk;grind)
   grind
  refine three hb (q:=Jw h o1 o2) (λk mk=>?_) (f:=h) Dq hv hz (λg mg tg=>?_) hl
  ·grind
  ·rcases Ai.1 mg with e|mg
   ·subst e;exact U8
   ·grind
theorem Da.clip{S:A3 CV}{M:A3 H3}(I:Da S M){h:H3}(hz:h.1≠o3)(hn:∀a∈h::M,∀b∈h::M,UR a b->a=b){f0 f1:CV}{p0 p1:Q3}(m0:f0∈S)(q0:p0∈f0.2)(h0:val h p0<0)(m1:f1∈S)(q1:p1∈f1.2)(h1:0<val h p1)
  {l:A3 Q3}(hl:F5 h.1 l)(hm:∀p,p∈l↔(∃f∈S,p∈Fa h f.2)/\val h p=0):Da (Nd h S++[(h,l)]) (h::M):=by
 obtain⟨⟨o1,i1,n1⟩,c1,c2⟩:=I.cut hz m0 q0 h0 m1 q1 h1;have v1:=(((I.Fb f1 m1).2.2.2 p1).1 q1).1;have Pg:h∉M:=λc=>by have:=v1.1 h c;grind
 have Hf:∀q,Mem (h::M) q->Mem M q:=λq hq k mk=>hq k<|Bq _ mk
 have hb:Eg (h::M):=λd hd=>by
  obtain⟨k,mk,hk⟩:=I.bdd d hd;exact⟨k,Bq _ mk,hk⟩
 have cm:=I.Vo h;have lm:∀p,p∈l↔C1 (h::M) p/\val h p=0:=λp=>by rw[hm,c1]
 have l3:3<=l.length:=c2 l λp vp tp=>(lm p).2 ⟨vp,tp⟩
 refine⟨hb,⟨o1,λk mk=>?_⟩,λk mk=>?_,hn,λg mg=>?_,?_,λp hp ht=>?_⟩
 ·grind
 ·rcases Ai.1 mk with e|mk
  ·subst e;exact hz
  ·exact I.nz k mk
 ·rcases Cp.1 mg with mg|mg
  ·obtain⟨f,mf,hlen,e⟩:=xl mg;subst e;obtain⟨g1,g2,g3,g4⟩:=I.Fb f mf;exact⟨Bq _ g1,ape (I.nz _ g1) (anY g2.wk) (ahU g2 g3) λp mp=>(cm f mf p).1 mp,hlen,cm f mf⟩
  ·grind
 ·refine ME.2 ⟨?_,ZU _ _,λg mg k mk=>?_⟩
  ·unfold Nd;refine List.pairwise_filterMap.2<|I.Ph.imp λ{a b} JJ x ex y ey=>?_
   cases ha:decide (2<(Fa h a.2).length) with
   |false=>rw[ha] at ex;cases ex
   |true=>
    cases hb:decide (2<(Fa h b.2).length) with
    |false=>rw[hb] at ey;cases ey
    |true=>
     rw[ha] at ex;rw[hb] at ey;rw[<-E5 ex,<-E5 ey];exact JJ
  ·obtain⟨f,mf,_,e⟩:=xl mg;rw[e,DV.1 mk];exact λc=>Pg (by have:=(I.Fb f mf).1;rwa [show f.1=h from c] at this)
 ·by_cases tp:val h p=0
  ·exact⟨(h,l),AS,tp⟩
  ·obtain⟨k,mk,tk⟩:=ht;rcases Ai.1 mk with e|mk
   ·grind
   ·obtain⟨f,mf,tf⟩:=I.cover p (Hf p hp) ⟨k,mk,tk⟩;by_cases hlen:2<(Fa h f.2).length
    ·exact⟨_,Mn _<|alJ mf hlen,tf⟩
    ·exfalso;have Iq:val h p<0:=by have:=hp h Dq;grind
     obtain⟨z,mz,tz,hc⟩:=api I mf;obtain⟨t,t0,t1,hq⟩:=toward (b:=val h z) Iq;have g1:=(I.Fb f mf).1;refine hlen (three hb (q:=Dl p z t) (λk mk=>?_) (f:=f.1) (Bq _ g1) (by rw[GM,tf,tz];grind) (I.nz _ g1) (λg mg tg=>?_) λx vx tx=>(cm f mf x).2 ⟨vx,tx⟩)
     ·rw[GM];rcases Ai.1 mk with e|mk
      ·subst e;exact Ge hq
      ·have:=Dz (show 0<=1-t by grind) (show 0<= -val k p by have:=hp k (Bq _ mk);grind);have:=Dz (show 0<=t by grind) (show 0<= -val k z by have:=mz k mk;grind)
       grind
     ·rw[GM] at tg;rcases Ai.1 mg with e|mg
      ·subst e;grind
      ·refine hc g mg ?_;have a:=Dz (show 0<=1-t by grind) (show 0<= -val g p by have:=hp g (Bq _ mg);grind);have b:=Dz (show 0<=t by grind) (show 0<= -val g z by have:=mz g mg;grind);have c:t*val g z=0:=AY;rcases IB.1 c with x|x<;>grind
theorem Da.empty{S:A3 CV}{M:A3 H3}(I:Da S M){h:H3}(hn:∀f∈S,∀p∈f.2,0<=val h p): ¬ ∃o,∀k∈h::M,val k o<0:=λ⟨o,ho⟩=>by
 have:=amT I hn (q:=o) λk mk=>Ge<|ho k<|Bq _ mk
 have:=ho h Dq
 grind
def abQ{w:Q3}{s:Rat}(h:w≠o3)(hs:s≠0):Ba w s≠o3:=λe=>h (by
 have e1:=congrArg Prod.fst e;have e2:=congrArg (λx=>x.2.1) e;have e3:=congrArg (λx=>x.2.2) e;simp only[Ba,o3] at e1 e2 e3;have z:∀x:Rat,x*s=0->x=0:=λx hx=>by
  rcases IB.1 hx with g|g
  ·exact g
  ·exact absurd g hs
 exact Wm (z _ e1) (z _ e2)<|z _ e3)
def ry(s:Rat):Ba o3 s=o3:=HM
def jU(w:Q3):Ba w 0=o3:=HM
theorem alK{L:A3 H3}(hp:∃f∈L,∃g∈L,Ac f.1 g.1≠o3)(hc:∀f∈L,∀g∈L,Ac f.1 g.1≠o3->∃h∈L,0<AK h.1 (Ac f.1 g.1)):∀(n:Nat) (d:Q3),(L.filter λh=> !decide (AK h.1 d=0)).length<=n->d≠o3->(∀h∈L,AK h.1 d<=0)->False:=by
 intro n
 induction n with
 |zero=>
  intro d hn hd hle;have h0:(L.filter λh=> !decide (AK h.1 d=0))=[]:=Js A4;have ht:∀h∈L,AK h.1 d=0:=λh mh=>Cl λe=>by
   have:h∈(L.filter λh=> !decide (AK h.1 d=0)):=HZ.2 ⟨mh,by simp[e]⟩;rw[h0] at this;cases this
  obtain⟨f,mf,g,mg,hfg⟩:=hp;obtain⟨s,hs⟩:=along hfg (ht f mf)<|ht g mg
  obtain⟨h,mh,hh⟩:=hc f mf g mg hfg;have:=ht h mh;rw[hs,GF] at this;rcases IB.1 this with e|e
  ·subst e;exact hd<|hs.trans<|jU _
  ·grind
 |succ n ih=>
  intro d hn hd hle;by_cases hA:∃f∈L,∃g∈L,AK f.1 d=0/\AK g.1 d=0/\Ac f.1 g.1≠o3
  ·obtain⟨f,mf,g,mg,tf,tg,hfg⟩:=hA;obtain⟨s,hs⟩:=along hfg tf tg;have hs0:s≠0:=λe=>hd (by rw[hs,e];exact jU _)
   by_cases h0:0<s
   ·obtain⟨h,mh,hh⟩:=hc f mf g mg hfg;have:=hle h mh;rw[hs,GF] at this;have:=Gw h0 hh
    grind
   ·obtain⟨h,mh,hh⟩:=hc g mg f mf (by rw[VU];exact abQ hfg AY);have:=hle h mh;rw[hs,GF] at this;rw[VU,GF] at hh;have:=Gw (show 0< -s by grind) hh
    grind
  ·obtain⟨e,e0,e1,e2⟩:=two (N:=(L.filter λk=>decide<|AK k.1 d=0).map Prod.fst) (λu mu w mw=>by
    obtain⟨f,mf,rfl⟩:=Bv.1 mu;obtain⟨g,mg,rfl⟩:=Bv.1 mw;obtain⟨mf,tf⟩:=HZ.1 mf;obtain⟨mg,tg⟩:=HZ.1 mg;exact Cl λc=>hA ⟨f,mf,g,mg,An tf,An tg,c⟩) d
   have go:∀e:Q3,e≠o3->(∀k∈L,AK k.1 d=0->AK k.1 e=0)->AK d e=0->(∃k∈L,0<AK k.1 e)->False:=by
    intro e e0 et ed hk;obtain⟨h,mh,ph,hm⟩:=least (λh:H3=>0<AK h.1 e) (λh=> -AK h.1 d/AK h.1 e) L hk;have key:∀k:H3,0<AK k.1 e-> -AK k.1 d/AK k.1 e*AK k.1 e= -AK k.1 d:=λk hk=>PM AY
    have hne:AK h.1 d≠0:=λc=>by have:=et h mh c;grind
    have hr:0<= -AK h.1 d/AK h.1 e:=by
     rw[Tg];exact Dz (by have:=hle h mh;grind)<|Ge<|Tf.2 ph
    have kh:=key h ph
    generalize hR: -AK h.1 d/AK h.1 e=r at*
    have:=filter_lt (L:=L) (p:=λh=> !decide (AK h.1 d=0)) (q:=λh=> !decide (AK h.1 (Bw d<|Ba e r)=0)) (x:=h) (λy my hy=>by
     simp at hy⊢;exact λc=>hy (by rw[PQ,GF,c,et y my c];grind)) mh (by simp[hne]) (by
     have:AK h.1 (Bw d<|Ba e r)=0:=by rw[PQ,GF];grind
     simp[this])
    refine ih (Bw d<|Ba e r) A4 (λc=>?_) λk mk=>?_
    ·have h1:AK d (Bw d<|Ba e r)=0:=by rw[c,Wu]
     rw[PQ,GF,ed] at h1;have:=Pw hd
     grind
    ·rw[PQ,GF];by_cases g:0<AK k.1 e
     ·have h1:=hm k mk g;have h2:=key k g;have h3:=iF h1<|Ge g
      grind
     ·have:=Dz hr (show 0<= -AK k.1 e by grind);have:=hle k mk
      grind
   have et:∀k∈L,AK k.1 d=0->AK k.1 e=0:=λk mk tk=>e1 _<|Bv.2 ⟨k,HZ.2 ⟨mk,B0 tk⟩,rfl⟩
   by_cases hx:∃k∈L,0<AK k.1 e
   ·exact go e e0 et e2 hx
   ·by_cases hy:∃k∈L,0<AK k.1 (Ba e<| -1)
    ·exact go _ (abQ e0 AY) (λk mk tk=>by rw[GF,et k mk tk];grind) (by rw[GF,e2];grind) hy
    ·have hz:∀k∈L,AK k.1 e=0:=λk mk=>by
      have a: ¬0<AK k.1 e:=λc=>hx ⟨k,mk,c⟩
      have b: ¬0<AK k.1 (Ba e<| -1):=λc=>hy ⟨k,mk,c⟩
      rw[GF] at b
      grind
     obtain⟨f,mf,g,mg,hfg⟩:=hp;obtain⟨s,hs⟩:=along hfg (hz f mf)<|hz g mg
     obtain⟨h,mh,hh⟩:=hc f mf g mg hfg;have:=hz h mh;rw[hs,GF] at this;rcases IB.1 this with c|c
     ·subst c;exact e0<|hs.trans<|jU _
     ·grind
theorem anb{L:A3 H3}:Eg L↔(∃f∈L,∃g∈L,Ac f.1 g.1≠o3)/\∀f∈L,∀g∈L,Ac f.1 g.1≠o3->∃h∈L,0<AK h.1 (Ac f.1 g.1):=by
 constructor
 ·refine λhb=>⟨Cl λET=>?_,λf mf g mg hfg=>hb _ hfg⟩
  obtain⟨d,d0,d1,_⟩:=two (N:=L.map Prod.fst) (λu mu w mw=>by
   obtain⟨f,mf,rfl⟩:=Bv.1 mu;obtain⟨g,mg,rfl⟩:=Bv.1 mw;exact Cl λc=>ET ⟨f,mf,g,mg,c⟩) o3
  obtain⟨h,mh,hh⟩:=hb d d0;have:=d1 _<|Bv.2 ⟨h,mh,rfl⟩
  grind
 ·rintro⟨hp,hc⟩ d hd;refine Cl λET=>alK hp hc _ d (BM _) hd λh mh=>?_
  exact Cl λc=>ET ⟨h,mh,AY⟩
def Ed(a b c:Q3):Rat:=AK (Ac a b) c
def Im(a b c:H3):Q3:=Ba (Bw (Bw (Ba (Ac b.1 c.1) a.2)<|Ba (Ac c.1 a.1) b.2)<|Ba (Ac a.1 b.1) c.2) (Ed a.1 b.1 c.1)⁻¹
theorem VR{a b c:H3}(hd:Ed a.1 b.1 c.1≠0):val a (Im a b c)=0/\val b (Im a b c)=0/\val c (Im a b c)=0:=by
 have hi:=gY _ hd;unfold Im
 generalize (Ed a.1 b.1 c.1)⁻¹ =i at hi
 unfold Ed at hi;refine⟨?_,?_,?_⟩
 ·have:val a (Ba (Bw (Bw (Ba (Ac b.1 c.1) a.2)<|Ba (Ac c.1 a.1) b.2)<|Ba (Ac a.1 b.1) c.2) i)=a.2*(AK (Ac a.1 b.1) c.1*i)-a.2:=by
   unfold val AK Ba Bw Ac;grind
  rw[this,hi];grind
 ·have:val b (Ba (Bw (Bw (Ba (Ac b.1 c.1) a.2)<|Ba (Ac c.1 a.1) b.2)<|Ba (Ac a.1 b.1) c.2) i)=b.2*(AK (Ac a.1 b.1) c.1*i)-b.2:=by
   unfold val AK Ba Bw Ac;grind
  rw[this,hi];grind
 ·have:val c (Ba (Bw (Bw (Ba (Ac b.1 c.1) a.2)<|Ba (Ac c.1 a.1) b.2)<|Ba (Ac a.1 b.1) c.2) i)=c.2*(AK (Ac a.1 b.1) c.1*i)-c.2:=by
   unfold val AK Ba Bw Ac;grind
  rw[this,hi];grind
def Yp{a b c d:Q3}(hd:Ed a b c≠0)(h1:AK a d=0)(h2:AK b d=0)(h3:AK c d=0):d=o3:=by
 have hc:Ac a b≠o3:=λe=>hd (by unfold Ed;rw[e,NB,Wu])
 obtain⟨s,rfl⟩:=along hc h1 h2;rw[GF] at h3;rcases IB.1 h3 with e|e
 ·subst e;exact jU _
 ·exact absurd (by unfold Ed;rw[NB];exact e) hd
theorem Vc{L:A3 H3}{p:Q3}:C1 L p↔Mem L p/\∃a∈L,∃b∈L,∃c∈L,Ed a.1 b.1 c.1≠0/\p=Im a b c:=by
 constructor
 ·intro hv;refine⟨hv.1,?_⟩;obtain⟨a,ma,ta,ha⟩:=eM hv Vr;have a0:a.1≠o3:=λe=>ha (by rw[e];exact HM)
  obtain⟨b,mb,tb,hb⟩:=eM hv a0;have:∃c∈L,val c p=0/\Ed a.1 b.1 c.1≠0:=by
   refine Cl λET=>hb<|hv.2 _ λc mc tc=>?_
   refine Cl λhc=>ET ⟨c,mc,tc,λe=>hc ?_⟩
   rw[NB];exact e
  obtain⟨c,mc,tc,hc⟩:=this;refine⟨a,ma,b,mb,c,mc,hc,?_⟩;obtain⟨t1,t2,t3⟩:=VR (a:=a) (b:=b) (c:=c) hc;refine Pa<|Yp hc ?_ ?_ ?_
  ·rw[val_sub,ta,t1];grind
  ·rw[val_sub,tb,t2];grind
  ·rw[val_sub,tc,t3];grind
 ·rintro⟨hm,a,ma,b,mb,c,mc,hd,rfl⟩;obtain⟨t1,t2,t3⟩:=VR hd;refine⟨hm,λd h=>Yp hd (h a ma t1) (h b mb t2)<|h c mc t3⟩
theorem wW(a b c:Q3):Ed b a c= -Ed a b c:=by unfold Ed AK Ac;grind
theorem wV(a b c:Q3):Ed a c b= -Ed a b c:=by unfold Ed AK Ac;grind
theorem agS(a b c:H3)(h:Ed a.1 b.1 c.1≠0):Im b a c=Im a b c:=by
 have h2:Ed b.1 a.1 c.1≠0:=by rw[wW];grind
 obtain⟨t1,t2,t3⟩:=VR h;obtain⟨u1,u2,u3⟩:=VR h2;exact Pa (Yp h (by rw[val_sub,t1,u2];grind) (by rw[val_sub,t2,u1];grind) (by rw[val_sub,t3,u3];grind))
theorem agR(a b c:H3)(h:Ed a.1 b.1 c.1≠0):Im a c b=Im a b c:=by
 have h2:Ed a.1 c.1 b.1≠0:=by rw[wV];grind
 obtain⟨t1,t2,t3⟩:=VR h;obtain⟨u1,u2,u3⟩:=VR h2;exact Pa (Yp h (by rw[val_sub,t1,u1];grind) (by rw[val_sub,t2,u3];grind) (by rw[val_sub,t3,u2];grind))
theorem xR{L:A3 H3}(hb:Eg L){n:Q3}{c:Rat}(h:∀p,C1 L p->AK n p=c){q:Q3}(hq:Mem L q):AK n q=c:=by
 obtain⟨v,v1,v2,_⟩:=QV hb hq n;obtain⟨u,u1,u2,_⟩:=QV hb hq<|Ba n<| -1
 rw[Kw,Kw] at u2;have:=h v v1;have:=h u u1
 grind
theorem agK{L:A3 H3}(hb:Eg L){n:Q3}(hn:n≠o3){c:Rat}(h:∀p,C1 L p->AK n p=c): ¬ ∃o,∀k∈L,val k o<0:=λ⟨o,ho⟩=>by
 have mo:Mem L o:=λk mk=>Ge<|ho k mk
 obtain⟨e,e0,he⟩:=room mo (w:=n) λk mk tk=>by have:=ho k mk;grind
 have h1:=xR hb h mo;have h2:=xR hb h<|he e (Ge e0) Gx
 have:=Gw e0<|Pw hn
 rw[PQ,GF] at h2
 grind
theorem akw{L:A3 H3}(hz:∀k∈L,k.1≠o3){a b c d:Q3}(ha:Mem L a)(hb:Mem L b)(hc:Mem L c)(hd:Mem L d)(h:Ed (B7 b a) (B7 c a) (B7 d a)≠0):∃o,∀k∈L,val k o<0:=by
 refine⟨Dl (Dl a b<|1/2) (Dl c d<|1/2)<|1/2,λk mk=>?_⟩;have e:val k (Dl (Dl a b<|1/2) (Dl c d<|1/2)<|1/2)=(1/4)*(val k a+val k b+val k c+val k d):=by rw[GM,GM,GM];grind
 have h1:=ha k mk;have h2:=hb k mk;have h3:=hc k mk;have h4:=hd k mk;refine Cl λg=>hz k mk ?_
 have a0:val k a=0:=AY;have b0:val k b=0:=AY;have c0:val k c=0:=AY;have d0:val k d=0:=AY;refine Yp h ?_ ?_ ?_<;>rw[NB,val_sub]
 ·rw[a0,b0];grind
 ·rw[a0,c0];grind
 ·rw[a0,d0];grind
theorem al5{S:A3 CV}{M:A3 H3}(I:Da S M){h:H3}(mh:h∈M){a b c:Q3}(va:C1 M a)(vb:C1 M b)(vc:C1 M c)(ta:val h a=0)(tb:val h b=0)(tc:val h c=0)(JJ:a≠b)(hac:a≠c)(hbc:b≠c):∃f∈S,f.1=h:=by
 obtain⟨o,hi⟩:=I.int;have hz:val h (Dl (Dl a b<|1/2) c<|1/3)=0:=by rw[GM,GM,ta,tb,tc];grind
 obtain⟨f,mf,tf⟩:=I.cover (Dl (Dl a b<|1/2) c<|1/3) (λk mk=>by
  rw[GM,GM];have:=va.1 k mk;have:=vb.1 k mk;have:=vc.1 k mk
  grind) ⟨h,mh,hz⟩
 have g1:=(I.Fb f mf).1;refine⟨f,mf,aoK hi I.nz I.norm g1 mh (Cl λhc=>?_) tf hz⟩;rw[GM,GM] at tf;have:=va.1 _ g1;have:=vb.1 _ g1;have:=vc.1 _ g1;have fa:val f.1 a=0:=AY;have fb:val f.1 b=0:=AY;have fc:val f.1 c=0:=AY;obtain⟨s,hs⟩:=along hc (d:=B7 b a) (by rw[val_sub,fa,fb];grind) (by rw[val_sub,ta,tb];grind);obtain⟨r,hr⟩:=along hc (d:=B7 c a) (by rw[val_sub,fa,fc];grind) (by rw[val_sub,ta,tc];grind);refine oE va vb vc JJ hac hbc ?_;rw[hs,hr];exact HM
end
structure Ln{α:Type}(c:α×α->A9 Int)(R:α->α->Prop)(l:A3 α):Prop where
 get:∀x∈l,∀y∈l,∃v,c (x,y)=some v/\(v<0↔R x y)
 irr:∀x∈l,¬R x x
 tr:∀x∈l,∀y∈l,∀z∈l,R x y->R y z->R x z
 Lt:∀x∈l,∀y∈l,x=y\/R x y\/R y x
section
variable{α:Type}[DecidableEq α]{c:α×α->Option Int}{R:α->α->Prop}
variable{l:A3 α}
theorem Ln.perm{m:A3 α}(h:Ln c R l)(p:m.Perm l):Ln c R m:=
 ⟨λx mx y my=>h.get x (p.mem_iff.1 mx) y<|p.mem_iff.1 my,λx mx=>h.irr x<|p.mem_iff.1 mx,λx mx y my z mz=>h.tr x (p.mem_iff.1 mx) y (p.mem_iff.1 my) z<|p.mem_iff.1 mz,λx mx y my=>h.Lt x (p.mem_iff.1 mx) y<|p.mem_iff.1 my⟩
theorem aAJ{x:α}:∀{s:A3 α},Ln c R (x::s)->s.Pairwise (λa b=>a=b\/R b a)->∃r,Nq (λa b=>c (a,b)) x s=some r/\r.Perm (x::s)/\r.Pairwise (λa b=>a=b\/R b a)
 |[],_,_=>⟨[x],rfl,List.Perm.refl _,ZU _ _⟩
 |y::s,h,hs=>by
  have mx:x∈x::y::s:=Dq;have my:y∈x::y::s:=AS;obtain⟨v,hv,LG⟩:=h.get x mx y my;obtain⟨h1,h2⟩:=HE.1 hs;unfold Nq;rw[hv];show ∃r,cond (decide<|v<0) _ _=some r/\_;by_cases hl:v<0
  ·obtain⟨r,r1,r2,r3⟩:=aAJ (x:=x) (s:=s) ⟨λa ma b mb=>h.get a AY b AY,λa ma=>h.irr a AY,λa ma b mb d md=>h.tr a AY b AY d AY,λa ma b mb=>h.Lt a AY b AY⟩ h2;refine⟨y::r,by rw[B0 hl,Bf,r1];rfl,((r2.cons y).trans<|List.Perm.swap x y s),HE.2 ⟨λz mz=>?_,r3⟩⟩;rcases Ai.1 (r2.mem_iff.1 mz) with e|mz
   ·rw[e];exact .inr<|LG.1 hl
   ·exact h1 z mz
  ·refine⟨x::y::s,by rw[Bl hl];rfl,List.Perm.refl _,HE.2 ⟨λz mz=>?_,hs⟩⟩;have nxy: ¬R x y:=λk=>hl<|LG.2 k
   have hxy:x=y\/R y x:=by
    rcases h.Lt x mx y my with e|e|e
    ·exact .inl e
    ·exact absurd e nxy
    ·exact .inr e
   rcases Ai.1 mz with e|mz
   ·rw[e];exact hxy
   ·rcases hxy with e|e
    ·rw[e];exact h1 z mz
    ·rcases h1 z mz with e2|e2
     ·rw[<-e2];exact .inr e
     ·exact .inr (h.tr z (by simp[mz]) y my x mx e2 e)
theorem xf:∀(l s:A3 α),Ln c R (s++l)->s.Pairwise (λa b=>a=b\/R b a)->∃r,IW l (λnext x s=>bd (Nq (λa b=>c (a,b)) x s) next) s (λs=>some s.reverse)=some r/\r.Perm (s++l)/\r.Pairwise (λa b=>a=b\/R a b)
 |[],s,h,hs=>⟨s.reverse,rfl,by rw[J6];exact List.reverse_perm s,by
   rw[List.pairwise_reverse];exact hs.imp λ{a b} k=>k.elim (λe=> .inl e.symm) .inr⟩
 |x::l,s,h,hs=>by
  obtain⟨r,r1,r2,r3⟩:=aAJ (x:=x) (s:=s) ⟨λa ma b mb=>h.get a AY b AY,λa ma=>h.irr a AY,λa ma b mb d md=>h.tr a AY b AY d AY,λa ma b mb=>h.Lt a AY b AY⟩ hs;have p:(r++l).Perm (s++x::l):=(r2.append_right l).trans (by simpa using(@List.perm_middle _ x s l).symm);obtain⟨t,t1,t2,t3⟩:=xf l r (h.perm p) r3;refine⟨t,?_,t2.trans p,t3⟩;show bd (Nq (λa b=>c (a,b)) x s) _=_;rw[r1];exact t1
theorem aaN{x:α}:∀{s:A3 α},Ln c R (x::s)->(∀y∈s,x=y\/R x y)->XG c x s=true
 |[],_,_=>rfl
 |y::s,h,hs=>by
  have mx:x∈x::y::s:=Dq;have my:y∈x::y::s:=AS;unfold XG;rw[aaN (x:=x) (s:=s) ⟨λa ma b mb=>h.get a AY b AY,λa ma=>h.irr a AY,λa ma b mb d md=>h.tr a AY b AY d AY,λa ma b mb=>h.Lt a AY b AY⟩ λz mz=>hs z<|Bq _ mz,gI];obtain⟨v,v1,v2⟩:=h.get x mx y my;obtain⟨u,u1,u2⟩:=h.get y my x mx;rcases hs y Dq with e|e
  ·rw[B0 e];rfl
  ·rw[v1,u1];cases decide (x=y)
   ·have n: ¬R y x:=λk=>h.irr x mx (h.tr x mx y my x mx e k)
    have a:=v2.2 e;have b: ¬u<0:=λk=>n<|u2.1 k
    show(decide (v<0)&&decide (0<=u))=true;rw[B0 a,B0 A4];rfl
   ·rfl
theorem zB:∀{s:A3 α},Ln c R s->s.Pairwise (λa b=>a=b\/R a b)->Oc c s=true
 |[],_,_=>rfl
 |x::s,h,hs=>by
  obtain⟨h1,h2⟩:=HE.1 hs;unfold Oc;obtain⟨v,v1,v2⟩:=h.get x Dq x Dq;have: ¬v<0:=λk=>h.irr x Dq<|v2.1 k
  rw[v1,aaN h h1,zB (s:=s) ⟨λa ma b mb=>h.get a AY b AY,λa ma=>h.irr a AY,λa ma b mb d md=>h.tr a AY b AY d AY,λa ma b mb=>h.Lt a AY b AY⟩ h2];show(decide (0<=v)&&(true&&true))=true;rw[B0 A4];rfl
theorem pK(h:Ln c R l)(hl:l.length<4611686018427387904):∃s,Hn l c=some s/\s.Perm l/\s.Pairwise (λa b=>a=b\/R a b):=by
 obtain⟨s,s1,s2,s3⟩:=xf l [] h List.Pairwise.nil;refine⟨s,?_,s2,s3⟩;unfold Hn iY;rw[s1];have ht:totB c l=true:=by
  unfold totB;rw[DZ];intro x mx;rw[DZ];intro y my;obtain⟨v,v1,_⟩:=h.get x mx y my;rw[v1];rfl
 show EV _ s=_;rw[ht,zB (h.perm s2) s3,show Nat.blt l.length 4611686018427387904=true from IE hl];rfl
theorem yw{e:α×α->A9 Bool}:∀{x:α} {l:A3 α},(∀a∈x::l,∀b∈x::l,e (a,b)=some (decide<|a=b))->(x::l).Pairwise (λa b=>a=b\/R a b)->Ln c R (x::l)->∃r,Ww (λa b=>e (a,b)) x l=some r/\(x::r).Pairwise R/\∀z,z∈x::r↔z∈x::l
 |x,[],_,_,_=>⟨[],rfl,ZU _ _,λz=>Iff.rfl⟩
 |x,y::l,he,hs,h=>by
  obtain⟨h1,h2⟩:=HE.1 hs;obtain⟨r,r1,r2,r3⟩:=yw (x:=y) (l:=l) (λa ma b mb=>he a (Bq _ ma) b<|Bq _ mb) h2 ⟨λa ma b mb=>h.get a AY b AY,λa ma=>h.irr a AY,λa ma b mb d md=>h.tr a AY b AY d AY,λa ma b mb=>h.Lt a AY b AY⟩;unfold Ww;rw[he y AS x AS,r1];by_cases hxy:y=x
  ·subst hxy;refine⟨r,by rw[B0 rfl];rfl,r2,λz=>?_⟩;rw[r3];simp
  ·refine⟨y::r,by rw[Bl hxy];rfl,HE.2 ⟨λz mz=>?_,r2⟩,λz=>?_⟩
   ·have rxy:R x y:=(h1 y AS).elim (λe=>absurd e.symm hxy) id;rcases Ai.1 mz with e|mz'
    ·rw[e];exact rxy
    ·have ryz:=(HE.1 r2).1 z mz';exact h.tr x AS y AS z (Bq _<|(r3 z).1 mz) rxy ryz
   ·rw[Ai,r3];simp
theorem ahR{e:α×α->A9 Bool}(he:∀a∈l,∀b∈l,e (a,b)=some (decide<|a=b))(hs:l.Pairwise (λa b=>a=b\/R a b))(h:Ln c R l):∃r,Yb l e=some r/\r.Pairwise R/\∀z,z∈r↔z∈l:=by
 cases l with
 |nil=>exact⟨[],rfl,List.Pairwise.nil,λz=>Iff.rfl⟩
 |cons x l=>
  obtain⟨r,r1,r2,r3⟩:=yw he hs h;refine⟨x::r,?_,r2,r3⟩;show bd (Ww (λa b=>e (a,b)) x l) _=_;rw[r1];rfl
theorem YT{m:A3 α}(hl:l.Pairwise R)(hm:m.Pairwise R)(ha:∀x∈l,∀y∈l,R x y-> ¬R y x)(h:∀z,z∈l↔z∈m):l=m:=by
 induction l generalizing m with
 |nil=>
  cases m with
  |nil=>rfl
  |cons y m=>exact absurd ((h y).2 Dq) AS
 |cons x l ih=>
  cases m with
  |nil=>exact absurd ((h x).1 Dq) AS
  |cons y m=>
   obtain⟨l1,l2⟩:=HE.1 hl;obtain⟨m1,m2⟩:=HE.1 hm;have irr:∀z∈x::l,¬R z z:=λz mz k=>ha z mz z mz k k
   have exy:x=y:=by
    refine Cl λhne=>?_
    have a:x∈m:=by
     rcases Ai.1 ((h x).1 Dq) with e|e
     ·exact absurd e hne
     ·exact e
    have b:y∈l:=by
     rcases Ai.1 ((h y).2 Dq) with e|e
     ·exact absurd e.symm hne
     ·exact e
    exact ha x Dq y (Bq _ b) (l1 y b)<|m1 x a
   subst exy
   congr 1
   refine ih l2 m2 (λa ma b mb=>ha a (Bq _ ma) b<|Bq _ mb) λz=>?_
   constructor
   ·intro mz;rcases Ai.1 ((h z).1<|Bq _ mz) with e|e
    ·rw[e] at mz;exact absurd (l1 _ mz)<|irr _ Dq
    ·exact e
   ·intro mz;rcases Ai.1 ((h z).2<|Bq _ mz) with e|e
    ·rw[e] at mz;exact absurd (m1 _ mz)<|irr _ Dq
    ·exact e
end
section
variable{p:Q3}{a:Rat}{L:A3 H3}{x y m:Rat}{M:A3 H3}{n v w b:Q3}{S:A3 CV}{k:Rat}{c:Q3}{l:A3 Q3}{u:Q3}{s:A3 Q3}
def EA(a b:Q3):Prop:=a.1<b.1\/a.1=b.1/\(a.2.1<b.2.1\/a.2.1=b.2.1/\a.2.2<b.2.2)
theorem NI(a:Q3): ¬EA a a:=by unfold EA;grind
theorem Wa{a:Q3}:EA a b->EA b c->EA a c:=by unfold EA;grind
theorem pt(a b:Q3):a=b\/EA a b\/EA b a:=by
 by_cases h:a=b
 ·exact .inl h
 ·right;have: ¬(a.1=b.1/\a.2.1=b.2.1/\a.2.2=b.2.2):=λk=>h<|KK k.1 k.2.1 k.2.2
  unfold EA;grind
def akc{c:Q3×Q3->A9 Int}(h:∀x∈l,∀y∈l,∃v,c (x,y)=some v/\(v<0↔EA x y)):Ln c EA l:=
 ⟨h,λx _=>NI x,λx _ y _ z _=>Wa,λx _ y _=>pt x y⟩
theorem xQ(hn:n≠o3)(hu:AK n u=0)(hv:AK n v=0)(hw:AK n w=0):Ba v (AK n<|Ac u w)=Bw (Ba u<|AK n<|Ac v w) (Ba w<|AK n<|Ac u v):=by
 have hp:=Pw hn;have hd:Ed u v w*AK n n=0:=by
  have:Ed u v w*AK n n=AK n (Ac v w)*AK n u-AK n (Ac u w)*AK n v+AK n (Ac u v)*AK n w:=by unfold Ed AK Ac;grind
  rw[this,hu,hv,hw];grind
 have hd:Ed u v w=0:=by
  rcases IB.1 hd with g|g
  ·exact g
  ·grind
 unfold Ed at hd;refine KK ?_ ?_ ?_<;>simp only[Ba,Bw]
 ·have:u.1*AK n (Ac v w)+w.1*AK n (Ac u v)-v.1*AK n (Ac u w)=AK (Ac u v) w*n.1:=by unfold AK Ac;grind
  rw[hd] at this;grind
 ·have:u.2.1*AK n (Ac v w)+w.2.1*AK n (Ac u v)-v.2.1*AK n (Ac u w)=AK (Ac u v) w*n.2.1:=by unfold AK Ac;grind
  rw[hd] at this;grind
 ·have:u.2.2*AK n (Ac v w)+w.2.2*AK n (Ac u v)-v.2.2*AK n (Ac u w)=AK (Ac u v) w*n.2.2:=by unfold AK Ac;grind
  rw[hd] at this;grind
def Qs(u:Q3):Prop:=0<u.1\/u.1=0/\(0<u.2.1\/u.2.1=0/\0<u.2.2)
theorem na{a:Q3}(h:EA a b):Qs (B7 b a):=by grind [EA,Qs,B7]
theorem amH{b:Rat}(hu:Qs u)(hw:Qs w)(ha:0<a)(hb:0<b):Qs (Bw (Ba u a)<|Ba w b):=by
 have m:∀x c:Rat,0<c->(0<x->0<x*c)/\(x=0->x*c=0):=λx c hc=>⟨λh=>Gw h hc,λh=>by rw[h];grind⟩
 have a1:=m u.1 a ha;have a2:=m u.2.1 a ha;have a3:=m u.2.2 a ha;have b1:=m w.1 b hb;have b2:=m w.2.1 b hb;have b3:=m w.2.2 b hb;unfold Qs at*;unfold Bw Ba;dsimp only
 grind
theorem aoJ(hv:Qs v)(h:Qs (Ba v a)):0<a:=by
 refine Cl λc=>?_
 have m:∀x:Rat,0<=x->x*a<=0:=λx hx=>by have:=Dz hx (show 0<= -a by grind);grind
 have m1:=m v.1;have m2:=m v.2.1;have m3:=m v.2.2;have z:∀x:Rat,0<x->x*a=0->a=0:=λx hx h=>by
  rcases IB.1 h with g|g
  ·grind
  ·exact g
 have z1:=z v.1;have z2:=z v.2.1;unfold Qs at*;unfold Ba at h;dsimp only at h
 grind
theorem abJ{a:Q3}{d:Rat}(hn:n≠o3)(tp:val (n,d) p=0)(ta:val (n,d) a=0)(tb:val (n,d) b=0)(tc:val (n,d) c=0)(la:EA p a)(lb:EA p b)(lc:EA p c)(h1:0<Bn n p a b)(h2:0<Bn n p b c):0<Bn n p a c:=by
 have ea:=val_sub (n,d) p a;have eb:=val_sub (n,d) p b;have ec:=val_sub (n,d) p c;rw[tp,ta] at ea;rw[tp,tb] at eb;rw[tp,tc] at ec;have r:=xQ hn (u:=B7 a p) (v:=B7 b p) (w:=B7 c p) AY AY AY;unfold Bn at h1 h2⊢;refine aoJ (na lb) (v:=B7 b p) ?_;rw[r];exact amH (na la) (na lc) h2 h1
theorem alV{f:H3}(hf:f.1≠o3)(vp:C1 L p)(tp:val f p=0)(hl:∀x∈l,C1 L x/\val f x=0/\EA p x){c:Q3×Q3->A9 Int}(hc:∀x∈l,∀y∈l,∃v,c (x,y)=some v/\(v<0↔0<Bn f.1 p x y)):Ln c (λx y=>0<Bn f.1 p x y) l:=by
 refine⟨hc,λx _ h=>?_,λx mx y my z mz h1 h2=>?_,λx mx y my=>?_⟩
 ·rw[OF] at h;grind
 ·obtain⟨_,a2,a3⟩:=hl x mx;obtain⟨_,b2,b3⟩:=hl y my;obtain⟨_,c2,c3⟩:=hl z mz;exact abJ hf tp a2 b2 c2 a3 b3 c3 h1 h2
 ·by_cases e:x=y
  ·exact .inl e
  ·right;obtain⟨a1,a2,a3⟩:=hl x mx;obtain⟨b1,b2,b3⟩:=hl y my;have h:=p6 hf vp a1 b1 tp a2 b2 (λe=>NI p (by rw[<-e] at a3;exact a3)) (λe=>NI p (by rw[<-e] at b3;exact b3)) e;have s:Bn f.1 p y x= -Bn f.1 p x y:=by unfold Bn AK Ac B7;grind
   rw[s];grind
theorem fN{α:Type}{R:α->α->Prop}{l:A3 α}(h:l.Pairwise R){a b:α}(s:[a,b].Sublist l):R a b:=by grind
theorem xM{f:H3}(hf:f.1≠o3)(hl:∀x∈p::s,C1 L x/\val f x=0)(hs:s.Pairwise λx y=>0<Bn f.1 p x y):F5 f.1 (p::s):=by
 intro a b c h;cases h with
 |cons_cons _ h=>exact fN hs h
 |cons _ h=>
  have ab:=fN hs<|(((OK [c]).cons_cons b).cons_cons a).trans h
  have bc:=fN hs<|((List.sublist_cons_self a [b,c])).trans h
  have ac:=fN hs<|(((List.sublist_cons_self b [c])).cons_cons a).trans h
  have g:∀x,x∈[a,b,c]->x∈p::s:=λx mx=>Bq _<|h.subset mx
  obtain⟨vp,tp⟩:=hl p Dq;obtain⟨va,ta⟩:=hl a<|g a AS
  obtain⟨vb,tb⟩:=hl b<|g b AS
  obtain⟨vc,tc⟩:=hl c<|g c AS
  refine Cl λET=>?_
  have ea:=val_sub f p a;have eb:=val_sub f p b;have ec:=val_sub f p c;rw[tp,ta] at ea;rw[tp,tb] at eb;rw[tp,tc] at ec;have r:=xQ hf (u:=B7 a p) (v:=B7 b p) (w:=B7 c p) AY AY AY;have o:Bn f.1 a b c=Bn f.1 p b c-Bn f.1 p a c+Bn f.1 p a b:=by unfold Bn AK Ac B7;grind
  have:a=c:=by
   refine Pa<|vb.2 _ λh mh th=>?_
   have k:=congrArg (AK h.1) r;rw[GF,PQ,GF,GF,val_sub,val_sub,val_sub,th] at k;change Bn f.1 p a c*(0-val h p)=Bn f.1 p b c*(val h a-val h p)+Bn f.1 p a b*(val h c-val h p) at k;have x:=vp.1 h mh;have y:=va.1 h mh;have z:=vc.1 h mh;have i1:=Dz (show 0<= -Bn f.1 a b c by grind) (show 0<= -val h p by grind);have i2:=Dz (show 0<=Bn f.1 p b c by grind) (show 0<= -val h a by grind);have i3:=Dz (show 0<=Bn f.1 p a b by grind) (show 0<= -val h c by grind);rw[o] at i1;have j2:Bn f.1 p b c*val h a=0:=AY;have j3:Bn f.1 p a b*val h c=0:=AY;rw[val_sub];rcases IB.1 j2 with g|g
   ·grind
   ·rcases IB.1 j3 with g'|g'
    ·grind
    ·rw[g,g'];grind
  rw[this,OF] at ac
  grind
def yt(h:F5 n (p::s)):s.Pairwise λx y=>0<Bn n p x y:=
 iG.2 λ{a b} k=>h p a b<|k.cons_cons p
theorem apf{r:A3 Q3}(hs:F5 n (p::s))(hr:F5 n (p::r))(h:∀z,z∈s↔z∈r):s=r:=by
 refine YT (yt hs) (yt hr) (λx mx y my a b=>?_) h;have:Bn n p y x= -Bn n p x y:=by unfold Bn AK Ac B7;grind
 grind
def DP(a:Rat):A3 H3:=[((-1,0,0),a),((1,0,0),a),((0,-1,0),a),((0,1,0),a),((0,0,-1),a),((0,0,1),a)]
theorem OU(a:Rat)(p:Q3):val ((-1,0,0),a) p= -p.1-a:=by unfold val AK;grind
theorem OT(a:Rat)(p:Q3):val ((1,0,0),a) p=p.1-a:=by unfold val AK;grind
theorem OS(a:Rat)(p:Q3):val ((0,-1,0),a) p= -p.2.1-a:=by unfold val AK;grind
theorem OR(a:Rat)(p:Q3):val ((0,1,0),a) p=p.2.1-a:=by unfold val AK;grind
theorem OQ(a:Rat)(p:Q3):val ((0,0,-1),a) p= -p.2.2-a:=by unfold val AK;grind
theorem OP(a:Rat)(p:Q3):val ((0,0,1),a) p=p.2.2-a:=by unfold val AK;grind
def M7{P:H3->Prop}:(∀h∈DP a,P h)↔P ((-1,0,0),a)/\P ((1,0,0),a)/\P ((0,-1,0),a)/\P ((0,1,0),a)/\P ((0,0,-1),a)/\P ((0,0,1),a):=by
 unfold DP;simp
def anT{P:H3->Prop}:(∃h∈DP a,P h)↔P ((-1,0,0),a)\/P ((1,0,0),a)\/P ((0,-1,0),a)\/P ((0,1,0),a)\/P ((0,0,-1),a)\/P ((0,0,1),a):=by
 unfold DP;simp
theorem akb:Mem (DP a) p↔(-a<=p.1/\p.1<=a)/\(-a<=p.2.1/\p.2.1<=a)/\ -a<=p.2.2/\p.2.2<=a:=by
 unfold Mem;rw[M7,OU,OT,OS,OR,OQ,OP];grind
theorem TP(ha:0<a):C1 (DP a) p↔(p.1=a\/p.1= -a)/\(p.2.1=a\/p.2.1= -a)/\(p.2.2=a\/p.2.2= -a):=by
 unfold C1;rw[akb];constructor
 ·rintro⟨h,k⟩;have d1:∀x:Rat,AK (-1,0,0) (1,0,0)= -1:=λ_=>by unfold AK;grind
  refine⟨Cl λc=>?_,Cl λc=>?_,Cl λc=>?_⟩
  ·have:=k (1,0,0) (by rw[M7,OU,OT,OS,OR,OQ,OP];unfold AK;grind);exact Vr this
  ·have:=k (0,1,0) (by rw[M7,OU,OT,OS,OR,OQ,OP];unfold AK;grind);have:=congrArg (λx:Q3=>x.2.1) this;simp only[o3] at this;grind
  ·have:=k (0,0,1) (by rw[M7,OU,OT,OS,OR,OQ,OP];unfold AK;grind);have:=congrArg (λx:Q3=>x.2.2) this;simp only[o3] at this;grind
 ·rintro⟨h1,h2,h3⟩;refine⟨AY,λd hd=>?_⟩;rw[M7,OU,OT,OS,OR,OQ,OP] at hd;unfold AK at hd;dsimp only at hd;exact Wm AY AY AY
theorem yv(a:Rat):Eg (DP a):=λd hd=>by
 rw[anT];unfold AK;dsimp only;refine Cl λc=>hd (Wm ?_ ?_ ?_)<;>grind
theorem TQ{a:Q3}(ha:a∈l)(hb:b∈l)(hc:c∈l)(JJ:a≠b)(hac:a≠c)(hbc:b≠c):3<=l.length:=by
 match l,ha,hb,hc with
 |[x],ha,hb,hc=>simp at ha hb hc;exact absurd (ha.trans hb.symm) JJ
 |[x,y],ha,hb,hc=>simp at ha hb hc;grind
 |_::_::_::_,_,_,_=>simp
def Nl(a:Rat)(f:Rat->Rat->Q3):A3 Q3:=[f (-a)<| -a,f (-a) a,f a<| -a,f a a]
theorem yM{f:Rat->Rat->Q3}:p∈Nl a f↔∃x y,(x=a\/x= -a)/\(y=a\/y= -a)/\p=f x y:=by(simp_all [Nl]<;>grind)
theorem ajF(ha:0<a)(hS:S.map Prod.fst=DP a)(hC:∀f∈S,F5 f.1.1 f.2/\∀p,p∈f.2↔C1 (DP a) p/\val f.1 p=0):Da S (DP a):=by
 have hin:∀f∈S,f.1∈DP a:=λf mf=>by rw[<-hS];exact Bv.2 ⟨f,mf,rfl⟩
 have hd:(DP a).Pairwise (· ≠ ·):=by
  have:((DP a).map Prod.fst).Pairwise (· ≠ ·):=by
   show List.Pairwise (· ≠ ·) ([(-1,0,0),(1,0,0),(0,-1,0),(0,1,0),(0,0,-1),(0,0,1)]:A3 Q3)
   decide
  exact(Mm.1 this).imp λ{a b} h e=>h<|congrArg Prod.fst e
 have ca:∀h∈DP a,h.2=a:=by rw[M7];exact⟨rfl,rfl,rfl,rfl,rfl,rfl⟩
 refine⟨yv a,⟨o3,?_⟩,?_,?_,λf mf=>?_,?_,λp hp ht=>?_⟩
 ·rw[M7,OU,OT,OS,OR,OQ,OP];unfold o3;dsimp only;grind
 ·rw[M7];unfold o3;simp only[ne_eq,La];grind
 ·intro h mh k mk hk;obtain⟨s,s0,e⟩:=hk;have:=ca h mh;have hk2:=ca k mk;have e2:k.2=h.2*s:=by rw[e]
  have:s=1:=by
   have:a*(s-1)=0:=AY;rcases IB.1 this with g|g<;>grind
  subst this;rw[e];refine Prod.ext (KK ?_ ?_ ?_) ?_<;>simp only[Ba]<;>grind
 ·obtain⟨c1,c2⟩:=hC f mf;refine⟨hin f mf,c1,?_,c2⟩;have one:∀x y z:Rat,(x=a\/x= -a)->(y=a\/y= -a)->(z=a\/z= -a)->val f.1 (x,y,z)=0->(x,y,z)∈f.2:=λx y z hx hy hz hv=>(c2 _).2 ⟨(TP ha).2 ⟨hx,hy,hz⟩,hv⟩
  have hne:a≠ -a:=AY;have mf:=hin f mf;have hr:a=a\/a= -a:= .inl rfl;have hl: -a=a\/ -a= -a:= .inr rfl
  generalize f.1=h at*
  simp only[DP,Ai,S2,or_false] at mf;rcases mf with e|e|e|e|e|e<;>subst e
  ·exact TQ (one (-a) a a hl hr hr (by rw[OU];grind)) (one (-a) a (-a) hl hr hl (by rw[OU];grind)) (one (-a) (-a) a hl hl hr (by rw[OU];grind)) (by simp[hne]) (by simp[hne]) (by simp[hne])
  ·exact TQ (one a a a hr hr hr (by rw[OT];grind)) (one a a (-a) hr hr hl (by rw[OT];grind)) (one a (-a) a hr hl hr (by rw[OT];grind)) (by simp[hne]) (by simp[hne]) (by simp[hne])
  ·exact TQ (one a (-a) a hr hl hr (by rw[OS];grind)) (one a (-a) (-a) hr hl hl (by rw[OS];grind)) (one (-a) (-a) a hl hl hr (by rw[OS];grind)) (by simp[hne]) (by simp[hne]) (by simp[hne])
  ·exact TQ (one a a a hr hr hr (by rw[OR];grind)) (one a a (-a) hr hr hl (by rw[OR];grind)) (one (-a) a a hl hr hr (by rw[OR];grind)) (by simp[hne]) (by simp[hne]) (by simp[hne])
  ·exact TQ (one a a (-a) hr hr hl (by rw[OQ];grind)) (one a (-a) (-a) hr hl hl (by rw[OQ];grind)) (one (-a) a (-a) hl hr hl (by rw[OQ];grind)) (by simp[hne]) (by simp[hne]) (by simp[hne])
  ·exact TQ (one a a a hr hr hr (by rw[OP];grind)) (one a (-a) a hr hl hr (by rw[OP];grind)) (one (-a) a a hl hr hr (by rw[OP];grind)) (by simp[hne]) (by simp[hne]) (by simp[hne])
 ·rw[<-hS] at hd;exact Mm.1 hd
 ·obtain⟨h,mh,th⟩:=ht;rw[<-hS] at mh;obtain⟨f,mf,e⟩:=Bv.1 mh;exact⟨f,mf,by rw[e];exact th⟩
def Iy(x:Rat):Prop:=∃z:Int,x=(z:Rat)
def Iy.mul:Iy x->Iy y->Iy (x*y)|⟨a,ha⟩,⟨b,hb⟩=>⟨a*b,by rw[ha,hb,Rat.intCast_mul]⟩
def Iy.add:Iy x->Iy y->Iy (x+y)|⟨a,ha⟩,⟨b,hb⟩=>⟨a+b,by rw[ha,hb,Rat.intCast_add]⟩
def Iy.sub:Iy x->Iy y->Iy (x-y)|⟨a,ha⟩,⟨b,hb⟩=>⟨a-b,by rw[ha,hb,Rat.intCast_sub]⟩
def Np(v:Q3):Prop:=Iy v.1/\Iy v.2.1/\Iy v.2.2
def Np.aL(h:Np v)(k:Np w):Np (Ac v w):=
 ⟨(h.2.1.mul k.2.2).sub<|h.2.2.mul k.2.1,(h.2.2.mul k.1).sub<|h.1.mul k.2.2,(h.1.mul k.2.1).sub<|h.2.1.mul k.1⟩
def Np.dot(h:Np v)(k:Np w):Iy (AK v w):=((h.1.mul k.1).add<|h.2.1.mul k.2.1).add<|h.2.2.mul k.2.2
def Iy.one(h:Iy x)(h0:x≠0):1<=x\/x<= -1:=by
 obtain⟨z,rfl⟩:=h;have:z≠0:=λe=>h0 (by rw[e];rfl)
 rcases Int.lt_or_gt_of_ne this with h|h
 ·right;have:=Rat.intCast_le_intCast.2 (show z<= -1 by omega);simpa using this
 ·left;have:=Rat.intCast_le_intCast.2 (show 1<=z by omega);simpa using this
def wi(x m:Rat):Prop:= -m<=x/\x<=m
theorem wi.mul(h:wi x m)(g:wi y k):wi (x*y) (m*k):=by
 obtain⟨a,b⟩:=h;obtain⟨c,d⟩:=g;have p1:=Dz (show 0<=m-x by grind) (show 0<=k+y by grind);have p2:=Dz (show 0<=m+x by grind) (show 0<=k-y by grind);have p3:=Dz (show 0<=m-x by grind) (show 0<=k-y by grind);have p4:=Dz (show 0<=m+x by grind) (show 0<=k+y by grind);constructor<;>grind
theorem wi.add(h:wi x m)(g:wi y k):wi (x+y) (m+k):=by unfold wi at*;grind
theorem wi.sub(h:wi x m)(g:wi y k):wi (x-y) (m+k):=by unfold wi at*;grind
def wi3(v:Q3)(m:Rat):Prop:=wi v.1 m/\wi v.2.1 m/\wi v.2.2 m
def wi3.aL(h:wi3 v m)(g:wi3 w k):wi3 (Ac v w) (m*k+m*k):=
 ⟨(h.2.1.mul g.2.2).sub<|h.2.2.mul g.2.1,(h.2.2.mul g.1).sub<|h.1.mul g.2.2,(h.1.mul g.2.1).sub<|h.2.1.mul g.1⟩
theorem aok(h:1<=x\/x<= -1):wi x⁻¹ 1:=by
 have e:=gY x AY
 generalize x⁻¹ =i at e
 constructor
 ·refine Cl λc=>?_
  rcases h with g|g
  ·have:=Dz (show 0<=x-1 by grind) (show 0<= -i by grind);grind
  ·have:=Dz (show 0<= -1-x by grind) (show 0<= -i-1 by grind);grind
 ·refine Cl λc=>?_
  rcases h with g|g
  ·have:=Dz (show 0<=x-1 by grind) (show 0<=i-1 by grind);grind
  ·have:=Dz (show 0<= -1-x by grind) (show 0<=i by grind);grind
theorem amV{a b c:H3}{D:Rat}(ia:Np a.1)(ib:Np b.1)(ic:Np c.1)(ha:wi3 a.1 m/\wi a.2 D)(hb:wi3 b.1 m/\wi b.2 D)(hc:wi3 c.1 m/\wi c.2 D)(hd:Ed a.1 b.1 c.1≠0):wi3 (Im a b c) (6*(m*m*D)):=by
 have hi:=aok<|Iy.one ((ia.aL ib).dot ic) hd
 have x1:=hb.1.aL hc.1;have x2:=hc.1.aL ha.1;have x3:=ha.1.aL hb.1;unfold Im Ed
 generalize (AK (Ac a.1 b.1) c.1)⁻¹ =i at hi
 have fin:∀{x y z:Rat},wi x (m*m+m*m)->wi y (m*m+m*m)->wi z (m*m+m*m)->wi ((x*a.2+y*b.2+z*c.2)*i) (6*(m*m*D)):=λh1 h2 h3=>by
  have:=(((h1.mul ha.2).add<|h2.mul hb.2).add<|h3.mul hc.2).mul hi;unfold wi at this⊢
  grind
 exact⟨fin x1.1 x2.1 x3.1,fin x1.2.1 x2.2.1 x3.2.1,fin x1.2.2 x2.2.2 x3.2.2⟩
theorem anA(hb:Eg L){D:Rat}(hm:0<m)(hD:0<D)(hL:∀k∈L,Np k.1/\wi3 k.1 m/\wi k.2 D)(hp:Mem L p):∀h∈DP (7*(m*m*D)),val h p<0:=by
 have h0:=Gw (Gw hm hm) hD;have key:∀c:Q3,∃v,wi3 v (6*(m*m*D))/\AK c p<=AK c v:=λc=>by
  obtain⟨v,v1,v2,_⟩:=QV hb hp c;obtain⟨_,a,ma,b,mb,d,md,hd,rfl⟩:=Vc.1 v1;obtain⟨ia,wa⟩:=hL a ma;obtain⟨ib,wb⟩:=hL b mb;obtain⟨id,wd⟩:=hL d md;exact⟨_,amV ia ib id wa wb wd hd,v2⟩
 unfold wi3 wi at key;rw[M7,OU,OT,OS,OR,OQ,OP];obtain⟨v1,k1⟩:=key (-1,0,0);obtain⟨v2,k2⟩:=key (1,0,0);obtain⟨v3,k3⟩:=key (0,-1,0);obtain⟨v4,k4⟩:=key (0,1,0);obtain⟨v5,k5⟩:=key (0,0,-1);obtain⟨v6,k6⟩:=key (0,0,1);unfold AK at k1 k2 k3 k4 k5 k6;dsimp only at k1 k2 k3 k4 k5 k6
 grind
theorem Da.drop{C:A3 H3}(I:Da S M)(hM:∀k,k∈M↔k∈L\/k∈C)(hb:Eg L)(hc:∀p,Mem L p->∀h∈C,val h p<0):Da S L/\∀p,Mem L p↔Mem M p:=by
 have Hf:∀p,Mem L p↔Mem M p:=λp=>by
  constructor
  ·intro h k mk;rcases(hM k).1 mk with m|m
   ·exact h k m
   ·exact Ge<|hc p h k m
  ·exact λh k mk=>h k<|(hM k).2<| .inl mk
 have hv:∀p,C1 M p↔C1 L p:=λp=>by
  constructor
  ·rintro⟨h1,h2⟩;refine⟨(Hf p).2 h1,λd hd=>h2 d λk mk tk=>?_⟩;rcases(hM k).1 mk with m|m
   ·exact hd k m tk
   ·have:=hc p ((Hf p).2 h1) k m;grind
  ·rintro⟨h1,h2⟩;exact⟨(Hf p).1 h1,λd hd=>h2 d λk mk tk=>hd k ((hM k).2<| .inl mk) tk⟩
 refine⟨⟨hb,?_,λh mh=>I.nz h<|(hM h).2<| .inl mh,λh mh k mk=>I.norm h ((hM h).2<| .inl mh) k<|(hM k).2<| .inl mk,λf mf=>?_,I.Ph,λp hp ht=>?_⟩,Hf⟩
 ·obtain⟨o,ho⟩:=I.int;exact⟨o,λh mh=>ho h<|(hM h).2<| .inl mh⟩
 ·obtain⟨f1,f2,f3,f4⟩:=I.Fb f mf;refine⟨?_,f2,f3,λp=>by rw[f4,hv]⟩;rcases(hM _).1 f1 with m|m
  ·exact m
  ·obtain⟨p,mp⟩:=List.exists_mem_of_ne_nil f.2 (λe=>by rw[e] at f3;simp at f3);obtain⟨vp,tp⟩:=(f4 p).1 mp;have:=hc p ((Hf p).2 vp.1) _ m
   grind
 ·obtain⟨k,mk,tk⟩:=ht;exact I.cover p ((Hf p).1 hp) ⟨k,(hM k).2<| .inl mk,tk⟩
theorem alL(I:Da S M)(hM:∀k,k∈M↔k∈L\/k∈DP a)(ha:0<a)(h1:∀k∈L,0<k.2)(hc:Eg L->∀p,Mem L p->∀h∈DP a,val h p<0):Eg L↔∀f∈S,f.1∈L:=by
 constructor
 ·intro hb f mf;exact((I.drop hM hb<|hc hb).1.Fb f mf).1
 ·intro hf d hd;refine Cl λET=>?_
  have hle:∀k∈L,AK k.1 d<=0:=λk mk=>Cl λc=>ET ⟨k,mk,AY⟩
  obtain⟨h,mh,ph,hm⟩:=least (λh:H3=>0<AK h.1 d) (λh=>a/AK h.1 d) (DP a)<|yv a d hd
  have ca:∀h∈DP a,h.2=a:=by rw[M7];exact⟨rfl,rfl,rfl,rfl,rfl,rfl⟩
  have key:∀k:H3,0<AK k.1 d->a/AK k.1 d*AK k.1 d=a:=λk hk=>PM AY
  have hr:0<a/AK h.1 d:=by rw[Tg];exact Gw ha<|Tf.2 ph
  have kh:=key h ph
  generalize a/AK h.1 d=r at*
  have vz:∀k:H3,val k (Ba d r)=r*AK k.1 d-k.2:=λk=>by unfold val;rw[GF]
  have neg:∀k∈L,val k (Ba d r)<0:=λk mk=>by
   rw[vz];have:=Dz (show 0<=r by grind) (show 0<= -AK k.1 d by have:=hle k mk;grind);have:=h1 k mk
   grind
  obtain⟨f,mf,tf⟩:=I.cover (Ba d r) (λk mk=>by
   rcases(hM k).1 mk with m|m
   ·exact Ge<|neg k m
   ·rw[vz,ca k m];by_cases g:0<AK k.1 d
    ·have h2:=hm k m g;have h3:=key k g;have:=iF h2<|Ge g
     grind
    ·have:=Dz (show 0<=r by grind) (show 0<= -AK k.1 d by grind)
     grind) ⟨h,(hM h).2<| .inr mh,by rw[vz,ca h mh];grind⟩
  have:=neg f.1<|hf f mf
  grind
structure NZ(L M:A3 H3):Prop where
 sub:∀h∈M,h∈L
 le:∀h∈L,∃k∈M,k.1=h.1/\k.2<=h.2
theorem anq{h k:H3}(e:k.1=h.1)(l:k.2<=h.2)(p:Q3):val h p<=val k p:=by unfold val;rw[e];grind
def NZ.mem(h:NZ L M)(p:Q3):Mem M p↔Mem L p:=
 ⟨λhp x mx=>by obtain⟨k,mk,e,l⟩:=h.le x mx;exact Z9 (anq e l p)<|hp k mk,λhp x mx=>hp x<|h.sub x mx⟩
theorem NZ.tight(h:NZ L M)(hp:Mem M p){x:H3}(mx:x∈L)(tx:val x p=0):x∈M:=by
 obtain⟨k,mk,e,l⟩:=h.le x mx;have h1:=hp k mk;have:k=x:=Prod.ext e (by unfold val at h1 tx;rw[e] at h1;grind);rw[<-this];exact mk
def NZ.vtx(h:NZ L M)(p:Q3):C1 M p↔C1 L p:=
 ⟨λhp=>⟨(h.mem p).1 hp.1,λd hd=>hp.2 d λx mx tx=>hd x (h.sub x mx) tx⟩,
  λhp=>⟨(h.mem p).2 hp.1,λd hd=>hp.2 d λx mx tx=>hd x (h.tight ((h.mem p).2 hp.1) mx tx) tx⟩⟩
def mT(I:Da S L)(hm:NZ L M){C:A3 Q3}(hC:∀p,p∈C↔C1 M p)(hn:C.Nodup)(h:H3):h∈S.map (·.1)↔h∈M/\3<=(C.filter λp=>decide<|val h p=0).length:=by
 have mf:∀p,p∈(C.filter λp=>decide<|val h p=0)↔C1 L p/\val h p=0:=λp=>by rw[HZ,hC,hm.vtx,J7]
 constructor
 ·intro mh;obtain⟨f,hf,rfl⟩:=Bv.1 mh;obtain⟨f1,f2,f3,f4⟩:=I.Fb f hf;have nd:=f2.nodup f3;have mm:∀p∈f.2,p∈(C.filter λp=>decide<|val f.1 p=0):=λp mp=>(mf p).2<|(f4 p).1 mp
  match e:f.2,f3,nd,mm with
  |a::b::c::l,_,nd,mm=>
   have ha:=(mf a).1<|mm a AS
   refine⟨hm.tight ((hm.mem a).2 ha.1.1) f1 ha.2,TQ (mm a AS) (mm b AS) (mm c AS) ?_ ?_ ?_⟩
   ·intro e;rw[e] at nd;simp at nd
   ·intro e;rw[e] at nd;simp at nd
   ·intro e;rw[e] at nd;simp at nd
 ·rintro⟨mh,h3⟩;have nd:(C.filter λp=>decide<|val h p=0).Nodup:=hn.sublist List.filter_sublist
  match e:C.filter λp=>decide<|val h p=0,h3,nd,mf with
  |a::b::c::l,_,nd,mf=>
   obtain⟨va,ta⟩:=(mf a).1 AS;obtain⟨vb,tb⟩:=(mf b).1 AS;obtain⟨vc,tc⟩:=(mf c).1 AS;obtain⟨f,hf,rfl⟩:=al5 I (hm.sub h mh) va vb vc ta tb tc (λe=>by rw[e] at nd;simp at nd) (λe=>by rw[e] at nd;simp at nd) (λe=>by rw[e] at nd;simp at nd);exact Bv.2 ⟨f,hf,rfl⟩
def IJ(a:Q3)(A C:A3 Q3)(u n:Q3)(dim:Int):Prop:=
 (dim=0/\∀p∈C,p=a)\/(dim=1/\(∃b∈A,u=B7 b a)/\u≠o3/\∀p∈C,Ac u (B7 p a)=o3)\/
 (dim=2/\(∃b∈A,∃c∈A,n=Ac (B7 b a) (B7 c a))/\n≠o3/\∀p∈C,AK n (B7 p a)=0)
theorem IJ.flat{a:Q3}{A C:A3 Q3}{dim:Int}(h:IJ a A C u n dim):∃m:Q3,m≠o3/\∀p∈C,AK m p=AK m a:=by
 rcases h with⟨_,h⟩|⟨_,_,hu,h⟩|⟨_,_,hn,h⟩
 ·exact⟨_,Vr,λp mp=>by rw[h p mp]⟩
 ·obtain⟨m,hm,e⟩:=VN u;refine⟨m,hm,λp mp=>?_⟩;have k:=par hu<|h p mp
  have:AK m (B7 p a)=0:=by rw[k,GF,NB m u,e];grind
  rw[WO] at this;grind
 ·refine⟨n,hn,λp mp=>?_⟩;have:=h p mp;rw[WO] at this;grind
def afc{a:Q3}:B7 a a=o3:=HM
def alG(u:Q3):Ac u o3=o3:=HM
end
section
variable{a:Q3}{A C:List Q3}{u n:Q3}{p:Q3}
theorem IJ.s0(h:IJ a A C u n 0)(e:B7 p a=o3):IJ a A (C++[p]) u n 0:=by grind [IJ,B7,o3]
theorem IJ.s01(h:IJ a A C u n 0)(mp:p∈A)(e:B7 p a≠o3):IJ a A (C++[p]) (B7 p a) n 1:=by
 rcases h with⟨_,h⟩|⟨h,_⟩|⟨h,_⟩
 ·refine .inr (.inl ⟨rfl,⟨p,mp,rfl⟩,e,λq mq=>?_⟩);rcases Cp.1 mq with m|m
  ·rw[h q m,afc,alG]
  ·rw[DV.1 m,U8]
 ·omega
 ·omega
theorem IJ.s1(h:IJ a A C u n 1)(e:Ac u (B7 p a)=o3):IJ a A (C++[p]) u n 1:=by
 rcases h with⟨h,_⟩|⟨_,h1,h2,h⟩|⟨h,_⟩
 ·omega
 ·refine .inr (.inl ⟨rfl,h1,h2,λq mq=>?_⟩);rcases Cp.1 mq with m|m
  ·exact h q m
  ·rw[DV.1 m];exact e
 ·omega
theorem IJ.EF(h:IJ a A C u n 1)(mp:p∈A)(e:Ac u (B7 p a)≠o3):IJ a A (C++[p]) u (Ac u<|B7 p a) 2:=by
 rcases h with⟨h,_⟩|⟨_,⟨b,mb,hb⟩,h2,h⟩|⟨h,_⟩
 ·omega
 ·refine .inr (.inr ⟨rfl,⟨b,mb,p,mp,by rw[hb]⟩,e,λq mq=>?_⟩);rcases Cp.1 mq with m|m
  ·rw[par h2<|h q m,GF,NB (Ac u<|B7 p a) u,nJ];grind
  ·rw[DV.1 m,NB,eK]
 ·omega
theorem IJ.s2(h:IJ a A C u n 2)(e:AK n (B7 p a)=0):IJ a A (C++[p]) u n 2:=by
 rcases h with⟨h,_⟩|⟨h,_⟩|⟨_,h1,h2,h⟩
 ·omega
 ·omega
 ·refine .inr (.inr ⟨rfl,h1,h2,λq mq=>?_⟩);rcases Cp.1 mq with m|m
  ·exact h q m
  ·rw[DV.1 m];exact e
theorem IJ.s3(h:IJ a A C u n 2)(e:AK n (B7 p a)≠0):∃b∈A,∃c∈A,Ed (B7 b a) (B7 c a) (B7 p a)≠0:=by
 rcases h with⟨h,_⟩|⟨h,_⟩|⟨_,⟨b,mb,c,mc,rfl⟩,_⟩
 ·omega
 ·omega
 ·exact⟨b,mb,c,mc,e⟩
end
section
variable{α:Type}{l:A3 Q3}
def Kp{α:Type}[DecidableEq α]:∀{l T:A3 α},l.Nodup->(∀x∈l,x∈T)->l.length<=T.length
 |[],_,_,_=>FM _
 |x::l,T,hn,h=>by
  obtain⟨h1,h2⟩:=W5.1 hn;have:=Kp (l:=l) (T:=T.erase x) h2 λy my=>(List.mem_erase_of_ne (λe=>h1 (by rw[<-e];exact my))).2<|h y<|Bq _ my
  rw[List.length_erase_of_mem<|h x Dq] at this;have:0<T.length:=List.length_pos_of_mem<|h x Dq
  rw[Dj];omega
def arq(M:A3 H3):A3 Q3:=M.flatMap λa=>M.flatMap λb=>M.map λc=>Im a b c
def ajV(M:A3 H3):(arq M).length=M.length*(M.length*M.length):=by
 have flat:∀{α β:Type} (f:α->A3 β) (w:Nat) (l:A3 α),(∀x∈l,(f x).length=w)->(l.flatMap f).length=l.length*w:=by
  intro α β f w l
  induction l with
  |nil=>intro _;simp
  |cons x l ih=>intro h;rw[QM,ED,h x Dq,ih λy my=>h y<|Bq _ my,Dj,Ru,PG]
 exact flat _ _ _ λa _=>flat _ _ _ λb _=>Bp _
def fU{M:A3 H3}(hn:l.Nodup)(h:∀p∈l,C1 M p):l.length<=M.length*(M.length*M.length):=by
 rw[<-ajV];refine Kp hn λp mp=>?_
 obtain⟨_,a,ma,b,mb,c,mc,_,rfl⟩:=Vc.1<|h p mp
 exact ZK.2 ⟨a,ma,ZK.2 ⟨b,mb,Bv.2 ⟨c,mc,rfl⟩⟩⟩
def Da.len{S:A3 CV}{M:A3 H3}(I:Da S M):S.length<=M.length:=by
 rw[<-Bp (·.1)];refine Kp (Mm.2<|I.Ph.imp λh=>h) λx mx=>?_
 obtain⟨f,mf,rfl⟩:=Bv.1 mx;exact(I.Fb f mf).1
def zT{α:Type}{T:α->α->Prop}(s:∀a b,T a b->T b a):∀{L:A3 α} {a b:α},a≠b->a∈L->b∈L->T a b->∃x y,[y,x].Sublist L/\T x y
 |h::t,a,b,hne,ma,mb,ht=>by
  by_cases ea:a=h
  ·have mb':b∈t:=(Ai.1 mb).resolve_left λe=>hne (by rw[ea,e])
   exact⟨b,a,by rw[ea];exact(ZS.2 mb').cons_cons h,s _ _ ht⟩
  ·have ma':a∈t:=(Ai.1 ma).resolve_left ea;by_cases eb:b=h
   ·exact⟨a,b,by rw[eb];exact(ZS.2 ma').cons_cons h,ht⟩
   ·obtain⟨x,y,h1,h2⟩:=zT s hne ma' ((Ai.1 mb).resolve_left eb) ht;exact⟨x,y,h1.cons h,h2⟩
def aaU{α:Type}{T:α->α->α->Prop}(EF:∀a b c,T a b c->T b a c)(IU:∀a b c,T a b c->T a c b):∀{L:A3 α} {a b c:α},a≠b->b≠c->a≠c->a∈L->b∈L->c∈L->T a b c->∃x y z,[z,y,x].Sublist L/\T x y z
 |h::t,a,b,c,h1,h2,h3,ma,mb,mc,ht=>by
  have two:∀{a b c:α},a≠b->b≠c->a≠c->c=h->a∈h::t->b∈h::t->T a b c->∃x y z,[z,y,x].Sublist (h::t)/\T x y z:=λ{a b c} h1 h2 h3 e ma mb ht=>by
   obtain⟨x,y,k1,k2⟩:=zT (T:=λa b=>T a b c) (λa b k=>EF _ _ _ k) h1 ((Ai.1 ma).resolve_left λk=>h3 (by rw[k,e])) ((Ai.1 mb).resolve_left λk=>h2 (by rw[k,e])) ht;exact⟨x,y,c,by rw[e];exact k1.cons_cons h,k2⟩
  by_cases ec:c=h
  ·exact two h1 h2 h3 ec ma mb ht
  ·by_cases eb:b=h
   ·exact two h3 (Ne.symm h2) h1 eb ma mc<|IU _ _ _ ht
   ·by_cases ea:a=h
    ·exact two h2 (Ne.symm h3) (Ne.symm h1) ea mb mc<|IU _ _ _<|EF _ _ _ ht
    ·obtain⟨x,y,z,k1,k2⟩:=aaU EF IU h1 h2 h3 ((Ai.1 ma).resolve_left ea) ((Ai.1 mb).resolve_left eb) ((Ai.1 mc).resolve_left ec) ht;exact⟨x,y,z,k1.cons h,k2⟩
theorem ahm{L:A3 H3}{p:Q3}:C1 L p↔Mem L p/\∃a b c,[c,b,a].Sublist L/\Ed a.1 b.1 c.1≠0/\p=Im a b c:=by
 rw[Vc];refine and_congr Iff.rfl ⟨?_,?_⟩
 ·rintro⟨a,ma,b,mb,c,mc,hd,hp⟩;refine aaU (T:=λa b c:H3=>Ed a.1 b.1 c.1≠0/\p=Im a b c) (λa b c h=>⟨by rw[wW];have:=h.1;grind,by rw[h.2,agS a b c h.1]⟩) (λa b c h=>⟨by rw[wV];have:=h.1;grind,by rw[h.2,agR a b c h.1]⟩) ?_ ?_ ?_ ma mb mc ⟨hd,hp⟩
  ·intro e;refine hd ?_;rw[e];unfold Ed;rw[U8];unfold AK o3;grind
  ·intro e;refine hd ?_;rw[e];unfold Ed;rw[NB,eK]
  ·intro e;refine hd ?_;rw[e];unfold Ed;rw[NB,nJ]
 ·rintro⟨a,b,c,hs,hd,hp⟩;exact⟨a,hs.subset AS,b,hs.subset AS,c,hs.subset AS,hd,hp⟩
def anU{n:Q3}{A B:A3 Q3}(h:F5 n (A++B)):F5 n (B++A):=by
 intro a b c s;obtain⟨s1,s2,es,k1,k2⟩:=WG.1 s
 match s1,es with
 |[],es=>
  rw[Ii] at es;rw[<-es] at k2;exact h a b c<|k2.trans<|List.sublist_append_left A B
 |[x],es=>
  simp at es;obtain⟨rfl,rfl⟩:=es;rw[Rn];exact h b c a<|k2.append k1
 |[x,y],es=>
  simp at es;obtain⟨rfl,rfl,rfl⟩:=es;rw[Rn,Rn];exact h c a b<|k2.append k1
 |x::y::z::w,es=>
  simp at es;obtain⟨rfl,rfl,rfl,rfl,rfl⟩:=es;exact h a b c<|k1.trans<|WI A B
def IM:Q3->A3 Q3->Q3
 |_,[]=>o3
 |p,q::l=>Bw (Ac p q)<|IM q l
def SH:A3 Q3->Q3
 |[]=>o3
 |p::l=>IM p<|l++[p]
def nN(a b c:Q3):Bw (Bw a b) c=Bw a (Bw b c):=HM
def xr(a b:Q3):Bw a b=Bw b a:=HM
def il(a:Q3):Bw a o3=a:=HM
def aam(a:Q3):Bw o3 a=a:=by rw[xr,il]
def zF:∀(p:Q3) (A:A3 Q3) (q:Q3) (B:A3 Q3),IM p (A++q::B)=Bw (IM p<|A++[q]) (IM q B)
 |p,[],q,B=>by
  show Bw (Ac p q) (IM q B)=Bw (Bw (Ac p q) o3) (IM q B);rw[il]
 |p,a::A,q,B=>by
  show Bw (Ac p a) (IM a (A++q::B))=Bw (Bw (Ac p a)<|IM a<|A++[q]) (IM q B);rw[zF a A q B,nN]
def ajt(A B:A3 Q3):SH (A++B)=SH (B++A):=by
 cases A with
 |nil=>rw[Ii,J6]
 |cons a A=>
  cases B with
  |nil=>rw[Ii,J6]
  |cons b B=>
   have key:∀(a b:Q3) (A B:A3 Q3),SH (a::A++b::B)=Bw (IM a<|A++[b]) (IM b<|B++[a]):=λa b A B=>by
    show IM a ((A++b::B)++[a])=_;rw[ID,QL,zF]
   rw[key,key,xr]
theorem alD{n p:Q3}{s:A3 Q3}(hs:F5 n (p::s))(hl:F5 n l)(h3:3<=l.length)(hd:(p::s).Nodup)(h:∀z,z∈p::s↔z∈l):SH l=SH (p::s):=by
 obtain⟨A,B,e⟩:=gX<|(h p).1 Dq
 subst e;have hr:F5 n (p::(B++A)):=anU (A:=A) (B:=p::B) hl;have nd:=hl.nodup h3;have nr:(p::(B++A)).Nodup:=by
  have:=nd;have e:(A++p::B).Perm (p::B++A):=List.perm_append_comm;exact e.nodup_iff.1 this
 have e:s=B++A:=apf hs hr λz=>by
  have h1:=h z;obtain⟨d1,_⟩:=W5.1 hd;obtain⟨r1,_⟩:=W5.1 nr;have h2:z∈A++p::B↔z=p\/z∈B++A:=by simp only[Cp,Ai];grind
  rw[h2,Ai] at h1;constructor
  ·intro mz;rcases h1.1 (.inr mz) with e|m
   ·rw[e] at mz;exact absurd mz d1
   ·exact m
  ·intro mz;rcases h1.2 (.inr mz) with e|m
   ·rw[e] at mz;exact absurd mz r1
   ·exact m
 rw[ajt A (p::B),e];rfl
def ru(l:A3 (Q3×Q3)):Q3:=l.foldl (λs x=>Bw s<|Ac x.1 x.2) o3
def aaV(f:Q3):∀(l:A3 Q3) (a s:Q3),(Hm f (a::l)).foldl (λs x=>Bw s<|Ac x.1 x.2) s=Bw s (IM a<|l++[f])
 |[],a,s=>by
  show Bw s (Ac a f)=Bw s (Bw (Ac a f) o3);rw[il]
 |b::l,a,s=>by
  show(Hm f (b::l)).foldl (λs x=>Bw s<|Ac x.1 x.2) (Bw s<|Ac a b)=Bw s (Bw (Ac a b)<|IM b<|l++[f]);rw[aaV f l b,nN]
def ahw:∀l:A3 Q3,ru (FY l)=SH l
 |[]=>rfl
 |a::l=>by
  show(Hm a (a::l)).foldl (λs x=>Bw s<|Ac x.1 x.2) o3=IM a (l++[a]);rw[aaV,aam]
def MR(o:Q3):Q3->A3 Q3->Q3
 |_,[]=>o3
 |p,q::l=>Bw (Ac (B7 p o)<|B7 q o)<|MR o q l
theorem yp(o:Q3):∀(l:A3 Q3) (p:Q3),Bw (Ac o p) (IM p<|l++[o])=MR o p l
 |[],p=>KK (by simp only[MR,IM,Ii,Bw,Ac,o3];grind) (by simp only[MR,IM,Ii,Bw,Ac,o3];grind) (by simp only[MR,IM,Ii,Bw,Ac,o3];grind)
 |q::l,p=>by
  have ih:=yp o l q;show Bw (Ac o p) (Bw (Ac p q)<|IM q<|l++[o])=Bw (Ac (B7 p o)<|B7 q o) (MR o q l);rw[<-ih]
  generalize IM q (l++[o])=w
  exact HM
def aju(o p:Q3)(l:A3 Q3):SH (o::p::l)=MR o p l:=yp o l p
def od(o x:Q3):∀(l:A3 Q3) (p y:Q3) (B:A3 Q3),p::l=B++[y]->MR o p (l++[x])=Bw (MR o p l) (Ac (B7 y o)<|B7 x o)
 |[],p,y,B,e=>by
  have:p=y:=by
   cases B with
   |nil=>simpa using e
   |cons b B=>simp at e
  subst this;show Bw _ o3=Bw o3 _;rw[il,aam]
 |q::l,p,y,B,e=>by
  cases B with
  |nil=>simp at e
  |cons b B=>
   rw[QL,List.cons.injEq] at e;show Bw (Ac (B7 p o)<|B7 q o) (MR o q<|l++[x])=Bw (Bw (Ac (B7 p o)<|B7 q o)<|MR o q l) _;rw[od o x l q y B e.2,nN]
theorem ak1{L:A3 H3}(hb:Eg L){f:H3}(mf:f∈L)(hf:f.1≠o3)(hl:F5 f.1 l)(h3:3<=l.length)(hv:∀p,p∈l↔C1 L p/\val f p=0):l.length<=L.length:=by
 have ex:∀s:Q3×Q3,∃g:H3,s∈FY l->g∈L/\val g s.1=0/\val g s.2=0/\Ac f.1 g.1≠o3:=λs=>by
  by_cases hs:s∈FY l
  ·obtain⟨g,h⟩:=xG hb mf hf hl h3 hv hs;exact⟨g,λ_=>h⟩
  ·exact⟨f,λh=>absurd h hs⟩
 obtain⟨G,hG⟩:=Classical.axiomOfChoice ex;have nd:(FY l).Pairwise λs r=>s.1≠r.1:=by
  have:((FY l).map Prod.fst).Nodup:=by rw[eQ];exact hl.nodup h3
  exact Mm.1 this
 have inj:(FY l).Pairwise λs r=>G s≠G r:=WH (λ{s r} ms mr hne e=>by
  obtain⟨mg,s1,s2,hc⟩:=hG s ms;obtain⟨_,r1,r2,_⟩:=hG r mr;rw[<-e] at r1 r2;obtain⟨a1,a2,a3,_⟩:=Q2 hl h3 ms;obtain⟨b1,b2,b3,_⟩:=Q2 hl h3 mr;have line:∀x∈l,val (G s) x=0->x=s.1\/x=s.2:=λx mx gx=>by
   refine Cl λc=>?_
   obtain⟨vu,fu⟩:=(hv _).1 a1;obtain⟨vv,fv⟩:=(hv _).1 a2;obtain⟨vx,fx⟩:=(hv _).1 mx;refine oE vu vv vx a3 (λe=>c<| .inl e.symm) (λe=>c<| .inr e.symm) ?_;obtain⟨t,ht⟩:=along hc (d:=B7 s.2 s.1) (by rw[val_sub,fu,fv];grind) (by rw[val_sub,s1,s2];grind);obtain⟨w,hw⟩:=along hc (d:=B7 x s.1) (by rw[val_sub,fu,fx];grind) (by rw[val_sub,s1,gx];grind);rw[ht,hw];exact HM
  have x1:=(line r.1 b1 r1).resolve_left<|λe=>hne e.symm
  have x2:r.2=s.1:=(line r.2 b2 r2).resolve_right λe=>b3 (by rw[x1,e])
  have:(s.2,s.1)∈FY l:=by rw[<-x1,<-x2];exact mr
  exact xH hl h3 (a:=s.1) (b:=s.2) ms this) nd
 have:=Kp (l:=(FY l).map G) (T:=L) (Mm.2 inj) λx mx=>by
  obtain⟨s,ms,rfl⟩:=Bv.1 mx;exact(hG s ms).1
 rw[Bp] at this;have e:(FY l).length=l.length:=by rw[<-Bp (f:=Prod.fst),eQ]
 omega
end
section
variable{l:A3 Int}{n:Nat}{a b:A3 Int}{j:Nat}{x:Int}{k:Nat}{u:A3 Int}{ρ:Type}{u0 v0 v1:Int}{v w:A3 Int}{m:Nat}{U2 q:Int}{i:Nat}{R:ρ->Prop}{f:Int}
abbrev BT:Int:=1000000000
def AI:A3 Int->Int
 |[]=>0
 |x::l=>x+BT*AI l
def CS(l:A3 Int):Prop:=∀x∈l,0<=x/\x<BT
def BJ(n:Nat):Int:=BT^n
def TU:BJ 0=1:=rfl
def Jm(n:Nat):BJ (n+1)=BT*BJ n:=by unfold BJ;rw[Int.pow_succ,EC]
def NF:∀n,0<BJ n
 |0=>by rw[TU];omega
 |n+1=>by rw[Jm];have:=NF n;unfold BT;omega
theorem fe(m n:Nat):BJ (m+n)=BJ m*BJ n:=by grind [BJ]
def MY(x:Int)(l:A3 Int):AI (x::l)=x+BT*AI l:=rfl
def RN:∀(l m:A3 Int),AI (l++m)=AI l+BJ l.length*AI m
 |[],m=>by simp[AI,TU]
 |x::l,m=>by
  rw[QL,MY,MY,RN l m,Dj,Jm,Ct,Ei];omega
def fy:CS []:=by intro x h;cases h
theorem fR:CS (x::l)↔(0<=x/\x<BT)/\CS l:=by simp_all [CS,BT]
theorem eC{m:A3 Int}:CS (l++m)↔CS l/\CS m:=by grind [CS]
theorem M4(h:CS l)(n:Nat):CS (l.take n):=by grind [CS]
theorem TW(h:CS l)(n:Nat):CS (l.drop n):=by grind [CS]
def HU(h:CS l)(n:Nat):0<=l.getD n 0/\l.getD n 0<BT:=by
 by_cases hn:n<l.length
 ·have:l.getD n 0=l[n]:=by simp[IF,hn]
  rw[this];exact h _<|L0 hn
 ·have:l.getD n 0=0:=by simp[IF,hn]
  rw[this];unfold BT;omega
theorem lR(n:Nat):CS (List.replicate n 0):=by grind [CS]
theorem Z2(h:CS l)(n:Nat)(hx:0<=x/\x<BT):CS (l.set n x):=by(simp_all [CS,BT]<;>grind)
def uK:∀n,AI (List.replicate n 0)=0
 |0=>rfl
 |n+1=>by rw[List.replicate_succ,MY,uK n];omega
def F6:∀{l:A3 Int},CS l->0<=AI l/\AI l<BJ l.length
 |[],_=>by simp[AI,TU]
 |x::l,h=>by
  rw[fR] at h;obtain⟨h1,h2⟩:=F6 h.2;rw[MY,Dj,Jm];have:=h.1;unfold BT at*;omega
def Uz(h:n<l.length):AI (l.take<|n+1)=AI (l.take n)+BJ n*l.getD n 0:=by
 rw[bz h,RN,Dn,EN A4];simp[AI]
def RQ(l:A3 Int)(n:Nat)(h:n<=l.length):AI l=AI (l.take n)+BJ n*AI (l.drop n):=by
 conv=>lhs;rw[<-OX n l]
 rw[RN,Dn,EN h]
def TK:∀{l:A3 Int},CS l->l≠[]->l.getLast?≠some 0->BJ (l.length-1)<=AI l
 |[],_,h,_=>absurd rfl h
 |[x],h,_,hl=>by
  rw[fR] at h;have:x≠0:=λe=>hl (by rw[e];rfl)
  simp[AI,TU];omega
 |x::y::l,h,_,hl=>by
  rw[fR] at h;have:=TK (l:=y::l) h.2 AS (by simpa using hl);rw[MY,show(x::y::l).length-1=(y::l).length-1+1 from by simp,Jm];have:=h.1;unfold BT at*;omega
def G1(w:A3 Int):Prop:=CS w/\w.getLast?≠some 0
def G1.nil:G1 []:=⟨fy,AS⟩
def G1.len(h:G1 w)(hv:AI w<BJ n):w.length<=n:=by
 by_cases h0:w=[]
 ·subst h0;simp
 ·have h1:=TK h.1 h0 h.2;rcases Hp n w.length with h2|h2
  ·have:BJ n<=BJ (w.length-1):=by
    obtain⟨k,hk⟩:∃k,w.length-1=n+k:=⟨w.length-1-n,A4⟩;rw[hk,fe];have a:=NF n;have b:=NF k;have:BJ n*1<=BJ n*BJ k:=Ey A4 A4;omega
   omega
  ·exact h2
def zJ(h:n<l.length):AI l=AI (l.take n)+BJ n*(l.getD n 0+BT*AI (l.drop<|n+1)):=by
 rw[RQ l n A4]
 congr 2
 rw[U4 h,MY]
 congr 1
 simp[IF,h]
def yN(h:m<=n):BJ m<=BJ n:=by
 obtain⟨k,rfl⟩:∃k,n=m+k:=⟨n-m,A4⟩;rw[fe];have a:=NF m;have b:=NF k;have:BJ m*1<=BJ m*BJ k:=Ey A4 A4;omega
def dx(ha:CS a)(hb:G1 b)(h:a.length<b.length):AI a<AI b:=by
 have h1:=(F6 ha).2;have h2:=TK hb.1 (by intro e;subst e;simp at h) hb.2;have h3:=yN (show a.length<=b.length-1 by omega);omega
def Ic(l:A3 Int)(n:Nat):AI (l.take<|n+1)=AI (l.take n)+BJ n*l.getD n 0:=by
 rcases Hp n l.length with h|h
 ·exact Uz h
 ·rw[ZZ h,Cd A4,Cd h];omega
def aeU(h:AI (l.drop n)=0)(hk:CS l)(hm:n<=m):l.getD m 0=0:=by
 have key:∀(l:A3 Int) (j:Nat),CS l->AI l=0->l.getD j 0=0:=by
  intro l
  induction l with
  |nil=>intro j _ _;simp
  |cons x l ih=>
   intro j hk hv;rw[fR] at hk;rw[MY] at hv;have h1:=(F6 hk.2).1;have hx:=hk.1;unfold BT at*;cases j with
   |zero=>simp;omega
   |succ j=>simpa using ih j hk.2 A4
 have:=key (l.drop n) (m-n) (TW hk n) h;simpa[IF,Tv,show n+(m-n)=m by omega] using this
theorem amu{r:Int}(e:q*v1+r=U2)(h:BT*r+u0<q*v0):(u0+BT*U2)+1<=q*(v0+BT*v1):=by grind
def amx{r:Int}(e:q*v1+r=U2)(hr:r<v1)(hu:u0<BT)(hq:0<=q)(hv:0<=v0):(u0+BT*U2)+1<=(q+1)*(v0+BT*v1):=by
 rw[Ct,GC _ BT v1,<-e,HY q 1 v1,Ho];have:0<=(q+1)*v0:=Ky A4 hv;unfold BT at*;omega
def an0{R P UL VL:Int}(e:q*v1+R=U2)(hq:0<=q/\q<BT)(hR:0<=R)(I2:0<=v0/\v0<BT)(hu0:0<=u0)(hv1:BT<=2*v1)(h:BT<=R\/q*v0<=BT*R+u0)
 (hP:0<P)(hU:0<=UL)(hV:VL<P)(hV0:0<=VL):(q-1)*(VL+P*(v0+BT*v1))<=UL+P*(u0+BT*U2):=by
 have hY:q*(v0+BT*v1)<=u0+BT*U2:=by
  rw[Ct,GC q BT v1,<-e,Ct];have:q*v0<=BT*R+u0:=by
   rcases h with h|h
   ·have:q*v0<=(BT-1)*(BT-1):=PI A4 A4 I2.1 (by unfold BT;omega);unfold BT at*;omega
   ·exact h
  omega
 have h1:=Ey hY<|EM hP
 have h2:q*VL<=BT*P:=PI A4 A4 hV0 (by unfold BT;omega);have h3:P*BT<=P*(v0+BT*v1):=Ey (by unfold BT at*;omega)<|EM hP
 rw[Tp,Ho,Ct q,GC q P];rw[EC P BT] at h3;omega
def aod{u1 u2 P UL VL:Int}(hP:0<P)(hU:0<=UL)(hu0:0<=u0)(hu1:0<=u1)(hV:VL<P)(I2:v0<BT)(h:UL+P*(u0+BT*(u1+BT*u2))<BT*(VL+P*(v0+BT*v1))):u2<=v1:=by
 rcases(show v1<u2\/u2<=v1 by omega) with h'|h'
 ·exfalso;have h1:BT*(v0+BT*v1+1)<=u0+BT*(u1+BT*u2):=by unfold BT at*;omega
  have h2:=Ey h1<|EM hP
  rw[GC P BT,Ct P _ 1,LY] at h2;rw[Ct BT VL] at h;rw[Ct BT _ P] at h2;have h3:BT*VL<=BT*P:=Ey A4 (by unfold BT;omega);omega
 ·exact h'
def ahp(h:l.length=k+3):AI l=AI (l.take k)+BJ k*(l.getD k 0+BT*(l.getD (k+1) 0+BT*l.getD (k+2) 0)):=by
 have h1:AI (l.take<|k+3)=AI l:=by rw[Cd A4]
 rw[<-h1,Ic,Ic,Ic,Jm<|k+1,Jm,Ct,Ct,Ct,GC (BJ k) BT,GC (BJ k) BT,GC (BJ k) BT,Ei,Ei,Ei];omega
def ahs(h:l.length=k+2):AI l=AI (l.take k)+BJ k*(l.getD k 0+BT*l.getD (k+1) 0):=by
 have h1:AI (l.take<|k+2)=AI l:=by rw[Cd A4]
 rw[<-h1,Ic,Ic,Jm,Ct,GC (BJ k) BT,Ei];omega
def wT(h:CS l)(hl:n<=l.length)(hv:AI l<BJ n):AI (l.drop n)=0:=by
 have h1:=RQ l n hl;have h2:=(F6<|TW h n).1;have h3:=(F6<|M4 h n).1;rcases(show AI (l.drop n)=0\/1<=AI (l.drop n) by omega) with h4|h4
 ·exact h4
 ·have:=Ey h4 (EM<|NF n);omega
def div_pos{y:Int}(hx:0<=x)(hy:0<y)(hb:x<=9223372036854775807):Gi x y=some (x/y):=by
 unfold Gi;rw[Bl A4,Int.tdiv_eq_ediv_of_nonneg hx];have h1:=Kz hx<|EM hy
 have h2:=Ry y hx;exact EZ ⟨A4,A4⟩
def TT(ha:CS a)(hl:a.length<1099511627776):Yd (λw=>G1 w/\AI w=AI a/\w.length<=a.length) (Oy a):=by
 unfold Oy;refine Ea (λs:A3 Int=>CS s/\AI s=AI a/\s.length<=a.length) (λs=>s.length) ?_ _ _ ⟨ha,rfl,BM _⟩ A4;rintro next s ⟨h1,h2,h3⟩ hn
 refine Hb (λhg=>?_)<|λhg=>?_
 ·have hs:(0:Int)<s.length:=An hg;obtain⟨n,H9⟩:∃n,s.length=n+1:=⟨s.length-1,A4⟩;have e1:(s.length:Int)-1=(n:Int):=A4;rw[e1];refine⟨(n:Int),EZ ⟨A4,A4⟩,Hb (λ_=>⟨s.getD n 0,Bc A4,Ad (λhc=>?_)<|λhc=>?_⟩) (λh=>by rw[hg] at h;cases h)⟩
  ·obtain⟨_,hz⟩:=EH hc;have hz:=An hz;refine A5 BC<|A5 (EW A4 A4 A4) ?_
   have e:(s.take ((n:Nat):Int).toNat).drop (0:Int).toNat=s.take n:=AS;rw[e];have hv:AI s=AI (s.take n):=by
    have:=Uz (l:=s) (n:=n) A4;rw[hz,Ti,Vv,Cd A4] at this;exact this
   exact hn _ ⟨M4 h1 n,by rw[<-hv];exact h2,E8⟩ E8
  ·refine AU ⟨⟨h1,?_⟩,h2,h3⟩;rw[B0 hs,KL] at hc;have hz:=BQ hc;have e:s=s.take n++[s.getD n 0]:=by rw[<-bz A4,Cd A4]
   rw[e];simpa using hz
 ·have hs: ¬(0:Int)<s.length:=BQ hg;have hs:s=[]:=Js A4;subst hs;exact Hb (λh=>by rw[hg] at h;cases h) (λ_=>Ad (λhc=>by simp at hc)<|λ_=>AU ⟨G1.nil,h2,h3⟩)
def FB(p:Bool×A3 Int)(z:Int):Prop:=G1 p.2/\AI p.2=(z.natAbs:Int)/\p.1=decide (z<0)
def G1.pos(h:G1 w)(h0:w≠[]):0<AI w:=by
 have:=TK h.1 h0 h.2;have:=NF<|w.length-1
 omega
theorem wE{b:Bool}(ha:CS a)(hl:a.length<1099511627776):Yd (λp=>FB p (bif b then -AI a else AI a)/\p.2.length<=a.length) (Km b a):=by
 unfold Km;refine Az (TT ha hl) λw ⟨h1,h2,h3⟩=>AU ⟨⟨h1,?_,?_⟩,h3⟩
 ·have:=(F6 h1.1).1;rw[<-h2];cases b
  ·grind
  ·grind
 ·have hz:=(F6 h1.1).1;by_cases hw:w=[]
  ·subst hw;have:AI a=0:=h2.symm;rw[this];cases b<;>rfl
  ·have hp:=h1.pos hw;have hlw:0<w.length:=WD.2 hw;rw[<-h2];cases b
   ·grind
   ·grind
theorem tT(ha:G1 a)(hb:G1 b)(hla:a.length<4398046511104)(hlb:b.length<4398046511104):
  Yd (λr=>(r= -1/\AI a<AI b)\/(r=0/\AI a=AI b)\/(r=1/\AI b<AI a)) (XJ a b):=by
 unfold XJ;refine Ad (λhc=>Ad (λhd=>?_)<|λhd=>?_)<|λhc=>?_
 ·have hd:=An hd;exact AU<| .inl ⟨rfl,dx ha.1 hb A4⟩
 ·have hd:=BQ hd;rw[GW,Ik] at hc;exact AU<| .inr<| .inr ⟨rfl,dx hb.1 ha A4⟩
 ·rw[ZN,J7] at hc;have hl:a.length=b.length:=A4;refine A5 BC ?_;refine Ea (λs:Int=> -1<=s/\s<a.length/\a.drop (s+1).toNat=b.drop (s+1).toNat) (λs:Int=>(s+1).toNat) ?_ _ _ ⟨A4,A4,?_⟩ A4
  ·rintro next s ⟨h0,h1,h2⟩ hn
   refine Ad (λhp=>?_)<|λhp=>?_
   ·have hp:=An hp;obtain⟨n,rfl⟩:=F8 hp;have en:(((n:Nat):Int)+1).toNat=n+1:=A4;rw[en] at h2;have gA:AA a (n:Int)=some (a.getD n 0):=Bc A4;have gB:AA b (n:Int)=some (b.getD n 0):=Bc A4;refine A5 gA<|A5 gB ?_
    have eA:=zJ (l:=a) (n:=n) A4;have eB:=zJ (l:=b) (n:=n) A4;rw[h2] at eA;obtain⟨tA0,tA⟩:=F6<|M4 ha.1 n
    obtain⟨tB0,tB⟩:=F6<|M4 hb.1 n
    rw[Dn,EN A4] at tA tB;have hpw:=NF n;have dA:=O8 (l:=a) (n:=n) A4;have dB:=O8 (l:=b) (n:=n) A4
    generalize a.getD n 0=X at*
    generalize b.getD n 0=Y at*
    have eA':AI a=AI (a.take n)+BJ n*X+BJ n*(BT*AI (b.drop<|n+1)):=AY;have eB':AI b=AI (b.take n)+BJ n*Y+BJ n*(BT*AI (b.drop<|n+1)):=AY;refine Ad (λhlt=>?_)<|λhlt=>A5 gA<|A5 gB<|Ad (λhgt=>?_)<|λhgt=>?_
    ·have hlt:=An hlt;have:BJ n*(X+1)<=BJ n*Y:=Ey A4 A4;rw[Ct,LY] at this;exact AU<| .inl ⟨rfl,A4⟩
    ·have hgt:=An hgt;have:BJ n*(Y+1)<=BJ n*X:=Ey A4 A4;rw[Ct,LY] at this;exact AU<| .inr<| .inr ⟨rfl,A4⟩
    ·have hlt:=BQ hlt;have hgt:=BQ hgt;have hx:X=Y:=A4;refine A5 BC<|hn _ ⟨A4,A4,?_⟩ A4
     have:(((n:Nat):Int)-1+1).toNat=n:=A4;rw[this,dA,dB,hx,h2]
   ·have hp:=BQ hp;have:s= -1:=A4;subst this;exact AU (.inr (.inl ⟨rfl,by simpa using congrArg AI h2⟩))
  ·have:((a.length:Int)-1+1).toNat=a.length:=A4;rw[this,Rz,hl,Rz]
theorem nY:VF a (n:Int)=some (a.getD n 0):=by
 unfold VF;by_cases h:n<a.length
 ·rw[B0 A4];show bd (AA a (n:Int)) _=_;rw[Bc h];rfl
 ·grind
theorem ax(h:l.length<1099511627776):BH 8 l [x]=some (l++[x]):=by grind [BH]
theorem af4(ha:CS a)(hb:CS b)(hla:a.length<4398046511)(hlb:b.length<4398046511):Yd (λw=>CS w/\AI w=AI a+AI b/\w.length<=max a.length b.length+1) (bV a b):=by
 unfold bV;refine Ea (λs:A3 Int×Int×Int=>CS s.1/\(s.2.1=0\/s.2.1=1)/\s.2.2=s.1.length/\s.1.length<=max a.length b.length+1/\(s.1.length=max a.length b.length+1->s.2.1=0)/\
   AI s.1+BJ s.1.length*s.2.1=AI (a.take s.1.length)+AI (b.take s.1.length)) (λs=>max a.length b.length+1-s.1.length) ?_ _ _ ⟨fy,.inl rfl,rfl,AS,λ_=>rfl,by simp[AI]⟩ (by dsimp only;simp;omega)
 rintro next ⟨o,c,i⟩ ⟨h1,h2,h3,h4,h5,h6⟩ hn
 dsimp only at h1 h2 h3 h4 h5 h6 hn⊢;subst h3;refine Ad (λhc=>?_)<|λhc=>?_
 ·obtain⟨xa,xb⟩:=HU ha o.length;obtain⟨ya,yb⟩:=HU hb o.length;have hlt:o.length<=max a.length b.length:=AY;have hz:o.length=max a.length b.length->a.getD o.length 0=0/\b.getD o.length 0=0:=λh=>⟨ZZ A4,ZZ A4⟩
  have hS:0<=a.getD o.length 0+b.getD o.length 0+c/\a.getD o.length 0+b.getD o.length 0+c<2000000000:=AY;refine A5 nY (A5 nY (A5 (EZ ⟨A4,by unfold BT at*;omega⟩)<|A5 BC<|A5 (QB hS.1 A4)<|A5 (ax A4)<|A5 (div_pos hS.1 A4 A4)<|A5 BC<|hn _ ⟨?_,?_,?_,?_,?_,?_⟩ ?_))
  ·rw[eC];exact⟨h1,λx hx=>by rw[DV] at hx;subst hx;unfold BT;omega⟩
  ·dsimp only;omega
  ·grind
  ·grind
  ·grind
  ·dsimp only;rw[ED,Ij,RN,Ic,Ic,Jm];have e:AI [(a.getD o.length 0+b.getD o.length 0+c)%1000000000]=(a.getD o.length 0+b.getD o.length 0+c)%1000000000:=by simp[AI]
   rw[e,EC BT,Ei,<-Int.add_assoc]
   generalize a.getD o.length 0=X at*
   generalize b.getD o.length 0=Y at*
   have hd:X+Y+c=(X+Y+c)%1000000000+BT*((X+Y+c)/1000000000):=by unfold BT;omega
   have:BJ o.length*((X+Y+c)%1000000000)+BJ o.length*(BT*((X+Y+c)/1000000000))=BJ o.length*X+BJ o.length*Y+BJ o.length*c:=AY;omega
  ·grind
 ·rw[Jr,Jr,Ik,Ik,Ik] at hc;have hc0:c=0:=A4;subst hc0;refine AU ⟨h1,?_,h4⟩;rw[Cd A4,Cd A4] at h6;omega
theorem uh(ha:CS a)(hb:CS b)(hl:b.length<=a.length)(hla:a.length<4398046511)(hv:AI b<=AI a):Yd (λw=>G1 w/\AI w=AI a-AI b/\w.length<=a.length) (XT a b):=by
 unfold XT;refine Ea (λs:A3 Int×Int×Int=>CS s.1/\(s.2.1=0\/s.2.1=1)/\s.2.2=s.1.length/\s.1.length<=a.length/\
   AI s.1=AI (a.take s.1.length)-AI (b.take s.1.length)+BJ s.1.length*s.2.1) (λs=>a.length-s.1.length) ?_ _ _ ⟨fy,.inl rfl,rfl,AS,by simp[AI]⟩ (by dsimp only;simp;omega)
 rintro next ⟨o,c,i⟩ ⟨h1,h2,h3,h4,h5⟩ hn
 dsimp only at h1 h2 h3 h4 h5 hn⊢;subst h3;refine Ad (λhc=>?_)<|λhc=>?_
 ·have hc:=An hc;obtain⟨xa,xb⟩:=HU ha o.length;obtain⟨ya,yb⟩:=HU hb o.length;refine A5 (Bc A4) (A5 nY (A5 (EZ ⟨by unfold BT at*;omega,by unfold BT at*;omega⟩) (A5 (EZ ⟨by unfold BT at*;omega,by unfold BT at*;omega⟩) ?_)));have step:∀d x:Int,(d=0\/d=1)->0<=x->x<1000000000->x=a.getD o.length 0-b.getD o.length 0-c+BT*d->Yd (λw=>G1 w/\AI w=AI a-AI b/\w.length<=a.length) (bd (BH 8 o [x]) λBY=>bd (AG<|(o.length:Int)+1) λBi=>next (BY,d,Bi)):=by
   intro d x hd hx0 hx1 hx;refine A5 (ax A4)<|A5 BC<|hn _ ⟨?_,hd,?_,?_,?_⟩ ?_
   ·rw[eC];exact⟨h1,λy hy=>by rw[DV] at hy;subst hy;unfold BT;omega⟩
   ·grind
   ·grind
   ·dsimp only;rw[ED,Ij,RN,Ic,Ic,Jm,h5];have e:AI [x]=x:=by simp[AI]
    rw[e,EC BT,Ei,hx]
    generalize a.getD o.length 0=X at*
    generalize b.getD o.length 0=Y at*
    have:BJ o.length*(X-Y-c+BT*d)=BJ o.length*X-BJ o.length*Y-BJ o.length*c+BJ o.length*(BT*d):=AY;omega
   ·grind
  refine Du (λp:Int×Int=>(p.1=0\/p.1=1)/\0<=p.2/\p.2<1000000000/\p.2=a.getD o.length 0-b.getD o.length 0-c+BT*p.1) (λp hp=>step p.1 p.2 hp.1 hp.2.1 hp.2.2.1 hp.2.2.2) λk hk=>Ad (λhd=>?_)<|λhd=>?_
  ·have hd:=An hd;refine A5 (EZ ⟨by unfold BT at*;omega,by unfold BT at*;omega⟩) (hk _ ⟨.inr rfl,?_,?_,?_⟩)<;>(dsimp only;unfold BT at*;omega)
  ·grind
 ·have hc:=BQ hc;have hlen:o.length=a.length:=A4;rw[Cd A4,Cd A4] at h5;obtain⟨z1,z2⟩:=F6 h1;have hc0:c=0:=AY;subst hc0;refine Az (TT h1 A4) λw ⟨g1,g2,g3⟩=>AU ⟨g1,by rw[g2,h5];omega,A4⟩
theorem v8{d:Int}(ha:CS a)(hd:0<d/\d<1000000000)(hl:a.length<1099511627776):Yd (λp=>G1 p.1/\AI p.1=AI a/d/\p.2=AI a%d/\p.1.length<=a.length) (Xb a d):=by
 unfold Xb;refine A5 (Qi A4 A4 A4)<|A5 BC ?_
 refine Ea (λs:A3 Int×Int×Int=>CS s.1/\s.1.length=a.length/\(0<=s.2.1/\s.2.1<d)/\ -1<=s.2.2/\s.2.2<a.length/\AI (a.drop (s.2.2+1).toNat)=AI (s.1.drop (s.2.2+1).toNat)*d+s.2.1) (λs=>(s.2.2+1).toNat) ?_ _ _
  ⟨lR _,by simp only[NT];omega,⟨Au,Au⟩,Au,Au,?_⟩ Au
 rotate_left
 ·have e:((a.length:Int)-1+1).toNat=a.length:=A4;dsimp only;rw[e,Rz,Mo (by simp only[NT];omega)];simp[AI]
 rintro next ⟨o,r,i⟩ ⟨h1,h2,⟨h3,h3'⟩,h4,h5,h6⟩ hn
 dsimp only at h1 h2 h3 h3' h4 h5 h6 hn⊢;refine Ad (λhc=>?_)<|λhc=>?_
 ·have hc:=An hc;obtain⟨n,rfl⟩:=F8 hc;have en:(((n:Nat):Int)+1).toNat=n+1:=A4;rw[en] at h6;obtain⟨xa,xb⟩:=HU ha n;have hx:0<=r*1000000000+a.getD n 0/\r*1000000000+a.getD n 0<d*1000000000:=AY;have hq0:=Kz hx.1<|EM hd.1
  have hq1:(r*1000000000+a.getD n 0)/d<1000000000:=by
   apply ZQ hd.1;omega
  have Kd:=Ld (r*1000000000+a.getD n 0) (show d≠0 by omega);have hr1:=L1 (r*1000000000+a.getD n 0) hd.1;refine A5 BC (A5 (Bc A4) (A5 BC (A5 (div_pos hx.1 hd.1 A4) (A5 (Bc A4) (A5 (Bc A4) (A5 (QB hx.1 hd.1) (A5 BC (hn _ ⟨Z2 h1 _ ⟨hq0,hq1⟩,by simpa using h2,⟨Kd,hr1⟩,Au,Au,?_⟩ ?_))))))))
  ·dsimp only;have e2:(((n:Nat):Int)-1+1).toNat=n:=A4;rw[e2,Ch,dW A4,O8 (show n<a.length by omega),MY,MY,h6];have hdm:=Int.mul_ediv_add_emod (r*1000000000+a.getD n 0) d
   generalize (r*1000000000+a.getD n 0)/d=q at*
   generalize (r*1000000000+a.getD n 0)%d=m at*
   rw[HY,Ct,Ei BT,EC q d];unfold BT;omega
  ·dsimp only;omega
 ·have hc:=BQ hc;have:i= -1:=A4;subst this;have h6:AI a=AI o*d+r:=by simpa using h6
  refine Az (TT h1 A4) λw ⟨g1,g2,g3⟩=>AU ⟨g1,?_,?_,Au⟩
  ·dsimp only;rw[g2];exact(YL h6 h3 h3').1
  ·exact(YL h6 h3 h3').2
theorem lO(ha:CS a)(hb:CS b)(hla:a.length<4398046511)(hlb:b.length<4398046511):Yd (λw=>G1 w/\AI w=AI a*AI b/\w.length<=a.length+b.length) (Ul a b):=by
 unfold Ul;refine A5 BC<|A5 (Qi A4 A4 A4) ?_
 refine Ea (λs:A3 Int×Int=>CS s.1/\s.1.length=a.length+b.length/\0<=s.2/\s.2<=a.length/\(∀m,s.2.toNat+b.length<=m->s.1.getD m 0=0)/\AI (s.1.take<|s.2.toNat+b.length)=AI (a.take s.2.toNat)*AI b)
  (λs:A3 Int×Int=>a.length-s.2.toNat) ?_ _ _ ⟨lR _,by simp only[NT];omega,Au,Au,λm _=>oY,?_⟩ Au
 rotate_left
 ·dsimp only;rw[ZP,uK];simp[AI]
 rintro next ⟨o,i⟩ ⟨h1,h2,h3,h4,hz,h5⟩ hn
 simp only at h1 h2 h3 h4 hz h5 hn⊢;obtain⟨n,rfl⟩:=F8 h3;simp only[Ch,MF] at*;refine Ad (λhc=>?_)<|λhc=>?_
 ·have hc:=An hc;refine Ea (λs:A3 Int×Int×Int=>CS s.1/\s.1.length=a.length+b.length/\(0<=s.2.1/\s.2.1<BT)/\0<=s.2.2/\s.2.2<=b.length/\s.1.drop (n+s.2.2.toNat)=o.drop (n+s.2.2.toNat)/\
    AI (s.1.take<|n+s.2.2.toNat)+BJ (n+s.2.2.toNat)*s.2.1=AI (o.take<|n+s.2.2.toNat)+BJ n*(a.getD n 0*AI (b.take s.2.2.toNat)))
   (λs:A3 Int×Int×Int=>b.length-s.2.2.toNat) ?_ _ _ ⟨h1,h2,⟨Au,by dsimp only;unfold BT;omega⟩,Au,Au,rfl,by simp[AI]⟩ Au
  rintro HG ⟨p,c,j⟩ ⟨g1,g2,g3,g4,g5,g6,g7⟩ IY;simp only at g1 g2 g3 g4 g5 g6 g7 IY⊢;obtain⟨m,rfl⟩:=F8 g4;simp only[Ch,MF] at*;have eo:p.getD (n+m) 0=o.getD (n+m) 0:=by
   have:=congrArg (λl=>l.getD 0 0) g6;simpa[IF,Tv] using this
  refine Ad (λhd=>?_)<|λhd=>?_
  ·have hd:=An hd;have enm:((n:Nat):Int)+((m:Nat):Int)=((n+m:Nat):Int):=A4;obtain⟨xa,xb⟩:=HU ha n;obtain⟨ya,yb⟩:=HU hb m;obtain⟨oa,ob⟩:=HU g1<|n+m
   have Mw:a.getD n 0*b.getD m 0<=(BT-1)*(BT-1):=PI A4 A4 ya (by unfold BT;omega);have avE:0<=a.getD n 0*b.getD m 0:=Ky xa ya;have hS:0<=p.getD (n+m) 0+a.getD n 0*b.getD m 0+c/\p.getD (n+m) 0+a.getD n 0*b.getD m 0+c<BT*BT:=AY;rw[enm];refine A5 BC (A5 (Bc A4) (A5 (Bc A4) (A5 (Bc A4) (A5 (Bc A4) (A5 (EZ ⟨A4,by unfold BT at*;omega⟩) (A5 (EZ ⟨A4,by unfold BT at*;omega⟩) (A5 (EZ ⟨A4,by unfold BT at*;omega⟩) (A5 BC (A5 (QB hS.1 A4) (A5 (Bc A4) (A5 (Bc A4) (A5 (div_pos hS.1 A4 (by unfold BT at*;omega))<|A5 BC ?_))))))))))));have hdm:p.getD (n+m) 0+a.getD n 0*b.getD m 0+c=(p.getD (n+m) 0+a.getD n 0*b.getD m 0+c)%1000000000+BT*((p.getD (n+m) 0+a.getD n 0*b.getD m 0+c)/1000000000):=by unfold BT;omega
   have hr:0<=(p.getD (n+m) 0+a.getD n 0*b.getD m 0+c)%1000000000/\(p.getD (n+m) 0+a.getD n 0*b.getD m 0+c)%1000000000<BT:=by unfold BT;omega
   have hq:0<=(p.getD (n+m) 0+a.getD n 0*b.getD m 0+c)/1000000000/\(p.getD (n+m) 0+a.getD n 0*b.getD m 0+c)/1000000000<BT:=AY;refine IY _ ⟨Z2 g1 _ hr,by simpa using g2,hq,Au,Au,?_,?_⟩ Au
   ·have e:(((m:Nat):Int)+1).toNat=m+1:=A4;simp only[e,Ch];rw[gk A4,<-Kx];have:=congrArg (List.drop 1) g6;rwa [FW,FW] at this
   ·have e:(((m:Nat):Int)+1).toNat=m+1:=A4;simp only[e,Ch];rw[<-Kx,Ic,HB<|BM _,Ie A4,Ic o,Ic b,<-eo,Jm]
    generalize (p.getD (n+m) 0+a.getD n 0*b.getD m 0+c)%1000000000=R at*
    generalize (p.getD (n+m) 0+a.getD n 0*b.getD m 0+c)/1000000000=Q at*
    have k1:BJ n*(a.getD n 0*(AI (b.take m)+BJ m*b.getD m 0))=BJ n*(a.getD n 0*AI (b.take m))+BJ (n+m)*(a.getD n 0*b.getD m 0):=by
     rw[Ct,Ct,fe,GC (a.getD n 0)<|BJ m,Ei]
    have k2:BJ (n+m)*R+BT*BJ (n+m)*Q=BJ (n+m)*(a.getD n 0*b.getD m 0)+BJ (n+m)*p.getD (n+m) 0+BJ (n+m)*c:=AY;rw[k1];omega
  ·have hd:=BQ hd;have hm':m=b.length:=A4;subst hm';have enm:((n:Nat):Int)+((b.length:Nat):Int)=((n+b.length:Nat):Int):=A4;have hz0:p.getD (n+b.length) 0=0:=AY;rw[enm];refine A5 BC (A5 BC (A5 (Bc A4) (A5 (Bc A4) (A5 (EZ ⟨A4,by unfold BT at*;omega⟩)<|A5 (Bc A4)<|A5 (Bc A4)<|A5 BC ?_))));rw[hz0,Int.zero_add];refine hn _ ⟨Z2 g1 _ g3,by simpa using g2,Au,Au,?_,?_⟩ Au
   ·intro m hm;have e:(((n:Nat):Int)+1).toNat=n+1:=A4;simp only[e,Ch] at hm⊢;rw[getD_set_ne A4];have:=congrArg (λl=>l.getD (m-(n+b.length)) 0) g6;have h':p.getD m 0=o.getD m 0:=AY;rw[h'];exact hz m A4
   ·have e:(((n:Nat):Int)+1).toNat=n+1:=A4;simp only[e,Ch];rw[show n+1+b.length=n+b.length+1 by omega,Ic,HB<|BM _,Ie A4,g7,h5,Ic a,Cd<|BM _,HY,Ei]
 ·have hc:=BQ hc;have H9:n=a.length:=A4;subst H9;refine Az (TT h1 A4) λw ⟨q1,q2,q3⟩=>AU ⟨q1,?_,A4⟩
  rw[q2];rw[Cd (l:=o) A4,Cd (l:=a) A4] at h5;exact h5
theorem fG(h:i<n):((u.drop j).take n).getD i 0=u.getD (j+i) 0:=by grind
def EP{α:Type}{g:Bool}{d:α}{e:A9 α}{K:α->A9 ρ}(h:g=false):Aq g d e K=K d:=by subst h;rfl
def CU{α:Type}{g:Bool}{d:α}{e:A9 α}{K:α->A9 ρ}(h:g=true):Aq g d e K=bd e K:=by subst h;rfl
def aie(hu:CS u)(hv:CS v)(hvl:v.length=k+2)(hul:j+(k+3)<=u.length)(hlen:u.length<4398046511)(X9:BT<=2*v.getD (k+1) 0)
 (hw:w=(u.drop j).take (k+3))(hlt:AI w<BT*AI v):
  Yd (λq=>(0<=q/\q<BT)/\(q-1)*AI v<=AI w/\AI w<(q+1)*AI v) (Xz u v (j:Int)):=by
 unfold Xz;have hwo:CS w:=by rw[hw];exact M4 (TW hu _) _
 have hwl:w.length=k+3:=by rw[hw,Dn,IC];omega
 have eU:=ahp hwl;have eV:=ahs hvl;obtain⟨bU0,bU1⟩:=F6<|M4 hwo k
 obtain⟨bV0,bV1⟩:=F6<|M4 hv k
 rw[Dn,EN A4] at bU1 bV1;have hP:=NF k;have hu0:=HU hwo k;have hu1:=HU hwo<|k+1
 have hu2:=HU hwo<|k+2
 have I2:=HU hv k;have hv1:=HU hv<|k+1
 have w0:u.getD (j+k) 0=w.getD k 0:=by rw[hw,fG A4]
 have w1:u.getD (j+(k+1)) 0=w.getD (k+1) 0:=by rw[hw,fG A4]
 have w2:u.getD (j+(k+2)) 0=w.getD (k+2) 0:=by rw[hw,fG A4]
 have hVP:0<=AI v:=(F6 hv).1;have hU0:0<=AI w:=(F6 hwo).1;have abc:w.getD (k+2) 0<=v.getD (k+1) 0:=aod hP bU0 hu0.1 hu1.1 bV1 I2.2 (by rw[<-eU,<-eV];exact hlt);have e1:((v.length:Int)-1)=((k+1:Nat):Int):=A4;have e2:((v.length:Int)-2)=((k:Nat):Int):=A4;have e3:((j:Int)+(v.length:Int))=((j+(k+2):Nat):Int):=A4;have e4:(((j+(k+2):Nat):Int)-1)=((j+(k+1):Nat):Int):=A4;have e5:(((j+(k+2):Nat):Int)-2)=((j+k:Nat):Int):=A4;rw[e1,e2,e3];have i2:AA u ((j+(k+2):Nat):Int)=some (w.getD (k+2) 0):=by rw[<-w2];exact Bc A4
 have i1:AA u ((j+(k+1):Nat):Int)=some (w.getD (k+1) 0):=by rw[<-w1];exact Bc A4
 have i0:AA u ((j+k:Nat):Int)=some (w.getD k 0):=by rw[<-w0];exact Bc A4
 have v1:AA v ((k+1:Nat):Int)=some (v.getD (k+1) 0):=Bc A4;have v0:AA v ((k:Nat):Int)=some (v.getD k 0):=Bc A4;clear w0 w1 w2 hw
 generalize w.getD (k+2) 0=U2 at*
 generalize w.getD (k+1) 0=U1 at*
 generalize w.getD k 0=U0 at*
 generalize v.getD (k+1) 0=V1 at*
 generalize v.getD k 0=V0 at*
 have hV1:0<V1:=by unfold BT at*;omega
 have hT:0<=U2*1000000000+U1/\U2*1000000000+U1<1000000000000000000:=by unfold BT at*;omega
 refine A5 BC (A5 i2 (A5 (EZ ⟨A4,by unfold BT at*;omega⟩)<|A5 BC ?_));rw[e4];refine A5 BC<|A5 i1<|A5 BC<|A5 BC<|A5 v1<|A5 (div_pos hT.1 hV1 A4)<|A5 BC<|A5 v1<|A5 (QB hT.1 hV1) ?_
 have ht0:=Kz hT.1<|EM hV1
 have Kd:=Ld (U2*1000000000+U1) (show V1≠0 by omega);have hr1:=L1 (U2*1000000000+U1) hV1;have hdm:=Int.mul_ediv_add_emod (U2*1000000000+U1) V1;have ht1:(U2*1000000000+U1)/V1<=1000000001:=by
  apply Int.le_of_lt_add_one;apply ZQ hV1;have:(1000000001+1)*V1=1000000000*V1+2*V1:=A4;unfold BT at*;omega
 have aol:∀t r:Int,t*V1+r=U1+BT*U2->BT<=r->t<BT:=λt r e h=>by
  refine Int.lt_of_mul_lt_mul_right (a:=V1) ?_<|EM hV1
  have:BT*U2<=BT*V1:=Ey abc (by unfold BT;omega);unfold BT at*;omega
 refine Ea (λs:Int×Int=>(0<=s.1/\s.1<=1000000001)/\(0<=s.2/\s.2<BT)/\s.1*V1+s.2=U1+BT*U2/\AI w<(s.1+1)*AI v) (λs=>s.1.toNat) ?_ _ _ ⟨⟨ht0,ht1⟩,⟨Kd,by unfold BT at*;dsimp only;omega⟩,?_,?_⟩ Au
 rotate_left
 ·dsimp only;rw[Int.mul_comm _ V1,hdm];unfold BT;omega
 ·dsimp only;have:=amx (u0:=U0) (v0:=V0) (q:=(U2*1000000000+U1)/V1) (r:=(U2*1000000000+U1)%V1) (U2:=U1+BT*U2) (v1:=V1) (by rw[Int.mul_comm _ V1,hdm];unfold BT;omega) hr1 hu0.2 ht0 I2.1;have:=j7 hP bU1 bV0 (show 0<=(U2*1000000000+U1)/V1+1 by omega) this;rw[<-eU,<-eV] at this;exact this
 clear ht0 Kd hr1 hdm ht1 hT;rintro next ⟨t,r⟩ ⟨⟨h1,h1'⟩,⟨h2,h2'⟩,h3,h4⟩ hn
 dsimp only at h1 h1' h2 h2' h3 h4 hn⊢;have fin:∀q R:Int,(0<=q/\q<BT)->0<=R->q*V1+R=U1+BT*U2->AI w<(q+1)*AI v->(BT<=R\/q*V0<=BT*R+U0)->Yd (λq=>(0<=q/\q<BT)/\(q-1)*AI v<=AI w/\AI w<(q+1)*AI v) (some q):=λq R hq hR e hup hh=>by
  refine AU ⟨hq,?_,hup⟩;have:=an0 (P:=BJ k) (UL:=AI<|w.take k) (VL:=AI<|v.take k) e hq hR I2 hu0.1 X9 hh hP bU0 bV1 bV0;rw[<-eU,<-eV] at this;exact this
 have step:AI w<t*AI v->Yd (λq=>(0<=q/\q<BT)/\(q-1)*AI v<=AI w/\AI w<(q+1)*AI v) (bd (AG<|t-1) λHy=>bd (AG ((k+1:Nat):Int)) λHI=>bd (AA v HI) λGI=>bd (AG<|r+GI) λGJ=>cond (decide<|1000000000<=GJ) (some Hy)<|next (Hy,GJ)):=λhUq=>by
  have hq1:1<=t:=by
   rcases(show 1<=t\/t=0 by omega) with h|h
   ·exact h
   ·rw[h,Int.zero_mul] at hUq;omega
  refine A5 BC (A5 BC (A5 v1 (A5 (EZ ⟨A4,by unfold BT at*;omega⟩)<|Ad (λhc=>?_)<|λhc=>?_)))
  ·have hc:=An hc;have hc:BT<=r+V1:=hc;have e:(t-1)*V1+(r+V1)=U1+BT*U2:=by rw[Int.sub_mul,Int.one_mul];omega
   exact fin (t-1) (r+V1) ⟨A4,aol _ _ e hc⟩ A4 e (by rw[show t-1+1=t by omega];exact hUq)<| .inl hc
  ·have hc:=BQ hc;have hc: ¬BT<=r+V1:=hc;refine hn _ ⟨⟨Au,Au⟩,⟨Au,Au⟩,?_,?_⟩ Au
   ·dsimp only;rw[Int.sub_mul,Int.one_mul];omega
   ·dsimp only;rw[show t-1+1=t by omega];exact hUq
 by_cases hb:(1000000000:Int)<=t
 ·have hd:=B0 hb;have g1:gd (decide<|(1000000000:Int)<=t) false=false:=by rw[hd];rfl
  repeat rw[EP g1]
  refine Ad (λ_=>step ?_) (λh=>by rw[hd,Vx] at h;cases h);have:BT*AI v<=t*AI v:=MH (by unfold BT;omega) hVP;omega
 ·have hd:=Bl hb;have g1:gd (decide<|(1000000000:Int)<=t) false=true:=by rw[hd];rfl
  have hb0:0<=t*V0/\t*V0<=1000000000*1000000000:=⟨Ky h1 I2.1,PI A4 (by unfold BT at*;omega) I2.1 A4⟩;rw[CU g1];refine A5 BC ?_;rw[CU g1];refine A5 v0 ?_;rw[CU g1];refine A5 BC ?_;rw[CU g1];refine A5 (EZ ⟨A4,by unfold BT at*;omega⟩) ?_;rw[CU g1];refine A5 BC ?_;rw[e5,CU g1];refine A5 BC ?_;rw[CU g1];refine A5 i0 ?_;rw[CU g1];refine A5 (EZ ⟨A4,by unfold BT at*;omega⟩)<|Ad (λhc=>?_)<|λhc=>?_
  ·rw[hd,Tl] at hc;have hc:=An hc;refine step ?_;have hUq:=j7 hP bU1 bV0 h1 (amu (q:=t) (r:=r) (v1:=V1) (U2:=U1+BT*U2) (u0:=U0) (v0:=V0) h3 (by unfold BT;omega));rw[<-eU,<-eV] at hUq;exact hUq
  ·rw[hd,Tl] at hc;have hc:=BQ hc;exact fin t r ⟨h1,by unfold BT;omega⟩ h2 h3 h4 (.inr (by unfold BT;omega))
def ji:(l.set (j+i) x).drop j=(l.drop j).set i x:=by
 rw[List.drop_set,if_neg A4,Nat.add_sub_cancel_left]
theorem Wv:(l.drop j).getD i 0=l.getD (j+i) 0:=by grind
theorem ah1{t:Int}{bC:A3 Int×Int×Int->A9 ρ}(hu:CS u)(hv:CS v)(hvl:v.length=n)(hj:j+n<=u.length)(hl:u.length<4398046511)(ht:0<=t/\t<BT)
 (h:∀u2 b,CS u2->u2.length=u.length->u2.take j=u.take j->(∀m,j+n<=m->u2.getD m 0=u.getD m 0)->(0<=b/\b<BT)->AI ((u2.drop j).take n)=AI ((u.drop j).take n)-t*AI v+BJ n*b->Yd R (bC (u2,b,(n:Int)))):
  Yd R (lp 18446744073709551616 (λ(k46:(A3 Int×Int×Int)->A9 ρ) (D5:A3 Int×Int×Int)=>
        cond (decide<|D5.2.2<(v.length:Int)) (
         bd (AA v D5.2.2) λHI=>
         bd (AG<|t*HI) λGI=>
         bd (AG<|GI+D5.2.1) λGJ=>
         bd (AG<|D5.2.2+(j:Int)) λHK=>
         bd (AA D5.1 HK) λK3=>
         bd (AA D5.1 HK) λJb=>
         bd (Fy GJ (1000000000:Int)) λLs=>
         bd (AG<|Jb-Ls) λIt=>
         bd (Gi GJ (1000000000:Int)) λx64=>
         jn (λ(s66:Int×Int)=>
          bd (AG<|D5.2.2+(j:Int)) λJc=>
          bd (AA D5.1 Jc) λx75=>
          bd (AA D5.1 Jc) λNv=>
          bd (AG<|D5.2.2+(1:Int)) λx79=>
          k46 ((D5.1.set (Jc).toNat s66.2),s66.1,x79)
         ) λk67=>
         cond (decide<|It<(0:Int)) (
          bd (AG<|It+(1000000000:Int)) λx69=>
          bd (AG<|x64+(1:Int)) λx71=>
          k67 (x71,x69)
         ) (
          k67 (x64,It)
         )
        ) (bC D5)) (u,(0:Int),(0:Int))):=by
 subst hvl;refine Ea (λs:A3 Int×Int×Int=>CS s.1/\s.1.length=u.length/\s.1.take j=u.take j/\(∀m,j+s.2.2.toNat<=m->s.1.getD m 0=u.getD m 0)/\(0<=s.2.1/\s.2.1<BT)/\(0<=s.2.2/\s.2.2<=v.length)/\AI ((s.1.drop j).take s.2.2.toNat)=AI ((u.drop j).take s.2.2.toNat)-t*AI (v.take s.2.2.toNat)+BJ s.2.2.toNat*s.2.1)
  (λs=>v.length-s.2.2.toNat) ?_ _ _ ⟨hu,rfl,rfl,λ_ _=>rfl,⟨Au,by dsimp only;unfold BT;omega⟩,⟨Au,Au⟩,by simp[AI]⟩ Au
 rintro next ⟨p,c,z⟩ ⟨g1,g2,g3,g4,g5,⟨g6,g6'⟩,g7⟩ hn
 dsimp only at g1 g2 g3 g4 g5 g6 g6' g7 hn⊢;obtain⟨i,rfl⟩:=F8 g6;simp only[Ch,MF] at*;refine Ad (λhc=>?_)<|λhc=>?_
 ·have hc:=An hc;have hi:i<v.length:=A4;have hx:=HU hv i;have hy:=HU g1<|j+i
  have hm0:0<=t*v.getD i 0:=Ky ht.1 hx.1;have hm1:t*v.getD i 0<=(BT-1)*(BT-1):=PI A4 A4 hx.1 (by unfold BT;omega);have ej:(((i:Nat):Int)+((j:Nat):Int))=((j+i:Nat):Int):=A4;have gu:p.getD (j+i) 0=u.getD (j+i) 0:=g4 _<|BM _
  refine A5 (Bc hi) (A5 (EZ ⟨A4,by unfold BT at*;omega⟩) (A5 (EZ ⟨A4,by unfold BT at*;omega⟩)<|A5 BC ?_));rw[ej];have step:∀d x:Int,(0<=d/\d<BT)->(0<=x/\x<BT)->x=u.getD (j+i) 0-(t*v.getD i 0+c)+BT*d->
    Yd R (bd (AG ((j+i:Nat):Int)) λJc=>bd (AA p Jc) λx75=>bd (AA p Jc) λNv=>bd (AG<|((i:Nat):Int)+(1:Int)) λx79=>next ((p.set (Jc).toNat x),d,x79)):=by
   intro d x hd hx0 hxe;refine A5 BC<|A5 (Bc A4)<|A5 (Bc A4)<|A5 BC<|hn _ ⟨Z2 g1 _ hx0,?_,?_,?_,hd,⟨?_,?_⟩,?_⟩ ?_
   ·simpa using g2
   ·rw[Ch,HB A4];exact g3
   ·intro m hm;dsimp only at hm⊢;rw[Ch,getD_set_ne A4];exact g4 m A4
   ·dsimp only;omega
   ·dsimp only;omega
   ·dsimp only;have e:(((i:Nat):Int)+1).toNat=i+1:=A4;rw[e,Ch,ji,Ic,HB<|BM _,Ie (by rw[IC];omega),Ic,Ic,g7,Wv,Jm,hxe]
    generalize u.getD (j+i) 0=X at*
    generalize v.getD i 0=Y at*
    rw[Ct t,GC t];have:BJ i*(X-(t*Y+c)+BT*d)=BJ i*X-BJ i*(t*Y)-BJ i*c+BT*BJ i*d:=AY;omega
   ·dsimp only;omega
  rw[gu] at hy;refine A5 (Bc A4)<|A5 (Bc A4)<|A5 (QB A4 A4) ?_
  rw[gu]
  generalize hq:t*v.getD i 0=q at*
  refine A5 (EZ ⟨by unfold BT at*;omega,by unfold BT at*;omega⟩) (A5 (div_pos A4 A4 (by unfold BT at*;omega)) ?_);refine Du (λs:Int×Int=>(0<=s.1/\s.1<BT)/\(0<=s.2/\s.2<BT)/\s.2=u.getD (j+i) 0-(q+c)+BT*s.1) (λs hs=>step s.1 s.2 hs.1 hs.2.1 hs.2.2) λk hk=>Ad (λhd=>?_)<|λhd=>?_
  ·have hd:=An hd;refine A5 (EZ ⟨by unfold BT at*;omega,by unfold BT at*;omega⟩) (A5 (EZ ⟨by unfold BT at*;omega,by unfold BT at*;omega⟩)<|hk _ ⟨?_,?_,?_⟩)<;>(dsimp only;unfold BT at*;omega)
  ·grind
 ·grind
theorem agJ{bC:A3 Int×Int×Int->A9 ρ}(hu:∀m,m≠j+n->0<=u.getD m 0/\u.getD m 0<BT)(hv:CS v)(hvl:v.length=n)(hj:j+n<u.length)(hl:u.length<4398046511)
 (h:∀u2 b,u2.length=u.length->u2.take j=u.take j->(∀m,j+n<=m->u2.getD m 0=u.getD m 0)->(∀m,m≠j+n->0<=u2.getD m 0/\u2.getD m 0<BT)->(b=0\/b=1)->AI ((u2.drop j).take n)+BJ n*b=AI ((u.drop j).take n)+AI v->Yd R (bC (u2,b,(n:Int)))):
  Yd R (lp 18446744073709551616 (λ(aW:(A3 Int×Int×Int)->A9 ρ) (DQ:A3 Int×Int×Int)=>
           cond (decide<|DQ.2.2<(v.length:Int)) (
            bd (AG<|DQ.2.2+(j:Int)) λIL=>
            bd (AA DQ.1 IL) λL9=>
            bd (AA DQ.1 IL) λKT=>
            bd (AA v DQ.2.2) λMs=>
            bd (AG<|KT+Ms) λNi=>
            bd (AG<|Ni+DQ.2.1) λMu=>
            bd (AG<|DQ.2.2+(j:Int)) λLj=>
            bd (Fy Mu (1000000000:Int)) λQr=>
            bd (AA DQ.1 Lj) λX6=>
            bd (AA DQ.1 Lj) λX5=>
            bd (Gi Mu (1000000000:Int)) λX4=>
            bd (AG<|DQ.2.2+(1:Int)) λX3=>
            aW ((DQ.1.set (Lj).toNat Qr),X4,X3)
           ) (bC DQ)) (u,(0:Int),(0:Int))):=by
 subst hvl;refine Ea (λs:A3 Int×Int×Int=>s.1.length=u.length/\s.1.take j=u.take j/\(∀m,j+s.2.2.toNat<=m->s.1.getD m 0=u.getD m 0)/\(∀m,m≠j+v.length->0<=s.1.getD m 0/\s.1.getD m 0<BT)/\(s.2.1=0\/s.2.1=1)/\(0<=s.2.2/\s.2.2<=v.length)/\AI ((s.1.drop j).take s.2.2.toNat)+BJ s.2.2.toNat*s.2.1=AI ((u.drop j).take s.2.2.toNat)+AI (v.take s.2.2.toNat))
  (λs=>v.length-s.2.2.toNat) ?_ _ _ ⟨rfl,rfl,λ_ _=>rfl,hu,.inl rfl,⟨Au,Au⟩,by simp[AI]⟩ Au
 rintro next ⟨p,c,z⟩ ⟨g2,g3,g4,g1,g5,⟨g6,g6'⟩,g7⟩ hn
 dsimp only at g1 g2 g3 g4 g5 g6 g6' g7 hn⊢;obtain⟨i,rfl⟩:=F8 g6;simp only[Ch,MF] at*;refine Ad (λhc=>?_)<|λhc=>?_
 ·have hc:=An hc;have hi:i<v.length:=A4;have hx:=HU hv i;have hy:=g1 (j+i) A4;have ej:(((i:Nat):Int)+((j:Nat):Int))=((j+i:Nat):Int):=A4;have gu:p.getD (j+i) 0=u.getD (j+i) 0:=g4 _<|BM _
  rw[ej];rw[gu] at hy;have hS:0<=u.getD (j+i) 0+v.getD i 0+c/\u.getD (j+i) 0+v.getD i 0+c<2000000000:=AY;have i1:AA p ((j+i:Nat):Int)=some (u.getD (j+i) 0):=by rw[<-gu];exact Bc A4
  have hdm:u.getD (j+i) 0+v.getD i 0+c=(u.getD (j+i) 0+v.getD i 0+c)%1000000000+BT*((u.getD (j+i) 0+v.getD i 0+c)/1000000000):=by unfold BT;omega
  have hr:0<=(u.getD (j+i) 0+v.getD i 0+c)%1000000000/\(u.getD (j+i) 0+v.getD i 0+c)%1000000000<BT:=by unfold BT;omega
  have hd:(u.getD (j+i) 0+v.getD i 0+c)/1000000000=0\/(u.getD (j+i) 0+v.getD i 0+c)/1000000000=1:=A4;refine A5 BC (A5 i1 (A5 i1 (A5 (Bc hi) (A5 (EZ ⟨A4,by unfold BT at*;omega⟩)<|A5 BC<|A5 BC<|A5 (QB hS.1 A4)<|A5 i1<|A5 i1<|A5 (div_pos hS.1 A4 A4)<|A5 BC<|hn _ ⟨?_,?_,?_,?_,hd,⟨?_,?_⟩,?_⟩ ?_))))
  ·simpa using g2
  ·rw[Ch,HB A4];exact g3
  ·grind
  ·intro m hm;dsimp only;rw[Ch];by_cases e:m=j+i
   ·grind
   ·rw[getD_set_ne e];exact g1 m hm
  ·dsimp only;omega
  ·dsimp only;omega
  ·dsimp only;have e:(((i:Nat):Int)+1).toNat=i+1:=A4;rw[e,Ch,ji,Ic,HB<|BM _,Ie (by rw[IC];omega),Ic,Ic,Wv,Jm]
   generalize (u.getD (j+i) 0+v.getD i 0+c)%1000000000=r at*
   generalize (u.getD (j+i) 0+v.getD i 0+c)/1000000000=d at*
   generalize u.getD (j+i) 0=X at*
   generalize v.getD i 0=Y at*
   have:BJ i*r+BT*BJ i*d=BJ i*X+BJ i*Y+BJ i*c:=AY;omega
  ·dsimp only;omega
 ·grind
theorem zL{t:Int}(h1:1<=t)(h2:t<1000000000)(hf:f=1000000000/(t+1)):1<=f/\f<=500000000/\(t+1)*f<=1000000000/\1000000000<=2*(t*f):=by
 have hp:(0:Int)<t+1:=A4;have a1:(t+1)*f<=1000000000:=by rw[hf,EC];exact Int.ediv_mul_le _ A4
 have a2:1000000000<(f+1)*(t+1):=by rw[hf];exact Int.lt_ediv_add_one_mul_self _ hp
 have a3:1<=f:=by
  rw[hf];exact(Int.le_ediv_iff_mul_le hp).2 A4
 have a4:f<=500000000:=by
  have:2*f<=(t+1)*f:=MH A4 A4;omega
 refine⟨a3,a4,a1,?_⟩;rw[HY,Ho] at a2;have e:(t+1)*f=t*f+f:=AY;have e2:f*(t+1)=t*f+f:=AY;rw[e] at a1;rw[e2] at a2;have hP:t<=t*f:=by
  have:t*1<=t*f:=Ey a3 A4;omega
 rcases(show t=1\/1000000000<=2*t\/(2<=t/\2*t<=999999998) by omega) with h|h|⟨h,h'⟩
 ·subst h;omega
 ·omega
 ·rcases(show 1000000000<=2*(t*f)\/2*(t*f)<=999999999 by omega) with h3|h3
  ·exact h3
  ·exfalso;have b1:t*(1000000000-t)<=t*(t*f+f):=Ey A4 A4;have b2:t*(2*(t*f))<=t*999999999:=Ey h3 A4;have b3:0<(t-1)*(999999999-2*t):=Int.mul_pos A4 A4;rw[Me] at b1;rw[Ct] at b1;rw[GC] at b2;rw[Tp,Ho,Me,GC t 2 t] at b3
   generalize t*t=T at*
   generalize t*(t*f)=Q at*
   generalize t*f=P at*
   omega
theorem aoX(hb:G1 b)(hbl:b.length=k+2)(hf:f=1000000000/(b.getD (k+1) 0+1))(hv:G1 v)(hvv:AI v=AI b*f):
  v.length=k+2/\BT<=2*v.getD (k+1) 0/\BJ (k+1)*f<=AI v/\1<=f/\f<=500000000:=by
 have hP:=NF<|k+1
 have hb0:b≠[]:=AY;have l1:=TK hb.1 hb0 hb.2;rw[hbl,show k+2-1=k+1 by omega] at l1;have l2:=Uz (l:=b) (n:=k+1) A4;rw[Cd A4] at l2;obtain⟨l3,l4⟩:=F6<|M4 hb.1<|k+1
 rw[Dn,EN A4] at l4;have ht:=HU hb.1<|k+1
 generalize b.getD (k+1) 0=t at*
 have h1:1<=t:=AY;obtain⟨f1,f2,f3,f4⟩:=zL h1 (by unfold BT at ht;omega) hf;have u1:(AI b+1)*f<=(BJ (k+1)*(t+1))*f:=MH (by rw[Ct,LY];omega) A4;rw[HY,Ho,Ei] at u1;have u2:BJ (k+1)*((t+1)*f)<=BJ (k+1)*BT:=Ey (by unfold BT;omega) A4;have u3:(BJ (k+1)*t)*f<=AI b*f:=MH A4 A4;rw[Ei] at u3;have u4:BJ (k+1)*1<=BJ (k+1)*(t*f):=Ey A4 A4;have u5:BJ (k+1)*f<=BJ (k+1)*(t*f):=Ey (by
  have:1*f<=t*f:=MH h1 A4;omega) A4
 rw[<-hvv] at u1 u3;have aqp:v.length<=k+2:=hv.len (by rw[Jm,EC];omega);have UO:k+2<=v.length:=by
  rcases Hp v.length (k+2) with h|h
  ·have a:=(F6 hv.1).2;have b:=yN (show v.length<=k+1 by omega);omega
  ·exact h
 have hlen:v.length=k+2:=A4;refine⟨hlen,?_,A4,f1,f2⟩;have m2:=Uz (l:=v) (n:=k+1) A4;rw[Cd A4] at m2;obtain⟨m3,m4⟩:=F6<|M4 hv.1<|k+1
 rw[Dn,EN A4] at m4;have m5:BJ (k+1)*(t*f)<BJ (k+1)*(v.getD (k+1) 0+1):=AY;have m6:=iA m5<|EM hP
 unfold BT;omega
theorem am3{x:A3 Int}{L:Nat}{K:A3 Int->A9 ρ}(hx:CS x)(hl:x.length<=L+1)(hL:L<109951162)(h:∀u,CS u->u.length=L+1->AI u=AI x->Yd R (K u)):
  Yd R (lp 18446744073709551616 (λ(Nt:(A3 Int)->A9 ρ) (EK:(A3 Int))=>
    bd (AG<|(L:Int)+(1:Int)) λD7=>
    cond (decide<|(EK.length:Int)<D7) (bd (BH 8 EK ([(0:Int)]:A3 Int)) λEE=>Nt EE) (K EK)) x):=by
 refine Ea (λs:A3 Int=>CS s/\s.length<=L+1/\AI s=AI x) (λs=>L+1-s.length) ?_ _ _ ⟨hx,hl,rfl⟩ A4;rintro next s ⟨h1,h2,h3⟩ hn
 refine A5 BC<|Ad (λhc=>?_)<|λhc=>?_
 ·have hc:=An hc;refine A5 (ax A4) (hn _ ⟨?_,by rw[ED,Ij];omega,?_⟩ (by rw[ED,Ij];omega))
  ·rw[eC];exact⟨h1,λy hy=>by rw[DV] at hy;subst hy;unfold BT;omega⟩
  ·rw[RN];simp[AI,h3]
 ·grind
def aal(h:∀m,0<=l.getD m 0/\l.getD m 0<BT):CS l:=λx hx=>by
 obtain⟨i,hi,rfl⟩:=List.getElem_of_mem hx;have:=h i;rwa [IF,Gy hi] at this
def vt:∀{l:A3 Int},(∀m,l.getD m 0=0)->AI l=0
 |[],_=>rfl
 |x::l,h=>by
  have h0:x=0:=by simpa using h 0
  have:=vt (l:=l) λm=>by simpa using h (m+1)
  rw[MY,h0,this];omega
def top_lt{A V:Int}{L:Nat}(hu:CS u)(hul:u.length=L+1)(hm:m+(k+2)=L+1)(hv:AI u=A*f)(hA:A<BJ L)(hf:1<=f)(hV:BJ (k+1)*f<=V):AI (u.drop m)<V:=by
 have h1:=RQ u m A4;obtain⟨b0,b1⟩:=F6<|M4 hu m
 have hP:=NF m;have e:BJ L=BJ m*BJ (k+1):=by rw[<-fe];congr 1;omega
 have h2:(A+1)*f<=BJ L*f:=MH A4 A4;rw[HY,Ho,e,Ei] at h2;have h3:BJ m*(BJ (k+1)*f)<=BJ m*V:=Ey hV A4;have h4:BJ m*AI (u.drop m)<BJ m*V:=A4;exact iA h4 A4
end
end Trn
