/-
  Part of the proof of SolidOperations.
-/
import Derived.Test.YtieipfegkfhllaaGreatDoorHb
set_option maxRecDepth 100000
set_option maxHeartbeats 20000000
set_option linter.all false
open Go Go.RowKit Go.Proofs Go.Proofs.Tryz
namespace Trn
section
variable{t x:Rat}{α:Type}{y:Rat}
abbrev Q3:=Rat×Rat×Rat
abbrev H3:=Q3×Rat
def AM(v w:Q3):Rat:=v.1*w.1+v.2.1*w.2.1+v.2.2*w.2.2
def BD(v w:Q3):Q3:=(v.1-w.1,v.2.1-w.2.1,v.2.2-w.2.2)
def Ag(v w:Q3):Q3:=(v.2.1*w.2.2-v.2.2*w.2.1,v.2.2*w.1-v.1*w.2.2,v.1*w.2.1-v.2.1*w.1)
def Db(v w:Q3):Q3:=(v.1+w.1,v.2.1+w.2.1,v.2.2+w.2.2)
def BX(v:Q3)(a:Rat):Q3:=(v.1*a,v.2.1*a,v.2.2*a)
def o3:Q3:=(0,0,0)
def val(h:H3)(p:Q3):Rat:=AM h.1 p-h.2
def Mem(L:A3 H3)(p:Q3):Prop:=∀h∈L,val h p<=0
def Ef(L:A3 H3):Prop:=∀d:Q3,d≠o3->∃h∈L,0<AM h.1 d
def Bt(L:A3 H3)(p:Q3):Prop:=Mem L p/\∀d:Q3,(∀h∈L,val h p=0->AM h.1 d=0)->d=o3
def LF{v w:Q3}(h1:v.1=w.1)(h2:v.2.1=w.2.1)(h3:v.2.2=w.2.2):v=w:=by let⟨a,b,c⟩:=v;let⟨d,e,f⟩:=w;simp only at h1 h2 h3;rw[h1,h2,h3]
theorem Oa(n p d:Q3):AM n (Db p d)=AM n p+AM n d:=by unfold AM Db;grind
theorem WW(n p d:Q3):AM n (BD p d)=AM n p-AM n d:=by unfold AM BD;grind
theorem Fi(n d:Q3)(a:Rat):AM n (BX d a)=a*AM n d:=by unfold AM BX;grind
theorem NX(n d:Q3):AM n d=AM d n:=by unfold AM;grind
theorem LD(n d:Q3)(a:Rat):AM (BX d a) n=a*AM d n:=by unfold AM BX;grind
theorem Ww(n:Q3):AM n o3=0:=by unfold AM o3;grind
theorem Ob(h:H3)(p d:Q3)(r:Rat):val h (Db p<|BX d r)=val h p+r*AM h.1 d:=by unfold val;rw[Oa,Fi];grind
theorem bj(x:Rat):0<=x*x:=by
 rcases gz (a:=0) (b:=x) with h|h
 ·exact Dc h h
 ·have:=Dc (a:= -x) (b:= -x) AK AK;grind
def pd(h:x*x<=0):x=0:=by rcases Hl.1 (Rat.le_antisymm h<|bj x) with h|h<;>exact h
theorem xz{d:Q3}(h:AM d d<=0):d=o3:=by unfold AM at h;have h1:=bj d.1;have h2:=bj d.2.1;have h3:=bj d.2.2;exact LF (pd AK) (pd AK)<|pd AK
theorem PI{d:Q3}(h:d≠o3):0<AM d d:=by
 by_cases h1:0<AM d d
 ·exact h1
 ·exact absurd (xz AK) h
def least{α:Type}(P:α->Prop)(f:α->Rat):∀L:A3 α,(∃h∈L,P h)->∃h∈L,P h/\∀k∈L,P k->f h<=f k
 |[],⟨h,m,_⟩=>by cases m
 |x::L,hx=>by
  by_cases hL:∃h∈L,P h
  ·let⟨h,m,ph,hm⟩:=least P f L hL;by_cases px:P x
   ·rcases gz (a:=f x) (b:=f h) with c|c
    ·refine⟨x,DT,px,λk mk pk=>?_⟩;rcases Ao.1 mk with e|mk
     ·rw[e];exact GY
     ·exact ZJ c<|hm k mk pk
    ·refine⟨h,C2 _ m,ph,λk mk pk=>?_⟩;rcases Ao.1 mk with e|mk
     ·rw[e];exact c
     ·exact hm k mk pk
   ·refine⟨h,C2 _ m,ph,λk mk pk=>?_⟩;rcases Ao.1 mk with e|mk
    ·rw[e] at pk;exact absurd pk px
    ·exact hm k mk pk
  ·let⟨h,m,ph⟩:=hx;rcases Ao.1 m with e|m
   ·subst e;refine⟨h,DT,ph,λk mk pk=>?_⟩;rcases Ao.1 mk with e|mk
    ·rw[e];exact GY
    ·exact absurd ⟨k,mk,pk⟩ hL
   ·exact absurd ⟨h,m,ph⟩ hL
def filter_lt{α:Type}{p q:α->Bool}:∀{L:A3 α} {x:α},(∀y∈L,q y=true->p y=true)->x∈L->p x=true->q x=false->(L.filter q).length<(L.filter p).length
 |y::L,x,h,m,hp,hq=>by
  have hle:∀M:A3 α,(∀y∈M,q y=true->p y=true)->(M.filter q).length<=(M.filter p).length:=by
   intro M
   induction M with
   |nil=>intro _;exact BM _
   |cons z M ih=>
    intro hM;have:=ih λy my=>hM y<|C2 _ my
    have hz:=hM z DT;rw[ZU,ZU];cases hqz:q z
    ·cases p z<;>simp<;>omega
    ·rw[hz hqz];simp;omega
  rw[ZU,ZU];rcases Ao.1 m with e|m
  ·subst e;rw[hp,hq];have:=hle L λy my=>h y<|C2 _ my
   simp;omega
  ·have:=filter_lt (λy my=>h y<|C2 _ my) m hp hq;have hy:=h y DT;cases hqz:q y
   ·cases p y<;>simp<;>omega
   ·rw[hy hqz];simp;omega
theorem amj{L:A3 H3}(hb:Ef L){p:Q3}(hp:Mem L p)(c:Q3){d:Q3}(hd:d≠o3)(hc:0<=AM c d)(ht:∀h∈L,val h p=0->AM h.1 d=0):∃q,Mem L q/\AM c p<=AM c q/\(∀h∈L,val h p=0->val h q=0)/\∃h∈L,val h p≠0/\val h q=0:=by
 let⟨h,mh,ph,hm⟩:=least (λh:H3=>0<AM h.1 d) (λh=> -val h p/AM h.1 d) L<|hb d hd
 have hv:=hp h mh;have hr:0<= -val h p/AM h.1 d:=by rw[Pa];exact Dc AK<|GZ<|SA.2 ph
 have key:∀k:H3,0<AM k.1 d-> -val k p/AM k.1 d*AM k.1 d= -val k p:=λk hk=>Nk AK
 generalize hR: -val h p/AM h.1 d=r at*
 refine⟨Db p<|BX d r,λk mk=>?_,?_,λk mk hk=>?_,h,mh,λe=>?_,?_⟩
 ·rw[Ob];have hk:=hp k mk;by_cases g:0<AM k.1 d
  ·have h1:=hm k mk g;have h2:=key k g;have h3:=Zk h1<|GZ g
   grind
  ·have:=Dc hr (show 0<= -AM k.1 d by grind)
   grind
 ·rw[Oa,Fi];have:=Dc hr hc
  grind
 ·rw[Ob,ht k mk hk,hk];grind
 ·have:=ht h mh e
  grind
 ·rw[Ob];have:=key h ph;rw[hR] at this
  grind
theorem aod{L:A3 H3}(hb:Ef L)(c:Q3):∀(n:Nat) (p:Q3),(L.filter λh=> !decide (val h p=0)).length<=n->Mem L p->∃v,Bt L v/\AM c p<=AM c v/\∀h∈L,val h p=0->val h v=0:=by
 intro n
 induction n with
 |zero=>
  intro p hn hp;refine⟨p,⟨hp,λd hd=>?_⟩,GY,λ_ _ h=>h⟩;have h0:(L.filter λh=> !decide (val h p=0))=[]:=LP A4;by_cases hz:d=o3
  ·exact hz
  ·let⟨h,mh,hh⟩:=hb d hz;have:val h p=0:=by
    by_cases e:val h p=0
    ·exact e
    ·have:h∈(L.filter λh=> !decide (val h p=0)):=JJ.2 ⟨mh,by simp[e]⟩;rw[h0] at this;cases this
   have:=hd h mh this
   grind
 |succ n ih=>
  intro p hn hp;by_cases hv:Bt L p
  ·exact⟨p,hv,GY,λ_ _ h=>h⟩
  ·have:∃d:Q3,(∀h∈L,val h p=0->AM h.1 d=0)/\d≠o3:=by
    refine Cr λhn=>hv ⟨hp,λd hd=>?_⟩
    exact Cr λhz=>hn ⟨d,hd,hz⟩
   let⟨d,ht,hz⟩:=this;have go:∀d:Q3,(∀h∈L,val h p=0->AM h.1 d=0)->d≠o3->0<=AM c d->∃v,Bt L v/\AM c p<=AM c v/\∀h∈L,val h p=0->val h v=0:=by
    intro d ht hz hc;let⟨q,q1,q2,q3,h,mh,q4,q5⟩:=amj hb hp c hz hc ht;have:=filter_lt (L:=L) (p:=λh=> !decide (val h p=0)) (q:=λh=> !decide (val h q=0)) (x:=h) (λy my hy=>by simp at hy⊢;exact λe=>hy<|q3 y my e) mh (by simp[q4]) (by simp[q5])
    let⟨v,v1,v2,v3⟩:=ih q A4 q1;exact⟨v,v1,ZJ q2 v2,λh m e=>v3 h m<|q3 h m e⟩
   rcases gz (a:=0) (b:=AM c d) with hc|hc
   ·exact go d ht hz hc
   ·have hs:∀n:Q3,AM n (BX d<| -1)= -AM n d:=λn=>by rw[Fi];grind
    refine go (BX d<| -1) (λh m e=>by rw[hs,ht h m e];grind) (λe=>hz ?_) (by rw[hs];grind);have e1:=congrArg Prod.fst e;have e2:=congrArg (λx=>x.2.1) e;have e3:=congrArg (λx=>x.2.2) e;simp only[BX,o3] at e1 e2 e3;exact LF (by simp only[o3];grind) (by simp only[o3];grind) (by simp only[o3];grind)
def Qn{L:A3 H3}(hb:Ef L){p:Q3}(hp:Mem L p)(c:Q3):∃v,Bt L v/\AM c p<=AM c v/\∀h∈L,val h p=0->val h v=0:=aod hb c _ p (BM _) hp
def CN(n a b c:Q3):Rat:=AM n<|Ag (BD b a)<|BD c a
def Dl(a b:Q3)(t:Rat):Q3:=Db a<|BX (BD b a) t
theorem J5{v w:Q3}(h:v.1=w.1/\v.2.1=w.2.1/\v.2.2=w.2.2:=by simp only[Dl,Db,BD,BX,Ag,o3];grind):v=w:=LF h.1 h.2.1 h.2.2
theorem Z8(n a b c:Q3):CN n a b c=CN n b c a:=by unfold CN AM Ag BD;grind
theorem gZ(n a b:Q3):CN n a a b=0:=by unfold CN AM Ag BD;grind
theorem gY(n a b:Q3):CN n a b a=0:=by unfold CN AM Ag BD;grind
theorem OR(n a b:Q3):CN n b a a=0:=by unfold CN AM Ag BD;grind
theorem fk(n p q a b:Q3)(t:Rat):CN n p q (Dl a b t)=(1-t)*CN n p q a+t*CN n p q b:=by unfold CN Dl AM Ag BD Db BX;grind
theorem akR(n p r a b:Q3)(t:Rat):CN n p (Dl a b t) r=(1-t)*CN n p a r+t*CN n p b r:=by unfold CN Dl AM Ag BD Db BX;grind
theorem akS(n q r a b:Q3)(t:Rat):CN n (Dl a b t) q r=(1-t)*CN n a q r+t*CN n b q r:=by unfold CN Dl AM Ag BD Db BX;grind
theorem Fq(h:H3)(a b:Q3)(t:Rat):val h (Dl a b t)=(1-t)*val h a+t*val h b:=by unfold val Dl AM BD Db BX;grind
theorem ju(h0:0<=t)(h1:t<=1)(hx:0<=x)(hy:0<=y):0<=(1-t)*x+t*y:=by
 have a:=Dc (show 0<=1-t by grind) hx;have b:=Dc h0 hy
 grind
def Wk(n:Q3)(l:A3 Q3):Prop:=∀a b c,[a,b,c].Sublist l->0<=CN n a b c
def Hj(n:Q3)(l:A3 Q3):Prop:=∀a b c,[a,b,c].Sublist l->0<CN n a b c
def Wk.sub{n:Q3}{l m:A3 Q3}(h:Wk n l)(s:m.Sublist l):Wk n m:=λa b c k=>h a b c<|k.trans s
def Hj.wk{n:Q3}{l:A3 Q3}(h:Hj n l):Wk n l:=λa b c k=>GZ<|h a b c k
def Sr{x:α}{l:A3 α}(h:x∈l):[x].Sublist l:=List.singleton_sublist.2 h
def ann{n:Q3}{A B:A3 Q3}{a b:Q3}(h0:0<=t)(h1:t<=1)(h:Wk n (A++a::b::B)):Wk n (A++a::Dl a b t::b::B):=by
 intro p q r s;have e:A++a::Dl a b t::b::B=(A++[a])++(Dl a b t::b::B):=AV;have e':A++a::b::B=(A++[a])++(b::B):=AV;rw[e'] at h;rw[e] at s;let⟨s1,s2,es,k1,k2⟩:=Zh.1 s;have inA:∀x∈A++[a],x=a\/[x,a].Sublist (A++[a]):=λx hx=>by
  rcases Bs.1 hx with g|g
  ·exact .inr<|(Sr g).append<|ZY [a]
  ·exact .inl<|Cl.1 g
 have inB:∀x∈b::B,x=b\/[b,x].Sublist (b::B):=λx hx=>by
  rcases Ao.1 hx with g|g
  ·exact .inl g
  ·exact .inr<|(Sr g).cons_cons b
 have ma:[a].Sublist (A++[a]):=Sr AV;have mb:[b].Sublist (b::B):=Sr AV;cases k2 with
 |cons _ k2=>exact h p q r (by rw[es];exact k1.append k2)
 |cons_cons _ k2=>
  rename_i s3
  match s1,es with
  |[],es=>
   simp at es;obtain⟨rfl,rfl⟩:=es;have hq:q∈b::B:=k2.subset AV;rw[akS];refine ju h0 h1 (h _ _ _<|ma.append k2) ?_;cases k2 with
   |cons _ k2=>exact h _ _ _<|(k2.cons_cons b).trans<|ig _ _
   |cons_cons _ k2=>rw[gZ];exact GY
  |[x],es=>
   simp at es;obtain⟨rfl,rfl,rfl⟩:=es;have hp:p∈A++[a]:=k1.subset AV;have hr:r∈b::B:=k2.subset AV;rw[akR];refine ju h0 h1 ?_ ?_
   ·rcases inA p hp with g|g
    ·rw[g,gZ];exact GY
    ·exact h _ _ _<|g.append k2
   ·rcases inB r hr with g|g
    ·rw[g,OR];exact GY
    ·exact h _ _ _<|k1.append g
  |[x,y],es=>
   simp at es;obtain⟨rfl,rfl,rfl,rfl⟩:=es;have hq:q∈A++[a]:=k1.subset AV;rw[fk];refine ju h0 h1 ?_<|h _ _ _<|k1.append mb
   let⟨t1,t2,et,j1,j2⟩:=Zh.1 k1
   match t1,et with
   |[],et=>simp at et;subst et;have:=j2.length_le;simp at this
   |[x],et=>
    simp at et;obtain⟨rfl,rfl⟩:=et;have:q=a:=by simpa using j2
    rw[this,OR];exact GY
   |[x,y],et=>simp at et;obtain⟨rfl,rfl,rfl⟩:=et;exact h _ _ _<|(j1.append<|ZY [a]).trans AV
   |x::y::z::w,et=>simp at et
  |x::y::z::w,es=>simp at es
def anp{n:Q3}{A:A3 Q3}{a f:Q3}(h0:0<=t)(h1:t<=1)(hf:(A++[a]).head?=some f)(h:Wk n (A++[a])):Wk n (A++[a,Dl a f t]):=by
 intro p q r s;have e:A++[a,Dl a f t]=(A++[a])++[Dl a f t]:=AV;rw[e] at s;let⟨s1,s2,es,k1,k2⟩:=Zh.1 s;cases k2 with
 |cons _ k2=>
  have:s2=[]:=by simpa using k2
  subst this;rw[Ih] at es;exact h p q r (by rw[es];exact k1)
 |cons_cons _ k2=>
  rename_i s3;have:s3=[]:=by simpa using k2
  subst this
  match s1,es with
  |[],es=>simp at es
  |[x],es=>simp at es
  |[x,y],es=>
   simp at es;obtain⟨rfl,rfl,rfl⟩:=es;rw[fk];refine ju h0 h1 ?_ ?_
   ·let⟨t1,t2,et,j1,j2⟩:=Zh.1 k1
    match t1,et with
    |[],et=>simp at et;subst et;have:=j2.length_le;simp at this
    |[x],et=>
     simp at et;obtain⟨rfl,rfl⟩:=et;have:q=a:=by simpa using j2
     rw[this,OR];exact GY
    |[x,y],et=>simp at et;obtain⟨rfl,rfl,rfl⟩:=et;exact h _ _ _<|j1.append<|ZY [a]
    |x::y::z::w,et=>simp at et
   ·rw[Z8,Z8]
    match hA:A++[a],hf with
    |x::M,hf=>
     have:x=f:=by simpa using hf
     subst this;rw[hA] at k1 h;cases k1 with
     |cons _ k1=>exact h _ _ _<|k1.cons_cons x
     |cons_cons _ k1=>rw[gZ];exact GY
  |x::y::z::w,es=>simp at es
theorem Ps{a b:Q3}(h:BD b a=o3):a=b:=by have e1:=congrArg Prod.fst h;have e2:=congrArg (λx=>x.2.1) h;have e3:=congrArg (λx=>x.2.2) h;simp[BD,o3] at e1 e2 e3;exact LF AK AK AK
def Ws{d:Q3}(h1:d.1=0)(h2:d.2.1=0)(h3:d.2.2=0):d=o3:=LF h1 h2 h3
theorem par{u w:Q3}(hu:u≠o3)(h:Ag u w=o3):w=BX u (AM u w/AM u u):=by
 have hp:=PI hu;have e1:=congrArg Prod.fst h;have e2:=congrArg (λx=>x.2.1) h;have e3:=congrArg (λx=>x.2.2) h;simp[Ag,o3] at e1 e2 e3;have key:AM u w/AM u u*AM u u=AM u w:=Nk AK
 generalize AM u w/AM u u=s at key⊢
 have z:∀x:Rat,AM u u*x=0->x=0:=λx hx=>by
  rcases Hl.1 hx with g|g
  ·grind
  ·exact g
 have g1:w.1-u.1*s=0:=z _ (by unfold AM at*;grind);have g2:w.2.1-u.2.1*s=0:=z _ (by unfold AM at*;grind);have g3:w.2.2-u.2.2*s=0:=z _ (by unfold AM at*;grind);exact J5
def UP{u:Q3}:Ag u u=o3:=J5
theorem nZ(u w:Q3):AM u (Ag u w)=0:=by unfold AM Ag;grind
theorem YY(u w:Q3):AM w (Ag u w)=0:=by unfold AM Ag;grind
def along{u w d:Q3}(h:Ag u w≠o3)(h1:AM u d=0)(h2:AM w d=0):∃s,d=BX (Ag u w) s:=by refine⟨_,par h ?_⟩;unfold AM at h1 h2;exact J5
theorem flat{n x y:Q3}(hn:n≠o3)(hx:AM n x=0)(hy:AM n y=0)(h:AM n (Ag x y)=0):Ag x y=o3:=by
 have hp:=PI hn;have e:AM (Ag x y) (Ag x y)*AM n n=AM n (Ag x y)*AM n (Ag x y)+AM (Ag (Ag x y) n) (Ag (Ag x y) n):=by unfold AM Ag;grind
 have e2:Ag (Ag x y) n=o3:=by
  have:Ag (Ag x y) n=BD (BX y<|AM n x) (BX x<|AM n y):=by unfold Ag BD BX AM;refine LF ?_ ?_ ?_<;>dsimp<;>grind
  rw[this,hx,hy];unfold BD BX o3;refine LF ?_ ?_ ?_<;>dsimp<;>grind
 rw[h,e2,Ww] at e;refine xz ?_;rcases Hl.1 (show AM (Ag x y) (Ag x y)*AM n n=0 by grind) with g|g<;>grind
theorem zb{L:A3 H3}{p:Q3}(hm:Mem L p){f g h:H3}(mf:f∈L)(mg:g∈L)(mh:h∈L)(tf:val f p=0)(tg:val g p=0)(th:val h p=0)(hd:AM h.1 (Ag f.1 g.1)≠0):Bt L p:=by
 refine⟨hm,λd hd'=>?_⟩;have hc:Ag f.1 g.1≠o3:=λe=>hd (by rw[e,Ww])
 obtain⟨s,rfl⟩:=along hc (hd' f mf tf)<|hd' g mg tg
 have:=hd' h mh th;rw[Fi] at this;rcases Hl.1 this with e|e
 ·rw[e];exact J5
 ·grind
theorem val_sub(h:H3)(a b:Q3):AM h.1 (BD b a)=val h b-val h a:=by unfold val;rw[WW];grind
theorem gJ{L:A3 H3}{v a b:Q3}(hv:Bt L v)(ha:Mem L a)(hb:Mem L b)(h0:0<t)(h1:t<1)(e:v=Dl a b t):a=b:=by
 refine Ps<|hv.2 _ λh mh th=>?_
 rw[e,Fq] at th;have x:=Dc (show 0<=1-t by grind) (show 0<= -val h a by have:=ha h mh;grind);have y:=Dc (show 0<=t by grind) (show 0<= -val h b by have:=hb h mh;grind);have x0:(1-t)*val h a=0:=AK;have y0:t*val h b=0:=AK;rw[val_sub];rcases Hl.1 x0 with g|g
 ·grind
 ·grind
theorem oU{L:A3 H3}{a b c:Q3}(ha:Bt L a)(hb:Bt L b)(hc:Bt L c)(J8:a≠b)(hac:a≠c)(hbc:b≠c):Ag (BD b a) (BD c a)≠o3:=by
 intro h;have hz:BD b a≠o3:=λe=>J8<|Ps e
 have e:=par hz h
 generalize AM (BD b a) (BD c a)/AM (BD b a) (BD b a)=s at e
 have e1:=congrArg Prod.fst e;have e2:=congrArg (λx=>x.2.1) e;have e3:=congrArg (λx=>x.2.2) e;simp[BD,BX] at e1 e2 e3;have hs0:s≠0:=λg=>hac (by subst g;exact LF AK AK AK)
 have hs1:s≠1:=λg=>hbc (by subst g;exact LF AK AK AK)
 by_cases h1:1<s
 ·
  have i1:=iP s hs0;have i2:0<s⁻¹ :=SA.2 AK;have i3:s⁻¹ <1:=by have:=GX i2 (show 0<s-1 by grind);grind
  refine hac<|gJ hb ha.1 hc.1 i2 i3 ?_
  exact J5
 ·by_cases h2:0<s
  ·refine J8 (gJ hc ha.1 hb.1 h2 AK ?_);exact J5
  ·
   have hs:0<1-s:=AK;have i1:=iP (1-s) AK;have i2:0<(1-s)⁻¹ :=SA.2 hs;have i3:(1-s)⁻¹ <1:=by have:=GX i2 (show 0< -s by grind);grind
   refine hbc<|gJ ha hb.1 hc.1 (t:=(1-s)⁻¹) i2 i3 ?_
   exact J5
theorem za{L:A3 H3}{f:H3}(hf:f.1≠o3){a b c:Q3}(ha:Bt L a)(hb:Bt L b)(hc:Bt L c)(ta:val f a=0)(tb:val f b=0)(tc:val f c=0)(J8:a≠b)(hac:a≠c)(hbc:b≠c):CN f.1 a b c≠0:=λe=>oU ha hb hc J8 hac hbc (flat hf (by rw[val_sub,ta,tb];grind) (by rw[val_sub,ta,tc];grind) e)
theorem room{L:A3 H3}{q w:Q3}:Mem L q->(∀h∈L,val h q=0->AM h.1 w<=0)->∃e:Rat,0<e/\∀t,0<=t->t<=e->Mem L (Db q<|BX w t):=by
 induction L with
 |nil=>exact λ_ _=>⟨1,Lg,λ_ _ _ h m=>by cases m⟩
 |cons h L ih=>
  intro hq ht;let⟨e,e0,he⟩:=ih (λk m=>hq k<|C2 _ m)<|λk m=>ht k<|C2 _ m
  have hv:=hq h DT;by_cases g:0<AM h.1 w
  ·have hne:val h q≠0:=λz=>by have:=ht h DT z;grind
   have hr:0< -val h q/AM h.1 w:=by rw[Pa];exact GX AK<|SA.2 g
   have hc: -val h q/AM h.1 w*AM h.1 w= -val h q:=Nk AK
   generalize -val h q/AM h.1 w=r at*
   have one:∀t,0<=t->t<=r->val h (Db q<|BX w t)<=0:=λt t0 t1=>by
    rw[Ob];have:=Zk t1<|GZ g
    grind
   rcases gz (a:=e) (b:=r) with c|c
   ·refine⟨e,e0,λt t0 t1 k m=>?_⟩;rcases Ao.1 m with z|m
    ·grind
    ·exact he t t0 t1 k m
   ·refine⟨r,hr,λt t0 t1 k m=>?_⟩;rcases Ao.1 m with z|m
    ·grind
    ·exact he t t0 (ZJ t1 c) k m
  ·refine⟨e,e0,λt t0 t1 k m=>?_⟩;rcases Ao.1 m with z|m
   ·rw[z,Ob];have:=Dc t0 (show 0<= -AM h.1 w by grind)
    grind
   ·exact he t t0 t1 k m
theorem VX(n:Q3):∃d:Q3,d≠o3/\AM n d=0:=by
 by_cases h:n.1=0
 ·exact⟨(1,0,0),λe=>by have:=congrArg Prod.fst e;simp only[o3] at this;grind,by unfold AM;grind⟩
 ·exact⟨(-n.2.1,n.1,0),λe=>h (by have:=congrArg (λx=>x.2.1) e;simp[o3] at this;exact this),by unfold AM;grind⟩
theorem Vf(u w:Q3):Ag w u=BX (Ag u w) (-1):=by unfold Ag BX;refine LF ?_ ?_ ?_<;>dsimp<;>grind
theorem two{N:A3 Q3}(h:∀u∈N,∀w∈N,Ag u w=o3)(m:Q3):∃d:Q3,d≠o3/\(∀u∈N,AM u d=0)/\AM m d=0:=by
 by_cases hz:∀u∈N,u=o3
 ·let⟨d,d0,d1⟩:=VX m;exact⟨d,d0,λu mu=>by rw[hz u mu,NX,Ww],d1⟩
 ·let⟨n,hn⟩:=Classical.not_forall.1 hz;let⟨mn,n0⟩:=Classical.not_imp.1 hn;have acO:∀d,AM n d=0->∀u∈N,AM u d=0:=λd hd u mu=>by rw[par n0<|h n mn u mu,LD,hd];grind
  by_cases hc:Ag n m=o3
  ·let⟨d,d0,d1⟩:=VX n;exact⟨d,d0,acO d d1,by rw[par n0 hc,LD,d1];grind⟩
  ·exact⟨_,hc,acO _<|nZ _ _,YY _ _⟩
theorem avB{L:A3 H3}(hb:Ef L){q:Q3}(hq:Mem L q)(hv: ¬Bt L q){f g:H3}(mf:f∈L)(mg:g∈L)(tf:val f q=0)(tg:val g q=0)(hc:Ag f.1 g.1≠o3):∃u v t,Bt L u/\Bt L v/\0<t/\t<1/\q=Dl u v t/\(∀h∈L,val h q=0->val h u=0/\val h v=0)/\u≠v:=by
 have:∃d:Q3,(∀h∈L,val h q=0->AM h.1 d=0)/\d≠o3:=by
  refine Cr λhn=>hv ⟨hq,λd hd=>?_⟩
  exact Cr λhz=>hn ⟨d,hd,hz⟩
 let⟨d,ht,hz⟩:=this;let⟨v,v1,v2,v3⟩:=Qn hb hq d;let⟨u,u1,u2,u3⟩:=Qn hb hq<|BX d<| -1
 rw[LD,LD] at u2;let⟨s0,e0⟩:=along hc (ht f mf tf)<|ht g mg tg
 let⟨s1,e1⟩:=along hc (d:=BD u q) (by rw[val_sub,u3 f mf tf,tf];grind) (by rw[val_sub,u3 g mg tg,tg];grind);let⟨s2,e2⟩:=along hc (d:=BD v q) (by rw[val_sub,v3 f mf tf,tf];grind) (by rw[val_sub,v3 g mg tg,tg];grind)
 generalize Ag f.1 g.1=e at*
 have he:=PI hc;have nz:∀{x:Q3} {s:Rat},Bt L x->BD x q=BX e s->s≠0:=λ{x s} hx h z=>by
  rw[z] at h;have:q=x:=Ps<|h.trans<|J5
  exact hv<|this▸hx
 have n1:=nz u1 e1;have n2:=nz v1 e2;have n0:s0≠0:=λz=>hz (by rw[e0,z];exact(J5))
 have p2:0<=AM d (BD v q):=by rw[WW];grind
 have p1:AM d (BD u q)<=0:=by rw[WW];grind
 rw[e0,e2,Fi,LD] at p2;rw[e0,e1,Fi,LD] at p1;have q2:0<=s0*s2:=Cr λc=>by have:=GX (show 0< -(s0*s2) by grind) he;grind
 have q1:s0*s1<=0:=Cr λc=>by have:=GX (show 0<s0*s1 by grind) he;grind
 have r2:0<s0*s2:=by
  have:s0*s2≠0:=λc=>by rcases Hl.1 c with g|g<;>contradiction
  grind
 have r1:s0*s1<0:=by
  have:s0*s1≠0:=λc=>by rcases Hl.1 c with g|g<;>contradiction
  grind
 have r3:s0*(s1-s2)<0:=AK;have n3:s1-s2≠0:=λc=>by rw[c] at r3;grind
 have c1:s1/(s1-s2)*(s1-s2)=s1:=Nk n3
 generalize s1/(s1-s2)=t at c1
 have c2:s0*(t*(s1-s2))=s0*s1:=by rw[c1]
 have t0:0<t:=Cr λc=>by
  have:=Dc (show 0<= -t by grind) (show 0<= -(s0*(s1-s2)) by grind)
  grind
 have t1:t<1:=Cr λc=>by
  have:=Dc (show 0<=t-1 by grind) (show 0<= -(s0*(s1-s2)) by grind)
  grind
 have k1:=congrArg Prod.fst e1;have k2:=congrArg (λx=>x.2.1) e1;have k3:=congrArg (λx=>x.2.2) e1;have l1:=congrArg Prod.fst e2;have l2:=congrArg (λx=>x.2.1) e2;have l3:=congrArg (λx=>x.2.2) e2;simp[BD,BX] at k1 k2 k3 l1 l2 l3;refine⟨u,v,t,u1,v1,t0,t1,?_,λh mh th=>⟨u3 h mh th,v3 h mh th⟩,λc=>n3 ?_⟩
 ·exact J5
 ·grind
def JF(f:Q3):A3 Q3->A3 (Q3×Q3)
 |[]=>[]
 |[a]=>[(a,f)]
 |a::b::l=>(a,b)::JF f (b::l)
def JO:A3 Q3->A3 (Q3×Q3)
 |[]=>[]
 |a::l=>JF a (a::l)
def GK(x y:Rat):Bool:=(decide (x<0)&&decide (0<y))||(decide (0<x)&&decide (y<0))
def Fj(h:H3)(a b:Q3):Q3:=Dl a b<|val h a/(val h a-val h b)
def M0(h:H3)(s:Q3×Q3):A3 Q3:=(bif decide (val h s.1<=0) then [s.1] else [])++(bif GK (val h s.1) (val h s.2) then [Fj h s.1 s.2] else [])
def Fc(h:H3)(l:A3 Q3):A3 Q3:=(JO l).flatMap<|M0 h
def jf(h:H3)(s:Q3×Q3):A3 Q3:=s.1::(bif GK (val h s.1) (val h s.2) then [Fj h s.1 s.2] else [])
def Ka:GK x y=true↔(x<0/\0<y)\/(0<x/\y<0):=by unfold GK;simp
theorem Pv(h:GK x y=true):0<x/(x-y)/\x/(x-y)<1/\(1-x/(x-y))*x+x/(x-y)*y=0:=by
 have h:=Ka.1 h;have hn:x-y≠0:=AK;have e:x/(x-y)*(x-y)=x:=Nk hn
 generalize x/(x-y)=t at e
 have t0:0<t:=Cr λc=>by
  rcases h with⟨a,b⟩|⟨a,b⟩
  ·have:=Dc (show 0<= -t by grind) (show 0<=y-x by grind);grind
  ·have:=Dc (show 0<= -t by grind) (show 0<=x-y by grind);grind
 have t1:t<1:=Cr λc=>by
  rcases h with⟨a,b⟩|⟨a,b⟩
  ·have:=Dc (show 0<=t-1 by grind) (show 0<=y-x by grind);grind
  ·have:=Dc (show 0<=t-1 by grind) (show 0<=x-y by grind);grind
 exact⟨t0,t1,AK⟩
def Z1{h:H3}{a b:Q3}(ho:GK (val h a) (val h b)=true):val h (Fj h a b)=0:=by unfold Fj;rw[Fq];exact(Pv ho).2.2
def aaY{n:Q3}{h:H3}{f:Q3}:∀(l A:A3 Q3),l≠[]->(A++l).head?=some f->Wk n (A++l)->Wk n (A++(JF f l).flatMap (jf h))
 |[],_,h0,_,_=>absurd rfl h0
 |[a],A,_,hf,hw=>by
  unfold JF;rw[Pg,List.flatMap_nil,Ih];unfold jf;cases ho:GK (val h a) (val h f) with
  |false=>rw[Ar];exact hw
  |true=>have t:=Pv ho;rw[BH];exact anp (GZ t.1) (GZ t.2.1) hf hw
 |a::b::l,A,_,hf,hw=>by
  unfold JF;rw[Pg,<-Hm];refine aaY (b::l) _ AV ?_ ?_
  ·cases A with
   |nil=>exact hf
   |cons x A=>exact hf
  ·unfold jf;cases ho:GK (val h a) (val h b) with
   |false=>rw[Ar];simpa using hw
   |true=>have t:=Pv ho;rw[BH];have:=ann (GZ t.1) (GZ t.2.1) hw;simpa[Fj] using this
def zH{α β:Type}{f g:α->A3 β}:∀{l:A3 α},(∀x∈l,(f x).Sublist<|g x)->(l.flatMap f).Sublist (l.flatMap g)
 |[],_=>ZY _
 |x::l,h=>by rw[Pg,Pg];exact(h x DT).append<|zH λy m=>h y<|C2 _ m
theorem ana{n:Q3}{h:H3}{l:A3 Q3}(hw:Wk n l):Wk n (Fc h l):=by
 cases l with
 |nil=>exact hw
 |cons a l=>
  have:=aaY (h:=h) (a::l) [] AV rfl hw;refine Wk.sub this<|zH λs _=>?_
  unfold M0 jf;cases decide (val h s.1<=0)
  ·grind
  ·grind
theorem vk{f:Q3}{s:Q3×Q3}:∀{l A:A3 Q3},(A++l).head?=some f->s∈JF f l->(∃B C,A++l=B++s.1::s.2::C)\/(∃B,A++l=B++[s.1]/\s.2=f)
 |[],A,_,h=>by cases h
 |[a],A,_,h=>by
  have:s=(a,f):=by simpa[JF] using h
  subst this;exact .inr ⟨A,rfl,rfl⟩
 |a::b::l,A,hf,h=>by
  unfold JF at h;rcases Ao.1 h with e|h
  ·grind
  ·have:=vk (l:=b::l) (A:=A++[a]) (by simpa using hf) h;simpa using this
def nJ{f a b:Q3}{C:A3 Q3}:∀{B:A3 Q3},(a,b)∈JF f (B++a::b::C)
 |[]=>by simp[JF]
 |[x]=>by simp[JF]
 |x::y::B=>by have:=nJ (f:=f) (a:=a) (b:=b) (C:=C) (B:=y::B);show(a,b)∈(x,y)::JF f (y::(B++a::b::C));exact C2 _ this
def vK{f a:Q3}:∀{B:A3 Q3},(a,f)∈JF f (B++[a])
 |[]=>by simp[JF]
 |[x]=>by simp[JF]
 |x::y::B=>by have:=vK (f:=f) (a:=a) (B:=y::B);show(a,f)∈(x,y)::JF f (y::(B++[a]));exact C2 _ this
def vm{f:Q3}:∀l:A3 Q3,(JF f l).map Prod.fst=l
 |[]=>rfl
 |[a]=>rfl
 |a::b::l=>by unfold JF;rw[MO,vm (b::l)]
def xT(l:A3 Q3):(JO l).map Prod.fst=l:=by
 cases l with
 |nil=>rfl
 |cons a l=>exact vm _
theorem Hj.ne{n:Q3}{l:A3 Q3}(h:Hj n l){a b c:Q3}(s:[a,b,c].Sublist l):a≠b/\a≠c/\b≠c:=by
 have:=h a b c s;refine⟨λe=>?_,λe=>?_,λe=>?_⟩
 ·rw[e,gZ] at this;grind
 ·rw[e,gY] at this;grind
 ·rw[e,OR] at this;grind
def Hj.nodup{n:Q3}{l:A3 Q3}(h:Hj n l)(h3:3<=l.length):l.Nodup:=by
 refine List.pairwise_iff_forall_sublist.2 λ{a b} s e=>?_
 subst e;obtain⟨c,hc⟩:∃c,[c,a,a].Sublist l\/[a,c,a].Sublist l\/[a,a,c].Sublist l:=by
  clear h
  induction l with
  |nil=>cases s
  |cons x l ih=>
   cases s with
   |cons _ s=>exact⟨x,.inl<|s.cons_cons x⟩
   |cons_cons _ s=>
    match l,h3,s with
    |y::z::l,_,s=>
     cases s with
     |cons _ s=>exact⟨y,.inr<| .inl<|(s.cons_cons y).cons_cons a⟩
     |cons_cons _ s=>exact⟨z,.inr<| .inr<|((Sr AV).cons_cons a).cons_cons a⟩
 rcases hc with s|s|s
 ·exact(h.ne s).2.2 rfl
 ·exact(h.ne s).2.1 rfl
 ·exact(h.ne s).1 rfl
theorem yd(n a b c:Q3):CN n b a c= -CN n a b c:=by unfold CN AM Ag BD;grind
theorem Tf{n:Q3}{l:A3 Q3}(hl:Hj n l)(h3:3<=l.length){s:Q3×Q3}(hs:s∈JO l):s.1∈l/\s.2∈l/\s.1≠s.2/\∀c∈l,c≠s.1->c≠s.2->0<CN n s.1 s.2 c:=by
 have hn:=hl.nodup h3;let⟨a,b⟩:=s
 match l,h3,hs with
 |f::l,h3,hs=>
  rcases vk (A:=[]) FU hs with⟨B,C,e⟩|⟨B,e,e2⟩
  ·rw[KC] at e;rw[e] at hn hl⊢;refine⟨AV,AV,?_,λc hc h1 h2=>?_⟩
   ·grind
   ·rcases Bs.1 hc with m|m
    ·rw[<-Z8];exact hl _ _ _<|(Sr m).append<|((Qi C).cons_cons b).cons_cons a
    ·have m:c∈C:=by simpa[h1,h2] using m
     exact hl _ _ _<|((Sr m).cons_cons b|>.cons_cons a).trans<|ig _ _
  ·rw[KC] at e;dsimp only at e e2;subst e2
   match B,e with
   |[],e=>rw[e] at h3;simp at h3
   |x::B,e=>
    have:b=x:=AK;subst this;rw[e] at hn hl⊢;refine⟨AV,AV,?_,λc hc h1 h2=>?_⟩
    ·grind
    ·have m:c∈B:=by simpa[h1,h2] using hc
     rw[Z8];exact hl _ _ _<|((Sr m).append<|ZY [a]).cons_cons b
theorem aqI{l:A3 Q3}(hn:l.Nodup)(h3:3<=l.length)(a b:Q3):∃c∈l,c≠a/\c≠b:=by
 match l,h3,hn with
 |x::y::z::l,_,hn=>
  simp at hn;by_cases h1:x≠a/\x≠b
  ·exact⟨x,AV,h1⟩
  ·by_cases h2:y≠a/\y≠b
   ·exact⟨y,AV,h2⟩
   ·refine⟨z,AV,λe=>?_,λe=>?_⟩<;>subst e<;>grind
theorem aiN{n:Q3}{l:A3 Q3}(hl:Hj n l)(h3:3<=l.length){a b:Q3}(h1:(a,b)∈JO l)(h2:(b,a)∈JO l):False:=by
 let⟨c,mc,ca,cb⟩:=aqI (hl.nodup h3) h3 a b;have p:=(Tf hl h3 h1).2.2.2 c mc ca cb;have q:=(Tf hl h3 h2).2.2.2 c mc cb ca;dsimp only at p q;rw[yd] at q
 grind
theorem ah6{n:Q3}{l:A3 Q3}(hl:Hj n l)(h3:3<=l.length){s r:Q3×Q3}(hs:s∈JO l)(hr:r∈JO l)(hne:s.1≠r.1){u:Rat}(t0:0<=t)(t1:t<1)(u0:0<=u)(u1:u<1):Dl s.1 s.2 t≠Dl r.1 r.2 u:=by
 intro e;let⟨a,b⟩:=s;let⟨c,d⟩:=r;let⟨s1,s2,s3,s4⟩:=Tf hl h3 hs;let⟨r1,r2,r3,r4⟩:=Tf hl h3 hr;dsimp only at*;have z:CN n a b (Dl a b t)=0:=by rw[fk,gY,OR];grind
 rw[e,fk] at z;have dn:0<=CN n a b d:=by
  by_cases h1:d=a
  ·rw[h1,gY];exact GY
  ·by_cases h2:d=b
   ·rw[h2,OR];exact GY
   ·grind
 by_cases hcb:c=b
 ·subst hcb;rw[OR] at z;have hda:d≠a:=λg=>aiN hl h3 hs<|g▸hr
  have dp:=s4 d r2 hda<|Ne.symm r3
  have:u=0:=AK;subst this;refine s3 ?_;have e1:=congrArg Prod.fst e;have e2:=congrArg (λx=>x.2.1) e;have e3:=congrArg (λx=>x.2.2) e;simp[Dl,Db,BX,BD] at e1 e2 e3;have q1:(1-t)*(a.1-c.1)=0:=AK;have q2:(1-t)*(a.2.1-c.2.1)=0:=AK;have q3:(1-t)*(a.2.2-c.2.2)=0:=AK;have z:∀x:Rat,(1-t)*x=0->x=0:=λx h=>by
   rcases Hl.1 h with g|g
   ·grind
   ·exact g
  have:=z _ q1;have:=z _ q2;have:=z _ q3;exact LF AK AK AK
 ·have cp:=s4 c r1 (Ne.symm hne) hcb;have:=GX (show 0<1-u by grind) cp;have:=Dc u0 dn
  grind
def aqX(a b:Q3):Dl a b 0=a:=J5
theorem yI{h:H3}{s:Q3×Q3}{x:Q3}(hx:x∈M0 h s):(x=s.1/\val h x<=0)\/(GK (val h s.1) (val h s.2)=true/\x=Fj h s.1 s.2):=by
 unfold M0 at hx;rcases Bs.1 hx with m|m
 ·grind
 ·grind
theorem ahn{n:Q3}{h:H3}{l:A3 Q3}(hl:Hj n l)(h3:3<=l.length):(Fc h l).Nodup:=by
 unfold Fc List.Nodup;have half:∀s x,x∈M0 h s->∃t:Rat,0<=t/\t<1/\x=Dl s.1 s.2 t:=λs x hx=>by
  rcases yI hx with⟨e,_⟩|⟨ho,e⟩
  ·exact⟨0,GY,Lg,by rw[aqX];exact e⟩
  ·have t:=Pv ho;exact⟨_,GZ t.1,t.2.1,e⟩
 have hp:((JO l).map Prod.fst).Nodup:=by rw[xT];exact hl.nodup h3
 have hp:=Nj.1 hp;refine qQ.2 ⟨λs hs=>?_,?_⟩
 ·unfold M0;cases decide (val h s.1<=0)
  ·cases GK (val h s.1) (val h s.2)<;>simp
  ·cases ho:GK (val h s.1) (val h s.2)
   ·simp
   ·have t0:=(Pv ho).1;have hne:=(Tf hl h3 hs).2.2.1;simp[BH,SI,KC,JK,Cl,forall_eq,ZX,List.Pairwise.nil,and_true,false_implies,implies_true];intro e;refine hne<|Ps ?_
    unfold Fj at e
    generalize val h s.1/(val h s.1-val h s.2)=t at e t0
    have e1:=congrArg Prod.fst e;have e2:=congrArg (λx=>x.2.1) e;have e3:=congrArg (λx=>x.2.2) e;simp[Dl,Db,BX,BD] at e1 e2 e3;have z:∀x:Rat,x*t=0->x=0:=λx h=>by
     rcases Hl.1 h with g|g
     ·exact g
     ·grind
    exact Ws (z _ (by simp[BD];grind)) (z _ (by simp[BD];grind)) (z _ (by simp[BD];grind))
 ·refine UJ ?_ hp;intro s r hs hr hne x hx y hy e;let⟨t,t0,t1,ex⟩:=half s x hx;let⟨u,u0,u1,ey⟩:=half r y hy;exact ah6 hl h3 hs hr hne t0 t1 u0 u1 (by rw[<-ex,<-ey,e])
theorem adj{n:Q3}{l:A3 Q3}(hl:Hj n l){u v:Q3}(hu:u∈l)(hv:v∈l)(hne:u≠v)(h:∀x∈l,∀y∈l,CN n u v x<0->0<CN n u v y->False):(u,v)∈JO l\/(v,u)∈JO l:=by
 have key:∀{u v:Q3} {A D:A3 Q3},l=A++u::D->v∈D->(∀x∈l,∀y∈l,CN n u v x<0->0<CN n u v y->False)->(u,v)∈JO l\/(v,u)∈JO l:=by
  intro u v A D e hD h;obtain⟨B,C,rfl⟩:=qL hD;cases B with
  |nil=>
   left;rw[e]
   match A with
   |[]=>exact nJ (B:=[])
   |x::A=>exact nJ (B:=x::A)
  |cons x B=>
   have hx:CN n u v x<0:=by
    have:=hl u x v (by
     rw[e];refine((List.Sublist.cons_cons u ?_)).trans<|ig _ _
     exact((Qi B).append (Qi C|>.cons_cons v)).cons_cons x)
    have e2:CN n u v x= -CN n u x v:=by unfold CN AM Ag BD;grind
    rw[e2];grind
   have mx:x∈l:=by rw[e];simp
   match A,C with
   |[],[]=>right;rw[e];exact vK (B:=u::x::B)
   |y::A,_=>refine(h x mx y (by rw[e];simp) hx ?_).elim;rw[<-Z8];refine hl y u v ?_;rw[e];exact List.Sublist.cons_cons y<|(List.Sublist.cons_cons u<|(Qi (x::B)).append (Qi _|>.cons_cons v)).trans<|ig _ _
   |[],y::C=>refine(h x mx y (by rw[e];simp) hx ?_).elim;refine hl u v y ?_;rw[e];exact List.Sublist.cons_cons u<|(Qi (x::B)).append<|(Qi C|>.cons_cons y).cons_cons v
 let⟨A,D,e⟩:=qL hu;have Jd:v∈A++u::D:=e▸hv;rcases Bs.1 Jd with m|m
 ·obtain⟨A1,A2,rfl⟩:=qL m;refine(key (u:=v) (v:=u) (A:=A1) (D:=A2++u::D) (by rw[e];simp) AV λx mx y my h1 h2=>?_).symm;rw[yd] at h1 h2;exact h y my x mx AK AK
 ·grind
abbrev CC:=H3×A3 Q3
def R2(h k:H3):Prop:=∃s:Rat,0<s/\k=(BX h.1 s,h.2*s)
structure CJ(S:A3 CC)(M:A3 H3):Prop where
 bdd:Ef M
 int:∃o,∀h∈M,val h o<0
 nz:∀h∈M,h.1≠o3
 norm:∀h∈M,∀k∈M,R2 h k->h=k
 EZ:∀f∈S,f.1∈M/\Hj f.1.1 f.2/\3<=f.2.length/\∀p,p∈f.2↔Bt M p/\val f.1 p=0
 RG:S.Pairwise λf g=>f.1≠g.1
 cover:∀p,Mem M p->(∃h∈M,val h p=0)->∃f∈S,val f.1 p=0
theorem aas{h:H3}{p:Q3}(e:val h p=0):h.2=AM h.1 p:=by unfold val at e;grind
theorem ql{M:A3 H3}{o:Q3}(hi:∀h∈M,val h o<0)(hz:∀h∈M,h.1≠o3)(hn:∀h∈M,∀k∈M,R2 h k->h=k){h k:H3}(mh:h∈M)(mk:k∈M)(hc:Ag h.1 k.1=o3){p:Q3}(th:val h p=0)(tk:val k p=0):h=k:=by
 have e:=par (hz h mh) hc
 generalize AM h.1 k.1/AM h.1 h.1=s at e
 have e2:k.2=h.2*s:=by rw[aas tk,aas th,e,LD];grind
 refine hn h mh k mk ⟨s,?_,Prod.ext e e2⟩;have a:=hi h mh;have b:=hi k mk;have c:val k o=s*val h o:=by unfold val;rw[e2,e,LD];grind
 refine Cr λg=>?_
 have:=Dc (show 0<= -s by grind) (show 0<= -val h o by grind)
 grind
def indep{f g k:Q3}(hf:f≠o3)(h:Ag g k≠o3):Ag f g≠o3\/Ag f k≠o3:=by
 by_cases h1:Ag f g=o3
 ·by_cases h2:Ag f k=o3
  ·refine absurd ?_ h;rw[par hf h1,par hf h2];exact J5
  ·exact .inr h2
 ·exact .inl h1
theorem pb{f k:Q3}(hf:f≠o3)(h:Ag f k=o3){w:Q3}(hw:AM f w=0):AM k w=0:=by rw[par hf h,LD,hw];grind
theorem aiM{L:A3 H3}(hb:Ef L){f:H3}(mf:f∈L)(hf:f.1≠o3){l:A3 Q3}(hl:Hj f.1 l)(h3:3<=l.length)(hv:∀p,p∈l↔Bt L p/\val f p=0){s:Q3×Q3}(hs:s∈JO l):∃g∈L,val g s.1=0/\val g s.2=0/\Ag f.1 g.1≠o3:=by
 let⟨u,v⟩:=s;let⟨mu,mv,hne,je⟩:=Tf hl h3 hs;dsimp only at*;let⟨vu,tu⟩:=(hv u).1 mu;let⟨vv,tv⟩:=(hv v).1 mv;refine Cr λFA=>?_
 have tight:∀g∈L,val g (Dl u v<|1/2)=0->val g u=0/\val g v=0:=λg mg tg=>by
  rw[Fq] at tg;have:=vu.1 g mg;have:=vv.1 g mg
  grind
 have atC:∀g∈L,val g (Dl u v<|1/2)=0->Ag f.1 g.1=o3:=λg mg tg=>by let⟨a,b⟩:=tight g mg tg;exact Cr λc=>FA ⟨g,mg,a,b,c⟩
 have hw:AM f.1 (Ag (BD v u) f.1)=0:=YY _ _;have hz:Ag (BD v u) f.1≠o3:=λe=>by
  have hd:BD v u≠o3:=λe=>hne<|Ps e
  have h0:AM f.1 (BD v u)=0:=by rw[val_sub,tu,tv];grind
  have:=par hd e;rw[NX] at h0;rw[h0] at this;refine hf (this.trans<|Ws ?_ ?_ ?_)<;>simp[BX]<;>grind
 have hm:Mem L (Dl u v<|1/2):=λg mg=>by
  rw[Fq];have:=vu.1 g mg;have:=vv.1 g mg
  grind
 let⟨e,e0,he⟩:=room hm (w:=Ag (BD v u) f.1) λg mg tg=>by rw[pb hf (atC g mg tg) hw];exact GY
 have hq:=he e (GZ e0) GY;let⟨p,p1,p2,p3⟩:=Qn hb hq<|Ag (BD v u) f.1
 have tp:=p3 f mf (by rw[Ob,hw,Fq,tu,tv];grind);have mp:=(hv p).2 ⟨p1,tp⟩;have ho:0<=CN f.1 u v p:=by
  by_cases h1:p=u
  ·rw[h1,gY];exact GY
  ·by_cases h2:p=v
   ·rw[h2,OR];exact GY
   ·grind
 have hpos:=GX e0<|PI hz
 have e1:AM (Ag (BD v u) f.1) p-AM (Ag (BD v u) f.1) (Dl u v<|1/2)= -CN f.1 u v p:=by unfold CN Dl AM Ag BD Db BX;grind
 rw[Oa,Fi] at p2
 grind
theorem three{L:A3 H3}(hb:Ef L){q:Q3}(hq:Mem L q){f:H3}(mf:f∈L)(tf:val f q=0)(hf:f.1≠o3)(ht:∀g∈L,val g q=0->Ag f.1 g.1=o3){l:A3 Q3}(hl:∀p,Bt L p->val f p=0->p∈l):3<=l.length:=by
 have key:∀w,w≠o3->AM f.1 w=0->∃p∈l,AM w q<AM w p:=λw w0 hw=>by
  let⟨e,e0,he⟩:=room hq (w:=w) λg mg tg=>by rw[pb hf (ht g mg tg) hw];exact GY
  let⟨p,p1,p2,p3⟩:=Qn hb (he e (GZ e0) GY) w;refine⟨p,hl p p1 (p3 f mf (by rw[Ob,hw,tf];grind)),?_⟩;rw[Oa,Fi] at p2;have:=GX e0<|PI w0
  grind
 have neg:∀w:Q3,w≠o3->BX w (-1)≠o3:=λw h e=>h (by have e1:=congrArg Prod.fst e;have e2:=congrArg (λx=>x.2.1) e;have e3:=congrArg (λx=>x.2.2) e;simp[BX,o3] at e1 e2 e3;exact Ws AK AK AK)
 have both:∀w,w≠o3->AM f.1 w=0->∃p∈l,∃r∈l,AM w p≠AM w r:=λw w0 hw=>by let⟨p,mp,hp⟩:=key w w0 hw;let⟨r,mr,hr⟩:=key (BX w<| -1) (neg w w0) (by rw[Fi,hw];grind);rw[LD,LD] at hr;exact⟨p,mp,r,mr,AK⟩
 match l,both with
 |[],both=>let⟨d,d0,d1⟩:=VX f.1;let⟨p,mp,_⟩:=both d d0 d1;cases mp
 |[a],both=>let⟨d,d0,d1⟩:=VX f.1;let⟨p,mp,r,mr,h⟩:=both d d0 d1;rw[Cl.1 mp,Cl.1 mr] at h;exact absurd rfl h
 |[a,b],both=>
  let⟨d,d0,d1,d2⟩:=two (N:=[f.1]) (λu mu w mw=>by rw[Cl.1 mu,Cl.1 mw];exact UP)<|BD b a
  let⟨p,mp,r,mr,h⟩:=both d d0<|d1 _ AV
  rw[NX,WW] at d2;have:∀x∈[a,b],AM d x=AM d a:=λx mx=>by
   rcases Ao.1 mx with e|mx
   ·rw[e]
   ·grind
  rw[this p mp,this r mr] at h;exact absurd rfl h
 |_::_::_::_,_=>simp
def fU{M:A3 H3}{h:H3}{p:Q3}(hp:Bt M p)(hv:val h p<=0):Bt (h::M) p:=⟨λk mk=>(Ao.1 mk).elim (λe=>by rw[e];exact hv)<|hp.1 k,λd hd=>hp.2 d λk mk=>hd k<|C2 _ mk⟩
theorem aa3{h:H3}{u v:Q3}(hz:val h (Dl u v t)=0)(ho:GK (val h u) (val h v)=true):Dl u v t=Fj h u v:=by
 have h1:=Ka.1 ho;have hn:val h u-val h v≠0:=AK;have e:val h u/(val h u-val h v)*(val h u-val h v)=val h u:=Nk hn;unfold Fj;rw[Fq] at hz
 congr 1
 generalize val h u/(val h u-val h v)=r at*
 have:(t-r)*(val h u-val h v)=0:=AK;rcases Hl.1 this with g|g
 ·grind
 ·grind
theorem akf(u v:Q3)(t:Rat):Dl u v t=Dl v u (1-t):=by unfold Dl Db BX BD;refine LF ?_ ?_ ?_<;>dsimp<;>grind
theorem ye(x y:Rat):GK x y=GK y x:=by rw[ZQ,Ka,Ka];grind
theorem oV{M:A3 H3}(hb:Ef M){h:H3}{p:Q3}(hp:Bt (h::M) p):Bt M p\/(val h p=0/\∃u v,Bt M u/\Bt M v/\GK (val h u) (val h v)=true/\p=Fj h u v/\(∀k∈M,val k p=0->val k u=0/\val k v=0)/\∃f∈M,∃g∈M,val f p=0/\val g p=0/\Ag f.1 g.1≠o3):=by
 by_cases hv:Bt M p
 ·exact .inl hv
 right;have hm:Mem M p:=λk mk=>hp.1 k<|C2 _ mk
 have hz:val h p=0:=Cr λc=>hv ⟨hm,λd hd=>hp.2 d λk mk tk=>by
  rcases Ao.1 mk with e|mk
  ·grind
  ·exact hd k mk tk⟩
 have:∃f∈M,∃g∈M,val f p=0/\val g p=0/\Ag f.1 g.1≠o3:=by
  refine Cr λFA=>?_
  let⟨d,d0,d1,d2⟩:=two (N:=(M.filter λk=>decide<|val k p=0).map Prod.fst) (λu mu w mw=>by obtain⟨f,mf,rfl⟩:=BR.1 mu;obtain⟨g,mg,rfl⟩:=BR.1 mw;let⟨mf,tf⟩:=JJ.1 mf;let⟨mg,tg⟩:=JJ.1 mg;exact Cr λc=>FA ⟨f,mf,g,mg,As tf,As tg,c⟩) h.1
  refine d0<|hp.2 d λk mk tk=>?_
  rcases Ao.1 mk with e|mk
  ·subst e;exact d2
  ·grind
 refine⟨hz,?_⟩;let⟨f,mf,g,mg,tf,tg,hc⟩:=this;let⟨u,v,t,vu,vv,t0,t1,e,ht,hne⟩:=avB hb hm hv mf mg tf tg hc;have hz':=hz;rw[e,Fq] at hz';have both:val h u≠0\/val h v≠0:=by
  refine Cr λc=>hne<|Ps<|hp.2 _ λk mk tk=>?_
  rw[val_sub];rcases Ao.1 mk with e|mk
  ·subst e;grind
  ·grind
 have ho:GK (val h u) (val h v)=true:=by
  rw[Ka];have hu:val h u≠0:=λc=>by rcases Hl.1 (show t*val h v=0 by rw[c] at hz';grind) with g|g<;>grind
  by_cases h1:val h u<0
  ·left;refine⟨h1,Cr λc=>?_⟩;have:=Dc (show 0<=t by grind) (show 0<= -val h v by grind);have:=GX (show 0<1-t by grind) (show 0< -val h u by grind)
   grind
  ·right;refine⟨AK,Cr λc=>?_⟩;have:=Dc (show 0<=t by grind) (show 0<=val h v by grind);have:=GX (show 0<1-t by grind) (show 0<val h u by grind)
   grind
 exact⟨u,v,vu,vv,ho,by rw[e];exact aa3 (by rw[<-e];exact hz) ho,ht,f,mf,g,mg,tf,tg,hc⟩
def zM{h:H3}{u v:Q3}(ho:GK (val h u) (val h v)=true):Fj h u v=Fj h v u:=by have:val h (Fj h u v)=0:=Z1 ho;unfold Fj at this⊢;rw[akf] at this⊢;exact aa3 this (by rw[ye];exact ho)
theorem Vx{M:A3 H3}(hb:Ef M){f:H3}(mf:f∈M)(hf:f.1≠o3){l:A3 Q3}(hl:Hj f.1 l)(h3:3<=l.length)(hv:∀p,p∈l↔Bt M p/\val f p=0)(h:H3)(p:Q3):p∈Fc h l↔Bt (h::M) p/\val f p=0:=by
 unfold Fc;rw[Lx];constructor
 ·rintro⟨s,hs,hx⟩;let⟨a1,a2,a3,a4⟩:=Tf hl h3 hs;rcases yI hx with⟨e,hle⟩|⟨ho,e⟩
  ·let⟨b1,b2⟩:=(hv s.1).1 a1;rw[e] at hle⊢;exact⟨fU b1 hle,b2⟩
  ·let⟨g,mg,g1,g2,hc⟩:=aiM hb mf hf hl h3 hv hs;let⟨b1,b2⟩:=(hv s.1).1 a1;let⟨c1,c2⟩:=(hv s.2).1 a2;have t:=Pv ho;have hz:=Z1 ho;have lin:∀k:H3,val k p=(1-val h s.1/(val h s.1-val h s.2))*val k s.1+val h s.1/(val h s.1-val h s.2)*val k s.2:=λk=>by rw[e];exact Fq _ _ _ _
   rw[<-e] at hz
   generalize val h s.1/(val h s.1-val h s.2)=r at*
   have tf:val f p=0:=AK;have tg:val g p=0:=AK;refine⟨zb (f:=f) (g:=g) (h:=h) (λk mk=>?_) (C2 _ mf) (C2 _ mg) DT tf tg hz λhd=>?_,tf⟩
   ·rcases Ao.1 mk with e|mk
    ·grind
    ·rw[lin];have:=Dc (show 0<=1-r by grind) (show 0<= -val k s.1 by have:=b1.1 k mk;grind);have:=Dc (show 0<=r by grind) (show 0<= -val k s.2 by have:=c1.1 k mk;grind)
     grind
   ·let⟨x,hx⟩:=along hc (d:=BD s.2 s.1) (by rw[val_sub,b2,c2];grind) (by rw[val_sub,g1,g2];grind);have:=val_sub h s.1 s.2;rw[hx,Fi,hd] at this;have:=Ka.1 ho
    grind
 ·rintro⟨hp,tf⟩;rcases oV hb hp with h1|⟨hz,u,v,vu,vv,ho,e,ht,g,mg,k,mk,tg,tk,hc⟩
  ·have hm:=(hv p).2 ⟨h1,tf⟩;rw[<-xT l] at hm;let⟨s,hs,e⟩:=BR.1 hm;refine⟨s,hs,?_⟩;unfold M0;rw[e,B5<|hp.1 h DT];simp
  ·obtain⟨g,mg,tg,hc⟩:∃g∈M,val g p=0/\Ag f.1 g.1≠o3:=by
    rcases indep hf hc with x|x
    ·grind
    ·grind
   let⟨fu,fv⟩:=ht f mf tf;let⟨gu,gv⟩:=ht g mg tg;have mu:=(hv u).2 ⟨vu,fu⟩;have mv:=(hv v).2 ⟨vv,fv⟩;have hne:u≠v:=λc=>by rw[c] at ho;have:=Ka.1 ho;grind
   let⟨x,hx⟩:=along hc (d:=BD v u) (by rw[val_sub,fu,fv];grind) (by rw[val_sub,gu,gv];grind);have K1:∀y,val f y=0->CN f.1 u v y= -(x*AM f.1 f.1*val g y):=λy ty=>by
    have h1:=val_sub f u y;have h2:=val_sub g u y;rw[fu,ty] at h1;rw[gu] at h2;unfold CN;rw[hx];have e1:AM f.1 (Ag (BX (Ag f.1 g.1) x)<|BD y u)=x*(AM f.1 g.1*AM f.1 (BD y u)-AM f.1 f.1*AM g.1 (BD y u)):=by unfold AM Ag BX;grind
    rw[e1,h1,h2];grind
   rcases adj hl mu mv hne (λy my z mz h1 h2=>by
    let⟨vy,ty⟩:=(hv y).1 my;let⟨vz,tz⟩:=(hv z).1 mz;rw[K1 y ty] at h1;rw[K1 z tz] at h2;have a:=vy.1 g mg;have b:=vz.1 g mg;by_cases c:0<=x*AM f.1 f.1
    ·have:=Dc c (show 0<= -val g y by grind)
     grind
    ·have:=Dc (show 0<= -(x*AM f.1 f.1) by grind) (show 0<= -val g z by grind)
     grind) with hs|hs
   ·refine⟨_,hs,?_⟩;unfold M0;rw[ho,e];simp
   ·refine⟨_,hs,?_⟩;unfold M0;rw[ye,ho,e,zM ho];simp
theorem ape{L:A3 H3}{f:H3}(hf:f.1≠o3){l:A3 Q3}(hw:Wk f.1 l)(hn:l.Nodup)(hv:∀p∈l,Bt L p/\val f p=0):Hj f.1 l:=λa b c s=>by
 have h0:=hw a b c s;have hd:=List.Pairwise.sublist s hn;simp at hd;have ma:=hv a<|s.subset AV
 have mb:=hv b<|s.subset AV
 have mc:=hv c<|s.subset AV
 have:=za hf ma.1 mb.1 mc.1 ma.2 mb.2 mc.2 hd.1.1 hd.1.2 hd.2
 grind
theorem Z2:((1,0,0):Q3)≠o3:=by grind [o3]
def fH{M:A3 H3}{v:Q3}(hv:Bt M v){h:Q3}(hz:h≠o3):∃k∈M,val k v=0/\Ag h k.1≠o3:=by
 refine Cr λFA=>?_
 let⟨d,d0,d1⟩:=VX h;refine d0<|hv.2 d λk mk tk=>pb hz ?_ d1
 exact Cr λc=>FA ⟨k,mk,tk,c⟩
def y5{S:A3 CC}{M:A3 H3}(I:CJ S M){v:Q3}(hv:Bt M v):∃f∈S,v∈f.2:=by let⟨k,mk,tk,_⟩:=fH hv Z2;let⟨f,mf,tf⟩:=I.cover v hv.1 ⟨k,mk,tk⟩;exact⟨f,mf,((I.EZ f mf).2.2.2 v).2 ⟨hv,tf⟩⟩
theorem amb{S:A3 CC}{M:A3 H3}(I:CJ S M){h:H3}(hn:∀f∈S,∀p∈f.2,0<=val h p){q:Q3}(hq:Mem M q):0<=val h q:=by
 let⟨v,v1,v2,_⟩:=Qn I.bdd hq<|BX h.1<| -1
 let⟨f,mf,mv⟩:=y5 I v1;have:=hn f mf v mv;rw[LD,LD] at v2;unfold val at*;grind
theorem yk{S:A3 CC}{M:A3 H3}(I:CJ S M){h:H3}(hn:∀f∈S,∀p∈f.2,val h p<=0){q:Q3}(hq:Mem M q):val h q<=0:=by let⟨v,v1,v2,_⟩:=Qn I.bdd hq h.1;let⟨f,mf,mv⟩:=y5 I v1;have:=hn f mf v mv;unfold val at*;grind
theorem xj{M:A3 H3}{h:H3}(hz:h.1≠o3)(ho:∀q,Mem M q->val h q<=0){p:Q3}(hp:Mem M p)(tp:val h p=0):∃k∈M,val k p=0:=by
 refine Cr λFA=>?_
 let⟨e,e0,he⟩:=room hp (w:=h.1) λk mk tk=>absurd ⟨k,mk,tk⟩ FA
 have h1:=ho _<|he e (GZ e0) GY
 have:=GX e0<|PI hz
 rw[Ob,tp] at h1
 grind
theorem zZ{M:A3 H3}(hb:Ef M){h:H3}(ho:∀q,Mem M q->val h q<=0)(p:Q3):Bt (h::M) p↔Bt M p:=by
 constructor
 ·intro hp;rcases oV hb hp with h1|⟨_,u,v,vu,vv,atD,_⟩
  ·exact h1
  ·have:=ho u vu.1;have:=ho v vv.1;have:=Ka.1 atD
   grind
 ·exact λhp=>fU hp<|ho p hp.1
theorem CJ.out{S:A3 CC}{M:A3 H3}(I:CJ S M){h:H3}(hz:h.1≠o3)(hn:∀a∈h::M,∀b∈h::M,R2 a b->a=b)(ho:∀f∈S,∀p∈f.2,val h p<=0):CJ S (h::M):=by
 have hall:∀q,Mem M q->val h q<=0:=λq=>yk I ho
 have IN:∀q,Mem (h::M) q->Mem M q:=λq hq k mk=>hq k<|C2 _ mk
 obtain⟨o,hi⟩:=I.int;refine⟨λd hd=>?_,⟨o,λk mk=>?_⟩,λk mk=>?_,hn,λf mf=>?_,I.RG,λp hp ht=>?_⟩
 ·obtain⟨k,mk,hk⟩:=I.bdd d hd;exact⟨k,C2 _ mk,hk⟩
 ·rcases Ao.1 mk with e|mk
  ·subst e;have h1:=hall o λk mk=>GZ<|hi k mk
   refine Cr λc=>?_
   obtain⟨k',mk',tk'⟩:=xj hz hall (p:=o) (λk mk=>GZ<|hi k mk) AK;have:=hi k' mk'
   grind
  ·exact hi k mk
 ·rcases Ao.1 mk with e|mk
  ·subst e;exact hz
  ·exact I.nz k mk
 ·obtain⟨f1,f2,f3,f4⟩:=I.EZ f mf;exact⟨C2 _ f1,f2,f3,λp=>by rw[zZ I.bdd hall];exact f4 p⟩
 ·obtain⟨k,mk,tk⟩:=ht;rcases Ao.1 mk with e|mk
  ·subst e;exact I.cover p (IN p hp)<|xj hz hall (IN p hp) tk
  ·exact I.cover p (IN p hp) ⟨k,mk,tk⟩
theorem toward{a b:Rat}(ha:a<0):∃t:Rat,0<t/\t<1/\(1-t)*a+t*b<0:=by
 by_cases hb:b<=0
 ·exact⟨1/2,AK,AK,AK⟩
 ·have hn:b-a≠0:=AK;have e: -a/(b-a)*(b-a)= -a:=Nk hn;have hp:0< -a/(b-a):=by rw[Pa];exact GX AK<|SA.2 AK
  generalize -a/(b-a)=r at*
  have h1:r<1:=Cr λc=>by
   have:=Dc (show 0<=r-1 by grind) (show 0<=b-a by grind)
   grind
  exact⟨r*(1/2),AK,AK,AK⟩
theorem sE{M:A3 H3}{o p:Q3}(hi:∀k∈M,val k o<0)(hp:Mem M p){h:H3}(ha:val h p<0):∃q,(∀k∈M,val k q<0)/\val h q<0:=by
 let⟨t,t0,t1,ht⟩:=toward (b:=val h o) ha;refine⟨Dl p o t,λk mk=>?_,by rw[Fq];exact ht⟩;rw[Fq];have a:=Dc (show 0<=1-t by grind) (show 0<= -val k p by have:=hp k mk;grind);have b:=GX t0 (show 0< -val k o by have:=hi k mk;grind)
 grind
theorem yD(h:H3)(p:Q3):val (BX h.1<| -1,-h.2) p= -val h p:=by unfold val;rw[LD];grind
theorem aqV{M:A3 H3}{o p:Q3}(hi:∀k∈M,val k o<0)(hp:Mem M p){h:H3}(ha:0<val h p):∃q,(∀k∈M,val k q<0)/\0<val h q:=by let⟨q,q1,q2⟩:=sE hi hp (h:=(BX h.1<| -1,-h.2)) (by rw[yD];grind);rw[yD] at q2;exact⟨q,q1,AK⟩
theorem abV{S:A3 CC}{M:A3 H3}(I:CJ S M){f:CC}(mf:f∈S):∃z,Mem M z/\val f.1 z=0/\∀g∈M,val g z=0->Ag f.1.1 g.1=o3:=by
 let⟨f1,f2,f3,f4⟩:=I.EZ f mf
 match hl:f.2,f3 with
 |a::b::c::l,_=>
  have ho:=f2 a b c (by rw[hl];exact((Qi l).cons_cons c|>.cons_cons b).cons_cons a);let⟨va,ta⟩:=(f4 a).1 (by rw[hl];simp);let⟨vb,tb⟩:=(f4 b).1 (by rw[hl];simp);let⟨vc,tc⟩:=(f4 c).1 (by rw[hl];simp);refine⟨Dl (Dl a b<|1/2) c<|1/3,λk mk=>?_,?_,λg mg tg=>?_⟩
  ·rw[Fq,Fq];have:=va.1 k mk;have:=vb.1 k mk;have:=vc.1 k mk
   grind
  ·rw[Fq,Fq,ta,tb,tc];grind
  ·rw[Fq,Fq] at tg;have:=va.1 g mg;have:=vb.1 g mg;have:=vc.1 g mg;have ga:val g a=0:=AK;have gb:val g b=0:=AK;have gc:val g c=0:=AK;refine Cr λhc=>?_
   let⟨s,hs⟩:=along hc (d:=BD b a) (by rw[val_sub,ta,tb];grind) (by rw[val_sub,ga,gb];grind);let⟨r,hr⟩:=along hc (d:=BD c a) (by rw[val_sub,ta,tc];grind) (by rw[val_sub,ga,gc];grind);unfold CN at ho;rw[hs,hr] at ho;have:AM f.1.1 (Ag (BX (Ag f.1.1 g.1) s)<|BX (Ag f.1.1 g.1) r)=0:=by unfold AM Ag BX;grind
   grind
def Nv(h:H3)(S:A3 CC):A3 CC:=S.filterMap λf=>bif decide (2<(Fc h f.2).length) then some (f.1,Fc h f.2) else none
def y7{h:H3}{S:A3 CC}{g:CC}(hg:g∈Nv h S):∃f∈S,2<(Fc h f.2).length/\g=(f.1,Fc h f.2):=by
 let⟨f,mf,e⟩:=List.mem_filterMap.1 hg;cases hd:decide (2<(Fc h f.2).length) with
 |false=>rw[hd] at e;cases e
 |true=>rw[hd] at e;exact⟨f,mf,As hd,(E9 e).symm⟩
def alN{h:H3}{S:A3 CC}{f:CC}(mf:f∈S)(hl:2<(Fc h f.2).length):(f.1,Fc h f.2)∈Nv h S:=List.mem_filterMap.2 ⟨f,mf,by rw[B5 hl];rfl⟩
def CJ.Vx{S:A3 CC}{M:A3 H3}(I:CJ S M)(h:H3):∀f∈S,∀p,p∈Fc h f.2↔Bt (h::M) p/\val f.1 p=0:=λf mf p=>by let⟨g1,g2,g3,g4⟩:=I.EZ f mf;exact Trn.Vx I.bdd g1 (I.nz _ g1) g2 g3 g4 h p
theorem CJ.cut{S:A3 CC}{M:A3 H3}(I:CJ S M){h:H3}(hz:h.1≠o3){f0 f1:CC}{p0 p1:Q3}(m0:f0∈S)(q0:p0∈f0.2)(h0:val h p0<0)(m1:f1∈S)(q1:p1∈f1.2)(h1:0<val h p1):(∃o,(∀k∈M,val k o<0)/\val h o<0)/\(∀p,((∃f∈S,p∈Fc h f.2)/\val h p=0)↔Bt (h::M) p/\val h p=0)/\∀l:A3 Q3,(∀p,Bt (h::M) p->val h p=0->p∈l)->3<=l.length:=by
 obtain⟨o,hi⟩:=I.int;have v0:=(((I.EZ f0 m0).2.2.2 p0).1 q0).1;have v1:=(((I.EZ f1 m1).2.2.2 p1).1 q1).1;have IN:∀q,Mem (h::M) q->Mem M q:=λq hq k mk=>hq k<|C2 _ mk
 have hb:Ef (h::M):=λd hd=>by obtain⟨k,mk,hk⟩:=I.bdd d hd;exact⟨k,C2 _ mk,hk⟩
 obtain⟨o1,i1,n1⟩:=sE hi v0.1 h0;obtain⟨o2,i2,n2⟩:=aqV hi v1.1 h1;have cm:=I.Vx h;refine⟨⟨o1,i1,n1⟩,λp=>?_,λl hl=>?_⟩
 ·constructor
  ·rintro⟨⟨f,mf,mp⟩,tp⟩;exact⟨((cm f mf p).1 mp).1,tp⟩
  ·rintro⟨vp,tp⟩;refine⟨?_,tp⟩;obtain⟨k,mk,tk,hc⟩:=fH vp hz;rcases Ao.1 mk with e|mk
   ·subst e;exact absurd UP hc
   ·obtain⟨f,mf,tf⟩:=I.cover p (IN p vp.1) ⟨k,mk,tk⟩;exact⟨f,mf,(cm f mf p).2 ⟨vp,tf⟩⟩
 ·have ho:GK (val h o1) (val h o2)=true:=Ka.2 (.inl ⟨n1,n2⟩);have t:=Pv ho;have hv:=Z1 ho;have neg:∀k∈M,val k (Fj h o1 o2)<0:=λk mk=>by
   unfold Fj;rw[Fq]
   generalize val h o1/(val h o1-val h o2)=r at t
   have:=GX (show 0<1-r by grind) (show 0< -val k o1 by have:=i1 k mk;grind);have:=GX (show 0<r by grind) (show 0< -val k o2 by have:=i2 k mk;grind)
   grind
  refine three hb (q:=Fj h o1 o2) (λk mk=>?_) (f:=h) DT hv hz (λg mg tg=>?_) hl
  ·grind
  ·rcases Ao.1 mg with e|mg
   ·subst e;exact UP
   ·grind
theorem CJ.clip{S:A3 CC}{M:A3 H3}(I:CJ S M){h:H3}(hz:h.1≠o3)(hn:∀a∈h::M,∀b∈h::M,R2 a b->a=b){f0 f1:CC}{p0 p1:Q3}(m0:f0∈S)(q0:p0∈f0.2)(h0:val h p0<0)(m1:f1∈S)(q1:p1∈f1.2)(h1:0<val h p1)
  {l:A3 Q3}(hl:Hj h.1 l)(hm:∀p,p∈l↔(∃f∈S,p∈Fc h f.2)/\val h p=0):CJ (Nv h S++[(h,l)]) (h::M):=by
 obtain⟨⟨o1,i1,n1⟩,c1,c2⟩:=I.cut hz m0 q0 h0 m1 q1 h1;have v1:=(((I.EZ f1 m1).2.2.2 p1).1 q1).1;have O5:h∉M:=λc=>by have:=v1.1 h c;grind
 have IN:∀q,Mem (h::M) q->Mem M q:=λq hq k mk=>hq k<|C2 _ mk
 have hb:Ef (h::M):=λd hd=>by obtain⟨k,mk,hk⟩:=I.bdd d hd;exact⟨k,C2 _ mk,hk⟩
 have cm:=I.Vx h;have lm:∀p,p∈l↔Bt (h::M) p/\val h p=0:=λp=>by rw[hm,c1]
 have l3:3<=l.length:=c2 l λp vp tp=>(lm p).2 ⟨vp,tp⟩
 refine⟨hb,⟨o1,λk mk=>?_⟩,λk mk=>?_,hn,λg mg=>?_,?_,λp hp ht=>?_⟩
 ·grind
 ·rcases Ao.1 mk with e|mk
  ·subst e;exact hz
  ·exact I.nz k mk
 ·rcases Bs.1 mg with mg|mg
  ·obtain⟨f,mf,hlen,e⟩:=y7 mg;subst e;obtain⟨g1,g2,g3,g4⟩:=I.EZ f mf;exact⟨C2 _ g1,ape (I.nz _ g1) (ana g2.wk) (ahn g2 g3) λp mp=>(cm f mf p).1 mp,hlen,cm f mf⟩
  ·grind
 ·refine LM.2 ⟨?_,SJ _ _,λg mg k mk=>?_⟩
  ·unfold Nv;refine List.pairwise_filterMap.2<|I.RG.imp λ{a b} J8 x ex y ey=>?_
   cases ha:decide (2<(Fc h a.2).length) with
   |false=>rw[ha] at ex;cases ex
   |true=>
    cases hb:decide (2<(Fc h b.2).length) with
    |false=>rw[hb] at ey;cases ey
    |true=>rw[ha] at ex;rw[hb] at ey;rw[<-E9 ex,<-E9 ey];exact J8
  ·obtain⟨f,mf,_,e⟩:=y7 mg;rw[e,Cl.1 mk];exact λc=>O5 (by have:=(I.EZ f mf).1;rwa [show f.1=h from c] at this)
 ·by_cases tp:val h p=0
  ·exact⟨(h,l),AV,tp⟩
  ·obtain⟨k,mk,tk⟩:=ht;rcases Ao.1 mk with e|mk
   ·grind
   ·obtain⟨f,mf,tf⟩:=I.cover p (IN p hp) ⟨k,mk,tk⟩;by_cases hlen:2<(Fc h f.2).length
    ·exact⟨_,Ij _<|alN mf hlen,tf⟩
    ·exfalso;have It:val h p<0:=by have:=hp h DT;grind
     obtain⟨z,mz,tz,hc⟩:=abV I mf;obtain⟨t,t0,t1,hq⟩:=toward (b:=val h z) It;have g1:=(I.EZ f mf).1;refine hlen (three hb (q:=Dl p z t) (λk mk=>?_) (f:=f.1) (C2 _ g1) (by rw[Fq,tf,tz];grind) (I.nz _ g1) (λg mg tg=>?_) λx vx tx=>(cm f mf x).2 ⟨vx,tx⟩)
     ·rw[Fq];rcases Ao.1 mk with e|mk
      ·subst e;exact GZ hq
      ·have:=Dc (show 0<=1-t by grind) (show 0<= -val k p by have:=hp k (C2 _ mk);grind);have:=Dc (show 0<=t by grind) (show 0<= -val k z by have:=mz k mk;grind)
       grind
     ·rw[Fq] at tg;rcases Ao.1 mg with e|mg
      ·subst e;grind
      ·refine hc g mg ?_;have a:=Dc (show 0<=1-t by grind) (show 0<= -val g p by have:=hp g (C2 _ mg);grind);have b:=Dc (show 0<=t by grind) (show 0<= -val g z by have:=mz g mg;grind);have c:t*val g z=0:=AK;rcases Hl.1 c with x|x<;>grind
theorem CJ.empty{S:A3 CC}{M:A3 H3}(I:CJ S M){h:H3}(hn:∀f∈S,∀p∈f.2,0<=val h p): ¬ ∃o,∀k∈h::M,val k o<0:=λ⟨o,ho⟩=>by
 have:=amb I hn (q:=o) λk mk=>GZ<|ho k<|C2 _ mk
 have:=ho h DT
 grind
theorem abk{w:Q3}{s:Rat}(h:w≠o3)(hs:s≠0):BX w s≠o3:=λe=>h (by
 have e1:=congrArg Prod.fst e;have e2:=congrArg (λx=>x.2.1) e;have e3:=congrArg (λx=>x.2.2) e;simp[BX,o3] at e1 e2 e3;have z:∀x:Rat,x*s=0->x=0:=λx hx=>by
  rcases Hl.1 hx with g|g
  ·exact g
  ·grind
 exact Ws (z _ e1) (z _ e2)<|z _ e3)
def sC(s:Rat):BX o3 s=o3:=J5
def kA(w:Q3):BX w 0=o3:=J5
theorem alO{L:A3 H3}(hp:∃f∈L,∃g∈L,Ag f.1 g.1≠o3)(hc:∀f∈L,∀g∈L,Ag f.1 g.1≠o3->∃h∈L,0<AM h.1 (Ag f.1 g.1)):∀(n:Nat) (d:Q3),(L.filter λh=> !decide (AM h.1 d=0)).length<=n->d≠o3->(∀h∈L,AM h.1 d<=0)->False:=by
 intro n
 induction n with
 |zero=>
  intro d hn hd hle;have h0:(L.filter λh=> !decide (AM h.1 d=0))=[]:=LP A4;have ht:∀h∈L,AM h.1 d=0:=λh mh=>Cr λe=>by have:h∈(L.filter λh=> !decide (AM h.1 d=0)):=JJ.2 ⟨mh,by simp[e]⟩;rw[h0] at this;cases this
  let⟨f,mf,g,mg,hfg⟩:=hp;let⟨s,hs⟩:=along hfg (ht f mf)<|ht g mg
  let⟨h,mh,hh⟩:=hc f mf g mg hfg;have:=ht h mh;rw[hs,Fi] at this;rcases Hl.1 this with e|e
  ·subst e;exact hd<|hs.trans<|kA _
  ·grind
 |succ n ih=>
  intro d hn hd hle;by_cases hA:∃f∈L,∃g∈L,AM f.1 d=0/\AM g.1 d=0/\Ag f.1 g.1≠o3
  ·let⟨f,mf,g,mg,tf,tg,hfg⟩:=hA;let⟨s,hs⟩:=along hfg tf tg;have hs0:s≠0:=λe=>hd (by rw[hs,e];exact kA _)
   by_cases h0:0<s
   ·let⟨h,mh,hh⟩:=hc f mf g mg hfg;have:=hle h mh;rw[hs,Fi] at this;have:=GX h0 hh
    grind
   ·let⟨h,mh,hh⟩:=hc g mg f mf (by rw[Vf];exact abk hfg AK);have:=hle h mh;rw[hs,Fi] at this;rw[Vf,Fi] at hh;have:=GX (show 0< -s by grind) hh
    grind
  ·let⟨e,e0,e1,e2⟩:=two (N:=(L.filter λk=>decide<|AM k.1 d=0).map Prod.fst) (λu mu w mw=>by obtain⟨f,mf,rfl⟩:=BR.1 mu;obtain⟨g,mg,rfl⟩:=BR.1 mw;let⟨mf,tf⟩:=JJ.1 mf;let⟨mg,tg⟩:=JJ.1 mg;exact Cr λc=>hA ⟨f,mf,g,mg,As tf,As tg,c⟩) d
   have go:∀e:Q3,e≠o3->(∀k∈L,AM k.1 d=0->AM k.1 e=0)->AM d e=0->(∃k∈L,0<AM k.1 e)->False:=by
    intro e e0 et ed hk;let⟨h,mh,ph,hm⟩:=least (λh:H3=>0<AM h.1 e) (λh=> -AM h.1 d/AM h.1 e) L hk;have key:∀k:H3,0<AM k.1 e-> -AM k.1 d/AM k.1 e*AM k.1 e= -AM k.1 d:=λk hk=>Nk AK
    have hne:AM h.1 d≠0:=λc=>by have:=et h mh c;grind
    have hr:0<= -AM h.1 d/AM h.1 e:=by rw[Pa];exact Dc (by have:=hle h mh;grind)<|GZ<|SA.2 ph
    have kh:=key h ph
    generalize hR: -AM h.1 d/AM h.1 e=r at*
    have:=filter_lt (L:=L) (p:=λh=> !decide (AM h.1 d=0)) (q:=λh=> !decide (AM h.1 (Db d<|BX e r)=0)) (x:=h) (λy my hy=>by
     simp at hy⊢;exact λc=>hy (by rw[Oa,Fi,c,et y my c];grind)) mh (by simp[hne]) (by
     have:AM h.1 (Db d<|BX e r)=0:=by rw[Oa,Fi];grind
     simp[this])
    refine ih (Db d<|BX e r) A4 (λc=>?_) λk mk=>?_
    ·have h1:AM d (Db d<|BX e r)=0:=by rw[c,Ww]
     rw[Oa,Fi,ed] at h1;have:=PI hd
     grind
    ·rw[Oa,Fi];by_cases g:0<AM k.1 e
     ·have h1:=hm k mk g;have h2:=key k g;have h3:=Zk h1<|GZ g
      grind
     ·have:=Dc hr (show 0<= -AM k.1 e by grind);have:=hle k mk
      grind
   have et:∀k∈L,AM k.1 d=0->AM k.1 e=0:=λk mk tk=>e1 _<|BR.2 ⟨k,JJ.2 ⟨mk,B5 tk⟩,rfl⟩
   by_cases hx:∃k∈L,0<AM k.1 e
   ·grind
   ·by_cases hy:∃k∈L,0<AM k.1 (BX e<| -1)
    ·exact go _ (abk e0 AK) (λk mk tk=>by rw[Fi,et k mk tk];grind) (by rw[Fi,e2];grind) hy
    ·have hz:∀k∈L,AM k.1 e=0:=λk mk=>by
      have a: ¬0<AM k.1 e:=λc=>hx ⟨k,mk,c⟩
      have b: ¬0<AM k.1 (BX e<| -1):=λc=>hy ⟨k,mk,c⟩
      rw[Fi] at b
      grind
     let⟨f,mf,g,mg,hfg⟩:=hp;let⟨s,hs⟩:=along hfg (hz f mf)<|hz g mg
     let⟨h,mh,hh⟩:=hc f mf g mg hfg;have:=hz h mh;rw[hs,Fi] at this;rcases Hl.1 this with c|c
     ·subst c;exact e0<|hs.trans<|kA _
     ·grind
theorem anf{L:A3 H3}:Ef L↔(∃f∈L,∃g∈L,Ag f.1 g.1≠o3)/\∀f∈L,∀g∈L,Ag f.1 g.1≠o3->∃h∈L,0<AM h.1 (Ag f.1 g.1):=by
 constructor
 ·refine λhb=>⟨Cr λFA=>?_,λf mf g mg hfg=>hb _ hfg⟩
  let⟨d,d0,d1,_⟩:=two (N:=L.map Prod.fst) (λu mu w mw=>by obtain⟨f,mf,rfl⟩:=BR.1 mu;obtain⟨g,mg,rfl⟩:=BR.1 mw;exact Cr λc=>FA ⟨f,mf,g,mg,c⟩) o3
  let⟨h,mh,hh⟩:=hb d d0;have:=d1 _<|BR.2 ⟨h,mh,rfl⟩
  grind
 ·rintro⟨hp,hc⟩ d hd;refine Cr λFA=>alO hp hc _ d (BM _) hd λh mh=>?_
  exact Cr λc=>FA ⟨h,mh,AK⟩
def ER(a b c:Q3):Rat:=AM (Ag a b) c
def Ip(a b c:H3):Q3:=BX (Db (Db (BX (Ag b.1 c.1) a.2)<|BX (Ag c.1 a.1) b.2)<|BX (Ag a.1 b.1) c.2) (ER a.1 b.1 c.1)⁻¹
theorem Vb{a b c:H3}(hd:ER a.1 b.1 c.1≠0):val a (Ip a b c)=0/\val b (Ip a b c)=0/\val c (Ip a b c)=0:=by
 have hi:=iP _ hd;unfold Ip
 generalize (ER a.1 b.1 c.1)⁻¹ =i at hi
 unfold ER at hi;refine⟨?_,?_,?_⟩
 ·have:val a (BX (Db (Db (BX (Ag b.1 c.1) a.2)<|BX (Ag c.1 a.1) b.2)<|BX (Ag a.1 b.1) c.2) i)=a.2*(AM (Ag a.1 b.1) c.1*i)-a.2:=by unfold val AM BX Db Ag;grind
  rw[this,hi];grind
 ·have:val b (BX (Db (Db (BX (Ag b.1 c.1) a.2)<|BX (Ag c.1 a.1) b.2)<|BX (Ag a.1 b.1) c.2) i)=b.2*(AM (Ag a.1 b.1) c.1*i)-b.2:=by unfold val AM BX Db Ag;grind
  rw[this,hi];grind
 ·have:val c (BX (Db (Db (BX (Ag b.1 c.1) a.2)<|BX (Ag c.1 a.1) b.2)<|BX (Ag a.1 b.1) c.2) i)=c.2*(AM (Ag a.1 b.1) c.1*i)-c.2:=by unfold val AM BX Db Ag;grind
  rw[this,hi];grind
def Yy{a b c d:Q3}(hd:ER a b c≠0)(h1:AM a d=0)(h2:AM b d=0)(h3:AM c d=0):d=o3:=by
 have hc:Ag a b≠o3:=λe=>hd (by unfold ER;rw[e,NX,Ww])
 obtain⟨s,rfl⟩:=along hc h1 h2;rw[Fi] at h3;rcases Hl.1 h3 with e|e
 ·subst e;exact kA _
 ·exact absurd (by unfold ER;rw[NX];exact e) hd
theorem Yk{L:A3 H3}{p:Q3}:Bt L p↔Mem L p/\∃a∈L,∃b∈L,∃c∈L,ER a.1 b.1 c.1≠0/\p=Ip a b c:=by
 constructor
 ·intro hv;refine⟨hv.1,?_⟩;let⟨a,ma,ta,ha⟩:=fH hv Z2;have a0:a.1≠o3:=λe=>ha (by rw[e];exact J5)
  let⟨b,mb,tb,hb⟩:=fH hv a0;have:∃c∈L,val c p=0/\ER a.1 b.1 c.1≠0:=by
   refine Cr λFA=>hb<|hv.2 _ λc mc tc=>?_
   refine Cr λhc=>FA ⟨c,mc,tc,λe=>hc ?_⟩
   rw[NX];exact e
  let⟨c,mc,tc,hc⟩:=this;refine⟨a,ma,b,mb,c,mc,hc,?_⟩;let⟨t1,t2,t3⟩:=Vb (a:=a) (b:=b) (c:=c) hc;refine Ps<|Yy hc ?_ ?_ ?_
  ·rw[val_sub,ta,t1];grind
  ·rw[val_sub,tb,t2];grind
  ·rw[val_sub,tc,t3];grind
 ·rintro⟨hm,a,ma,b,mb,c,mc,hd,rfl⟩;let⟨t1,t2,t3⟩:=Vb hd;refine⟨hm,λd h=>Yy hd (h a ma t1) (h b mb t2)<|h c mc t3⟩
theorem xA(a b c:Q3):ER b a c= -ER a b c:=by unfold ER AM Ag;grind
theorem wz(a b c:Q3):ER a c b= -ER a b c:=by unfold ER AM Ag;grind
theorem agZ(a b c:H3)(h:ER a.1 b.1 c.1≠0):Ip b a c=Ip a b c:=by
 have h2:ER b.1 a.1 c.1≠0:=by rw[xA];grind
 let⟨t1,t2,t3⟩:=Vb h;let⟨u1,u2,u3⟩:=Vb h2;exact Ps (Yy h (by rw[val_sub,t1,u2];grind) (by rw[val_sub,t2,u1];grind) (by rw[val_sub,t3,u3];grind))
theorem agY(a b c:H3)(h:ER a.1 b.1 c.1≠0):Ip a c b=Ip a b c:=by
 have h2:ER a.1 c.1 b.1≠0:=by rw[wz];grind
 let⟨t1,t2,t3⟩:=Vb h;let⟨u1,u2,u3⟩:=Vb h2;exact Ps (Yy h (by rw[val_sub,t1,u1];grind) (by rw[val_sub,t2,u3];grind) (by rw[val_sub,t3,u2];grind))
theorem xh{L:A3 H3}(hb:Ef L){n:Q3}{c:Rat}(h:∀p,Bt L p->AM n p=c){q:Q3}(hq:Mem L q):AM n q=c:=by
 let⟨v,v1,v2,_⟩:=Qn hb hq n;let⟨u,u1,u2,_⟩:=Qn hb hq<|BX n<| -1
 rw[LD,LD] at u2;have:=h v v1;have:=h u u1
 grind
theorem agS{L:A3 H3}(hb:Ef L){n:Q3}(hn:n≠o3){c:Rat}(h:∀p,Bt L p->AM n p=c): ¬ ∃o,∀k∈L,val k o<0:=λ⟨o,ho⟩=>by
 have mo:Mem L o:=λk mk=>GZ<|ho k mk
 let⟨e,e0,he⟩:=room mo (w:=n) λk mk tk=>by have:=ho k mk;grind
 have h1:=xh hb h mo;have h2:=xh hb h<|he e (GZ e0) GY
 have:=GX e0<|PI hn
 rw[Oa,Fi] at h2
 grind
theorem al4{L:A3 H3}(hz:∀k∈L,k.1≠o3){a b c d:Q3}(ha:Mem L a)(hb:Mem L b)(hc:Mem L c)(hd:Mem L d)(h:ER (BD b a) (BD c a) (BD d a)≠0):∃o,∀k∈L,val k o<0:=by
 refine⟨Dl (Dl a b<|1/2) (Dl c d<|1/2)<|1/2,λk mk=>?_⟩;have e:val k (Dl (Dl a b<|1/2) (Dl c d<|1/2)<|1/2)=(1/4)*(val k a+val k b+val k c+val k d):=by rw[Fq,Fq,Fq];grind
 have h1:=ha k mk;have h2:=hb k mk;have h3:=hc k mk;have h4:=hd k mk;refine Cr λg=>hz k mk ?_
 have a0:val k a=0:=AK;have b0:val k b=0:=AK;have c0:val k c=0:=AK;have d0:val k d=0:=AK;refine Yy h ?_ ?_ ?_<;>rw[NX,val_sub]
 ·rw[a0,b0];grind
 ·rw[a0,c0];grind
 ·rw[a0,d0];grind
theorem alB{S:A3 CC}{M:A3 H3}(I:CJ S M){h:H3}(mh:h∈M){a b c:Q3}(va:Bt M a)(vb:Bt M b)(vc:Bt M c)(ta:val h a=0)(tb:val h b=0)(tc:val h c=0)(J8:a≠b)(hac:a≠c)(hbc:b≠c):∃f∈S,f.1=h:=by
 let⟨o,hi⟩:=I.int;have hz:val h (Dl (Dl a b<|1/2) c<|1/3)=0:=by rw[Fq,Fq,ta,tb,tc];grind
 let⟨f,mf,tf⟩:=I.cover (Dl (Dl a b<|1/2) c<|1/3) (λk mk=>by
  rw[Fq,Fq];have:=va.1 k mk;have:=vb.1 k mk;have:=vc.1 k mk
  grind) ⟨h,mh,hz⟩
 have g1:=(I.EZ f mf).1;refine⟨f,mf,ql hi I.nz I.norm g1 mh (Cr λhc=>?_) tf hz⟩;rw[Fq,Fq] at tf;have:=va.1 _ g1;have:=vb.1 _ g1;have:=vc.1 _ g1;have fa:val f.1 a=0:=AK;have fb:val f.1 b=0:=AK;have fc:val f.1 c=0:=AK;let⟨s,hs⟩:=along hc (d:=BD b a) (by rw[val_sub,fa,fb];grind) (by rw[val_sub,ta,tb];grind);let⟨r,hr⟩:=along hc (d:=BD c a) (by rw[val_sub,fa,fc];grind) (by rw[val_sub,ta,tc];grind);refine oU va vb vc J8 hac hbc ?_;rw[hs,hr];exact J5
end
structure M7{α:Type}(c:α×α->AA Int)(R:α->α->Prop)(l:A3 α):Prop where
 get:∀x∈l,∀y∈l,∃v,c (x,y)=some v/\(v<0↔R x y)
 irr:∀x∈l,¬R x x
 tr:∀x∈l,∀y∈l,∀z∈l,R x y->R y z->R x z
 MB:∀x∈l,∀y∈l,x=y\/R x y\/R y x
section
variable{α:Type}[DecidableEq α]{c:α×α->Option Int}{R:α->α->Prop}
variable{l:A3 α}
theorem M7.perm{m:A3 α}(h:M7 c R l)(p:m.Perm l):M7 c R m:=⟨λx mx y my=>h.get x (p.mem_iff.1 mx) y<|p.mem_iff.1 my,λx mx=>h.irr x<|p.mem_iff.1 mx,λx mx y my z mz=>h.tr x (p.mem_iff.1 mx) y (p.mem_iff.1 my) z<|p.mem_iff.1 mz,λx mx y my=>h.MB x (p.mem_iff.1 mx) y<|p.mem_iff.1 my⟩
theorem aaL{x:α}:∀{s:A3 α},M7 c R (x::s)->s.Pairwise (λa b=>a=b\/R b a)->∃r,O3 (λa b=>c (a,b)) x s=some r/\r.Perm (x::s)/\r.Pairwise (λa b=>a=b\/R b a)
 |[],_,_=>⟨[x],rfl,List.Perm.refl _,SJ _ _⟩
 |y::s,h,hs=>by
  have mx:x∈x::y::s:=DT;have my:y∈x::y::s:=AV;let⟨v,hv,Jd⟩:=h.get x mx y my;let⟨h1,h2⟩:=JK.1 hs;unfold O3;rw[hv];show ∃r,cond (decide<|v<0) _ _=some r/\_;by_cases hl:v<0
  ·let⟨r,r1,r2,r3⟩:=aaL (x:=x) (s:=s) ⟨λa ma b mb=>h.get a AK b AK,λa ma=>h.irr a AK,λa ma b mb d md=>h.tr a AK b AK d AK,λa ma b mb=>h.MB a AK b AK⟩ h2;refine⟨y::r,by rw[B5 hl,BH,r1];rfl,((r2.cons y).trans<|List.Perm.swap x y s),JK.2 ⟨λz mz=>?_,r3⟩⟩;rcases Ao.1 (r2.mem_iff.1 mz) with e|mz
   ·rw[e];exact .inr<|Jd.1 hl
   ·exact h1 z mz
  ·refine⟨x::y::s,by rw[Bu hl];rfl,List.Perm.refl _,JK.2 ⟨λz mz=>?_,hs⟩⟩;have nxy: ¬R x y:=λk=>hl<|Jd.2 k
   have hxy:x=y\/R y x:=by
    rcases h.MB x mx y my with e|e|e
    ·exact .inl e
    ·exact absurd e nxy
    ·exact .inr e
   rcases Ao.1 mz with e|mz
   ·rw[e];exact hxy
   ·rcases hxy with e|e
    ·rw[e];exact h1 z mz
    ·rcases h1 z mz with e2|e2
     ·rw[<-e2];exact .inr e
     ·exact .inr (h.tr z (by simp[mz]) y my x mx e2 e)
theorem xt:∀(l s:A3 α),M7 c R (s++l)->s.Pairwise (λa b=>a=b\/R b a)->∃r,Jc l (λnext x s=>bd (O3 (λa b=>c (a,b)) x s) next) s (λs=>some s.reverse)=some r/\r.Perm (s++l)/\r.Pairwise (λa b=>a=b\/R a b)
 |[],s,h,hs=>⟨s.reverse,rfl,by rw[Ih];exact List.reverse_perm s,by rw[List.pairwise_reverse];exact hs.imp λ{a b} k=>k.elim (λe=> .inl e.symm) .inr⟩
 |x::l,s,h,hs=>by let⟨r,r1,r2,r3⟩:=aaL (x:=x) (s:=s) ⟨λa ma b mb=>h.get a AK b AK,λa ma=>h.irr a AK,λa ma b mb d md=>h.tr a AK b AK d AK,λa ma b mb=>h.MB a AK b AK⟩ hs;have p:(r++l).Perm (s++x::l):=(r2.append_right l).trans (by simpa using(@List.perm_middle _ x s l).symm);let⟨t,t1,t2,t3⟩:=xt l r (h.perm p) r3;refine⟨t,?_,t2.trans p,t3⟩;show bd (O3 (λa b=>c (a,b)) x s) _=_;rw[r1];exact t1
theorem aan{x:α}:∀{s:A3 α},M7 c R (x::s)->(∀y∈s,x=y\/R x y)->XJ c x s=true
 |[],_,_=>rfl
 |y::s,h,hs=>by
  have mx:x∈x::y::s:=DT;have my:y∈x::y::s:=AV;unfold XJ;rw[aan (x:=x) (s:=s) ⟨λa ma b mb=>h.get a AK b AK,λa ma=>h.irr a AK,λa ma b mb d md=>h.tr a AK b AK d AK,λa ma b mb=>h.MB a AK b AK⟩ λz mz=>hs z<|C2 _ mz,iC];let⟨v,v1,v2⟩:=h.get x mx y my;let⟨u,u1,u2⟩:=h.get y my x mx;rcases hs y DT with e|e
  ·rw[B5 e];rfl
  ·rw[v1,u1];cases decide (x=y)
   ·have n: ¬R y x:=λk=>h.irr x mx (h.tr x mx y my x mx e k)
    have a:=v2.2 e;have b: ¬u<0:=λk=>n<|u2.1 k
    show(decide (v<0)&&decide (0<=u))=true;rw[B5 a,B5 A4];rfl
   ·rfl
theorem zW:∀{s:A3 α},M7 c R s->s.Pairwise (λa b=>a=b\/R a b)->Oq c s=true
 |[],_,_=>rfl
 |x::s,h,hs=>by
  let⟨h1,h2⟩:=JK.1 hs;unfold Oq;let⟨v,v1,v2⟩:=h.get x DT x DT;have: ¬v<0:=λk=>h.irr x DT<|v2.1 k
  rw[v1,aan h h1,zW (s:=s) ⟨λa ma b mb=>h.get a AK b AK,λa ma=>h.irr a AK,λa ma b mb d md=>h.tr a AK b AK d AK,λa ma b mb=>h.MB a AK b AK⟩ h2];show(decide (0<=v)&&(true&&true))=true;rw[B5 A4];rfl
theorem pY(h:M7 c R l)(hl:l.length<4611686018427387904):∃s,Ie l c=some s/\s.Perm l/\s.Pairwise (λa b=>a=b\/R a b):=by
 let⟨s,s1,s2,s3⟩:=xt l [] h List.Pairwise.nil;refine⟨s,?_,s2,s3⟩;unfold Ie jM;rw[s1];have ht:totB c l=true:=by unfold totB;rw[Dk];intro x mx;rw[Dk];intro y my;let⟨v,v1,_⟩:=h.get x mx y my;rw[v1];rfl
 show EN _ s=_;rw[ht,zW (h.perm s2) s3,show Nat.blt l.length 4611686018427387904=true from Ik hl];rfl
theorem zP{e:α×α->AA Bool}:∀{x:α} {l:A3 α},(∀a∈x::l,∀b∈x::l,e (a,b)=some (decide<|a=b))->(x::l).Pairwise (λa b=>a=b\/R a b)->M7 c R (x::l)->∃r,Wy (λa b=>e (a,b)) x l=some r/\(x::r).Pairwise R/\∀z,z∈x::r↔z∈x::l
 |x,[],_,_,_=>⟨[],rfl,SJ _ _,λz=>Iff.rfl⟩
 |x,y::l,he,hs,h=>by
  let⟨h1,h2⟩:=JK.1 hs;let⟨r,r1,r2,r3⟩:=zP (x:=y) (l:=l) (λa ma b mb=>he a (C2 _ ma) b<|C2 _ mb) h2 ⟨λa ma b mb=>h.get a AK b AK,λa ma=>h.irr a AK,λa ma b mb d md=>h.tr a AK b AK d AK,λa ma b mb=>h.MB a AK b AK⟩;unfold Wy;rw[he y AV x AV,r1];by_cases hxy:y=x
  ·subst hxy;refine⟨r,by rw[B5 rfl];rfl,r2,λz=>?_⟩;rw[r3];simp
  ·refine⟨y::r,by rw[Bu hxy];rfl,JK.2 ⟨λz mz=>?_,r2⟩,λz=>?_⟩
   ·have rxy:R x y:=(h1 y AV).elim (λe=>absurd e.symm hxy) id;rcases Ao.1 mz with e|mz'
    ·rw[e];exact rxy
    ·have ryz:=(JK.1 r2).1 z mz';exact h.tr x AV y AV z (C2 _<|(r3 z).1 mz) rxy ryz
   ·rw[Ao,r3];simp
theorem ahk{e:α×α->AA Bool}(he:∀a∈l,∀b∈l,e (a,b)=some (decide<|a=b))(hs:l.Pairwise (λa b=>a=b\/R a b))(h:M7 c R l):∃r,Yg l e=some r/\r.Pairwise R/\∀z,z∈r↔z∈l:=by
 cases l with
 |nil=>exact⟨[],rfl,List.Pairwise.nil,λz=>Iff.rfl⟩
 |cons x l=>let⟨r,r1,r2,r3⟩:=zP he hs h;refine⟨x::r,?_,r2,r3⟩;show bd (Wy (λa b=>e (a,b)) x l) _=_;rw[r1];rfl
theorem nv{m:A3 α}(hl:l.Pairwise R)(hm:m.Pairwise R)(ha:∀x∈l,∀y∈l,R x y-> ¬R y x)(h:∀z,z∈l↔z∈m):l=m:=by
 induction l generalizing m with
 |nil=>
  cases m with
  |nil=>rfl
  |cons y m=>exact absurd ((h y).2 DT) AV
 |cons x l ih=>
  cases m with
  |nil=>exact absurd ((h x).1 DT) AV
  |cons y m=>
   let⟨l1,l2⟩:=JK.1 hl;let⟨m1,m2⟩:=JK.1 hm;have irr:∀z∈x::l,¬R z z:=λz mz k=>ha z mz z mz k k
   have exy:x=y:=by
    refine Cr λhne=>?_
    have a:x∈m:=by
     rcases Ao.1 ((h x).1 DT) with e|e
     ·exact absurd e hne
     ·exact e
    have b:y∈l:=by
     rcases Ao.1 ((h y).2 DT) with e|e
     ·exact absurd e.symm hne
     ·exact e
    exact ha x DT y (C2 _ b) (l1 y b)<|m1 x a
   subst exy
   congr 1
   refine ih l2 m2 (λa ma b mb=>ha a (C2 _ ma) b<|C2 _ mb) λz=>?_
   constructor
   ·intro mz;rcases Ao.1 ((h z).1<|C2 _ mz) with e|e
    ·rw[e] at mz;exact absurd (l1 _ mz)<|irr _ DT
    ·exact e
   ·intro mz;rcases Ao.1 ((h z).2<|C2 _ mz) with e|e
    ·rw[e] at mz;exact absurd (m1 _ mz)<|irr _ DT
    ·exact e
end
section
variable{a:Rat}{L:A3 H3}{p:Q3}{x y m:Rat}{M:A3 H3}{v w b:Q3}{S:A3 CC}{k:Rat}{c:Q3}{l:A3 Q3}{n u:Q3}
def HF(a b:Q3):Prop:=a.1<b.1\/a.1=b.1/\(a.2.1<b.2.1\/a.2.1=b.2.1/\a.2.2<b.2.2)
theorem S9(a:Q3): ¬HF a a:=by unfold HF;grind
theorem abE{a:Q3}:HF a b->HF b c->HF a c:=by unfold HF;grind
theorem ami(a b:Q3):a=b\/HF a b\/HF b a:=by
 by_cases h:a=b
 ·exact .inl h
 ·right;have: ¬(a.1=b.1/\a.2.1=b.2.1/\a.2.2=b.2.2):=λk=>h<|LF k.1 k.2.1 k.2.2
  unfold HF;grind
def akh{c:Q3×Q3->AA Int}(h:∀x∈l,∀y∈l,∃v,c (x,y)=some v/\(v<0↔HF x y)):M7 c HF l:=⟨h,λx _=>S9 x,λx _ y _ z _=>abE,λx _ y _=>ami x y⟩
theorem xg(hn:n≠o3)(hu:AM n u=0)(hv:AM n v=0)(hw:AM n w=0):BX v (AM n<|Ag u w)=Db (BX u<|AM n<|Ag v w) (BX w<|AM n<|Ag u v):=by
 have hp:=PI hn;have hd:ER u v w*AM n n=0:=by
  have:ER u v w*AM n n=AM n (Ag v w)*AM n u-AM n (Ag u w)*AM n v+AM n (Ag u v)*AM n w:=by unfold ER AM Ag;grind
  rw[this,hu,hv,hw];grind
 have hd:ER u v w=0:=by
  rcases Hl.1 hd with g|g
  ·exact g
  ·grind
 unfold ER at hd;refine LF ?_ ?_ ?_<;>simp only[BX,Db]
 ·have:u.1*AM n (Ag v w)+w.1*AM n (Ag u v)-v.1*AM n (Ag u w)=AM (Ag u v) w*n.1:=by unfold AM Ag;grind
  rw[hd] at this;grind
 ·have:u.2.1*AM n (Ag v w)+w.2.1*AM n (Ag u v)-v.2.1*AM n (Ag u w)=AM (Ag u v) w*n.2.1:=by unfold AM Ag;grind
  rw[hd] at this;grind
 ·have:u.2.2*AM n (Ag v w)+w.2.2*AM n (Ag u v)-v.2.2*AM n (Ag u w)=AM (Ag u v) w*n.2.2:=by unfold AM Ag;grind
  rw[hd] at this;grind
def R7(u:Q3):Prop:=0<u.1\/u.1=0/\(0<u.2.1\/u.2.1=0/\0<u.2.2)
theorem o7{a:Q3}(h:HF a b):R7 (BD b a):=by grind [HF,R7,BD]
theorem amN{b:Rat}(hu:R7 u)(hw:R7 w)(ha:0<a)(hb:0<b):R7 (Db (BX u a)<|BX w b):=by
 have m:∀x c:Rat,0<c->(0<x->0<x*c)/\(x=0->x*c=0):=λx c hc=>⟨λh=>GX h hc,λh=>by rw[h];grind⟩
 have a1:=m u.1 a ha;have a2:=m u.2.1 a ha;have a3:=m u.2.2 a ha;have b1:=m w.1 b hb;have b2:=m w.2.1 b hb;have b3:=m w.2.2 b hb;unfold R7 at*;unfold Db BX;dsimp only
 grind
theorem aoP(hv:R7 v)(h:R7 (BX v a)):0<a:=by
 refine Cr λc=>?_
 have m:∀x:Rat,0<=x->x*a<=0:=λx hx=>by have:=Dc hx (show 0<= -a by grind);grind
 have m1:=m v.1;have m2:=m v.2.1;have m3:=m v.2.2;have z:∀x:Rat,0<x->x*a=0->a=0:=λx hx h=>by
  rcases Hl.1 h with g|g
  ·grind
  ·exact g
 have z1:=z v.1;have z2:=z v.2.1;unfold R7 at*;unfold BX at h;dsimp only at h
 grind
theorem aq2{a:Q3}{d:Rat}(hn:n≠o3)(tp:val (n,d) p=0)(ta:val (n,d) a=0)(tb:val (n,d) b=0)(tc:val (n,d) c=0)(la:HF p a)(lb:HF p b)(lc:HF p c)(h1:0<CN n p a b)(h2:0<CN n p b c):0<CN n p a c:=by have ea:=val_sub (n,d) p a;have eb:=val_sub (n,d) p b;have ec:=val_sub (n,d) p c;rw[tp,ta] at ea;rw[tp,tb] at eb;rw[tp,tc] at ec;have r:=xg hn (u:=BD a p) (v:=BD b p) (w:=BD c p) AK AK AK;unfold CN at h1 h2⊢;refine aoP (o7 lb) (v:=BD b p) ?_;rw[r];exact amN (o7 la) (o7 lc) h2 h1
theorem alQ{f:H3}(hf:f.1≠o3)(vp:Bt L p)(tp:val f p=0)(hl:∀x∈l,Bt L x/\val f x=0/\HF p x){c:Q3×Q3->AA Int}(hc:∀x∈l,∀y∈l,∃v,c (x,y)=some v/\(v<0↔0<CN f.1 p x y)):M7 c (λx y=>0<CN f.1 p x y) l:=by
 refine⟨hc,λx _ h=>?_,λx mx y my z mz h1 h2=>?_,λx mx y my=>?_⟩
 ·rw[OR] at h;grind
 ·let⟨_,a2,a3⟩:=hl x mx;let⟨_,b2,b3⟩:=hl y my;let⟨_,c2,c3⟩:=hl z mz;exact aq2 hf tp a2 b2 c2 a3 b3 c3 h1 h2
 ·by_cases e:x=y
  ·exact .inl e
  ·right;let⟨a1,a2,a3⟩:=hl x mx;let⟨b1,b2,b3⟩:=hl y my;have h:=za hf vp a1 b1 tp a2 b2 (λe=>S9 p (by rw[<-e] at a3;exact a3)) (λe=>S9 p (by rw[<-e] at b3;exact b3)) e;have s:CN f.1 p y x= -CN f.1 p x y:=by unfold CN AM Ag BD;grind
   rw[s];grind
theorem fi{α:Type}{R:α->α->Prop}{l:A3 α}(h:l.Pairwise R){a b:α}(s:[a,b].Sublist l):R a b:=by grind
theorem aic{f:H3}(hf:f.1≠o3){s:A3 Q3}(hl:∀x∈p::s,Bt L x/\val f x=0)(hs:s.Pairwise λx y=>0<CN f.1 p x y):Hj f.1 (p::s):=by
 intro a b c h;cases h with
 |cons_cons _ h=>exact fi hs h
 |cons _ h=>
  have ab:=fi hs<|(((Qi [c]).cons_cons b).cons_cons a).trans h
  have bc:=fi hs<|((List.sublist_cons_self a [b,c])).trans h
  have ac:=fi hs<|(((List.sublist_cons_self b [c])).cons_cons a).trans h
  have g:∀x,x∈[a,b,c]->x∈p::s:=λx mx=>C2 _<|h.subset mx
  let⟨vp,tp⟩:=hl p DT;let⟨va,ta⟩:=hl a<|g a AV
  let⟨vb,tb⟩:=hl b<|g b AV
  let⟨vc,tc⟩:=hl c<|g c AV
  refine Cr λFA=>?_
  have ea:=val_sub f p a;have eb:=val_sub f p b;have ec:=val_sub f p c;rw[tp,ta] at ea;rw[tp,tb] at eb;rw[tp,tc] at ec;have r:=xg hf (u:=BD a p) (v:=BD b p) (w:=BD c p) AK AK AK;have o:CN f.1 a b c=CN f.1 p b c-CN f.1 p a c+CN f.1 p a b:=by unfold CN AM Ag BD;grind
  have:a=c:=by
   refine Ps<|vb.2 _ λh mh th=>?_
   have k:=congrArg (AM h.1) r;rw[Fi,Oa,Fi,Fi,val_sub,val_sub,val_sub,th] at k;change CN f.1 p a c*(0-val h p)=CN f.1 p b c*(val h a-val h p)+CN f.1 p a b*(val h c-val h p) at k;have x:=vp.1 h mh;have y:=va.1 h mh;have z:=vc.1 h mh;have i1:=Dc (show 0<= -CN f.1 a b c by grind) (show 0<= -val h p by grind);have i2:=Dc (show 0<=CN f.1 p b c by grind) (show 0<= -val h a by grind);have i3:=Dc (show 0<=CN f.1 p a b by grind) (show 0<= -val h c by grind);rw[o] at i1;have j2:CN f.1 p b c*val h a=0:=AK;have j3:CN f.1 p a b*val h c=0:=AK;rw[val_sub];rcases Hl.1 j2 with g|g
   ·grind
   ·rcases Hl.1 j3 with g'|g'
    ·grind
    ·rw[g,g'];grind
  rw[this,OR] at ac
  grind
def DU(a:Rat):A3 H3:=[((-1,0,0),a),((1,0,0),a),((0,-1,0),a),((0,1,0),a),((0,0,-1),a),((0,0,1),a)]
theorem Oh(a:Rat)(p:Q3):val ((-1,0,0),a) p= -p.1-a:=by unfold val AM;grind
theorem Og(a:Rat)(p:Q3):val ((1,0,0),a) p=p.1-a:=by unfold val AM;grind
theorem Of(a:Rat)(p:Q3):val ((0,-1,0),a) p= -p.2.1-a:=by unfold val AM;grind
theorem Oe(a:Rat)(p:Q3):val ((0,1,0),a) p=p.2.1-a:=by unfold val AM;grind
theorem Od(a:Rat)(p:Q3):val ((0,0,-1),a) p= -p.2.2-a:=by unfold val AM;grind
theorem Oc(a:Rat)(p:Q3):val ((0,0,1),a) p=p.2.2-a:=by unfold val AM;grind
def ML{P:H3->Prop}:(∀h∈DU a,P h)↔P ((-1,0,0),a)/\P ((1,0,0),a)/\P ((0,-1,0),a)/\P ((0,1,0),a)/\P ((0,0,-1),a)/\P ((0,0,1),a):=by unfold DU;simp
def anU{P:H3->Prop}:(∃h∈DU a,P h)↔P ((-1,0,0),a)\/P ((1,0,0),a)\/P ((0,-1,0),a)\/P ((0,1,0),a)\/P ((0,0,-1),a)\/P ((0,0,1),a):=by unfold DU;simp
theorem akg:Mem (DU a) p↔(-a<=p.1/\p.1<=a)/\(-a<=p.2.1/\p.2.1<=a)/\ -a<=p.2.2/\p.2.2<=a:=by unfold Mem;rw[ML,Oh,Og,Of,Oe,Od,Oc];grind
theorem Tj(ha:0<a):Bt (DU a) p↔(p.1=a\/p.1= -a)/\(p.2.1=a\/p.2.1= -a)/\(p.2.2=a\/p.2.2= -a):=by
 unfold Bt;rw[akg];constructor
 ·rintro⟨h,k⟩;have d1:∀x:Rat,AM (-1,0,0) (1,0,0)= -1:=λ_=>by unfold AM;grind
  refine⟨Cr λc=>?_,Cr λc=>?_,Cr λc=>?_⟩
  ·have:=k (1,0,0) (by rw[ML,Oh,Og,Of,Oe,Od,Oc];unfold AM;grind);exact Z2 this
  ·have:=k (0,1,0) (by rw[ML,Oh,Og,Of,Oe,Od,Oc];unfold AM;grind);have:=congrArg (λx:Q3=>x.2.1) this;simp only[o3] at this;grind
  ·have:=k (0,0,1) (by rw[ML,Oh,Og,Of,Oe,Od,Oc];unfold AM;grind);have:=congrArg (λx:Q3=>x.2.2) this;simp only[o3] at this;grind
 ·rintro⟨h1,h2,h3⟩;refine⟨AK,λd hd=>?_⟩;rw[ML,Oh,Og,Of,Oe,Od,Oc] at hd;unfold AM at hd;dsimp only at hd;exact Ws AK AK AK
theorem zO(a:Rat):Ef (DU a):=λd hd=>by rw[anU];unfold AM;refine Cr λc=>hd (Ws ?_ ?_ ?_)<;>grind
theorem Tk{a:Q3}(ha:a∈l)(hb:b∈l)(hc:c∈l)(J8:a≠b)(hac:a≠c)(hbc:b≠c):3<=l.length:=by
 match l,ha,hb,hc with
 |[x],ha,hb,hc=>simp at ha hb hc;exact absurd (ha.trans hb.symm) J8
 |[x,y],ha,hb,hc=>simp at ha hb hc;grind
 |_::_::_::_,_,_,_=>simp
def O0(a:Rat)(f:Rat->Rat->Q3):A3 Q3:=[f (-a)<| -a,f (-a) a,f a<| -a,f a a]
theorem yX{f:Rat->Rat->Q3}:p∈O0 a f↔∃x y,(x=a\/x= -a)/\(y=a\/y= -a)/\p=f x y:=by(simp_all [O0]<;>grind)
theorem ajK(ha:0<a)(hS:S.map Prod.fst=DU a)(hC:∀f∈S,Hj f.1.1 f.2/\∀p,p∈f.2↔Bt (DU a) p/\val f.1 p=0):CJ S (DU a):=by
 have hin:∀f∈S,f.1∈DU a:=λf mf=>by rw[<-hS];exact BR.2 ⟨f,mf,rfl⟩
 have hd:(DU a).Pairwise (· ≠ ·):=by
  have:((DU a).map Prod.fst).Pairwise (· ≠ ·):=by
   show List.Pairwise (· ≠ ·) ([(-1,0,0),(1,0,0),(0,-1,0),(0,1,0),(0,0,-1),(0,0,1)]:A3 Q3)
   decide
  exact(Nj.1 this).imp λ{a b} h e=>h<|congrArg Prod.fst e
 have ca:∀h∈DU a,h.2=a:=by rw[ML];exact⟨rfl,rfl,rfl,rfl,rfl,rfl⟩
 refine⟨zO a,⟨o3,?_⟩,?_,?_,λf mf=>?_,?_,λp hp ht=>?_⟩
 ·rw[ML,Oh,Og,Of,Oe,Od,Oc];unfold o3;dsimp;grind
 ·rw[ML];unfold o3;simp[ne_eq,Ls];grind
 ·intro h mh k mk hk;let⟨s,s0,e⟩:=hk;have:=ca h mh;have hk2:=ca k mk;have e2:k.2=h.2*s:=by rw[e]
  have:s=1:=by have:a*(s-1)=0:=AK;rcases Hl.1 this with g|g<;>grind
  subst this;rw[e];refine Prod.ext (LF ?_ ?_ ?_) ?_<;>simp[BX]<;>grind
 ·let⟨c1,c2⟩:=hC f mf;refine⟨hin f mf,c1,?_,c2⟩;have one:∀x y z:Rat,(x=a\/x= -a)->(y=a\/y= -a)->(z=a\/z= -a)->val f.1 (x,y,z)=0->(x,y,z)∈f.2:=λx y z hx hy hz hv=>(c2 _).2 ⟨(Tj ha).2 ⟨hx,hy,hz⟩,hv⟩
  have hne:a≠ -a:=AK;have mf:=hin f mf;have hr:a=a\/a= -a:= .inl rfl;have hl: -a=a\/ -a= -a:= .inr rfl
  generalize f.1=h at*
  simp[DU,Ao,ZX,or_false] at mf;rcases mf with e|e|e|e|e|e<;>subst e
  ·exact Tk (one (-a) a a hl hr hr (by rw[Oh];grind)) (one (-a) a (-a) hl hr hl (by rw[Oh];grind)) (one (-a) (-a) a hl hl hr (by rw[Oh];grind)) (by simp[hne]) (by simp[hne]) (by simp[hne])
  ·exact Tk (one a a a hr hr hr (by rw[Og];grind)) (one a a (-a) hr hr hl (by rw[Og];grind)) (one a (-a) a hr hl hr (by rw[Og];grind)) (by simp[hne]) (by simp[hne]) (by simp[hne])
  ·exact Tk (one a (-a) a hr hl hr (by rw[Of];grind)) (one a (-a) (-a) hr hl hl (by rw[Of];grind)) (one (-a) (-a) a hl hl hr (by rw[Of];grind)) (by simp[hne]) (by simp[hne]) (by simp[hne])
  ·exact Tk (one a a a hr hr hr (by rw[Oe];grind)) (one a a (-a) hr hr hl (by rw[Oe];grind)) (one (-a) a a hl hr hr (by rw[Oe];grind)) (by simp[hne]) (by simp[hne]) (by simp[hne])
  ·exact Tk (one a a (-a) hr hr hl (by rw[Od];grind)) (one a (-a) (-a) hr hl hl (by rw[Od];grind)) (one (-a) a (-a) hl hr hl (by rw[Od];grind)) (by simp[hne]) (by simp[hne]) (by simp[hne])
  ·exact Tk (one a a a hr hr hr (by rw[Oc];grind)) (one a (-a) a hr hl hr (by rw[Oc];grind)) (one (-a) a a hl hr hr (by rw[Oc];grind)) (by simp[hne]) (by simp[hne]) (by simp[hne])
 ·grind
 ·grind
def J7(x:Rat):Prop:=∃z:Int,x=(z:Rat)
def J7.mul:J7 x->J7 y->J7 (x*y)|⟨a,ha⟩,⟨b,hb⟩=>⟨a*b,by rw[ha,hb,Rat.intCast_mul]⟩
def J7.add:J7 x->J7 y->J7 (x+y)|⟨a,ha⟩,⟨b,hb⟩=>⟨a+b,by rw[ha,hb,Rat.intCast_add]⟩
def J7.sub:J7 x->J7 y->J7 (x-y)|⟨a,ha⟩,⟨b,hb⟩=>⟨a-b,by rw[ha,hb,Rat.intCast_sub]⟩
def O2(v:Q3):Prop:=J7 v.1/\J7 v.2.1/\J7 v.2.2
def O2.ak(h:O2 v)(k:O2 w):O2 (Ag v w):=⟨(h.2.1.mul k.2.2).sub<|h.2.2.mul k.2.1,(h.2.2.mul k.1).sub<|h.1.mul k.2.2,(h.1.mul k.2.1).sub<|h.2.1.mul k.1⟩
def O2.dot(h:O2 v)(k:O2 w):J7 (AM v w):=((h.1.mul k.1).add<|h.2.1.mul k.2.1).add<|h.2.2.mul k.2.2
def J7.one(h:J7 x)(h0:x≠0):1<=x\/x<= -1:=by
 obtain⟨z,rfl⟩:=h;have:z≠0:=λe=>h0 (by rw[e];rfl)
 rcases Int.lt_or_gt_of_ne this with h|h
 ·right;have:=Rat.intCast_le_intCast.2 (show z<= -1 by omega);simpa using this
 ·left;have:=Rat.intCast_le_intCast.2 (show 1<=z by omega);simpa using this
def wi(x m:Rat):Prop:= -m<=x/\x<=m
theorem wi.mul(h:wi x m)(g:wi y k):wi (x*y) (m*k):=by let⟨a,b⟩:=h;let⟨c,d⟩:=g;have p1:=Dc (show 0<=m-x by grind) (show 0<=k+y by grind);have p2:=Dc (show 0<=m+x by grind) (show 0<=k-y by grind);have p3:=Dc (show 0<=m-x by grind) (show 0<=k-y by grind);have p4:=Dc (show 0<=m+x by grind) (show 0<=k+y by grind);constructor<;>grind
theorem wi.add(h:wi x m)(g:wi y k):wi (x+y) (m+k):=by unfold wi at*;grind
theorem wi.sub(h:wi x m)(g:wi y k):wi (x-y) (m+k):=by unfold wi at*;grind
def wi3(v:Q3)(m:Rat):Prop:=wi v.1 m/\wi v.2.1 m/\wi v.2.2 m
def wi3.ak(h:wi3 v m)(g:wi3 w k):wi3 (Ag v w) (m*k+m*k):=⟨(h.2.1.mul g.2.2).sub<|h.2.2.mul g.2.1,(h.2.2.mul g.1).sub<|h.1.mul g.2.2,(h.1.mul g.2.1).sub<|h.2.1.mul g.1⟩
theorem aom(h:1<=x\/x<= -1):wi x⁻¹ 1:=by
 have e:=iP x AK
 generalize x⁻¹ =i at e
 constructor
 ·refine Cr λc=>?_
  rcases h with g|g
  ·have:=Dc (show 0<=x-1 by grind) (show 0<= -i by grind);grind
  ·have:=Dc (show 0<= -1-x by grind) (show 0<= -i-1 by grind);grind
 ·refine Cr λc=>?_
  rcases h with g|g
  ·have:=Dc (show 0<=x-1 by grind) (show 0<=i-1 by grind);grind
  ·have:=Dc (show 0<= -1-x by grind) (show 0<=i by grind);grind
theorem ame{a b c:H3}{D:Rat}(ia:O2 a.1)(ib:O2 b.1)(ic:O2 c.1)(ha:wi3 a.1 m/\wi a.2 D)(hb:wi3 b.1 m/\wi b.2 D)(hc:wi3 c.1 m/\wi c.2 D)(hd:ER a.1 b.1 c.1≠0):wi3 (Ip a b c) (6*(m*m*D)):=by
 have hi:=aom<|J7.one ((ia.ak ib).dot ic) hd
 have x1:=hb.1.ak hc.1;have x2:=hc.1.ak ha.1;have x3:=ha.1.ak hb.1;unfold Ip ER
 generalize (AM (Ag a.1 b.1) c.1)⁻¹ =i at hi
 have fin:∀{x y z:Rat},wi x (m*m+m*m)->wi y (m*m+m*m)->wi z (m*m+m*m)->wi ((x*a.2+y*b.2+z*c.2)*i) (6*(m*m*D)):=λh1 h2 h3=>by
  have:=(((h1.mul ha.2).add<|h2.mul hb.2).add<|h3.mul hc.2).mul hi;unfold wi at this⊢
  grind
 exact⟨fin x1.1 x2.1 x3.1,fin x1.2.1 x2.2.1 x3.2.1,fin x1.2.2 x2.2.2 x3.2.2⟩
theorem anC(hb:Ef L){D:Rat}(hm:0<m)(hD:0<D)(hL:∀k∈L,O2 k.1/\wi3 k.1 m/\wi k.2 D)(hp:Mem L p):∀h∈DU (7*(m*m*D)),val h p<0:=by
 have h0:=GX (GX hm hm) hD;have key:∀c:Q3,∃v,wi3 v (6*(m*m*D))/\AM c p<=AM c v:=λc=>by let⟨v,v1,v2,_⟩:=Qn hb hp c;obtain⟨_,a,ma,b,mb,d,md,hd,rfl⟩:=Yk.1 v1;let⟨ia,wa⟩:=hL a ma;let⟨ib,wb⟩:=hL b mb;let⟨id,wd⟩:=hL d md;exact⟨_,ame ia ib id wa wb wd hd,v2⟩
 unfold wi3 wi at key;rw[ML,Oh,Og,Of,Oe,Od,Oc];let⟨v1,k1⟩:=key (-1,0,0);let⟨v2,k2⟩:=key (1,0,0);let⟨v3,k3⟩:=key (0,-1,0);let⟨v4,k4⟩:=key (0,1,0);let⟨v5,k5⟩:=key (0,0,-1);let⟨v6,k6⟩:=key (0,0,1);unfold AM at k1 k2 k3 k4 k5 k6;dsimp only at k1 k2 k3 k4 k5 k6
 grind
theorem CJ.drop{C:A3 H3}(I:CJ S M)(hM:∀k,k∈M↔k∈L\/k∈C)(hb:Ef L)(hc:∀p,Mem L p->∀h∈C,val h p<0):CJ S L/\∀p,Mem L p↔Mem M p:=by
 have IN:∀p,Mem L p↔Mem M p:=λp=>by
  constructor
  ·intro h k mk;rcases(hM k).1 mk with m|m
   ·exact h k m
   ·grind
  ·exact λh k mk=>h k<|(hM k).2<| .inl mk
 have hv:∀p,Bt M p↔Bt L p:=λp=>by
  constructor
  ·rintro⟨h1,h2⟩;refine⟨(IN p).2 h1,λd hd=>h2 d λk mk tk=>?_⟩;rcases(hM k).1 mk with m|m
   ·exact hd k m tk
   ·grind
  ·rintro⟨h1,h2⟩;exact⟨(IN p).1 h1,λd hd=>h2 d λk mk tk=>hd k ((hM k).2<| .inl mk) tk⟩
 refine⟨⟨hb,?_,λh mh=>I.nz h<|(hM h).2<| .inl mh,λh mh k mk=>I.norm h ((hM h).2<| .inl mh) k<|(hM k).2<| .inl mk,λf mf=>?_,I.RG,λp hp ht=>?_⟩,IN⟩
 ·obtain⟨o,ho⟩:=I.int;exact⟨o,λh mh=>ho h<|(hM h).2<| .inl mh⟩
 ·obtain⟨f1,f2,f3,f4⟩:=I.EZ f mf;refine⟨?_,f2,f3,λp=>by rw[f4,hv]⟩;rcases(hM _).1 f1 with m|m
  ·exact m
  ·obtain⟨p,mp⟩:=List.exists_mem_of_ne_nil f.2 (λe=>by rw[e] at f3;simp at f3);obtain⟨vp,tp⟩:=(f4 p).1 mp;have:=hc p ((IN p).2 vp.1) _ m
   grind
 ·obtain⟨k,mk,tk⟩:=ht;exact I.cover p ((IN p).1 hp) ⟨k,(hM k).2<| .inl mk,tk⟩
theorem alP(I:CJ S M)(hM:∀k,k∈M↔k∈L\/k∈DU a)(ha:0<a)(h1:∀k∈L,0<k.2)(hc:Ef L->∀p,Mem L p->∀h∈DU a,val h p<0):Ef L↔∀f∈S,f.1∈L:=by
 constructor
 ·intro hb f mf;exact((I.drop hM hb<|hc hb).1.EZ f mf).1
 ·intro hf d hd;refine Cr λFA=>?_
  have hle:∀k∈L,AM k.1 d<=0:=λk mk=>Cr λc=>FA ⟨k,mk,AK⟩
  let⟨h,mh,ph,hm⟩:=least (λh:H3=>0<AM h.1 d) (λh=>a/AM h.1 d) (DU a)<|zO a d hd
  have ca:∀h∈DU a,h.2=a:=by rw[ML];exact⟨rfl,rfl,rfl,rfl,rfl,rfl⟩
  have key:∀k:H3,0<AM k.1 d->a/AM k.1 d*AM k.1 d=a:=λk hk=>Nk AK
  have hr:0<a/AM h.1 d:=by rw[Pa];exact GX ha<|SA.2 ph
  have kh:=key h ph
  generalize a/AM h.1 d=r at*
  have vz:∀k:H3,val k (BX d r)=r*AM k.1 d-k.2:=λk=>by unfold val;rw[Fi]
  have neg:∀k∈L,val k (BX d r)<0:=λk mk=>by
   rw[vz];have:=Dc (show 0<=r by grind) (show 0<= -AM k.1 d by have:=hle k mk;grind);have:=h1 k mk
   grind
  let⟨f,mf,tf⟩:=I.cover (BX d r) (λk mk=>by
   rcases(hM k).1 mk with m|m
   ·grind
   ·rw[vz,ca k m];by_cases g:0<AM k.1 d
    ·have h2:=hm k m g;have h3:=key k g;have:=Zk h2<|GZ g
     grind
    ·have:=Dc (show 0<=r by grind) (show 0<= -AM k.1 d by grind)
     grind) ⟨h,(hM h).2<| .inr mh,by rw[vz,ca h mh];grind⟩
  have:=neg f.1<|hf f mf
  grind
structure Mb(L M:A3 H3):Prop where
 sub:∀h∈M,h∈L
 le:∀h∈L,∃k∈M,k.1=h.1/\k.2<=h.2
theorem anr{h k:H3}(e:k.1=h.1)(l:k.2<=h.2)(p:Q3):val h p<=val k p:=by unfold val;rw[e];grind
def Mb.mem(h:Mb L M)(p:Q3):Mem M p↔Mem L p:=⟨λhp x mx=>by obtain⟨k,mk,e,l⟩:=h.le x mx;exact ZJ (anr e l p)<|hp k mk,λhp x mx=>hp x<|h.sub x mx⟩
theorem Mb.tight(h:Mb L M)(hp:Mem M p){x:H3}(mx:x∈L)(tx:val x p=0):x∈M:=by obtain⟨k,mk,e,l⟩:=h.le x mx;have h1:=hp k mk;have:k=x:=Prod.ext e (by unfold val at h1 tx;rw[e] at h1;grind);rw[<-this];exact mk
def Mb.FT(h:Mb L M)(p:Q3):Bt M p↔Bt L p:=
 ⟨λhp=>⟨(h.mem p).1 hp.1,λd hd=>hp.2 d λx mx tx=>hd x (h.sub x mx) tx⟩,λhp=>⟨(h.mem p).2 hp.1,λd hd=>hp.2 d λx mx tx=>hd x (h.tight ((h.mem p).2 hp.1) mx tx) tx⟩⟩
theorem YQ(I:CJ S L)(hm:Mb L M){C:A3 Q3}(hC:∀p,p∈C↔Bt M p)(hn:C.Nodup)(h:H3):h∈S.map (·.1)↔h∈M/\3<=(C.filter λp=>decide<|val h p=0).length:=by
 have mf:∀p,p∈(C.filter λp=>decide<|val h p=0)↔Bt L p/\val h p=0:=λp=>by rw[JJ,hC,hm.FT,Hn]
 constructor
 ·intro mh;obtain⟨f,hf,rfl⟩:=BR.1 mh;let⟨f1,f2,f3,f4⟩:=I.EZ f hf;have nd:=f2.nodup f3;have mm:∀p∈f.2,p∈(C.filter λp=>decide<|val f.1 p=0):=λp mp=>(mf p).2<|(f4 p).1 mp
  match e:f.2,f3,nd,mm with
  |a::b::c::l,_,nd,mm=>
   have ha:=(mf a).1<|mm a AV
   refine⟨hm.tight ((hm.mem a).2 ha.1.1) f1 ha.2,Tk (mm a AV) (mm b AV) (mm c AV) ?_ ?_ ?_⟩
   ·grind
   ·grind
   ·grind
 ·rintro⟨mh,h3⟩;have nd:(C.filter λp=>decide<|val h p=0).Nodup:=hn.sublist List.filter_sublist
  match e:C.filter λp=>decide<|val h p=0,h3,nd,mf with
  |a::b::c::l,_,nd,mf=>let⟨va,ta⟩:=(mf a).1 AV;let⟨vb,tb⟩:=(mf b).1 AV;let⟨vc,tc⟩:=(mf c).1 AV;obtain⟨f,hf,rfl⟩:=alB I (hm.sub h mh) va vb vc ta tb tc (λe=>by rw[e] at nd;simp at nd) (λe=>by rw[e] at nd;simp at nd) (λe=>by rw[e] at nd;simp at nd);exact BR.2 ⟨f,hf,rfl⟩
def IH(a:Q3)(A C:A3 Q3)(u n:Q3)(dim:Int):Prop:=
 (dim=0/\∀p∈C,p=a)\/(dim=1/\(∃b∈A,u=BD b a)/\u≠o3/\∀p∈C,Ag u (BD p a)=o3)\/
 (dim=2/\(∃b∈A,∃c∈A,n=Ag (BD b a) (BD c a))/\n≠o3/\∀p∈C,AM n (BD p a)=0)
theorem IH.flat{a:Q3}{A C:A3 Q3}{dim:Int}(h:IH a A C u n dim):∃m:Q3,m≠o3/\∀p∈C,AM m p=AM m a:=by
 rcases h with⟨_,h⟩|⟨_,_,hu,h⟩|⟨_,_,hn,h⟩
 ·exact⟨_,Z2,λp mp=>by rw[h p mp]⟩
 ·let⟨m,hm,e⟩:=VX u;refine⟨m,hm,λp mp=>?_⟩;have k:=par hu<|h p mp
  have:AM m (BD p a)=0:=by rw[k,Fi,NX m u,e];grind
  rw[WW] at this;grind
 ·refine⟨n,hn,λp mp=>?_⟩;have:=h p mp;rw[WW] at this;grind
def ag0{a:Q3}:BD a a=o3:=J5
def alK(u:Q3):Ag u o3=o3:=J5
end
section
variable{a:Q3}{A C:List Q3}{u n:Q3}{p:Q3}
theorem IH.s0(h:IH a A C u n 0)(e:BD p a=o3):IH a A (C++[p]) u n 0:=by grind [IH,BD,o3]
theorem IH.s01(h:IH a A C u n 0)(mp:p∈A)(e:BD p a≠o3):IH a A (C++[p]) (BD p a) n 1:=by
 rcases h with⟨_,h⟩|⟨h,_⟩|⟨h,_⟩
 ·refine .inr (.inl ⟨rfl,⟨p,mp,rfl⟩,e,λq mq=>?_⟩);rcases Bs.1 mq with m|m
  ·rw[h q m,ag0,alK]
  ·rw[Cl.1 m,UP]
 ·omega
 ·omega
theorem IH.s1(h:IH a A C u n 1)(e:Ag u (BD p a)=o3):IH a A (C++[p]) u n 1:=by
 rcases h with⟨h,_⟩|⟨_,h1,h2,h⟩|⟨h,_⟩
 ·omega
 ·refine .inr (.inl ⟨rfl,h1,h2,λq mq=>?_⟩);rcases Bs.1 mq with m|m
  ·exact h q m
  ·grind
 ·omega
theorem IH.EF(h:IH a A C u n 1)(mp:p∈A)(e:Ag u (BD p a)≠o3):IH a A (C++[p]) u (Ag u<|BD p a) 2:=by
 rcases h with⟨h,_⟩|⟨_,⟨b,mb,hb⟩,h2,h⟩|⟨h,_⟩
 ·omega
 ·refine .inr (.inr ⟨rfl,⟨b,mb,p,mp,by rw[hb]⟩,e,λq mq=>?_⟩);rcases Bs.1 mq with m|m
  ·rw[par h2<|h q m,Fi,NX (Ag u<|BD p a) u,nZ];grind
  ·rw[Cl.1 m,NX,YY]
 ·omega
theorem IH.s2(h:IH a A C u n 2)(e:AM n (BD p a)=0):IH a A (C++[p]) u n 2:=by
 rcases h with⟨h,_⟩|⟨h,_⟩|⟨_,h1,h2,h⟩
 ·omega
 ·omega
 ·refine .inr (.inr ⟨rfl,h1,h2,λq mq=>?_⟩);rcases Bs.1 mq with m|m
  ·exact h q m
  ·grind
theorem IH.s3(h:IH a A C u n 2)(e:AM n (BD p a)≠0):∃b∈A,∃c∈A,ER (BD b a) (BD c a) (BD p a)≠0:=by
 rcases h with⟨h,_⟩|⟨h,_⟩|⟨_,⟨b,mb,c,mc,rfl⟩,_⟩
 ·omega
 ·omega
 ·exact⟨b,mb,c,mc,e⟩
end
section
variable{M:A3 H3}{S:A3 CC}{h:H3}{p:Q3}{f:CC}{u v:Q3}{α:Type}{g:CC}
def Mq{α:Type}[DecidableEq α]:∀{l T:A3 α},l.Nodup->(∀x∈l,x∈T)->l.length<=T.length
 |[],_,_,_=>FY _
 |x::l,T,hn,h=>by
  let⟨h1,h2⟩:=iK.1 hn;have:=Mq (l:=l) (T:=T.erase x) h2 λy my=>(List.mem_erase_of_ne (λe=>h1 (by rw[<-e];exact my))).2<|h y<|C2 _ my
  rw[List.length_erase_of_mem<|h x DT] at this;have:0<T.length:=List.length_pos_of_mem<|h x DT
  rw[E7];omega
def arl(M:A3 H3):A3 Q3:=M.flatMap λa=>M.flatMap λb=>M.map λc=>Ip a b c
def ajZ(M:A3 H3):(arl M).length=M.length*(M.length*M.length):=by
 have flat:∀{α β:Type} (f:α->A3 β) (w:Nat) (l:A3 α),(∀x∈l,(f x).length=w)->(l.flatMap f).length=l.length*w:=by
  intro α β f w l
  induction l with
  |nil=>intro _;simp
  |cons x l ih=>intro h;rw[Pg,Dg,h x DT,ih λy my=>h y<|C2 _ my,E7,SC,Pb]
 exact flat _ _ _ λa _=>flat _ _ _ λb _=>BY _
def pM{l:A3 Q3}(hn:l.Nodup)(h:∀p∈l,Bt M p):l.length<=M.length*(M.length*M.length):=by
 rw[<-ajZ];refine Mq hn λp mp=>?_
 obtain⟨_,a,ma,b,mb,c,mc,_,rfl⟩:=Yk.1<|h p mp
 exact Lx.2 ⟨a,ma,Lx.2 ⟨b,mb,BR.2 ⟨c,mc,rfl⟩⟩⟩
def CJ.len(I:CJ S M):S.length<=M.length:=by
 rw[<-BY (·.1)];refine Mq (Nj.2<|I.RG.imp λh=>h) λx mx=>?_
 obtain⟨f,mf,rfl⟩:=BR.1 mx;exact(I.EZ f mf).1
theorem aA4{α:Type}{T:α->α->Prop}(s:∀a b,T a b->T b a):∀{L:A3 α} {a b:α},a≠b->a∈L->b∈L->T a b->∃x y,[y,x].Sublist L/\T x y
 |h::t,a,b,hne,ma,mb,ht=>by
  by_cases ea:a=h
  ·grind
  ·have ma':a∈t:=(Ao.1 ma).resolve_left ea;by_cases eb:b=h
   ·grind
   ·let⟨x,y,h1,h2⟩:=aA4 s hne ma' ((Ao.1 mb).resolve_left eb) ht;exact⟨x,y,h1.cons h,h2⟩
theorem aau{α:Type}{T:α->α->α->Prop}(EF:∀a b c,T a b c->T b a c)(s23:∀a b c,T a b c->T a c b):∀{L:A3 α} {a b c:α},a≠b->b≠c->a≠c->a∈L->b∈L->c∈L->T a b c->∃x y z,[z,y,x].Sublist L/\T x y z
 |h::t,a,b,c,h1,h2,h3,ma,mb,mc,ht=>by
  have two:∀{a b c:α},a≠b->b≠c->a≠c->c=h->a∈h::t->b∈h::t->T a b c->∃x y z,[z,y,x].Sublist (h::t)/\T x y z:=λ{a b c} h1 h2 h3 e ma mb ht=>by let⟨x,y,k1,k2⟩:=aA4 (T:=λa b=>T a b c) (λa b k=>EF _ _ _ k) h1 ((Ao.1 ma).resolve_left λk=>h3 (by rw[k,e])) ((Ao.1 mb).resolve_left λk=>h2 (by rw[k,e])) ht;exact⟨x,y,c,by rw[e];exact k1.cons_cons h,k2⟩
  by_cases ec:c=h
  ·grind
  ·by_cases eb:b=h
   ·grind
   ·by_cases ea:a=h
    ·grind
    ·let⟨x,y,z,k1,k2⟩:=aau EF s23 h1 h2 h3 ((Ao.1 ma).resolve_left ea) ((Ao.1 mb).resolve_left eb) ((Ao.1 mc).resolve_left ec) ht;exact⟨x,y,z,k1.cons h,k2⟩
theorem ai4{L:A3 H3}:Bt L p↔Mem L p/\∃a b c,[c,b,a].Sublist L/\ER a.1 b.1 c.1≠0/\p=Ip a b c:=by
 rw[Yk];refine and_congr Iff.rfl ⟨?_,?_⟩
 ·rintro⟨a,ma,b,mb,c,mc,hd,hp⟩;refine aau (T:=λa b c:H3=>ER a.1 b.1 c.1≠0/\p=Ip a b c) (λa b c h=>⟨by rw[xA];have:=h.1;grind,by rw[h.2,agZ a b c h.1]⟩) (λa b c h=>⟨by rw[wz];have:=h.1;grind,by rw[h.2,agY a b c h.1]⟩) ?_ ?_ ?_ ma mb mc ⟨hd,hp⟩
  ·intro e;refine hd ?_;rw[e];unfold ER;rw[UP];unfold AM o3;grind
  ·intro e;refine hd ?_;rw[e];unfold ER;rw[NX,YY]
  ·intro e;refine hd ?_;rw[e];unfold ER;rw[NX,nZ]
 ·grind
theorem wF(I:CJ S M)(hp:Mem M p)(mf:f∈S)(tf:val f.1 p=0){g:H3}(mg:g∈M)(tg:val g p=0)(hc:Ag f.1.1 g.1≠o3):∃f'∈S,f'.1≠f.1/\val f'.1 p=0:=by
 let⟨o,ho⟩:=I.int;have d0:AM f.1.1 (Ag (Ag f.1.1 g.1) f.1.1)=0:=YY _ _;have d1:0<AM g.1 (Ag (Ag f.1.1 g.1) f.1.1):=by
  have:=PI hc;have e:AM g.1 (Ag (Ag f.1.1 g.1) f.1.1)=AM (Ag f.1.1 g.1) (Ag f.1.1 g.1):=by unfold AM Ag;grind
  rw[e];exact this
 generalize Ag (Ag f.1.1 g.1) f.1.1=d at d0 d1
 let⟨k,mk,⟨tk,pk⟩,hm⟩:=least (λk:H3=>val k p=0/\0<AM k.1 d) (λk=> -val k o/AM k.1 d) M ⟨g,mg,tg,d1⟩;have lk: -val k o/AM k.1 d*AM k.1 d= -val k o:=Nk AK;have l0:0< -val k o/AM k.1 d:=by rw[Pa];exact GX (by have:=ho k mk;grind)<|SA.2 pk
 generalize hl: -val k o/AM k.1 d=r at lk l0 hm
 have dw:∀x:H3,val x p=0->AM x.1 (Db (BD o p)<|BX d r)=val x o+r*AM x.1 d:=λx tx=>by rw[Oa,Fi,val_sub,tx];grind
 let⟨e,e0,he⟩:=room hp (w:=Db (BD o p)<|BX d r) λx mx tx=>by
  rw[dw x tx];have vx:=ho x mx;by_cases px:0<AM x.1 d
  ·have h1:=hm x mx ⟨tx,px⟩;have h2:=Zk h1<|GZ px
   rw[Nk AK] at h2
   grind
  ·have:=Dc (GZ l0) (show 0<= -AM x.1 d by grind)
   grind
 obtain⟨e2,e20,he2⟩:∃e2:Rat,0<e2/\e2<=e/\∀x∈M,val x p<0->val x (Db p<|BX (Db (BD o p)<|BX d r) e2)<0:=by
  have:=hp
  generalize Db (BD o p) (BX d r)=w at he
  have half:∀x∈M,val x p<0->val x (Db p<|BX w<|e/2)<0:=λx mx vx=>by have h1:=he e (GZ e0) GY x mx;rw[Ob] at h1⊢;have e3:e/2*AM x.1 w=(1/2)*(e*AM x.1 w):=AK;rw[e3];grind
  exact⟨e/2,AK,AK,half⟩
 have q1:=he e2 (GZ e20) he2.1;have tq:val k (Db p<|BX (Db (BD o p)<|BX d r) e2)=0:=by rw[Ob,dw k tk,lk,tk];grind
 have fq:val f.1 (Db p<|BX (Db (BD o p)<|BX d r) e2)<0:=by
  rw[Ob,dw f.1 tf,d0,tf];have:=GX e20 (show 0< -val f.1 o by have:=ho f.1 (I.EZ f mf).1;grind)
  grind
 let⟨f',mf',tf'⟩:=I.cover _ q1 ⟨k,mk,tq⟩;refine⟨f',mf',λe=>?_,?_⟩
 ·rw[e] at tf';grind
 ·refine Cr λhne=>?_
  have m1:=(I.EZ f' mf').1;have h1:=hp f'.1 m1;have:=he2.2 f'.1 m1 AK
  grind
def wm(I:CJ S M)(mf:f∈S)(mg:g∈S)(hne:f.1≠g.1)(tf:val f.1 p=0)(tg:val g.1 p=0):Ag f.1.1 g.1.1≠o3:=λhc=>by let⟨o,ho⟩:=I.int;exact hne<|ql ho I.nz I.norm (I.EZ f mf).1 (I.EZ g mg).1 hc tf tg
theorem Rq(hu:Mem M u)(hv:Mem M v)(ho:GK (val h u) (val h v)=true){k:H3}(mk:k∈M):val k (Fj h u v)=0↔val k u=0/\val k v=0:=by
 have t:=Pv ho;unfold Fj;rw[Fq]
 generalize val h u/(val h u-val h v)=r at t
 have a:=Dc (show 0<=1-r by grind) (show 0<= -val k u by have:=hu k mk;grind);have b:=Dc (show 0<=r by grind) (show 0<= -val k v by have:=hv k mk;grind);constructor
 ·intro e;have a0:(1-r)*val k u=0:=AK;have b0:r*val k v=0:=AK;constructor
  ·rcases Hl.1 a0 with x|x<;>grind
  ·rcases Hl.1 b0 with x|x<;>grind
 ·rintro⟨e1,e2⟩;rw[e1,e2];grind
theorem alE(I:CJ S M)(hu:Bt M u)(hv:Bt M v)(h0:val h u<0)(h1:0<val h v)(mf:f∈S)(mg:g∈S)(hne:f.1≠g.1)(fu:val f.1 u=0)(fv:val f.1 v=0)(gu:val g.1 u=0)(gv:val g.1 v=0):Bt (h::M) (Fj h u v)/\val h (Fj h u v)=0:=by
 have ho:GK (val h u) (val h v)=true:=Ka.2<| .inl ⟨h0,h1⟩
 have t:=Pv ho;have hz:=Z1 ho;have f1:=(I.EZ f mf).1;have g1:=(I.EZ g mg).1;have hc:=wm I mf mg hne fu gu;let⟨s,hs⟩:=along hc (d:=BD v u) (by rw[val_sub,fu,fv];grind) (by rw[val_sub,gu,gv];grind);refine⟨zb (f:=f.1) (g:=g.1) (h:=h) (λk mk=>?_) (C2 _ f1) (C2 _ g1) DT ((Rq hu.1 hv.1 ho f1).2 ⟨fu,fv⟩) ((Rq hu.1 hv.1 ho g1).2 ⟨gu,gv⟩) hz λe=>?_,hz⟩
 ·rcases Ao.1 mk with e|mk
  ·rw[e,hz];exact GY
  ·unfold Fj;rw[Fq]
   generalize val h u/(val h u-val h v)=r at t
   have a:=Dc (show 0<=1-r by grind) (show 0<= -val k u by have:=hu.1 k mk;grind);have b:=Dc (show 0<=r by grind) (show 0<= -val k v by have:=hv.1 k mk;grind)
   grind
 ·have hd:AM h.1 (BD v u)=val h v-val h u:=val_sub h u v;rw[hs,Fi,e] at hd
  grind
theorem zK(I:CJ S M){u' v':Q3}(hu:Bt M u)(hv:Bt M v)(K0:Bt M u')(Jd:Bt M v')(h0:val h u<0)(h1:0<val h v)(h0':val h u'<0)(h1':0<val h v')(mf:f∈S)(mg:g∈S)(hne:f.1≠g.1)(fu:val f.1 u=0)(fv:val f.1 v=0)(gu:val g.1 u=0)(gv:val g.1 v=0)
 (e:Fj h u v=Fj h u' v'):u=u'/\v=v':=by
 have ho:GK (val h u) (val h v)=true:=Ka.2<| .inl ⟨h0,h1⟩
 have K1:GK (val h u') (val h v')=true:=Ka.2<| .inl ⟨h0',h1'⟩
 have f1:=(I.EZ f mf).1;have g1:=(I.EZ g mg).1;have hc:=wm I mf mg hne fu gu;have tf:val f.1 u'=0/\val f.1 v'=0:=(Rq K0.1 Jd.1 K1 f1).1 (by rw[<-e];exact(Rq hu.1 hv.1 ho f1).2 ⟨fu,fv⟩);have tg:val g.1 u'=0/\val g.1 v'=0:=(Rq K0.1 Jd.1 K1 g1).1 (by rw[<-e];exact(Rq hu.1 hv.1 ho g1).2 ⟨gu,gv⟩);have huv:u≠v:=λe=>by rw[e] at h0;grind
 have line:∀x,Bt M x->val f.1 x=0->val g.1 x=0->x=u\/x=v:=λx hx fx gx=>by
  refine Cr λc=>?_
  have c1:u≠x:=λe=>c<| .inl e.symm
  have c2:v≠x:=λe=>c<| .inr e.symm
  refine oU hu hv hx huv c1 c2 ?_;let⟨s,hs⟩:=along hc (d:=BD v u) (by rw[val_sub,fu,fv];grind) (by rw[val_sub,gu,gv];grind);let⟨r,hr⟩:=along hc (d:=BD x u) (by rw[val_sub,fu,fx];grind) (by rw[val_sub,gu,gx];grind);rw[hs,hr];exact J5
 constructor
 ·rcases line u' K0 tf.1 tg.1 with a|a
  ·exact a.symm
  ·rw[a] at h0';grind
 ·rcases line v' Jd tf.2 tg.2 with a|a
  ·rw[a] at h1';grind
  ·exact a.symm
theorem qa{w:Q3}(hu:Bt M u)(hv:Bt M v)(hw:Bt M w)(h0:val h u<0)(h1:0<val h v):Fj h u v≠w:=λe=>by
 have t:=Pv (x:=val h u) (y:=val h v)<|Ka.2<| .inl ⟨h0,h1⟩
 have:=gJ hw hu.1 hv.1 t.1 t.2.1 e.symm;rw[this] at h0;grind
def ahj(I:CJ S M)(hp:Bt (h::M) p):Bt M p\/∃u v,Bt M u/\Bt M v/\val h u<0/\0<val h v/\p=Fj h u v/\∃f∈S,∃g∈S,f.1≠g.1/\val f.1 u=0/\val f.1 v=0/\val g.1 u=0/\val g.1 v=0:=by
 rcases oV I.bdd hp with h1|⟨hz,u,v,hu,hv,ho,e,ht,f,mf,g,mg,tf,tg,hc⟩
 ·exact .inl h1
 ·right;have hm:Mem M p:=λk mk=>hp.1 k<|C2 _ mk
  let⟨f1,m1,t1⟩:=I.cover p hm ⟨f,mf,tf⟩;have two:∃f2∈S,f2.1≠f1.1/\val f2.1 p=0:=by
   rcases indep (I.nz _ (I.EZ f1 m1).1) hc with c|c
   ·exact wF I hm m1 t1 mf tf c
   ·exact wF I hm m1 t1 mg tg c
  let⟨f2,m2,ne,t2⟩:=two;have a1:=ht _ (I.EZ f1 m1).1 t1;have a2:=ht _ (I.EZ f2 m2).1 t2;rcases Ka.1 ho with⟨x,y⟩|⟨x,y⟩
  ·exact⟨u,v,hu,hv,x,y,e,f2,m2,f1,m1,ne,a2.1,a2.2,a1.1,a1.2⟩
  ·exact⟨v,u,hv,hu,y,x,by rw[e];exact zM ho,f2,m2,f1,m1,ne,a2.2,a2.1,a1.2,a1.1⟩
end
section
variable{l:A3 Int}{n:Nat}{a b:A3 Int}{j:Nat}{x:Int}{k:Nat}{u:A3 Int}{ρ:Type}{u0 v0 v1:Int}{v w:A3 Int}{m:Nat}{U2 q:Int}{i:Nat}{R:ρ->Prop}{f:Int}
abbrev BT:Int:=1000000000
def AL:A3 Int->Int
 |[]=>0
 |x::l=>x+BT*AL l
def Cc(l:A3 Int):Prop:=∀x∈l,0<=x/\x<BT
def BL(n:Nat):Int:=BT^n
def Tn:BL 0=1:=rfl
def K7(n:Nat):BL (n+1)=BT*BL n:=by unfold BL;rw[Int.pow_succ,FD]
def Na:∀n,0<BL n
 |0=>by rw[Tn];omega
 |n+1=>by rw[K7];have:=Na n;unfold BT;omega
theorem gU(m n:Nat):BL (m+n)=BL m*BL n:=by grind [BL]
def Mp(x:Int)(l:A3 Int):AL (x::l)=x+BT*AL l:=rfl
def Re:∀(l m:A3 Int),AL (l++m)=AL l+BL l.length*AL m
 |[],m=>by simp[AL,Tn]
 |x::l,m=>by rw[SI,Mp,Mp,Re l m,E7,K7,DS,FO];omega
def gn:Cc []:=by intro x h;cases h
theorem gF:Cc (x::l)↔(0<=x/\x<BT)/\Cc l:=by simp_all [Cc,BT]
theorem fB{m:A3 Int}:Cc (l++m)↔Cc l/\Cc m:=by grind [Cc]
theorem MJ(h:Cc l)(n:Nat):Cc (l.take n):=by grind [Cc]
theorem To(h:Cc l)(n:Nat):Cc (l.drop n):=by grind [Cc]
theorem HX(h:Cc l)(n:Nat):0<=l.getD n 0/\l.getD n 0<BT:=by
 by_cases hn:n<l.length
 ·have:l.getD n 0=l[n]:=by simp[JL,hn]
  rw[this];exact h _<|Ly hn
 ·grind
theorem mF(n:Nat):Cc (List.replicate n 0):=by grind [Cc]
theorem ZD(h:Cc l)(n:Nat)(hx:0<=x/\x<BT):Cc (l.set n x):=by(simp_all [Cc,BT]<;>grind)
def uR:∀n,AL (List.replicate n 0)=0
 |0=>rfl
 |n+1=>by rw[List.replicate_succ,Mp,uR n];omega
def F1:∀{l:A3 Int},Cc l->0<=AL l/\AL l<BL l.length
 |[],_=>by simp[AL,Tn]
 |x::l,h=>by rw[gF] at h;let⟨h1,h2⟩:=F1 h.2;rw[Mp,E7,K7];have:=h.1;unfold BT at*;omega
def V9(h:n<l.length):AL (l.take<|n+1)=AL (l.take n)+BL n*l.getD n 0:=by rw[dF h,Re,E1,EV A4];simp[AL]
def Rj(l:A3 Int)(n:Nat)(h:n<=l.length):AL l=AL (l.take n)+BL n*AL (l.drop n):=by
 conv=>lhs;rw[<-Oj n l]
 rw[Re,E1,EV h]
def Te:∀{l:A3 Int},Cc l->l≠[]->l.getLast?≠some 0->BL (l.length-1)<=AL l
 |[],_,h,_=>absurd rfl h
 |[x],h,_,hl=>by
  rw[gF] at h;have:x≠0:=λe=>hl (by rw[e];rfl)
  simp[AL,Tn];omega
 |x::y::l,h,_,hl=>by rw[gF] at h;have:=Te (l:=y::l) h.2 AV (by simpa using hl);rw[Mp,show(x::y::l).length-1=(y::l).length-1+1 from by simp,K7];have:=h.1;unfold BT at*;omega
def Fx(w:A3 Int):Prop:=Cc w/\w.getLast?≠some 0
def Fx.nil:Fx []:=⟨gn,AV⟩
def Fx.len(h:Fx w)(hv:AL w<BL n):w.length<=n:=by
 by_cases h0:w=[]
 ·subst h0;simp
 ·have h1:=Te h.1 h0 h.2;rcases Hk n w.length with h2|h2
  ·have:BL n<=BL (w.length-1):=by obtain⟨k,hk⟩:∃k,w.length-1=n+k:=⟨w.length-1-n,A4⟩;rw[hk,gU];have a:=Na n;have b:=Na k;have:BL n*1<=BL n*BL k:=Ew A4 A4;omega
   omega
  ·exact h2
def zf(h:n<l.length):AL l=AL (l.take n)+BL n*(l.getD n 0+BT*AL (l.drop<|n+1)):=by
 rw[Rj l n A4]
 congr 2
 rw[UK h,Mp]
 congr 1
 simp[JL,h]
def yY(h:m<=n):BL m<=BL n:=by obtain⟨k,rfl⟩:∃k,n=m+k:=⟨n-m,A4⟩;rw[gU];have a:=Na m;have b:=Na k;have:BL m*1<=BL m*BL k:=Ew A4 A4;omega
def ek(ha:Cc a)(hb:Fx b)(h:a.length<b.length):AL a<AL b:=by have h1:=(F1 ha).2;have h2:=Te hb.1 (by intro e;subst e;simp at h) hb.2;have h3:=yY (show a.length<=b.length-1 by omega);omega
def IZ(l:A3 Int)(n:Nat):AL (l.take<|n+1)=AL (l.take n)+BL n*l.getD n 0:=by
 rcases Hk n l.length with h|h
 ·exact V9 h
 ·rw[ir h,Cz A4,Cz h];omega
def aei(h:AL (l.drop n)=0)(hk:Cc l)(hm:n<=m):l.getD m 0=0:=by
 have key:∀(l:A3 Int) (j:Nat),Cc l->AL l=0->l.getD j 0=0:=by
  intro l
  induction l with
  |nil=>intro j _ _;simp
  |cons x l ih=>
   intro j hk hv;rw[gF] at hk;rw[Mp] at hv;have h1:=(F1 hk.2).1;have hx:=hk.1;unfold BT at*;cases j with
   |zero=>simp;omega
   |succ j=>simpa using ih j hk.2 A4
 have:=key (l.drop n) (m-n) (To hk n) h;simpa[JL,UD,show n+(m-n)=m by omega] using this
theorem an1{r:Int}(e:q*v1+r=U2)(h:BT*r+u0<q*v0):(u0+BT*U2)+1<=q*(v0+BT*v1):=by grind
def an2{r:Int}(e:q*v1+r=U2)(hr:r<v1)(hu:u0<BT)(hq:0<=q)(hv:0<=v0):(u0+BT*U2)+1<=(q+1)*(v0+BT*v1):=by rw[DS,GM _ BT v1,<-e,ID q 1 v1,JI];have:0<=(q+1)*v0:=LH A4 hv;unfold BT at*;omega
def an3{R P UL VL:Int}(e:q*v1+R=U2)(hq:0<=q/\q<BT)(hR:0<=R)(I3:0<=v0/\v0<BT)(hu0:0<=u0)(hv1:BT<=2*v1)(h:BT<=R\/q*v0<=BT*R+u0)
 (hP:0<P)(hU:0<=UL)(hV:VL<P)(hV0:0<=VL):(q-1)*(VL+P*(v0+BT*v1))<=UL+P*(u0+BT*U2):=by
 have hY:q*(v0+BT*v1)<=u0+BT*U2:=by
  rw[DS,GM q BT v1,<-e,DS];have:q*v0<=BT*R+u0:=by
   rcases h with h|h
   ·have:q*v0<=(BT-1)*(BT-1):=Pd A4 A4 I3.1 (by unfold BT;omega);unfold BT at*;omega
   ·exact h
  omega
 have h1:=Ew hY<|EU hP
 have h2:q*VL<=BT*P:=Pd A4 A4 hV0 (by unfold BT;omega);have h3:P*BT<=P*(v0+BT*v1):=Ew (by unfold BT at*;omega)<|EU hP
 rw[ZH,JI,DS q,GM q P];rw[FD P BT] at h3;omega
theorem aof{u1 u2 P UL VL:Int}(hP:0<P)(hU:0<=UL)(hu0:0<=u0)(hu1:0<=u1)(hV:VL<P)(I3:v0<BT)(h:UL+P*(u0+BT*(u1+BT*u2))<BT*(VL+P*(v0+BT*v1))):u2<=v1:=by
 rcases(show v1<u2\/u2<=v1 by omega) with h'|h'
 ·exfalso;have h1:BT*(v0+BT*v1+1)<=u0+BT*(u1+BT*u2):=AK;have h2:=Ew h1<|EU hP
  rw[GM P BT,DS P _ 1,Lr] at h2;rw[DS BT VL] at h;rw[DS BT _ P] at h2;have h3:BT*VL<=BT*P:=Ew A4 (by unfold BT;omega);omega
 ·exact h'
theorem ai9(h:l.length=k+3):AL l=AL (l.take k)+BL k*(l.getD k 0+BT*(l.getD (k+1) 0+BT*l.getD (k+2) 0)):=by have h1:AL (l.take<|k+3)=AL l:=AK;rw[<-h1,IZ,IZ,IZ,K7<|k+1,K7,DS,DS,DS,GM (BL k) BT,GM (BL k) BT,GM (BL k) BT,FO,FO,FO];omega
theorem aiA(h:l.length=k+2):AL l=AL (l.take k)+BL k*(l.getD k 0+BT*l.getD (k+1) 0):=by have h1:AL (l.take<|k+2)=AL l:=AK;rw[<-h1,IZ,IZ,K7,DS,GM (BL k) BT,FO];omega
def wx(h:Cc l)(hl:n<=l.length)(hv:AL l<BL n):AL (l.drop n)=0:=by
 have h1:=Rj l n hl;have h2:=(F1<|To h n).1;have h3:=(F1<|MJ h n).1;rcases(show AL (l.drop n)=0\/1<=AL (l.drop n) by omega) with h4|h4
 ·exact h4
 ·have:=Ew h4 (EU<|Na n);omega
def div_pos{y:Int}(hx:0<=x)(hy:0<y)(hb:x<=9223372036854775807):Gl x y=some (x/y):=by
 unfold Gl;rw[Bu A4,Int.tdiv_eq_ediv_of_nonneg hx];have h1:=LI hx<|EU hy
 have h2:=SF y hx;exact EO ⟨A4,A4⟩
def Tm(ha:Cc a)(hl:a.length<1099511627776):Yd (λw=>Fx w/\AL w=AL a/\w.length<=a.length) (PG a):=by
 unfold PG;refine EP (λs:A3 Int=>Cc s/\AL s=AL a/\s.length<=a.length) (λs=>s.length) ?_ _ _ ⟨ha,rfl,BM _⟩ A4;rintro next s ⟨h1,h2,h3⟩ hn
 refine GO (λhg=>?_)<|λhg=>?_
 ·have hs:(0:Int)<s.length:=As hg;obtain⟨n,HT⟩:∃n,s.length=n+1:=⟨s.length-1,A4⟩;have e1:(s.length:Int)-1=(n:Int):=A4;rw[e1];refine⟨(n:Int),EO ⟨A4,A4⟩,GO (λ_=>⟨s.getD n 0,Bf A4,Ad (λhc=>?_)<|λhc=>?_⟩) (λh=>by rw[hg] at h;cases h)⟩
  ·let⟨_,hz⟩:=EB hc;have hz:=As hz;refine A6 BC<|A6 (E6 A4 A4 A4) ?_
   have e:(s.take ((n:Nat):Int).toNat).drop (0:Int).toNat=s.take n:=AV;rw[e];have hv:AL s=AL (s.take n):=by have:=V9 (l:=s) (n:=n) A4;rw[hz,U5,W6,Cz A4] at this;exact this
   exact hn _ ⟨MJ h1 n,by rw[<-hv];exact h2,DC⟩ DC
  ·refine AU ⟨⟨h1,?_⟩,h2,h3⟩;rw[B5 hs,Lt] at hc;have hz:=Bg hc;have e:s=s.take n++[s.getD n 0]:=by rw[<-dF A4,Cz A4]
   rw[e];simpa using hz
 ·have hs: ¬(0:Int)<s.length:=Bg hg;have hs:s=[]:=LP A4;subst hs;exact GO (λh=>by rw[hg] at h;cases h) (λ_=>Ad (λhc=>by simp at hc)<|λ_=>AU ⟨Fx.nil,h2,h3⟩)
def F6(p:Bool×A3 Int)(z:Int):Prop:=Fx p.2/\AL p.2=(z.natAbs:Int)/\p.1=decide (z<0)
def Fx.pos(h:Fx w)(h0:w≠[]):0<AL w:=by
 have:=Te h.1 h0 h.2;have:=Na<|w.length-1
 omega
theorem wN{b:Bool}(ha:Cc a)(hl:a.length<1099511627776):Yd (λp=>F6 p (bif b then -AL a else AL a)/\p.2.length<=a.length) (L4 b a):=by
 unfold L4;refine Aq (Tm ha hl) λw ⟨h1,h2,h3⟩=>AU ⟨⟨h1,?_,?_⟩,h3⟩
 ·have:=(F1 h1.1).1;rw[<-h2];cases b
  ·grind
  ·grind
 ·have hz:=(F1 h1.1).1;by_cases hw:w=[]
  ·subst hw;have:AL a=0:=h2.symm;rw[this];cases b<;>rfl
  ·have hp:=h1.pos hw;have hlw:0<w.length:=WN.2 hw;rw[<-h2];cases b
   ·grind
   ·grind
theorem tX(ha:Fx a)(hb:Fx b)(hla:a.length<4398046511104)(hlb:b.length<4398046511104):Yd (λr=>(r= -1/\AL a<AL b)\/(r=0/\AL a=AL b)\/(r=1/\AL b<AL a)) (XO a b):=by
 unfold XO;refine Ad (λhc=>Ad (λhd=>?_)<|λhd=>?_)<|λhc=>?_
 ·have hd:=As hd;exact AU<| .inl ⟨rfl,ek ha.1 hb A4⟩
 ·have hd:=Bg hd;rw[GA,Il] at hc;exact AU<| .inr<| .inr ⟨rfl,ek hb.1 ha A4⟩
 ·rw[WK,Hn] at hc;have hl:a.length=b.length:=A4;refine A6 BC ?_;refine EP (λs:Int=> -1<=s/\s<a.length/\a.drop (s+1).toNat=b.drop (s+1).toNat) (λs:Int=>(s+1).toNat) ?_ _ _ ⟨A4,A4,?_⟩ A4
  ·rintro next s ⟨h0,h1,h2⟩ hn
   refine Ad (λhp=>?_)<|λhp=>?_
   ·have hp:=As hp;obtain⟨n,rfl⟩:=F2 hp;have en:(((n:Nat):Int)+1).toNat=n+1:=A4;rw[en] at h2;have gA:AB a (n:Int)=some (a.getD n 0):=Bf A4;have gB:AB b (n:Int)=some (b.getD n 0):=Bf A4;refine A6 gA<|A6 gB ?_
    have eA:=zf (l:=a) (n:=n) A4;have eB:=zf (l:=b) (n:=n) A4;rw[h2] at eA;let⟨tA0,tA⟩:=F1<|MJ ha.1 n
    let⟨tB0,tB⟩:=F1<|MJ hb.1 n
    rw[E1,EV A4] at tA tB;have hpw:=Na n;have dA:=OK (l:=a) (n:=n) A4;have dB:=OK (l:=b) (n:=n) A4
    generalize a.getD n 0=X at*
    generalize b.getD n 0=Y at*
    have eA':AL a=AL (a.take n)+BL n*X+BL n*(BT*AL (b.drop<|n+1)):=AK;have eB':AL b=AL (b.take n)+BL n*Y+BL n*(BT*AL (b.drop<|n+1)):=AK;refine Ad (λhlt=>?_)<|λhlt=>A6 gA<|A6 gB<|Ad (λhgt=>?_)<|λhgt=>?_
    ·have hlt:=As hlt;have:BL n*(X+1)<=BL n*Y:=Ew A4 A4;rw[DS,Lr] at this;exact AU<| .inl ⟨rfl,A4⟩
    ·have hgt:=As hgt;have:BL n*(Y+1)<=BL n*X:=Ew A4 A4;rw[DS,Lr] at this;exact AU<| .inr<| .inr ⟨rfl,A4⟩
    ·have hlt:=Bg hlt;have hgt:=Bg hgt;have hx:X=Y:=A4;refine A6 BC<|hn _ ⟨A4,A4,?_⟩ A4
     have:(((n:Nat):Int)-1+1).toNat=n:=A4;rw[this,dA,dB,hx,h2]
   ·have hp:=Bg hp;have:s= -1:=A4;subst this;exact AU (.inr (.inl ⟨rfl,by simpa using congrArg AL h2⟩))
  ·have:((a.length:Int)-1+1).toNat=a.length:=A4;rw[this,SG,hl,SG]
theorem o5:VQ a (n:Int)=some (a.getD n 0):=by
 unfold VQ;by_cases h:n<a.length
 ·rw[B5 A4];show bd (AB a (n:Int)) _=_;rw[Bf h];rfl
 ·grind
theorem bO(h:l.length<1099511627776):BG 8 l [x]=some (l++[x]):=by grind [BG]
theorem af8(ha:Cc a)(hb:Cc b)(hla:a.length<4398046511)(hlb:b.length<4398046511):Yd (λw=>Cc w/\AL w=AL a+AL b/\w.length<=max a.length b.length+1) (c6 a b):=by
 unfold c6;refine EP (λs:A3 Int×Int×Int=>Cc s.1/\(s.2.1=0\/s.2.1=1)/\s.2.2=s.1.length/\s.1.length<=max a.length b.length+1/\(s.1.length=max a.length b.length+1->s.2.1=0)/\
   AL s.1+BL s.1.length*s.2.1=AL (a.take s.1.length)+AL (b.take s.1.length)) (λs=>max a.length b.length+1-s.1.length) ?_ _ _ ⟨gn,.inl rfl,rfl,AV,λ_=>rfl,by simp[AL]⟩ (by dsimp only;simp;omega)
 rintro next ⟨o,c,i⟩ ⟨h1,h2,h3,h4,h5,h6⟩ hn
 dsimp only at h1 h2 h3 h4 h5 h6 hn⊢;subst h3;refine Ad (λhc=>?_)<|λhc=>?_
 ·let⟨xa,xb⟩:=HX ha o.length;let⟨ya,yb⟩:=HX hb o.length;have hlt:o.length<=max a.length b.length:=AK;have hz:o.length=max a.length b.length->a.getD o.length 0=0/\b.getD o.length 0=0:=λh=>⟨ir A4,ir A4⟩
  have hS:0<=a.getD o.length 0+b.getD o.length 0+c/\a.getD o.length 0+b.getD o.length 0+c<2000000000:=AK;refine A6 o5 (A6 o5 (A6 (EO ⟨A4,by unfold BT at*;omega⟩)<|A6 BC<|A6 (QW hS.1 A4)<|A6 (bO A4)<|A6 (div_pos hS.1 A4 A4)<|A6 BC<|hn _ ⟨?_,?_,?_,?_,?_,?_⟩ ?_))
  ·rw[fB];exact⟨h1,λx hx=>by rw[Cl] at hx;subst hx;unfold BT;omega⟩
  ·dsimp only;omega
  ·grind
  ·grind
  ·grind
  ·dsimp only;rw[Dg,IE,Re,IZ,IZ,K7];have e:AL [(a.getD o.length 0+b.getD o.length 0+c)%1000000000]=(a.getD o.length 0+b.getD o.length 0+c)%1000000000:=by simp[AL]
   rw[e,FD BT,FO,<-Int.add_assoc]
   generalize a.getD o.length 0=X at*
   generalize b.getD o.length 0=Y at*
   have hd:X+Y+c=(X+Y+c)%1000000000+BT*((X+Y+c)/1000000000):=by unfold BT;omega
   have:BL o.length*((X+Y+c)%1000000000)+BL o.length*(BT*((X+Y+c)/1000000000))=BL o.length*X+BL o.length*Y+BL o.length*c:=AK;omega
  ·grind
 ·rw[MW,MW,Il,Il,Il] at hc;have hc0:c=0:=A4;subst hc0;refine AU ⟨h1,?_,h4⟩;rw[Cz A4,Cz A4] at h6;omega
theorem uy(ha:Cc a)(hb:Cc b)(hl:b.length<=a.length)(hla:a.length<4398046511)(hv:AL b<=AL a):Yd (λw=>Fx w/\AL w=AL a-AL b/\w.length<=a.length) (XX a b):=by
 unfold XX;refine EP (λs:A3 Int×Int×Int=>Cc s.1/\(s.2.1=0\/s.2.1=1)/\s.2.2=s.1.length/\s.1.length<=a.length/\
   AL s.1=AL (a.take s.1.length)-AL (b.take s.1.length)+BL s.1.length*s.2.1) (λs=>a.length-s.1.length) ?_ _ _ ⟨gn,.inl rfl,rfl,AV,by simp[AL]⟩ (by dsimp only;simp;omega)
 rintro next ⟨o,c,i⟩ ⟨h1,h2,h3,h4,h5⟩ hn
 dsimp only at h1 h2 h3 h4 h5 hn⊢;subst h3;refine Ad (λhc=>?_)<|λhc=>?_
 ·have hc:=As hc;let⟨xa,xb⟩:=HX ha o.length;let⟨ya,yb⟩:=HX hb o.length;refine A6 (Bf A4) (A6 o5 (A6 (EO ⟨by unfold BT at*;omega,by unfold BT at*;omega⟩) (A6 (EO ⟨by unfold BT at*;omega,by unfold BT at*;omega⟩) ?_)));have step:∀d x:Int,(d=0\/d=1)->0<=x->x<1000000000->x=a.getD o.length 0-b.getD o.length 0-c+BT*d->Yd (λw=>Fx w/\AL w=AL a-AL b/\w.length<=a.length) (bd (BG 8 o [x]) λBi=>bd (AH<|(o.length:Int)+1) λBr=>next (Bi,d,Br)):=by
   intro d x hd hx0 hx1 hx;refine A6 (bO A4)<|A6 BC<|hn _ ⟨?_,hd,?_,?_,?_⟩ ?_
   ·rw[fB];exact⟨h1,λy hy=>by rw[Cl] at hy;subst hy;unfold BT;omega⟩
   ·grind
   ·grind
   ·dsimp only;rw[Dg,IE,Re,IZ,IZ,K7,h5];have e:AL [x]=x:=by simp[AL]
    rw[e,FD BT,FO,hx]
    generalize a.getD o.length 0=X at*
    generalize b.getD o.length 0=Y at*
    have:BL o.length*(X-Y-c+BT*d)=BL o.length*X-BL o.length*Y-BL o.length*c+BL o.length*(BT*d):=AK;omega
   ·grind
  refine DJ (λp:Int×Int=>(p.1=0\/p.1=1)/\0<=p.2/\p.2<1000000000/\p.2=a.getD o.length 0-b.getD o.length 0-c+BT*p.1) (λp hp=>step p.1 p.2 hp.1 hp.2.1 hp.2.2.1 hp.2.2.2) λk hk=>Ad (λhd=>?_)<|λhd=>?_
  ·have hd:=As hd;refine A6 (EO ⟨by unfold BT at*;omega,by unfold BT at*;omega⟩) (hk _ ⟨.inr rfl,?_,?_,?_⟩)<;>(dsimp only;unfold BT at*;omega)
  ·grind
 ·have hc:=Bg hc;have hlen:o.length=a.length:=A4;rw[Cz A4,Cz A4] at h5;let⟨z1,z2⟩:=F1 h1;have hc0:c=0:=AK;subst hc0;refine Aq (Tm h1 A4) λw ⟨g1,g2,g3⟩=>AU ⟨g1,by rw[g2,h5];omega,A4⟩
theorem vN{d:Int}(ha:Cc a)(hd:0<d/\d<1000000000)(hl:a.length<1099511627776):Yd (λp=>Fx p.1/\AL p.1=AL a/d/\p.2=AL a%d/\p.1.length<=a.length) (Xe a d):=by
 unfold Xe;refine A6 (Px A4 A4 A4)<|A6 BC ?_
 refine EP (λs:A3 Int×Int×Int=>Cc s.1/\s.1.length=a.length/\(0<=s.2.1/\s.2.1<d)/\ -1<=s.2.2/\s.2.2<a.length/\AL (a.drop (s.2.2+1).toNat)=AL (s.1.drop (s.2.2+1).toNat)*d+s.2.1) (λs=>(s.2.2+1).toNat) ?_ _ _
  ⟨mF _,by simp only[Nl];omega,⟨BZ,BZ⟩,BZ,BZ,?_⟩ BZ
 rotate_left
 ·have e:((a.length:Int)-1+1).toNat=a.length:=A4;dsimp only;rw[e,SG,N2 (by simp only[Nl];omega)];simp[AL]
 rintro next ⟨o,r,i⟩ ⟨h1,h2,⟨h3,h3'⟩,h4,h5,h6⟩ hn
 dsimp only at h1 h2 h3 h3' h4 h5 h6 hn⊢;refine Ad (λhc=>?_)<|λhc=>?_
 ·have hc:=As hc;obtain⟨n,rfl⟩:=F2 hc;have en:(((n:Nat):Int)+1).toNat=n+1:=A4;rw[en] at h6;let⟨xa,xb⟩:=HX ha n;have hx:0<=r*1000000000+a.getD n 0/\r*1000000000+a.getD n 0<d*1000000000:=AK;have hq0:=LI hx.1<|EU hd.1
  have hq1:(r*1000000000+a.getD n 0)/d<1000000000:=by apply Zg hd.1;omega
  have Kv:=Lw (r*1000000000+a.getD n 0) (show d≠0 by omega);have hr1:=LK (r*1000000000+a.getD n 0) hd.1;refine A6 BC (A6 (Bf A4) (A6 BC (A6 (div_pos hx.1 hd.1 A4) (A6 (Bf A4) (A6 (Bf A4) (A6 (QW hx.1 hd.1) (A6 BC (hn _ ⟨ZD h1 _ ⟨hq0,hq1⟩,by simpa using h2,⟨Kv,hr1⟩,BZ,BZ,?_⟩ ?_))))))))
  ·dsimp only;have e2:(((n:Nat):Int)-1+1).toNat=n:=A4;rw[e2,Ce,dx A4,OK (show n<a.length by omega),Mp,Mp,h6];have hdm:=Int.mul_ediv_add_emod (r*1000000000+a.getD n 0) d
   generalize (r*1000000000+a.getD n 0)/d=q at*
   generalize (r*1000000000+a.getD n 0)%d=m at*
   rw[ID,DS,FO BT,FD q d];unfold BT;omega
  ·dsimp only;omega
 ·have hc:=Bg hc;have:i= -1:=A4;subst this;have h6:AL a=AL o*d+r:=by simpa using h6
  refine Aq (Tm h1 A4) λw ⟨g1,g2,g3⟩=>AU ⟨g1,?_,?_,BZ⟩
  ·dsimp only;rw[g2];exact(YR h6 h3 h3').1
  ·exact(YR h6 h3 h3').2
theorem mC(ha:Cc a)(hb:Cc b)(hla:a.length<4398046511)(hlb:b.length<4398046511):Yd (λw=>Fx w/\AL w=AL a*AL b/\w.length<=a.length+b.length) (Ux a b):=by
 unfold Ux;refine A6 BC<|A6 (Px A4 A4 A4) ?_
 refine EP (λs:A3 Int×Int=>Cc s.1/\s.1.length=a.length+b.length/\0<=s.2/\s.2<=a.length/\(∀m,s.2.toNat+b.length<=m->s.1.getD m 0=0)/\AL (s.1.take<|s.2.toNat+b.length)=AL (a.take s.2.toNat)*AL b)
  (λs:A3 Int×Int=>a.length-s.2.toNat) ?_ _ _ ⟨mF _,by simp only[Nl];omega,BZ,BZ,λm _=>akq,?_⟩ BZ
 rotate_left
 ·dsimp only;rw[Ze,uR];simp[AL]
 rintro next ⟨o,i⟩ ⟨h1,h2,h3,h4,hz,h5⟩ hn
 simp only at h1 h2 h3 h4 hz h5 hn⊢;obtain⟨n,rfl⟩:=F2 h3;simp only[Ce,MV] at*;refine Ad (λhc=>?_)<|λhc=>?_
 ·have hc:=As hc;refine EP (λs:A3 Int×Int×Int=>Cc s.1/\s.1.length=a.length+b.length/\(0<=s.2.1/\s.2.1<BT)/\0<=s.2.2/\s.2.2<=b.length/\s.1.drop (n+s.2.2.toNat)=o.drop (n+s.2.2.toNat)/\
    AL (s.1.take<|n+s.2.2.toNat)+BL (n+s.2.2.toNat)*s.2.1=AL (o.take<|n+s.2.2.toNat)+BL n*(a.getD n 0*AL (b.take s.2.2.toNat)))
   (λs:A3 Int×Int×Int=>b.length-s.2.2.toNat) ?_ _ _ ⟨h1,h2,⟨BZ,by dsimp only;unfold BT;omega⟩,BZ,BZ,rfl,by simp[AL]⟩ BZ
  rintro FE ⟨p,c,j⟩ ⟨g1,g2,g3,g4,g5,g6,g7⟩ IV;simp only at g1 g2 g3 g4 g5 g6 g7 IV⊢;obtain⟨m,rfl⟩:=F2 g4;simp only[Ce,MV] at*;have eo:p.getD (n+m) 0=o.getD (n+m) 0:=by have:=congrArg (λl=>l.getD 0 0) g6;simpa[JL,UD] using this
  refine Ad (λhd=>?_)<|λhd=>?_
  ·have hd:=As hd;have enm:((n:Nat):Int)+((m:Nat):Int)=((n+m:Nat):Int):=A4;let⟨xa,xb⟩:=HX ha n;let⟨ya,yb⟩:=HX hb m;let⟨oa,ob⟩:=HX g1<|n+m
   have NG:a.getD n 0*b.getD m 0<=(BT-1)*(BT-1):=Pd A4 A4 ya (by unfold BT;omega);have avg:0<=a.getD n 0*b.getD m 0:=LH xa ya;have hS:0<=p.getD (n+m) 0+a.getD n 0*b.getD m 0+c/\p.getD (n+m) 0+a.getD n 0*b.getD m 0+c<BT*BT:=AK;rw[enm];refine A6 BC (A6 (Bf A4) (A6 (Bf A4) (A6 (Bf A4) (A6 (Bf A4) (A6 (EO ⟨A4,by unfold BT at*;omega⟩) (A6 (EO ⟨A4,by unfold BT at*;omega⟩) (A6 (EO ⟨A4,by unfold BT at*;omega⟩) (A6 BC (A6 (QW hS.1 A4) (A6 (Bf A4) (A6 (Bf A4) (A6 (div_pos hS.1 A4 (by unfold BT at*;omega))<|A6 BC ?_))))))))))));have hdm:p.getD (n+m) 0+a.getD n 0*b.getD m 0+c=(p.getD (n+m) 0+a.getD n 0*b.getD m 0+c)%1000000000+BT*((p.getD (n+m) 0+a.getD n 0*b.getD m 0+c)/1000000000):=by unfold BT;omega
   have hr:0<=(p.getD (n+m) 0+a.getD n 0*b.getD m 0+c)%1000000000/\(p.getD (n+m) 0+a.getD n 0*b.getD m 0+c)%1000000000<BT:=by unfold BT;omega
   have hq:0<=(p.getD (n+m) 0+a.getD n 0*b.getD m 0+c)/1000000000/\(p.getD (n+m) 0+a.getD n 0*b.getD m 0+c)/1000000000<BT:=AK;refine IV _ ⟨ZD g1 _ hr,by simpa using g2,hq,BZ,BZ,?_,?_⟩ BZ
   ·have e:(((m:Nat):Int)+1).toNat=m+1:=A4;simp only[e,Ce];rw[iS A4,<-LG];have:=congrArg (List.drop 1) g6;rwa [FZ,FZ] at this
   ·have e:(((m:Nat):Int)+1).toNat=m+1:=A4;simp only[e,Ce];rw[<-LG,IZ,HI<|BM _,JE A4,IZ o,IZ b,<-eo,K7]
    generalize (p.getD (n+m) 0+a.getD n 0*b.getD m 0+c)%1000000000=R at*
    generalize (p.getD (n+m) 0+a.getD n 0*b.getD m 0+c)/1000000000=Q at*
    have k1:BL n*(a.getD n 0*(AL (b.take m)+BL m*b.getD m 0))=BL n*(a.getD n 0*AL (b.take m))+BL (n+m)*(a.getD n 0*b.getD m 0):=by rw[DS,DS,gU,GM (a.getD n 0)<|BL m,FO]
    have k2:BL (n+m)*R+BT*BL (n+m)*Q=BL (n+m)*(a.getD n 0*b.getD m 0)+BL (n+m)*p.getD (n+m) 0+BL (n+m)*c:=AK;rw[k1];omega
  ·have hd:=Bg hd;have KV:m=b.length:=A4;subst KV;have enm:((n:Nat):Int)+((b.length:Nat):Int)=((n+b.length:Nat):Int):=A4;have hz0:p.getD (n+b.length) 0=0:=AK;rw[enm];refine A6 BC (A6 BC (A6 (Bf A4) (A6 (Bf A4) (A6 (EO ⟨A4,by unfold BT at*;omega⟩)<|A6 (Bf A4)<|A6 (Bf A4)<|A6 BC ?_))));rw[hz0,Int.zero_add];refine hn _ ⟨ZD g1 _ g3,by simpa using g2,BZ,BZ,?_,?_⟩ BZ
   ·intro m hm;have e:(((n:Nat):Int)+1).toNat=n+1:=A4;simp only[e,Ce] at hm⊢;rw[getD_set_ne A4];have:=congrArg (λl=>l.getD (m-(n+b.length)) 0) g6;have h':p.getD m 0=o.getD m 0:=AK;rw[h'];exact hz m A4
   ·have e:(((n:Nat):Int)+1).toNat=n+1:=A4;simp only[e,Ce];rw[show n+1+b.length=n+b.length+1 by omega,IZ,HI<|BM _,JE A4,g7,h5,IZ a,Cz<|BM _,ID,FO]
 ·have hc:=Bg hc;have HT:n=a.length:=A4;subst HT;refine Aq (Tm h1 A4) λw ⟨q1,q2,q3⟩=>AU ⟨q1,?_,A4⟩
  rw[q2];rw[Cz (l:=o) A4,Cz (l:=a) A4] at h5;exact h5
theorem ajW(h:i<n):((u.drop j).take n).getD i 0=u.getD (j+i) 0:=by grind
def Ex{α:Type}{g:Bool}{d:α}{e:AA α}{K:α->AA ρ}(h:g=false):Au g d e K=K d:=by subst h;rfl
def Ck{α:Type}{g:Bool}{d:α}{e:AA α}{K:α->AA ρ}(h:g=true):Au g d e K=bd e K:=by subst h;rfl
theorem aih(hu:Cc u)(hv:Cc v)(Lc:v.length=k+2)(hul:j+(k+3)<=u.length)(hlen:u.length<4398046511)(XC:BT<=2*v.getD (k+1) 0)
 (hw:w=(u.drop j).take (k+3))(hlt:AL w<BT*AL v):Yd (λq=>(0<=q/\q<BT)/\(q-1)*AL v<=AL w/\AL w<(q+1)*AL v) (Y2 u v (j:Int)):=by
 unfold Y2;have hwo:Cc w:=by rw[hw];exact MJ (To hu _) _
 have hwl:w.length=k+3:=AK;have eU:=ai9 hwl;have eV:=aiA Lc;let⟨bU0,bU1⟩:=F1<|MJ hwo k
 let⟨bV0,bV1⟩:=F1<|MJ hv k
 rw[E1,EV A4] at bU1 bV1;have hP:=Na k;have hu0:=HX hwo k;have hu1:=HX hwo<|k+1
 have hu2:=HX hwo<|k+2
 have I3:=HX hv k;have hv1:=HX hv<|k+1
 have w0:u.getD (j+k) 0=w.getD k 0:=AK;have w1:u.getD (j+(k+1)) 0=w.getD (k+1) 0:=AK;have w2:u.getD (j+(k+2)) 0=w.getD (k+2) 0:=AK;have hVP:0<=AL v:=(F1 hv).1;have hU0:0<=AL w:=(F1 hwo).1;have abw:w.getD (k+2) 0<=v.getD (k+1) 0:=aof hP bU0 hu0.1 hu1.1 bV1 I3.2 (by rw[<-eU,<-eV];exact hlt);have e1:((v.length:Int)-1)=((k+1:Nat):Int):=A4;have e2:((v.length:Int)-2)=((k:Nat):Int):=A4;have e3:((j:Int)+(v.length:Int))=((j+(k+2):Nat):Int):=A4;have e4:(((j+(k+2):Nat):Int)-1)=((j+(k+1):Nat):Int):=A4;have e5:(((j+(k+2):Nat):Int)-2)=((j+k:Nat):Int):=A4;rw[e1,e2,e3];have i2:AB u ((j+(k+2):Nat):Int)=some (w.getD (k+2) 0):=by rw[<-w2];exact Bf A4
 have i1:AB u ((j+(k+1):Nat):Int)=some (w.getD (k+1) 0):=by rw[<-w1];exact Bf A4
 have i0:AB u ((j+k:Nat):Int)=some (w.getD k 0):=by rw[<-w0];exact Bf A4
 have v1:AB v ((k+1:Nat):Int)=some (v.getD (k+1) 0):=Bf A4;have v0:AB v ((k:Nat):Int)=some (v.getD k 0):=Bf A4;clear w0 w1 w2 hw
 generalize w.getD (k+2) 0=U2 at*
 generalize w.getD (k+1) 0=U1 at*
 generalize w.getD k 0=U0 at*
 generalize v.getD (k+1) 0=V1 at*
 generalize v.getD k 0=V0 at*
 have hV1:0<V1:=AK;have hT:0<=U2*1000000000+U1/\U2*1000000000+U1<1000000000000000000:=AK;refine A6 BC (A6 i2 (A6 (EO ⟨A4,by unfold BT at*;omega⟩)<|A6 BC ?_));rw[e4];refine A6 BC<|A6 i1<|A6 BC<|A6 BC<|A6 v1<|A6 (div_pos hT.1 hV1 A4)<|A6 BC<|A6 v1<|A6 (QW hT.1 hV1) ?_
 have ht0:=LI hT.1<|EU hV1
 have Kv:=Lw (U2*1000000000+U1) (show V1≠0 by omega);have hr1:=LK (U2*1000000000+U1) hV1;have hdm:=Int.mul_ediv_add_emod (U2*1000000000+U1) V1;have ht1:(U2*1000000000+U1)/V1<=1000000001:=by apply Int.le_of_lt_add_one;apply Zg hV1;have:(1000000001+1)*V1=1000000000*V1+2*V1:=A4;unfold BT at*;omega
 have aon:∀t r:Int,t*V1+r=U1+BT*U2->BT<=r->t<BT:=λt r e h=>by
  refine Int.lt_of_mul_lt_mul_right (a:=V1) ?_<|EU hV1
  have:BT*U2<=BT*V1:=Ew abw (by unfold BT;omega);unfold BT at*;omega
 refine EP (λs:Int×Int=>(0<=s.1/\s.1<=1000000001)/\(0<=s.2/\s.2<BT)/\s.1*V1+s.2=U1+BT*U2/\AL w<(s.1+1)*AL v) (λs=>s.1.toNat) ?_ _ _ ⟨⟨ht0,ht1⟩,⟨Kv,by unfold BT at*;dsimp only;omega⟩,?_,?_⟩ BZ
 rotate_left
 ·grind
 ·dsimp only;have:=an2 (u0:=U0) (v0:=V0) (q:=(U2*1000000000+U1)/V1) (r:=(U2*1000000000+U1)%V1) (U2:=U1+BT*U2) (v1:=V1) (by rw[FD _ V1,hdm];unfold BT;omega) hr1 hu0.2 ht0 I3.1;have:=jW hP bU1 bV0 (show 0<=(U2*1000000000+U1)/V1+1 by omega) this;rw[<-eU,<-eV] at this;exact this
 clear ht0 Kv hr1 hdm ht1 hT;rintro next ⟨t,r⟩ ⟨⟨h1,h1'⟩,⟨h2,h2'⟩,h3,h4⟩ hn
 dsimp only at h1 h1' h2 h2' h3 h4 hn⊢;have fin:∀q R:Int,(0<=q/\q<BT)->0<=R->q*V1+R=U1+BT*U2->AL w<(q+1)*AL v->(BT<=R\/q*V0<=BT*R+U0)->Yd (λq=>(0<=q/\q<BT)/\(q-1)*AL v<=AL w/\AL w<(q+1)*AL v) (some q):=λq R hq hR e hup hh=>by refine AU ⟨hq,?_,hup⟩;have:=an3 (P:=BL k) (UL:=AL<|w.take k) (VL:=AL<|v.take k) e hq hR I3 hu0.1 XC hh hP bU0 bV1 bV0;rw[<-eU,<-eV] at this;exact this
 have step:AL w<t*AL v->Yd (λq=>(0<=q/\q<BT)/\(q-1)*AL v<=AL w/\AL w<(q+1)*AL v) (bd (AH<|t-1) λKo=>bd (AH ((k+1:Nat):Int)) λIz=>bd (AB v Iz) λHx=>bd (AH<|r+Hx) λGd=>cond (decide<|1000000000<=Gd) (some Ko)<|next (Ko,Gd)):=λhUq=>by
  have hq1:1<=t:=AK;refine A6 BC (A6 BC (A6 v1 (A6 (EO ⟨A4,by unfold BT at*;omega⟩)<|Ad (λhc=>?_)<|λhc=>?_)))
  ·have hc:=As hc;have hc:BT<=r+V1:=hc;have e:(t-1)*V1+(r+V1)=U1+BT*U2:=AK;exact fin (t-1) (r+V1) ⟨A4,aon _ _ e hc⟩ A4 e (by rw[show t-1+1=t by omega];exact hUq)<| .inl hc
  ·grind
 by_cases hb:(1000000000:Int)<=t
 ·have hd:=B5 hb;have g1:gd (decide<|(1000000000:Int)<=t) false=false:=by rw[hd];rfl
  repeat rw[Ex g1]
  refine Ad (λ_=>step ?_) (λh=>by rw[hd,ZK] at h;cases h);have:BT*AL v<=t*AL v:=N5 (by unfold BT;omega) hVP;omega
 ·have hd:=Bu hb;have g1:gd (decide<|(1000000000:Int)<=t) false=true:=by rw[hd];rfl
  have hb0:0<=t*V0/\t*V0<=1000000000*1000000000:=⟨LH h1 I3.1,Pd A4 (by unfold BT at*;omega) I3.1 A4⟩;rw[Ck g1];refine A6 BC ?_;rw[Ck g1];refine A6 v0 ?_;rw[Ck g1];refine A6 BC ?_;rw[Ck g1];refine A6 (EO ⟨A4,by unfold BT at*;omega⟩) ?_;rw[Ck g1];refine A6 BC ?_;rw[e5,Ck g1];refine A6 BC ?_;rw[Ck g1];refine A6 i0 ?_;rw[Ck g1];refine A6 (EO ⟨A4,by unfold BT at*;omega⟩)<|Ad (λhc=>?_)<|λhc=>?_
  ·rw[hd,W8] at hc;have hc:=As hc;refine step ?_;have hUq:=jW hP bU1 bV0 h1 (an1 (q:=t) (r:=r) (v1:=V1) (U2:=U1+BT*U2) (u0:=U0) (v0:=V0) h3 (by unfold BT;omega));rw[<-eU,<-eV] at hUq;exact hUq
  ·grind
def kO:(l.set (j+i) x).drop j=(l.drop j).set i x:=by rw[List.drop_set,if_neg A4,Nat.add_sub_cancel_left]
theorem Wx:(l.drop j).getD i 0=l.getD (j+i) 0:=by grind
theorem ahE{t:Int}{bR:A3 Int×Int×Int->AA ρ}(hu:Cc u)(hv:Cc v)(Lc:v.length=n)(hj:j+n<=u.length)(hl:u.length<4398046511)(ht:0<=t/\t<BT)
 (h:∀u2 b,Cc u2->u2.length=u.length->u2.take j=u.take j->(∀m,j+n<=m->u2.getD m 0=u.getD m 0)->(0<=b/\b<BT)->AL ((u2.drop j).take n)=AL ((u.drop j).take n)-t*AL v+BL n*b->Yd R (bR (u2,b,(n:Int)))):Yd R (lp 18446744073709551616 (λ(k46:(A3 Int×Int×Int)->AA ρ) (DD:A3 Int×Int×Int)=>cond (decide<|DD.2.2<(v.length:Int)) (bd (AB v DD.2.2) λIz=>bd (AH<|t*Iz) λHx=>bd (AH<|Hx+DD.2.1) λGd=>bd (AH<|DD.2.2+(j:Int)) λHy=>bd (AB DD.1 Hy) λJw=>bd (AB DD.1 Hy) λJW=>bd (Fu Gd (1000000000:Int)) λKs=>bd (AH<|JW-Ks) λIQ=>bd (Gl Gd (1000000000:Int)) λMi=>jn (λ(s66:Int×Int)=>bd (AH<|DD.2.2+(j:Int)) λJv=>bd (AB DD.1 Jv) λx75=>bd (AB DD.1 Jv) λO9=>bd (AH<|DD.2.2+(1:Int)) λx79=>k46 ((DD.1.set (Jv).toNat s66.2),s66.1,x79)) λk67=>cond (decide<|IQ<(0:Int)) (bd (AH<|IQ+(1000000000:Int)) λx69=>bd (AH<|Mi+(1:Int)) λx71=>k67 (x71,x69)) (k67 (Mi,IQ))) (bR DD)) (u,(0:Int),(0:Int))):=by
 subst Lc;refine EP (λs:A3 Int×Int×Int=>Cc s.1/\s.1.length=u.length/\s.1.take j=u.take j/\(∀m,j+s.2.2.toNat<=m->s.1.getD m 0=u.getD m 0)/\(0<=s.2.1/\s.2.1<BT)/\(0<=s.2.2/\s.2.2<=v.length)/\AL ((s.1.drop j).take s.2.2.toNat)=AL ((u.drop j).take s.2.2.toNat)-t*AL (v.take s.2.2.toNat)+BL s.2.2.toNat*s.2.1)
  (λs=>v.length-s.2.2.toNat) ?_ _ _ ⟨hu,rfl,rfl,λ_ _=>rfl,⟨by dsimp;omega,by dsimp;unfold BT;omega⟩,⟨by dsimp;omega,by dsimp;omega⟩,by simp[AL]⟩ (by dsimp;omega)
 rintro next ⟨p,c,z⟩ ⟨g1,g2,g3,g4,g5,⟨g6,g6'⟩,g7⟩ hn
 dsimp only at g1 g2 g3 g4 g5 g6 g6' g7 hn⊢;obtain⟨i,rfl⟩:=F2 g6;simp only[Ce,MV] at*;refine Ad (λhc=>?_)<|λhc=>?_
 ·have hc:=As hc;have hi:i<v.length:=A4;have hx:=HX hv i;have hy:=HX g1<|j+i
  have hm0:0<=t*v.getD i 0:=LH ht.1 hx.1;have hm1:t*v.getD i 0<=(BT-1)*(BT-1):=Pd A4 A4 hx.1 (by unfold BT;omega);have ej:(((i:Nat):Int)+((j:Nat):Int))=((j+i:Nat):Int):=A4;have gu:p.getD (j+i) 0=u.getD (j+i) 0:=g4 _<|BM _
  refine A6 (Bf hi) (A6 (EO ⟨A4,by unfold BT at*;omega⟩) (A6 (EO ⟨A4,by unfold BT at*;omega⟩)<|A6 BC ?_));rw[ej];have step:∀d x:Int,(0<=d/\d<BT)->(0<=x/\x<BT)->x=u.getD (j+i) 0-(t*v.getD i 0+c)+BT*d->Yd R (bd (AH ((j+i:Nat):Int)) λJv=>bd (AB p Jv) λx75=>bd (AB p Jv) λO9=>bd (AH<|((i:Nat):Int)+(1:Int)) λx79=>next ((p.set (Jv).toNat x),d,x79)):=by
   intro d x hd hx0 hxe;refine A6 BC<|A6 (Bf A4)<|A6 (Bf A4)<|A6 BC<|hn _ ⟨ZD g1 _ hx0,?_,?_,?_,hd,⟨?_,?_⟩,?_⟩ ?_
   ·simpa using g2
   ·rw[Ce,HI A4];exact g3
   ·intro m hm;dsimp only at hm⊢;rw[Ce,getD_set_ne A4];exact g4 m A4
   ·dsimp;omega
   ·dsimp;omega
   ·dsimp only;have e:(((i:Nat):Int)+1).toNat=i+1:=A4;rw[e,Ce,kO,IZ,HI<|BM _,JE (by rw[Ii];omega),IZ,IZ,g7,Wx,K7,hxe]
    generalize u.getD (j+i) 0=X at*
    generalize v.getD i 0=Y at*
    rw[DS t,GM t];have:BL i*(X-(t*Y+c)+BT*d)=BL i*X-BL i*(t*Y)-BL i*c+BT*BL i*d:=AK;omega
   ·dsimp;omega
  rw[gu] at hy;refine A6 (Bf A4)<|A6 (Bf A4)<|A6 (QW A4 A4) ?_
  rw[gu]
  generalize hq:t*v.getD i 0=q at*
  refine A6 (EO ⟨by unfold BT at*;omega,by unfold BT at*;omega⟩) (A6 (div_pos A4 A4 (by unfold BT at*;omega)) ?_);refine DJ (λs:Int×Int=>(0<=s.1/\s.1<BT)/\(0<=s.2/\s.2<BT)/\s.2=u.getD (j+i) 0-(q+c)+BT*s.1) (λs hs=>step s.1 s.2 hs.1 hs.2.1 hs.2.2) λk hk=>Ad (λhd=>?_)<|λhd=>?_
  ·have hd:=As hd;refine A6 (EO ⟨by unfold BT at*;omega,by unfold BT at*;omega⟩) (A6 (EO ⟨by unfold BT at*;omega,by unfold BT at*;omega⟩)<|hk _ ⟨?_,?_,?_⟩)<;>(dsimp;unfold BT at*;omega)
  ·grind
 ·grind
theorem agQ{bR:A3 Int×Int×Int->AA ρ}(hu:∀m,m≠j+n->0<=u.getD m 0/\u.getD m 0<BT)(hv:Cc v)(Lc:v.length=n)(hj:j+n<u.length)(hl:u.length<4398046511)
 (h:∀u2 b,u2.length=u.length->u2.take j=u.take j->(∀m,j+n<=m->u2.getD m 0=u.getD m 0)->(∀m,m≠j+n->0<=u2.getD m 0/\u2.getD m 0<BT)->(b=0\/b=1)->AL ((u2.drop j).take n)+BL n*b=AL ((u.drop j).take n)+AL v->Yd R (bR (u2,b,(n:Int)))):Yd R (lp 18446744073709551616 (λ(b9:(A3 Int×Int×Int)->AA ρ) (DV:A3 Int×Int×Int)=>cond (decide<|DV.2.2<(v.length:Int)) (bd (AH<|DV.2.2+(j:Int)) λIJ=>bd (AB DV.1 IJ) λLU=>bd (AB DV.1 IJ) λKi=>bd (AB v DV.2.2) λNA=>bd (AH<|Ki+NA) λNx=>bd (AH<|Nx+DV.2.1) λNC=>bd (AH<|DV.2.2+(j:Int)) λM3=>bd (Fu NC (1000000000:Int)) λR6=>bd (AB DV.1 M3) λX9=>bd (AB DV.1 M3) λX8=>bd (Gl NC (1000000000:Int)) λX7=>bd (AH<|DV.2.2+(1:Int)) λX6=>b9 ((DV.1.set (M3).toNat R6),X7,X6)) (bR DV)) (u,(0:Int),(0:Int))):=by
 subst Lc;refine EP (λs:A3 Int×Int×Int=>s.1.length=u.length/\s.1.take j=u.take j/\(∀m,j+s.2.2.toNat<=m->s.1.getD m 0=u.getD m 0)/\(∀m,m≠j+v.length->0<=s.1.getD m 0/\s.1.getD m 0<BT)/\(s.2.1=0\/s.2.1=1)/\(0<=s.2.2/\s.2.2<=v.length)/\AL ((s.1.drop j).take s.2.2.toNat)+BL s.2.2.toNat*s.2.1=AL ((u.drop j).take s.2.2.toNat)+AL (v.take s.2.2.toNat))
  (λs=>v.length-s.2.2.toNat) ?_ _ _ ⟨rfl,rfl,λ_ _=>rfl,hu,.inl rfl,⟨by dsimp;omega,by dsimp;omega⟩,by simp[AL]⟩ (by dsimp;omega)
 rintro next ⟨p,c,z⟩ ⟨g2,g3,g4,g1,g5,⟨g6,g6'⟩,g7⟩ hn
 dsimp only at g1 g2 g3 g4 g5 g6 g6' g7 hn⊢;obtain⟨i,rfl⟩:=F2 g6;simp only[Ce,MV] at*;refine Ad (λhc=>?_)<|λhc=>?_
 ·have hc:=As hc;have hi:i<v.length:=A4;have hx:=HX hv i;have hy:=g1 (j+i) A4;have ej:(((i:Nat):Int)+((j:Nat):Int))=((j+i:Nat):Int):=A4;have gu:p.getD (j+i) 0=u.getD (j+i) 0:=g4 _<|BM _
  rw[ej];rw[gu] at hy;have hS:0<=u.getD (j+i) 0+v.getD i 0+c/\u.getD (j+i) 0+v.getD i 0+c<2000000000:=AK;have i1:AB p ((j+i:Nat):Int)=some (u.getD (j+i) 0):=by rw[<-gu];exact Bf A4
  have hdm:u.getD (j+i) 0+v.getD i 0+c=(u.getD (j+i) 0+v.getD i 0+c)%1000000000+BT*((u.getD (j+i) 0+v.getD i 0+c)/1000000000):=by unfold BT;omega
  have hr:0<=(u.getD (j+i) 0+v.getD i 0+c)%1000000000/\(u.getD (j+i) 0+v.getD i 0+c)%1000000000<BT:=by unfold BT;omega
  have hd:(u.getD (j+i) 0+v.getD i 0+c)/1000000000=0\/(u.getD (j+i) 0+v.getD i 0+c)/1000000000=1:=A4;refine A6 BC (A6 i1 (A6 i1 (A6 (Bf hi) (A6 (EO ⟨A4,by unfold BT at*;omega⟩)<|A6 BC<|A6 BC<|A6 (QW hS.1 A4)<|A6 i1<|A6 i1<|A6 (div_pos hS.1 A4 A4)<|A6 BC<|hn _ ⟨?_,?_,?_,?_,hd,⟨?_,?_⟩,?_⟩ ?_))))
  ·simpa using g2
  ·rw[Ce,HI A4];exact g3
  ·grind
  ·intro m hm;rw[Ce];by_cases e:m=j+i
   ·grind
   ·rw[getD_set_ne e];exact g1 m hm
  ·dsimp;omega
  ·dsimp;omega
  ·dsimp only;have e:(((i:Nat):Int)+1).toNat=i+1:=A4;rw[e,Ce,kO,IZ,HI<|BM _,JE (by rw[Ii];omega),IZ,IZ,Wx,K7]
   generalize (u.getD (j+i) 0+v.getD i 0+c)%1000000000=r at*
   generalize (u.getD (j+i) 0+v.getD i 0+c)/1000000000=d at*
   generalize u.getD (j+i) 0=X at*
   generalize v.getD i 0=Y at*
   have:BL i*r+BT*BL i*d=BL i*X+BL i*Y+BL i*c:=AK;omega
  ·dsimp;omega
 ·grind
theorem zh{t:Int}(h1:1<=t)(h2:t<1000000000)(hf:f=1000000000/(t+1)):1<=f/\f<=500000000/\(t+1)*f<=1000000000/\1000000000<=2*(t*f):=by
 have hp:(0:Int)<t+1:=A4;have a1:(t+1)*f<=1000000000:=by rw[hf,FD];exact Int.ediv_mul_le _ A4
 have a2:1000000000<(f+1)*(t+1):=by rw[hf];exact Int.lt_ediv_add_one_mul_self _ hp
 have a3:1<=f:=by rw[hf];exact(Int.le_ediv_iff_mul_le hp).2 A4
 have a4:f<=500000000:=by have:2*f<=(t+1)*f:=N5 A4 A4;omega
 refine⟨a3,a4,a1,?_⟩;rw[ID,JI] at a2;have e:(t+1)*f=t*f+f:=AK;have e2:f*(t+1)=t*f+f:=AK;rw[e] at a1;rw[e2] at a2;have hP:t<=t*f:=by have:t*1<=t*f:=Ew a3 A4;omega
 rcases(show t=1\/1000000000<=2*t\/(2<=t/\2*t<=999999998) by omega) with h|h|⟨h,h'⟩
 ·subst h;omega
 ·omega
 ·rcases(show 1000000000<=2*(t*f)\/2*(t*f)<=999999999 by omega) with h3|h3
  ·exact h3
  ·exfalso;have b1:t*(1000000000-t)<=t*(t*f+f):=Ew A4 A4;have b2:t*(2*(t*f))<=t*999999999:=Ew h3 A4;have b3:0<(t-1)*(999999999-2*t):=Int.mul_pos A4 A4;rw[U3] at b1;rw[DS] at b1;rw[GM] at b2;rw[ZH,JI,U3,GM t 2 t] at b3
   generalize t*t=T at*
   generalize t*(t*f)=Q at*
   generalize t*f=P at*
   omega
theorem aoc(hb:Fx b)(hbl:b.length=k+2)(hf:f=1000000000/(b.getD (k+1) 0+1))(hv:Fx v)(hvv:AL v=AL b*f):v.length=k+2/\BT<=2*v.getD (k+1) 0/\BL (k+1)*f<=AL v/\1<=f/\f<=500000000:=by
 have hP:=Na<|k+1
 have hb0:b≠[]:=AK;have l1:=Te hb.1 hb0 hb.2;rw[hbl,show k+2-1=k+1 by omega] at l1;have l2:=V9 (l:=b) (n:=k+1) A4;rw[Cz A4] at l2;let⟨l3,l4⟩:=F1<|MJ hb.1<|k+1
 rw[E1,EV A4] at l4;have ht:=HX hb.1<|k+1
 generalize b.getD (k+1) 0=t at*
 have h1:1<=t:=AK;let⟨f1,f2,f3,f4⟩:=zh h1 (by unfold BT at ht;omega) hf;have u1:(AL b+1)*f<=(BL (k+1)*(t+1))*f:=N5 (by rw[DS,Lr];omega) A4;rw[ID,JI,FO] at u1;have u2:BL (k+1)*((t+1)*f)<=BL (k+1)*BT:=Ew (by unfold BT;omega) A4;have u3:(BL (k+1)*t)*f<=AL b*f:=N5 A4 A4;rw[FO] at u3;have u4:BL (k+1)*1<=BL (k+1)*(t*f):=Ew A4 A4;have u5:BL (k+1)*f<=BL (k+1)*(t*f):=Ew (by have:1*f<=t*f:=N5 h1 A4;omega) A4
 rw[<-hvv] at u1 u3;have aqk:v.length<=k+2:=hv.len (by rw[K7,FD];omega);have Ud:k+2<=v.length:=by
  rcases Hk v.length (k+2) with h|h
  ·have a:=(F1 hv.1).2;have b:=yY (show v.length<=k+1 by omega);omega
  ·exact h
 have hlen:v.length=k+2:=A4;refine⟨hlen,?_,A4,f1,f2⟩;have m2:=V9 (l:=v) (n:=k+1) A4;rw[Cz A4] at m2;let⟨m3,m4⟩:=F1<|MJ hv.1<|k+1
 rw[E1,EV A4] at m4;have m5:BL (k+1)*(t*f)<BL (k+1)*(v.getD (k+1) 0+1):=AK;have m6:=ij m5<|EU hP
 unfold BT;omega
theorem am9{x:A3 Int}{L:Nat}{K:A3 Int->AA ρ}(hx:Cc x)(hl:x.length<=L+1)(hL:L<109951162)(h:∀u,Cc u->u.length=L+1->AL u=AL x->Yd R (K u)):Yd R (lp 18446744073709551616 (λ(O8:(A3 Int)->AA ρ) (EE:(A3 Int))=>bd (AH<|(L:Int)+(1:Int)) λD7=>cond (decide<|(EE.length:Int)<D7) (bd (BG 8 EE ([(0:Int)]:A3 Int)) λEK=>O8 EK) (K EE)) x):=by
 refine EP (λs:A3 Int=>Cc s/\s.length<=L+1/\AL s=AL x) (λs=>L+1-s.length) ?_ _ _ ⟨hx,hl,rfl⟩ A4;rintro next s ⟨h1,h2,h3⟩ hn
 refine A6 BC<|Ad (λhc=>?_)<|λhc=>?_
 ·have hc:=As hc;refine A6 (bO A4) (hn _ ⟨?_,by rw[Dg,IE];omega,?_⟩ (by rw[Dg,IE];omega))
  ·rw[fB];exact⟨h1,λy hy=>by rw[Cl] at hy;subst hy;unfold BT;omega⟩
  ·rw[Re];simp[AL,h3]
 ·grind
def ab9(h:∀m,0<=l.getD m 0/\l.getD m 0<BT):Cc l:=λx hx=>by obtain⟨i,hi,rfl⟩:=List.getElem_of_mem hx;have:=h i;rwa [JL,Gj hi] at this
def wE:∀{l:A3 Int},(∀m,l.getD m 0=0)->AL l=0
 |[],_=>rfl
 |x::l,h=>by
  have h0:x=0:=by simpa using h 0
  have:=wE (l:=l) λm=>by simpa using h (m+1)
  rw[Mp,h0,this];omega
def top_lt{A V:Int}{L:Nat}(hu:Cc u)(hul:u.length=L+1)(hm:m+(k+2)=L+1)(hv:AL u=A*f)(hA:A<BL L)(hf:1<=f)(hV:BL (k+1)*f<=V):AL (u.drop m)<V:=by
 have h1:=Rj u m A4;let⟨b0,b1⟩:=F1<|MJ hu m
 have hP:=Na m;have e:BL L=BL m*BL (k+1):=by rw[<-gU];congr 1;omega
 have h2:(A+1)*f<=BL L*f:=N5 A4 A4;rw[ID,JI,e,FO] at h2;have h3:BL m*(BL (k+1)*f)<=BL m*V:=Ew hV A4;have h4:BL m*AL (u.drop m)<BL m*V:=A4;exact ij h4 A4
end
end Trn
