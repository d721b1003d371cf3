/-
  Part of the proof of SolidForms.
-/
import Derived.Test.YtflhfjdapojoiaaGreatDoorHb
set_option maxRecDepth 100000
set_option maxHeartbeats 20000000
set_option linter.all false
open Go Go.RowKit Go.Proofs Go.Proofs.Tryz
namespace Trn
section
variable{t x:Rat}{α:Type}{y:Rat}
abbrev Q3:=Rat×Rat×Rat
abbrev H3:=Q3×Rat
def AG(v w:Q3):Rat:=v.1*w.1+v.2.1*w.2.1+v.2.2*w.2.2
def As(v w:Q3):Q3:=(v.1-w.1,v.2.1-w.2.1,v.2.2-w.2.2)
def AS(v w:Q3):Q3:=(v.2.1*w.2.2-v.2.2*w.2.1,v.2.2*w.1-v.1*w.2.2,v.1*w.2.1-v.2.1*w.1)
def CF(v w:Q3):Q3:=(v.1+w.1,v.2.1+w.2.1,v.2.2+w.2.2)
def Aj(v:Q3)(a:Rat):Q3:=(v.1*a,v.2.1*a,v.2.2*a)
def o3:Q3:=(0,0,0)
def val(h:H3)(p:Q3):Rat:=AG h.1 p-h.2
def Mem(L:A3 H3)(p:Q3):Prop:=∀h∈L,val h p<=0
def EA(L:A3 H3):Prop:=∀d:Q3,d≠o3->∃h∈L,0<AG h.1 d
def Ba(L:A3 H3)(p:Q3):Prop:=Mem L p/\∀d:Q3,(∀h∈L,val h p=0->AG h.1 d=0)->d=o3
def Hb{v w:Q3}(h1:v.1=w.1)(h2:v.2.1=w.2.1)(h3:v.2.2=w.2.2):v=w:=by
 obtain⟨a,b,c⟩:=v;obtain⟨d,e,f⟩:=w;simp only at h1 h2 h3;rw[h1,h2,h3]
theorem O2(n p d:Q3):AG n (CF p d)=AG n p+AG n d:=by unfold AG CF;grind
theorem Vn(n p d:Q3):AG n (As p d)=AG n p-AG n d:=by unfold AG As;grind
theorem Ew(n d:Q3)(a:Rat):AG n (Aj d a)=a*AG n d:=by unfold AG Aj;grind
theorem N1(n d:Q3):AG n d=AG d n:=by unfold AG;grind
theorem Kb(n d:Q3)(a:Rat):AG (Aj d a) n=a*AG d n:=by unfold AG Aj;grind
theorem WH(n:Q3):AG n o3=0:=by unfold AG o3;grind
theorem O3(h:H3)(p d:Q3)(r:Rat):val h (CF p<|Aj d r)=val h p+r*AG h.1 d:=by
 unfold val;rw[O2,Ew];grind
theorem aF(x:Rat):0<=x*x:=by
 rcases fG (a:=0) (b:=x) with h|h
 ·exact DD h h
 ·have:=DD (a:= -x) (b:= -x) (by grind) (by grind);grind
def ni(h:x*x<=0):x=0:=by
 rcases GV.1 (Rat.le_antisymm h<|aF x) with h|h<;>exact h
theorem vh{d:Q3}(h:AG d d<=0):d=o3:=by
 unfold AG at h;have h1:=aF d.1;have h2:=aF d.2.1;have h3:=aF d.2.2;exact Hb (ni (by grind)) (ni (by grind)) (ni (by grind))
theorem Og{d:Q3}(h:d≠o3):0<AG d d:=by
 by_cases h1:0<AG d d
 ·exact h1
 ·exact absurd (vh (by grind)) h
def least{α:Type}(P:α->Prop)(f:α->Rat):∀L:A3 α,(∃h∈L,P h)->∃h∈L,P h/\∀k∈L,P k->f h<=f k
 |[],⟨h,m,_⟩=>by cases m
 |x::L,hx=>by
  by_cases hL:∃h∈L,P h
  ·obtain⟨h,m,ph,hm⟩:=least P f L hL;by_cases px:P x
   ·rcases fG (a:=f x) (b:=f h) with c|c
    ·refine⟨x,Dm,px,λk mk pk=>?_⟩;rcases Ag.1 mk with e|mk
     ·rw[e];exact FM
     ·exact TQ c<|hm k mk pk
    ·refine⟨h,Bi _ m,ph,λk mk pk=>?_⟩;rcases Ag.1 mk with e|mk
     ·rw[e];exact c
     ·exact hm k mk pk
   ·refine⟨h,Bi _ m,ph,λk mk pk=>?_⟩;rcases Ag.1 mk with e|mk
    ·rw[e] at pk;exact absurd pk px
    ·exact hm k mk pk
  ·obtain⟨h,m,ph⟩:=hx;rcases Ag.1 m with e|m
   ·subst e;refine⟨h,Dm,ph,λk mk pk=>?_⟩;rcases Ag.1 mk with e|mk
    ·rw[e];exact FM
    ·exact absurd ⟨k,mk,pk⟩ hL
   ·exact absurd ⟨h,m,ph⟩ hL
def filter_lt{α:Type}{p q:α->Bool}:∀{L:A3 α} {x:α},(∀y∈L,q y=true->p y=true)->x∈L->p x=true->q x=false->(L.filter q).length<(L.filter p).length
 |y::L,x,h,m,hp,hq=>by
  have hle:∀M:A3 α,(∀y∈M,q y=true->p y=true)->(M.filter q).length<=(M.filter p).length:=by
   intro M
   induction M with
   |nil=>intro _;exact Az _
   |cons z M ih=>
    intro hM;have:=ih λy my=>hM y<|Bi _ my
    have hz:=hM z Dm;rw[Yh,Yh];cases hqz:q z
    ·cases p z<;>simp<;>omega
    ·rw[hz hqz];simp;omega
  rw[Yh,Yh];rcases Ag.1 m with e|m
  ·subst e;rw[hp,hq];have:=hle L λy my=>h y<|Bi _ my
   simp;omega
  ·have:=filter_lt (λy my=>h y<|Bi _ my) m hp hq;have hy:=h y Dm;cases hqz:q y
   ·cases p y<;>simp<;>omega
   ·rw[hy hqz];simp;omega
theorem akn{L:A3 H3}(hb:EA L){p:Q3}(hp:Mem L p)(c:Q3){d:Q3}(hd:d≠o3)(hc:0<=AG c d)(ht:∀h∈L,val h p=0->AG h.1 d=0):
  ∃q,Mem L q/\AG c p<=AG c q/\(∀h∈L,val h p=0->val h q=0)/\∃h∈L,val h p≠0/\val h q=0:=by
 obtain⟨h,mh,ph,hm⟩:=least (λh:H3=>0<AG h.1 d) (λh=> -val h p/AG h.1 d) L<|hb d hd
 have hv:=hp h mh;have hr:0<= -val h p/AG h.1 d:=by
  rw[P0];exact DD (by grind)<|F3<|RY.2 ph
 have key:∀k:H3,0<AG k.1 d-> -val k p/AG k.1 d*AG k.1 d= -val k p:=λk hk=>NC (by grind)
 generalize hR: -val h p/AG h.1 d=r at*
 refine⟨CF p<|Aj d r,λk mk=>?_,?_,λk mk hk=>?_,h,mh,λe=>?_,?_⟩
 ·rw[O3];have hk:=hp k mk;by_cases g:0<AG k.1 d
  ·have h1:=hm k mk g;have h2:=key k g;have h3:=Yw h1<|F3 g
   grind
  ·have:=DD hr (show 0<= -AG k.1 d by grind)
   grind
 ·rw[O2,Ew];have:=DD hr hc
  grind
 ·rw[O3,ht k mk hk,hk];grind
 ·have:=ht h mh e
  grind
 ·rw[O3];have:=key h ph;rw[hR] at this
  grind
theorem amZ{L:A3 H3}(hb:EA L)(c:Q3):∀(n:Nat) (p:Q3),(L.filter λh=> !decide (val h p=0)).length<=n->Mem L p->∃v,Ba L v/\AG c p<=AG c v/\∀h∈L,val h p=0->val h v=0:=by
 intro n
 induction n with
 |zero=>
  intro p hn hp;refine⟨p,⟨hp,λd hd=>?_⟩,FM,λ_ _ h=>h⟩;have h0:(L.filter λh=> !decide (val h p=0))=[]:=JS (by omega);by_cases hz:d=o3
  ·exact hz
  ·obtain⟨h,mh,hh⟩:=hb d hz;have:val h p=0:=by
    by_cases e:val h p=0
    ·exact e
    ·have:h∈(L.filter λh=> !decide (val h p=0)):=Hf.2 ⟨mh,by simp[e]⟩;rw[h0] at this;cases this
   have:=hd h mh this
   grind
 |succ n ih=>
  intro p hn hp;by_cases hv:Ba L p
  ·exact⟨p,hv,FM,λ_ _ h=>h⟩
  ·have:∃d:Q3,(∀h∈L,val h p=0->AG h.1 d=0)/\d≠o3:=by
    refine CC λhn=>hv ⟨hp,λd hd=>?_⟩
    exact CC λhz=>hn ⟨d,hd,hz⟩
   obtain⟨d,ht,hz⟩:=this;have go:∀d:Q3,(∀h∈L,val h p=0->AG h.1 d=0)->d≠o3->0<=AG c d->∃v,Ba L v/\AG c p<=AG c v/\∀h∈L,val h p=0->val h v=0:=by
    intro d ht hz hc;obtain⟨q,q1,q2,q3,h,mh,q4,q5⟩:=akn hb hp c hz hc ht;have:=filter_lt (L:=L) (p:=λh=> !decide (val h p=0)) (q:=λh=> !decide (val h q=0)) (x:=h) (λy my hy=>by
     simp at hy⊢;exact λe=>hy<|q3 y my e) mh (by simp[q4]) (by simp[q5])
    obtain⟨v,v1,v2,v3⟩:=ih q (by omega) q1;exact⟨v,v1,TQ q2 v2,λh m e=>v3 h m<|q3 h m e⟩
   rcases fG (a:=0) (b:=AG c d) with hc|hc
   ·exact go d ht hz hc
   ·have hs:∀n:Q3,AG n (Aj d<| -1)= -AG n d:=λn=>by rw[Ew];grind
    refine go (Aj d<| -1) (λh m e=>by rw[hs,ht h m e];grind) (λe=>hz ?_) (by rw[hs];grind);have e1:=congrArg Prod.fst e;have e2:=congrArg (λx=>x.2.1) e;have e3:=congrArg (λx=>x.2.2) e;simp only[Aj,o3] at e1 e2 e3;exact Hb (by simp only[o3];grind) (by simp only[o3];grind) (by simp only[o3];grind)
def QF{L:A3 H3}(hb:EA L){p:Q3}(hp:Mem L p)(c:Q3):∃v,Ba L v/\AG c p<=AG c v/\∀h∈L,val h p=0->val h v=0:=amZ hb c _ p (Az _) hp
def C2(n a b c:Q3):Rat:=AG n<|AS (As b a)<|As c a
def CQ(a b:Q3)(t:Rat):Q3:=CF a<|Aj (As b a) t
theorem YK(n a b c:Q3):C2 n a b c=C2 n b c a:=by unfold C2 AG AS As;grind
theorem Z2(n a b:Q3):C2 n a a b=0:=by unfold C2 AG AS As;grind
theorem eT(n a b:Q3):C2 n a b a=0:=by unfold C2 AG AS As;grind
theorem Oy(n a b:Q3):C2 n b a a=0:=by unfold C2 AG AS As;grind
theorem di(n p q a b:Q3)(t:Rat):C2 n p q (CQ a b t)=(1-t)*C2 n p q a+t*C2 n p q b:=by
 unfold C2 CQ AG AS As CF Aj;grind
theorem aic(n p r a b:Q3)(t:Rat):C2 n p (CQ a b t) r=(1-t)*C2 n p a r+t*C2 n p b r:=by
 unfold C2 CQ AG AS As CF Aj;grind
theorem aid(n q r a b:Q3)(t:Rat):C2 n (CQ a b t) q r=(1-t)*C2 n a q r+t*C2 n b q r:=by
 unfold C2 CQ AG AS As CF Aj;grind
theorem FJ(h:H3)(a b:Q3)(t:Rat):val h (CQ a b t)=(1-t)*val h a+t*val h b:=by
 unfold val CQ AG As CF Aj;grind
theorem iV(h0:0<=t)(h1:t<=1)(hx:0<=x)(hy:0<=y):0<=(1-t)*x+t*y:=by
 have a:=DD (show 0<=1-t by grind) hx;have b:=DD h0 hy
 grind
def Wk(n:Q3)(l:A3 Q3):Prop:=∀a b c,[a,b,c].Sublist l->0<=C2 n a b c
def HX(n:Q3)(l:A3 Q3):Prop:=∀a b c,[a,b,c].Sublist l->0<C2 n a b c
def Wk.sub{n:Q3}{l m:A3 Q3}(h:Wk n l)(s:m.Sublist l):Wk n m:=λa b c k=>h a b c<|k.trans s
def HX.wk{n:Q3}{l:A3 Q3}(h:HX n l):Wk n l:=λa b c k=>F3<|h a b c k
def SH{x:α}{l:A3 α}(h:x∈l):[x].Sublist l:=Yo.2 h
def alq{n:Q3}{A B:A3 Q3}{a b:Q3}(h0:0<=t)(h1:t<=1)(h:Wk n (A++a::b::B)):Wk n (A++a::CQ a b t::b::B):=by
 intro p q r s;have e:A++a::CQ a b t::b::B=(A++[a])++(CQ a b t::b::B):=by simp
 have e':A++a::b::B=(A++[a])++(b::B):=by simp
 rw[e'] at h;rw[e] at s;obtain⟨s1,s2,es,k1,k2⟩:=Yq.1 s;have inA:∀x∈A++[a],x=a\/[x,a].Sublist (A++[a]):=λx hx=>by
  rcases BR.1 hx with g|g
  ·exact .inr<|(SH g).append<|Rm [a]
  ·exact .inl<|Be.1 g
 have inB:∀x∈b::B,x=b\/[b,x].Sublist (b::B):=λx hx=>by
  rcases Ag.1 hx with g|g
  ·exact .inl g
  ·exact .inr<|(SH g).cons_cons b
 have ma:[a].Sublist (A++[a]):=SH (by simp);have mb:[b].Sublist (b::B):=SH (by simp);cases k2 with
 |cons _ k2=>exact h p q r (by rw[es];exact k1.append k2)
 |cons_cons _ k2=>
  rename_i s3
  match s1,es with
  |[],es=>
   simp at es;obtain⟨rfl,rfl⟩:=es;have hq:q∈b::B:=k2.subset (by simp);rw[aid];refine iV h0 h1 (h _ _ _<|ma.append k2) ?_;cases k2 with
   |cons _ k2=>exact h _ _ _<|(k2.cons_cons b).trans<|Yt _ _
   |cons_cons _ k2=>rw[Z2];exact FM
  |[x],es=>
   simp at es;obtain⟨rfl,rfl,rfl⟩:=es;have hp:p∈A++[a]:=k1.subset (by simp);have hr:r∈b::B:=k2.subset (by simp);rw[aic];refine iV h0 h1 ?_ ?_
   ·rcases inA p hp with g|g
    ·rw[g,Z2];exact FM
    ·exact h _ _ _<|g.append k2
   ·rcases inB r hr with g|g
    ·rw[g,Oy];exact FM
    ·exact h _ _ _<|k1.append g
  |[x,y],es=>
   simp at es;obtain⟨rfl,rfl,rfl,rfl⟩:=es;have hq:q∈A++[a]:=k1.subset (by simp);rw[di];refine iV h0 h1 ?_<|h _ _ _<|k1.append mb
   obtain⟨t1,t2,et,j1,j2⟩:=Yq.1 k1
   match t1,et with
   |[],et=>simp at et;subst et;have:=j2.length_le;simp at this
   |[x],et=>
    simp at et;obtain⟨rfl,rfl⟩:=et;have:q=a:=by simpa using j2
    rw[this,Oy];exact FM
   |[x,y],et=>
    simp at et;obtain⟨rfl,rfl,rfl⟩:=et;exact h _ _ _ ((j1.append<|Rm [a]).trans (by simp))
   |x::y::z::w,et=>simp at et
  |x::y::z::w,es=>simp at es
def alr{n:Q3}{A:A3 Q3}{a f:Q3}(h0:0<=t)(h1:t<=1)(hf:(A++[a]).head?=some f)(h:Wk n (A++[a])):Wk n (A++[a,CQ a f t]):=by
 intro p q r s;have e:A++[a,CQ a f t]=(A++[a])++[CQ a f t]:=by simp
 rw[e] at s;obtain⟨s1,s2,es,k1,k2⟩:=Yq.1 s;cases k2 with
 |cons _ k2=>
  have:s2=[]:=by simpa using k2
  subst this;rw[JQ] at es;exact h p q r (by rw[es];exact k1)
 |cons_cons _ k2=>
  rename_i s3;have:s3=[]:=by simpa using k2
  subst this
  match s1,es with
  |[],es=>simp at es
  |[x],es=>simp at es
  |[x,y],es=>
   simp at es;obtain⟨rfl,rfl,rfl⟩:=es;rw[di];refine iV h0 h1 ?_ ?_
   ·obtain⟨t1,t2,et,j1,j2⟩:=Yq.1 k1
    match t1,et with
    |[],et=>simp at et;subst et;have:=j2.length_le;simp at this
    |[x],et=>
     simp at et;obtain⟨rfl,rfl⟩:=et;have:q=a:=by simpa using j2
     rw[this,Oy];exact FM
    |[x,y],et=>
     simp at et;obtain⟨rfl,rfl,rfl⟩:=et;exact h _ _ _<|j1.append<|Rm [a]
    |x::y::z::w,et=>simp at et
   ·rw[YK,YK]
    match hA:A++[a],hf with
    |x::M,hf=>
     have:x=f:=by simpa using hf
     subst this;rw[hA] at k1 h;cases k1 with
     |cons _ k1=>exact h _ _ _<|k1.cons_cons x
     |cons_cons _ k1=>rw[Z2];exact FM
  |x::y::z::w,es=>simp at es
theorem OF{a b:Q3}(h:As b a=o3):a=b:=by
 have e1:=congrArg Prod.fst h;have e2:=congrArg (λx=>x.2.1) h;have e3:=congrArg (λx=>x.2.2) h;simp only[As,o3] at e1 e2 e3;exact Hb (by grind) (by grind) (by grind)
def J4{d:Q3}(h1:d.1=0)(h2:d.2.1=0)(h3:d.2.2=0):d=o3:=Hb h1 h2 h3
theorem par{u w:Q3}(hu:u≠o3)(h:AS u w=o3):w=Aj u (AG u w/AG u u):=by
 have hp:=Og hu;have e1:=congrArg Prod.fst h;have e2:=congrArg (λx=>x.2.1) h;have e3:=congrArg (λx=>x.2.2) h;simp only[AS,o3] at e1 e2 e3;have key:AG u w/AG u u*AG u u=AG u w:=NC (by grind)
 generalize AG u w/AG u u=s at key⊢
 have z:∀x:Rat,AG u u*x=0->x=0:=λx hx=>by
  rcases GV.1 hx with g|g
  ·grind
  ·exact g
 have g1:w.1-u.1*s=0:=z _ (by unfold AG at*;grind);have g2:w.2.1-u.2.1*s=0:=z _ (by unfold AG at*;grind);have g3:w.2.2-u.2.2*s=0:=z _ (by unfold AG at*;grind);exact Hb (by simp only[Aj];grind) (by simp only[Aj];grind) (by simp only[Aj];grind)
theorem Te{u:Q3}:AS u u=o3:=J4 (by simp only[AS];grind) (by simp only[AS];grind) (by simp only[AS];grind)
theorem lR(u w:Q3):AG u (AS u w)=0:=by unfold AG AS;grind
theorem Xl(u w:Q3):AG w (AS u w)=0:=by unfold AG AS;grind
theorem along{u w d:Q3}(h:AS u w≠o3)(h1:AG u d=0)(h2:AG w d=0):∃s,d=Aj (AS u w) s:=by
 refine⟨_,par h ?_⟩;unfold AG at h1 h2;exact J4 (by simp only[AS];grind) (by simp only[AS];grind) (by simp only[AS];grind)
theorem flat{n x y:Q3}(hn:n≠o3)(hx:AG n x=0)(hy:AG n y=0)(h:AG n (AS x y)=0):AS x y=o3:=by
 have hp:=Og hn;have e:AG (AS x y) (AS x y)*AG n n=AG n (AS x y)*AG n (AS x y)+AG (AS (AS x y) n) (AS (AS x y) n):=by
  unfold AG AS;grind
 have e2:AS (AS x y) n=o3:=by
  have:AS (AS x y) n=As (Aj y<|AG n x) (Aj x<|AG n y):=by
   unfold AS As Aj AG;refine Hb ?_ ?_ ?_<;>dsimp only<;>grind
  rw[this,hx,hy];unfold As Aj o3;refine Hb ?_ ?_ ?_<;>dsimp only<;>grind
 rw[h,e2,WH] at e;refine vh ?_;rcases GV.1 (show AG (AS x y) (AS x y)*AG n n=0 by grind) with g|g<;>grind
theorem xc{L:A3 H3}{p:Q3}(hm:Mem L p){f g h:H3}(mf:f∈L)(mg:g∈L)(mh:h∈L)(tf:val f p=0)(tg:val g p=0)(th:val h p=0)(hd:AG h.1 (AS f.1 g.1)≠0):Ba L p:=by
 refine⟨hm,λd hd'=>?_⟩;have hc:AS f.1 g.1≠o3:=λe=>hd (by rw[e,WH])
 obtain⟨s,rfl⟩:=along hc (hd' f mf tf)<|hd' g mg tg
 have:=hd' h mh th;rw[Ew] at this;rcases GV.1 this with e|e
 ·rw[e];exact J4 (by simp only[Aj];grind) (by simp only[Aj];grind) (by simp only[Aj];grind)
 ·exact absurd e hd
theorem val_sub(h:H3)(a b:Q3):AG h.1 (As b a)=val h b-val h a:=by unfold val;rw[Vn];grind
theorem eF{L:A3 H3}{v a b:Q3}(hv:Ba L v)(ha:Mem L a)(hb:Mem L b)(h0:0<t)(h1:t<1)(e:v=CQ a b t):a=b:=by
 refine OF<|hv.2 _ λh mh th=>?_
 rw[e,FJ] at th;have x:=DD (show 0<=1-t by grind) (show 0<= -val h a by have:=ha h mh;grind);have y:=DD (show 0<=t by grind) (show 0<= -val h b by have:=hb h mh;grind);have x0:(1-t)*val h a=0:=by grind
 have y0:t*val h b=0:=by grind
 rw[val_sub];rcases GV.1 x0 with g|g
 ·grind
 ·rcases GV.1 y0 with g'|g'
  ·grind
  ·rw[g,g'];grind
theorem mO{L:A3 H3}{a b c:Q3}(ha:Ba L a)(hb:Ba L b)(hc:Ba L c)(HM:a≠b)(hac:a≠c)(hbc:b≠c):AS (As b a) (As c a)≠o3:=by
 intro h;have hz:As b a≠o3:=λe=>HM<|OF e
 have e:=par hz h
 generalize AG (As b a) (As c a)/AG (As b a) (As b a)=s at e
 have e1:=congrArg Prod.fst e;have e2:=congrArg (λx=>x.2.1) e;have e3:=congrArg (λx=>x.2.2) e;simp only[As,Aj] at e1 e2 e3;have Lg:s≠0:=λg=>hac (by subst g;exact Hb (by grind) (by grind) (by grind))
 have hs1:s≠1:=λg=>hbc (by subst g;exact Hb (by grind) (by grind) (by grind))
 by_cases h1:1<s
 ·
  have i1:=fX s Lg;have i2:0<s⁻¹ :=RY.2 (by grind);have i3:s⁻¹ <1:=by
   have:=G1 i2 (show 0<s-1 by grind);grind
  refine hac<|eF hb ha.1 hc.1 i2 i3 ?_
  exact Hb (by simp only[CQ,CF,Aj,As];grind) (by simp only[CQ,CF,Aj,As];grind) (by simp only[CQ,CF,Aj,As];grind)
 ·by_cases h2:0<s
  ·refine HM (eF hc ha.1 hb.1 h2 (by grind) ?_);exact Hb (by simp only[CQ,CF,Aj,As];grind) (by simp only[CQ,CF,Aj,As];grind) (by simp only[CQ,CF,Aj,As];grind)
  ·
   have hs:0<1-s:=by grind
   have i1:=fX (1-s) (by grind);have i2:0<(1-s)⁻¹ :=RY.2 hs;have i3:(1-s)⁻¹ <1:=by
    have:=G1 i2 (show 0< -s by grind);grind
   refine hbc<|eF ha hb.1 hc.1 (t:=(1-s)⁻¹) i2 i3 ?_
   exact Hb (by simp only[CQ,CF,Aj,As];grind) (by simp only[CQ,CF,Aj,As];grind) (by simp only[CQ,CF,Aj,As];grind)
theorem xZ{L:A3 H3}{f:H3}(hf:f.1≠o3){a b c:Q3}(ha:Ba L a)(hb:Ba L b)(hc:Ba L c)(ta:val f a=0)(tb:val f b=0)(tc:val f c=0)(HM:a≠b)(hac:a≠c)(hbc:b≠c):C2 f.1 a b c≠0:=λe=>
 mO ha hb hc HM hac hbc (flat hf (by rw[val_sub,ta,tb];grind) (by rw[val_sub,ta,tc];grind) e)
theorem room{L:A3 H3}{q w:Q3}:Mem L q->(∀h∈L,val h q=0->AG h.1 w<=0)->∃e:Rat,0<e/\∀t,0<=t->t<=e->Mem L (CF q<|Aj w t):=by
 induction L with
 |nil=>exact λ_ _=>⟨1,by decide,λ_ _ _ h m=>by cases m⟩
 |cons h L ih=>
  intro hq ht;obtain⟨e,e0,he⟩:=ih (λk m=>hq k<|Bi _ m)<|λk m=>ht k<|Bi _ m
  have hv:=hq h Dm;by_cases g:0<AG h.1 w
  ·have hne:val h q≠0:=λz=>by have:=ht h Dm z;grind
   have hr:0< -val h q/AG h.1 w:=by rw[P0];exact G1 (by grind)<|RY.2 g
   have hc: -val h q/AG h.1 w*AG h.1 w= -val h q:=NC (by grind)
   generalize -val h q/AG h.1 w=r at*
   have one:∀t,0<=t->t<=r->val h (CF q<|Aj w t)<=0:=λt t0 t1=>by
    rw[O3];have:=Yw t1<|F3 g
    grind
   rcases fG (a:=e) (b:=r) with c|c
   ·refine⟨e,e0,λt t0 t1 k m=>?_⟩;rcases Ag.1 m with z|m
    ·rw[z];exact one t t0<|TQ t1 c
    ·exact he t t0 t1 k m
   ·refine⟨r,hr,λt t0 t1 k m=>?_⟩;rcases Ag.1 m with z|m
    ·rw[z];exact one t t0 t1
    ·exact he t t0 (TQ t1 c) k m
  ·refine⟨e,e0,λt t0 t1 k m=>?_⟩;rcases Ag.1 m with z|m
   ·rw[z,O3];have:=DD t0 (show 0<= -AG h.1 w by grind)
    grind
   ·exact he t t0 t1 k m
theorem Ul(n:Q3):∃d:Q3,d≠o3/\AG n d=0:=by
 by_cases h:n.1=0
 ·exact⟨(1,0,0),λe=>by have:=congrArg Prod.fst e;simp only[o3] at this;grind,by unfold AG;grind⟩
 ·exact⟨(-n.2.1,n.1,0),λe=>h (by have:=congrArg (λx=>x.2.1) e;simp only[o3] at this;exact this),by unfold AG;grind⟩
theorem Ut(u w:Q3):AS w u=Aj (AS u w) (-1):=by
 unfold AS Aj;refine Hb ?_ ?_ ?_<;>dsimp only<;>grind
theorem two{N:A3 Q3}(h:∀u∈N,∀w∈N,AS u w=o3)(m:Q3):∃d:Q3,d≠o3/\(∀u∈N,AG u d=0)/\AG m d=0:=by
 by_cases hz:∀u∈N,u=o3
 ·obtain⟨d,d0,d1⟩:=Ul m;exact⟨d,d0,λu mu=>by rw[hz u mu,N1,WH],d1⟩
 ·obtain⟨n,hn⟩:=Classical.not_forall.1 hz;obtain⟨mn,n0⟩:=Classical.not_imp.1 hn;have aaf:∀d,AG n d=0->∀u∈N,AG u d=0:=λd hd u mu=>by
   rw[par n0<|h n mn u mu,Kb,hd];grind
  by_cases hc:AS n m=o3
  ·obtain⟨d,d0,d1⟩:=Ul n;exact⟨d,d0,aaf d d1,by rw[par n0 hc,Kb,d1];grind⟩
  ·exact⟨_,hc,aaf _<|lR _ _,Xl _ _⟩
theorem at2{L:A3 H3}(hb:EA L){q:Q3}(hq:Mem L q)(hv: ¬Ba L q){f g:H3}(mf:f∈L)(mg:g∈L)(tf:val f q=0)(tg:val g q=0)(hc:AS f.1 g.1≠o3):
  ∃u v t,Ba L u/\Ba L v/\0<t/\t<1/\q=CQ u v t/\(∀h∈L,val h q=0->val h u=0/\val h v=0)/\u≠v:=by
 have:∃d:Q3,(∀h∈L,val h q=0->AG h.1 d=0)/\d≠o3:=by
  refine CC λhn=>hv ⟨hq,λd hd=>?_⟩
  exact CC λhz=>hn ⟨d,hd,hz⟩
 obtain⟨d,ht,hz⟩:=this;obtain⟨v,v1,v2,v3⟩:=QF hb hq d;obtain⟨u,u1,u2,u3⟩:=QF hb hq<|Aj d<| -1
 rw[Kb,Kb] at u2;obtain⟨s0,e0⟩:=along hc (ht f mf tf)<|ht g mg tg
 obtain⟨s1,e1⟩:=along hc (d:=As u q) (by rw[val_sub,u3 f mf tf,tf];grind) (by rw[val_sub,u3 g mg tg,tg];grind);obtain⟨s2,e2⟩:=along hc (d:=As v q) (by rw[val_sub,v3 f mf tf,tf];grind) (by rw[val_sub,v3 g mg tg,tg];grind)
 generalize AS f.1 g.1=e at*
 have he:=Og hc;have nz:∀{x:Q3} {s:Rat},Ba L x->As x q=Aj e s->s≠0:=λ{x s} hx h z=>by
  rw[z] at h;have:q=x:=OF (h.trans (J4 (by simp only[Aj];grind) (by simp only[Aj];grind) (by simp only[Aj];grind)));exact hv<|this▸hx
 have n1:=nz u1 e1;have n2:=nz v1 e2;have n0:s0≠0:=λz=>hz (by rw[e0,z];exact(J4 (by simp only[Aj];grind) (by simp only[Aj];grind) (by simp only[Aj];grind)))
 have p2:0<=AG d (As v q):=by rw[Vn];grind
 have p1:AG d (As u q)<=0:=by rw[Vn];grind
 rw[e0,e2,Ew,Kb] at p2;rw[e0,e1,Ew,Kb] at p1;have q2:0<=s0*s2:=CC λc=>by
  have:=G1 (show 0< -(s0*s2) by grind) he;grind
 have q1:s0*s1<=0:=CC λc=>by
  have:=G1 (show 0<s0*s1 by grind) he;grind
 have r2:0<s0*s2:=by
  have:s0*s2≠0:=λc=>by rcases GV.1 c with g|g<;>contradiction
  grind
 have r1:s0*s1<0:=by
  have:s0*s1≠0:=λc=>by rcases GV.1 c with g|g<;>contradiction
  grind
 have r3:s0*(s1-s2)<0:=by grind
 have n3:s1-s2≠0:=λc=>by rw[c] at r3;grind
 have c1:s1/(s1-s2)*(s1-s2)=s1:=NC n3
 generalize s1/(s1-s2)=t at c1
 have c2:s0*(t*(s1-s2))=s0*s1:=by rw[c1]
 have t0:0<t:=CC λc=>by
  have:=DD (show 0<= -t by grind) (show 0<= -(s0*(s1-s2)) by grind)
  grind
 have t1:t<1:=CC λc=>by
  have:=DD (show 0<=t-1 by grind) (show 0<= -(s0*(s1-s2)) by grind)
  grind
 have k1:=congrArg Prod.fst e1;have k2:=congrArg (λx=>x.2.1) e1;have k3:=congrArg (λx=>x.2.2) e1;have l1:=congrArg Prod.fst e2;have l2:=congrArg (λx=>x.2.1) e2;have l3:=congrArg (λx=>x.2.2) e2;simp only[As,Aj] at k1 k2 k3 l1 l2 l3;refine⟨u,v,t,u1,v1,t0,t1,?_,λh mh th=>⟨u3 h mh th,v3 h mh th⟩,λc=>n3 ?_⟩
 ·exact Hb (by simp only[CQ,CF,Aj,As];grind) (by simp only[CQ,CF,Aj,As];grind) (by simp only[CQ,CF,Aj,As];grind)
 ·rw[c] at e1;have:AG e (As v q)=s1*AG e e:=by rw[e1,Ew]
  have h2:AG e (As v q)=s2*AG e e:=by rw[e2,Ew]
  rcases GV.1 (show(s1-s2)*AG e e=0 by grind) with g|g<;>grind
def IM(f:Q3):A3 Q3->A3 (Q3×Q3)
 |[]=>[]
 |[a]=>[(a,f)]
 |a::b::l=>(a,b)::IM f (b::l)
def IV:A3 Q3->A3 (Q3×Q3)
 |[]=>[]
 |a::l=>IM a (a::l)
def Fw(x y:Rat):Bool:=(decide (x<0)&&decide (0<y))||(decide (0<x)&&decide (y<0))
def FC(h:H3)(a b:Q3):Q3:=CQ a b<|val h a/(val h a-val h b)
def LQ(h:H3)(s:Q3×Q3):A3 Q3:=(bif decide (val h s.1<=0) then [s.1] else [])++(bif Fw (val h s.1) (val h s.2) then [FC h s.1 s.2] else [])
def F8(h:H3)(l:A3 Q3):A3 Q3:=(IV l).flatMap<|LQ h
def iK(h:H3)(s:Q3×Q3):A3 Q3:=s.1::(bif Fw (val h s.1) (val h s.2) then [FC h s.1 s.2] else [])
def Jt:Fw x y=true↔(x<0/\0<y)\/(0<x/\y<0):=by unfold Fw;simp
theorem PM(h:Fw x y=true):0<x/(x-y)/\x/(x-y)<1/\(1-x/(x-y))*x+x/(x-y)*y=0:=by
 have h:=Jt.1 h;have hn:x-y≠0:=by grind
 have e:x/(x-y)*(x-y)=x:=NC hn
 generalize x/(x-y)=t at e
 have t0:0<t:=CC λc=>by
  rcases h with⟨a,b⟩|⟨a,b⟩
  ·have:=DD (show 0<= -t by grind) (show 0<=y-x by grind);grind
  ·have:=DD (show 0<= -t by grind) (show 0<=x-y by grind);grind
 have t1:t<1:=CC λc=>by
  rcases h with⟨a,b⟩|⟨a,b⟩
  ·have:=DD (show 0<=t-1 by grind) (show 0<=y-x by grind);grind
  ·have:=DD (show 0<=t-1 by grind) (show 0<=x-y by grind);grind
 exact⟨t0,t1,by grind⟩
def YE{h:H3}{a b:Q3}(ho:Fw (val h a) (val h b)=true):val h (FC h a b)=0:=by
 unfold FC;rw[FJ];exact(PM ho).2.2
def yX{n:Q3}{h:H3}{f:Q3}:∀(l A:A3 Q3),l≠[]->(A++l).head?=some f->Wk n (A++l)->Wk n (A++(IM f l).flatMap (iK h))
 |[],_,h0,_,_=>absurd rfl h0
 |[a],A,_,hf,hw=>by
  unfold IM;rw[P7,List.flatMap_nil,JQ];unfold iK;cases ho:Fw (val h a) (val h f) with
  |false=>rw[B8];exact hw
  |true=>
   have t:=PM ho;rw[BM];exact alr (F3 t.1) (F3 t.2.1) hf hw
 |a::b::l,A,_,hf,hw=>by
  unfold IM;rw[P7,<-Gw];refine yX (b::l) _ (by simp) ?_ ?_
  ·cases A with
   |nil=>exact hf
   |cons x A=>exact hf
  ·unfold iK;cases ho:Fw (val h a) (val h b) with
   |false=>rw[B8];simpa using hw
   |true=>
    have t:=PM ho;rw[BM];have:=alq (F3 t.1) (F3 t.2.1) hw;simpa[FC] using this
def xG{α β:Type}{f g:α->A3 β}:∀{l:A3 α},(∀x∈l,(f x).Sublist<|g x)->(l.flatMap f).Sublist (l.flatMap g)
 |[],_=>Rm _
 |x::l,h=>by
  rw[P7,P7];exact(h x Dm).append<|xG λy m=>h y<|Bi _ m
def alf{n:Q3}{h:H3}{l:A3 Q3}(hw:Wk n l):Wk n (F8 h l):=by
 cases l with
 |nil=>exact hw
 |cons a l=>
  have:=yX (h:=h) (a::l) [] (by simp) rfl hw;refine Wk.sub this<|xG λs _=>?_
  unfold LQ iK;cases decide (val h s.1<=0)
  ·exact List.sublist_cons_self _ _
  ·exact Rm _
def tY{f:Q3}{s:Q3×Q3}:∀{l A:A3 Q3},(A++l).head?=some f->s∈IM f l->(∃B C,A++l=B++s.1::s.2::C)\/(∃B,A++l=B++[s.1]/\s.2=f)
 |[],A,_,h=>by cases h
 |[a],A,_,h=>by
  have:s=(a,f):=by simpa[IM] using h
  subst this;exact .inr ⟨A,rfl,rfl⟩
 |a::b::l,A,hf,h=>by
  unfold IM at h;rcases Ag.1 h with e|h
  ·subst e;exact .inl ⟨A,l,rfl⟩
  ·have:=tY (l:=b::l) (A:=A++[a]) (by simpa using hf) h;simpa using this
def lC{f a b:Q3}{C:A3 Q3}:∀{B:A3 Q3},(a,b)∈IM f (B++a::b::C)
 |[]=>by simp[IM]
 |[x]=>by simp[IM]
 |x::y::B=>by
  have:=lC (f:=f) (a:=a) (b:=b) (C:=C) (B:=y::B);show(a,b)∈(x,y)::IM f (y::(B++a::b::C));exact Bi _ this
def tJ{f a:Q3}:∀{B:A3 Q3},(a,f)∈IM f (B++[a])
 |[]=>by simp[IM]
 |[x]=>by simp[IM]
 |x::y::B=>by
  have:=tJ (f:=f) (a:=a) (B:=y::B);show(a,f)∈(x,y)::IM f (y::(B++[a]));exact Bi _ this
def tZ{f:Q3}:∀l:A3 Q3,(IM f l).map Prod.fst=l
 |[]=>rfl
 |[a]=>rfl
 |a::b::l=>by unfold IM;rw[LD,tZ (b::l)]
def vD(l:A3 Q3):(IV l).map Prod.fst=l:=by
 cases l with
 |nil=>rfl
 |cons a l=>exact tZ _
theorem HX.ne{n:Q3}{l:A3 Q3}(h:HX n l){a b c:Q3}(s:[a,b,c].Sublist l):a≠b/\a≠c/\b≠c:=by
 have:=h a b c s;refine⟨λe=>?_,λe=>?_,λe=>?_⟩
 ·rw[e,Z2] at this;grind
 ·rw[e,eT] at this;grind
 ·rw[e,Oy] at this;grind
def HX.nodup{n:Q3}{l:A3 Q3}(h:HX n l)(h3:3<=l.length):l.Nodup:=by
 refine gF.2 λ{a b} s e=>?_
 subst e;obtain⟨c,hc⟩:∃c,[c,a,a].Sublist l\/[a,c,a].Sublist l\/[a,a,c].Sublist l:=by
  clear h
  induction l with
  |nil=>cases s
  |cons x l ih=>
   cases s with
   |cons _ s=>exact⟨x,.inl<|s.cons_cons x⟩
   |cons_cons _ s=>
    match l,h3,s with
    |y::z::l,_,s=>
     cases s with
     |cons _ s=>exact⟨y,.inr<| .inl<|(s.cons_cons y).cons_cons a⟩
     |cons_cons _ s=>exact⟨z,.inr (.inr (((SH (by simp)).cons_cons a).cons_cons a))⟩
 rcases hc with s|s|s
 ·exact(h.ne s).2.2 rfl
 ·exact(h.ne s).2.1 rfl
 ·exact(h.ne s).1 rfl
theorem wO(n a b c:Q3):C2 n b a c= -C2 n a b c:=by unfold C2 AG AS As;grind
def Sz{n:Q3}{l:A3 Q3}(hl:HX n l)(h3:3<=l.length){s:Q3×Q3}(hs:s∈IV l):s.1∈l/\s.2∈l/\s.1≠s.2/\∀c∈l,c≠s.1->c≠s.2->0<C2 n s.1 s.2 c:=by
 have hn:=hl.nodup h3;obtain⟨a,b⟩:=s
 match l,h3,hs with
 |f::l,h3,hs=>
  rcases tY (A:=[]) (by rfl) hs with⟨B,C,e⟩|⟨B,e,e2⟩
  ·rw[I4] at e;rw[e] at hn hl⊢;refine⟨by simp,by simp,?_,λc hc h1 h2=>?_⟩
   ·have:[a,b].Sublist (B++a::b::C):=((Nv C).cons_cons b|>.cons_cons a).trans (Yt _ _);exact gF.1 hn this
   ·rcases BR.1 hc with m|m
    ·rw[<-YK];exact hl _ _ _<|(SH m).append<|((Nv C).cons_cons b).cons_cons a
    ·have m:c∈C:=by simpa[h1,h2] using m
     exact hl _ _ _<|((SH m).cons_cons b|>.cons_cons a).trans<|Yt _ _
  ·rw[I4] at e;dsimp only at e e2;subst e2
   match B,e with
   |[],e=>rw[e] at h3;simp at h3
   |x::B,e=>
    have:b=x:=by simpa using congrArg List.head? e
    subst this;rw[e] at hn hl⊢;refine⟨by simp,by simp,?_,λc hc h1 h2=>?_⟩
    ·have:[b,a].Sublist (b::B++[a]):=((Nv B).append<|Rm [a]).cons_cons b;exact λe=>gF.1 hn this e.symm
    ·have m:c∈B:=by simpa[h1,h2] using hc
     rw[YK];exact hl _ _ _<|((SH m).append<|Rm [a]).cons_cons b
theorem aoL{l:A3 Q3}(hn:l.Nodup)(h3:3<=l.length)(a b:Q3):∃c∈l,c≠a/\c≠b:=by
 match l,h3,hn with
 |x::y::z::l,_,hn=>
  simp at hn;by_cases h1:x≠a/\x≠b
  ·exact⟨x,by simp,h1⟩
  ·by_cases h2:y≠a/\y≠b
   ·exact⟨y,by simp,h2⟩
   ·refine⟨z,by simp,λe=>?_,λe=>?_⟩<;>subst e<;>grind
theorem agZ{n:Q3}{l:A3 Q3}(hl:HX n l)(h3:3<=l.length){a b:Q3}(h1:(a,b)∈IV l)(h2:(b,a)∈IV l):False:=by
 obtain⟨c,mc,ca,cb⟩:=aoL (hl.nodup h3) h3 a b;have p:=(Sz hl h3 h1).2.2.2 c mc ca cb;have q:=(Sz hl h3 h2).2.2.2 c mc cb ca;dsimp only at p q;rw[wO] at q
 grind
theorem afS{n:Q3}{l:A3 Q3}(hl:HX n l)(h3:3<=l.length){s r:Q3×Q3}(hs:s∈IV l)(hr:r∈IV l)(hne:s.1≠r.1){u:Rat}(t0:0<=t)(t1:t<1)(u0:0<=u)(u1:u<1):CQ s.1 s.2 t≠CQ r.1 r.2 u:=by
 intro e;obtain⟨a,b⟩:=s;obtain⟨c,d⟩:=r;obtain⟨s1,s2,s3,s4⟩:=Sz hl h3 hs;obtain⟨r1,r2,r3,r4⟩:=Sz hl h3 hr;dsimp only at*;have z:C2 n a b (CQ a b t)=0:=by rw[di,eT,Oy];grind
 rw[e,di] at z;have dn:0<=C2 n a b d:=by
  by_cases h1:d=a
  ·rw[h1,eT];exact FM
  ·by_cases h2:d=b
   ·rw[h2,Oy];exact FM
   ·exact F3<|s4 d r2 h1 h2
 by_cases hcb:c=b
 ·subst hcb;rw[Oy] at z;have hda:d≠a:=λg=>agZ hl h3 hs<|g▸hr
  have dp:=s4 d r2 hda<|Ne.symm r3
  have:u=0:=by
   rcases GV.1 (show u*C2 n a c d=0 by grind) with g|g
   ·exact g
   ·grind
  subst this;refine s3 ?_;have e1:=congrArg Prod.fst e;have e2:=congrArg (λx=>x.2.1) e;have e3:=congrArg (λx=>x.2.2) e;simp only[CQ,CF,Aj,As] at e1 e2 e3;have q1:(1-t)*(a.1-c.1)=0:=by grind
  have q2:(1-t)*(a.2.1-c.2.1)=0:=by grind
  have q3:(1-t)*(a.2.2-c.2.2)=0:=by grind
  have z:∀x:Rat,(1-t)*x=0->x=0:=λx h=>by
   rcases GV.1 h with g|g
   ·grind
   ·exact g
  have:=z _ q1;have:=z _ q2;have:=z _ q3;exact Hb (by grind) (by grind) (by grind)
 ·have cp:=s4 c r1 (Ne.symm hne) hcb;have:=G1 (show 0<1-u by grind) cp;have:=DD u0 dn
  grind
theorem aoX(a b:Q3):CQ a b 0=a:=Hb (by simp only[CQ,CF,Aj,As];grind) (by simp only[CQ,CF,Aj,As];grind) (by simp only[CQ,CF,Aj,As];grind)
def w7{h:H3}{s:Q3×Q3}{x:Q3}(hx:x∈LQ h s):(x=s.1/\val h x<=0)\/(Fw (val h s.1) (val h s.2)=true/\x=FC h s.1 s.2):=by
 unfold LQ at hx;rcases BR.1 hx with m|m
 ·cases hd:decide (val h s.1<=0) with
  |false=>rw[hd] at m;cases m
  |true=>
   rw[hd] at m;have e:x=s.1:=Be.1 m;rw[e];exact .inl ⟨rfl,AZ hd⟩
 ·cases hd:Fw (val h s.1) (val h s.2) with
  |false=>rw[hd] at m;cases m
  |true=>rw[hd] at m;exact .inr ⟨rfl,by simpa using m⟩
theorem ag2{n:Q3}{h:H3}{l:A3 Q3}(hl:HX n l)(h3:3<=l.length):(F8 h l).Nodup:=by
 unfold F8 List.Nodup;have half:∀s x,x∈LQ h s->∃t:Rat,0<=t/\t<1/\x=CQ s.1 s.2 t:=λs x hx=>by
  rcases w7 hx with⟨e,_⟩|⟨ho,e⟩
  ·exact⟨0,FM,by decide,by rw[aoX];exact e⟩
  ·have t:=PM ho;exact⟨_,F3 t.1,t.2.1,e⟩
 have hp:((IV l).map Prod.fst).Nodup:=by rw[vD];exact hl.nodup h3
 have hp:=Nx.1 hp;refine List.pairwise_flatMap.2 ⟨λs hs=>?_,?_⟩
 ·unfold LQ;cases decide (val h s.1<=0)
  ·cases Fw (val h s.1) (val h s.2)<;>simp
  ·cases ho:Fw (val h s.1) (val h s.2)
   ·simp
   ·have t0:=(PM ho).1;have hne:=(Sz hl h3 hs).2.2.1;simp only[BM,Q9,I4,Ki,Be,forall_eq,VV,List.Pairwise.nil,and_true,false_implies,implies_true];intro e;refine hne<|OF ?_
    unfold FC at e
    generalize val h s.1/(val h s.1-val h s.2)=t at e t0
    have e1:=congrArg Prod.fst e;have e2:=congrArg (λx=>x.2.1) e;have e3:=congrArg (λx=>x.2.2) e;simp only[CQ,CF,Aj,As] at e1 e2 e3;have z:∀x:Rat,x*t=0->x=0:=λx h=>by
     rcases GV.1 h with g|g
     ·exact g
     ·grind
    exact J4 (z _ (by simp only[As];grind)) (z _ (by simp only[As];grind)) (z _ (by simp only[As];grind))
 ·refine Ve ?_ hp;intro s r hs hr hne x hx y hy e;obtain⟨t,t0,t1,ex⟩:=half s x hx;obtain⟨u,u0,u1,ey⟩:=half r y hy;exact afS hl h3 hs hr hne t0 t1 u0 u1 (by rw[<-ex,<-ey,e])
theorem adj{n:Q3}{l:A3 Q3}(hl:HX n l){u v:Q3}(hu:u∈l)(hv:v∈l)(hne:u≠v)(h:∀x∈l,∀y∈l,C2 n u v x<0->0<C2 n u v y->False):(u,v)∈IV l\/(v,u)∈IV l:=by
 have key:∀{u v:Q3} {A D:A3 Q3},l=A++u::D->v∈D->(∀x∈l,∀y∈l,C2 n u v x<0->0<C2 n u v y->False)->(u,v)∈IV l\/(v,u)∈IV l:=by
  intro u v A D e hD h;obtain⟨B,C,rfl⟩:=List.append_of_mem hD;cases B with
  |nil=>
   left;rw[e]
   match A with
   |[]=>exact lC (B:=[])
   |x::A=>exact lC (B:=x::A)
  |cons x B=>
   have hx:C2 n u v x<0:=by
    have:=hl u x v (by
     rw[e];refine((List.Sublist.cons_cons u ?_)).trans<|Yt _ _
     exact((Nv B).append (Nv C|>.cons_cons v)).cons_cons x)
    have e2:C2 n u v x= -C2 n u x v:=by unfold C2 AG AS As;grind
    rw[e2];grind
   have mx:x∈l:=by rw[e];simp
   match A,C with
   |[],[]=>right;rw[e];exact tJ (B:=u::x::B)
   |y::A,_=>
    refine(h x mx y (by rw[e];simp) hx ?_).elim;rw[<-YK];refine hl y u v ?_;rw[e];exact List.Sublist.cons_cons y<|(List.Sublist.cons_cons u<|(Nv (x::B)).append (Nv _|>.cons_cons v)).trans<|Yt _ _
   |[],y::C=>
    refine(h x mx y (by rw[e];simp) hx ?_).elim;refine hl u v y ?_;rw[e];exact List.Sublist.cons_cons u<|(Nv (x::B)).append<|(Nv C|>.cons_cons y).cons_cons v
 obtain⟨A,D,e⟩:=List.append_of_mem hu;have Im:v∈A++u::D:=e▸hv;rcases BR.1 Im with m|m
 ·obtain⟨A1,A2,rfl⟩:=List.append_of_mem m;refine(key (u:=v) (v:=u) (A:=A1) (D:=A2++u::D) (by rw[e];simp) (by simp) λx mx y my h1 h2=>?_).symm;rw[wO] at h1 h2;exact h y my x mx (by grind) (by grind)
 ·exact key e (by simpa[Ne.symm hne] using m) h
abbrev D7:=H3×A3 Q3
def QW(h k:H3):Prop:=∃s:Rat,0<s/\k=(Aj h.1 s,h.2*s)
structure C9(S:A3 D7)(M:A3 H3):Prop where
 bdd:EA M
 int:∃o,∀h∈M,val h o<0
 nz:∀h∈M,h.1≠o3
 norm:∀h∈M,∀k∈M,QW h k->h=k
 Ea:∀f∈S,f.1∈M/\HX f.1.1 f.2/\3<=f.2.length/\∀p,p∈f.2↔Ba M p/\val f.1 p=0
 U9:S.Pairwise λf g=>f.1≠g.1
 cover:∀p,Mem M p->(∃h∈M,val h p=0)->∃f∈S,val f.1 p=0
theorem yv{h:H3}{p:Q3}(e:val h p=0):h.2=AG h.1 p:=by unfold val at e;grind
theorem ou{M:A3 H3}{o:Q3}(hi:∀h∈M,val h o<0)(hz:∀h∈M,h.1≠o3)(hn:∀h∈M,∀k∈M,QW h k->h=k){h k:H3}(mh:h∈M)(mk:k∈M)(hc:AS h.1 k.1=o3){p:Q3}(th:val h p=0)(tk:val k p=0):h=k:=by
 have e:=par (hz h mh) hc
 generalize AG h.1 k.1/AG h.1 h.1=s at e
 have e2:k.2=h.2*s:=by rw[yv tk,yv th,e,Kb];grind
 refine hn h mh k mk ⟨s,?_,Prod.ext e e2⟩;have a:=hi h mh;have b:=hi k mk;have c:val k o=s*val h o:=by unfold val;rw[e2,e,Kb];grind
 refine CC λg=>?_
 have:=DD (show 0<= -s by grind) (show 0<= -val h o by grind)
 grind
theorem indep{f g k:Q3}(hf:f≠o3)(h:AS g k≠o3):AS f g≠o3\/AS f k≠o3:=by
 by_cases h1:AS f g=o3
 ·by_cases h2:AS f k=o3
  ·refine absurd ?_ h;rw[par hf h1,par hf h2];exact J4 (by simp only[AS,Aj];grind) (by simp only[AS,Aj];grind) (by simp only[AS,Aj];grind)
  ·exact .inr h2
 ·exact .inl h1
theorem ng{f k:Q3}(hf:f≠o3)(h:AS f k=o3){w:Q3}(hw:AG f w=0):AG k w=0:=by
 rw[par hf h,Kb,hw];grind
theorem agY{L:A3 H3}(hb:EA L){f:H3}(mf:f∈L)(hf:f.1≠o3){l:A3 Q3}(hl:HX f.1 l)(h3:3<=l.length)(hv:∀p,p∈l↔Ba L p/\val f p=0){s:Q3×Q3}(hs:s∈IV l):
  ∃g∈L,val g s.1=0/\val g s.2=0/\AS f.1 g.1≠o3:=by
 obtain⟨u,v⟩:=s;obtain⟨mu,mv,hne,WE⟩:=Sz hl h3 hs;dsimp only at*;obtain⟨vu,tu⟩:=(hv u).1 mu;obtain⟨vv,tv⟩:=(hv v).1 mv;refine CC λDy=>?_
 have tight:∀g∈L,val g (CQ u v<|1/2)=0->val g u=0/\val g v=0:=λg mg tg=>by
  rw[FJ] at tg;have:=vu.1 g mg;have:=vv.1 g mg
  grind
 have arV:∀g∈L,val g (CQ u v<|1/2)=0->AS f.1 g.1=o3:=λg mg tg=>by
  obtain⟨a,b⟩:=tight g mg tg;exact CC λc=>Dy ⟨g,mg,a,b,c⟩
 have hw:AG f.1 (AS (As v u) f.1)=0:=Xl _ _;have hz:AS (As v u) f.1≠o3:=λe=>by
  have hd:As v u≠o3:=λe=>hne<|OF e
  have h0:AG f.1 (As v u)=0:=by rw[val_sub,tu,tv];grind
  have:=par hd e;rw[N1] at h0;rw[h0] at this;refine hf (this.trans<|J4 ?_ ?_ ?_)<;>simp only[Aj]<;>grind
 have hm:Mem L (CQ u v<|1/2):=λg mg=>by
  rw[FJ];have:=vu.1 g mg;have:=vv.1 g mg
  grind
 obtain⟨e,e0,he⟩:=room hm (w:=AS (As v u) f.1) λg mg tg=>by
  rw[ng hf (arV g mg tg) hw];exact FM
 have hq:=he e (F3 e0) FM;obtain⟨p,p1,p2,p3⟩:=QF hb hq<|AS (As v u) f.1
 have tp:=p3 f mf (by rw[O3,hw,FJ,tu,tv];grind);have mp:=(hv p).2 ⟨p1,tp⟩;have ho:0<=C2 f.1 u v p:=by
  by_cases h1:p=u
  ·rw[h1,eT];exact FM
  ·by_cases h2:p=v
   ·rw[h2,Oy];exact FM
   ·exact F3<|WE p mp h1 h2
 have hpos:=G1 e0<|Og hz
 have e1:AG (AS (As v u) f.1) p-AG (AS (As v u) f.1) (CQ u v<|1/2)= -C2 f.1 u v p:=by
  unfold C2 CQ AG AS As CF Aj;grind
 rw[O2,Ew] at p2
 grind
theorem three{L:A3 H3}(hb:EA L){q:Q3}(hq:Mem L q){f:H3}(mf:f∈L)(tf:val f q=0)(hf:f.1≠o3)(ht:∀g∈L,val g q=0->AS f.1 g.1=o3){l:A3 Q3}(hl:∀p,Ba L p->val f p=0->p∈l):3<=l.length:=by
 have key:∀w,w≠o3->AG f.1 w=0->∃p∈l,AG w q<AG w p:=λw w0 hw=>by
  obtain⟨e,e0,he⟩:=room hq (w:=w) λg mg tg=>by rw[ng hf (ht g mg tg) hw];exact FM
  obtain⟨p,p1,p2,p3⟩:=QF hb (he e (F3 e0) FM) w;refine⟨p,hl p p1 (p3 f mf (by rw[O3,hw,tf];grind)),?_⟩;rw[O2,Ew] at p2;have:=G1 e0<|Og w0
  grind
 have neg:∀w:Q3,w≠o3->Aj w (-1)≠o3:=λw h e=>h (by
  have e1:=congrArg Prod.fst e;have e2:=congrArg (λx=>x.2.1) e;have e3:=congrArg (λx=>x.2.2) e;simp only[Aj,o3] at e1 e2 e3;exact J4 (by grind) (by grind) (by grind))
 have both:∀w,w≠o3->AG f.1 w=0->∃p∈l,∃r∈l,AG w p≠AG w r:=λw w0 hw=>by
  obtain⟨p,mp,hp⟩:=key w w0 hw;obtain⟨r,mr,hr⟩:=key (Aj w<| -1) (neg w w0) (by rw[Ew,hw];grind);rw[Kb,Kb] at hr;exact⟨p,mp,r,mr,by grind⟩
 match l,both with
 |[],both=>
  obtain⟨d,d0,d1⟩:=Ul f.1;obtain⟨p,mp,_⟩:=both d d0 d1;cases mp
 |[a],both=>
  obtain⟨d,d0,d1⟩:=Ul f.1;obtain⟨p,mp,r,mr,h⟩:=both d d0 d1;rw[Be.1 mp,Be.1 mr] at h;exact absurd rfl h
 |[a,b],both=>
  obtain⟨d,d0,d1,d2⟩:=two (N:=[f.1]) (λu mu w mw=>by rw[Be.1 mu,Be.1 mw];exact Te)<|As b a
  obtain⟨p,mp,r,mr,h⟩:=both d d0 (d1 _ (by simp));rw[N1,Vn] at d2;have:∀x∈[a,b],AG d x=AG d a:=λx mx=>by
   rcases Ag.1 mx with e|mx
   ·rw[e]
   ·rw[Be.1 mx];grind
  rw[this p mp,this r mr] at h;exact absurd rfl h
 |_::_::_::_,_=>simp
def dW{M:A3 H3}{h:H3}{p:Q3}(hp:Ba M p)(hv:val h p<=0):Ba (h::M) p:=
 ⟨λk mk=>(Ag.1 mk).elim (λe=>by rw[e];exact hv)<|hp.1 k,λd hd=>hp.2 d λk mk=>hd k<|Bi _ mk⟩
theorem y8{h:H3}{u v:Q3}(hz:val h (CQ u v t)=0)(ho:Fw (val h u) (val h v)=true):CQ u v t=FC h u v:=by
 have h1:=Jt.1 ho;have hn:val h u-val h v≠0:=by grind
 have e:val h u/(val h u-val h v)*(val h u-val h v)=val h u:=NC hn;unfold FC;rw[FJ] at hz
 congr 1
 generalize val h u/(val h u-val h v)=r at*
 have:(t-r)*(val h u-val h v)=0:=by grind
 rcases GV.1 this with g|g
 ·grind
 ·exact absurd g hn
theorem aip(u v:Q3)(t:Rat):CQ u v t=CQ v u (1-t):=by unfold CQ CF Aj As;refine Hb ?_ ?_ ?_<;>dsimp only<;>grind
theorem wP(x y:Rat):Fw x y=Fw y x:=by
 rw[Yb,Jt,Jt];grind
theorem mP{M:A3 H3}(hb:EA M){h:H3}{p:Q3}(hp:Ba (h::M) p):Ba M p\/(val h p=0/\∃u v,Ba M u/\Ba M v/\Fw (val h u) (val h v)=true/\p=FC h u v/\(∀k∈M,val k p=0->val k u=0/\val k v=0)/\∃f∈M,∃g∈M,val f p=0/\val g p=0/\AS f.1 g.1≠o3):=by
 by_cases hv:Ba M p
 ·exact .inl hv
 right;have hm:Mem M p:=λk mk=>hp.1 k<|Bi _ mk
 have hz:val h p=0:=CC λc=>hv ⟨hm,λd hd=>hp.2 d λk mk tk=>by
  rcases Ag.1 mk with e|mk
  ·subst e;exact absurd tk c
  ·exact hd k mk tk⟩
 have:∃f∈M,∃g∈M,val f p=0/\val g p=0/\AS f.1 g.1≠o3:=by
  refine CC λDy=>?_
  obtain⟨d,d0,d1,d2⟩:=two (N:=(M.filter λk=>decide<|val k p=0).map Prod.fst) (λu mu w mw=>by
   obtain⟨f,mf,rfl⟩:=BI.1 mu;obtain⟨g,mg,rfl⟩:=BI.1 mw;obtain⟨mf,tf⟩:=Hf.1 mf;obtain⟨mg,tg⟩:=Hf.1 mg;exact CC λc=>Dy ⟨f,mf,g,mg,AZ tf,AZ tg,c⟩) h.1
  refine d0<|hp.2 d λk mk tk=>?_
  rcases Ag.1 mk with e|mk
  ·subst e;exact d2
  ·exact d1 _<|BI.2 ⟨k,Hf.2 ⟨mk,Ab tk⟩,rfl⟩
 refine⟨hz,?_⟩;obtain⟨f,mf,g,mg,tf,tg,hc⟩:=this;obtain⟨u,v,t,vu,vv,t0,t1,e,ht,hne⟩:=at2 hb hm hv mf mg tf tg hc;have hz':=hz;rw[e,FJ] at hz';have both:val h u≠0\/val h v≠0:=by
  refine CC λc=>hne<|OF<|hp.2 _ λk mk tk=>?_
  rw[val_sub];rcases Ag.1 mk with e|mk
  ·subst e;grind
  ·obtain⟨a,b⟩:=ht k mk tk;rw[a,b];grind
 have ho:Fw (val h u) (val h v)=true:=by
  rw[Jt];have hu:val h u≠0:=λc=>by
   rcases GV.1 (show t*val h v=0 by rw[c] at hz';grind) with g|g<;>grind
  by_cases h1:val h u<0
  ·left;refine⟨h1,CC λc=>?_⟩;have:=DD (show 0<=t by grind) (show 0<= -val h v by grind);have:=G1 (show 0<1-t by grind) (show 0< -val h u by grind)
   grind
  ·right;refine⟨by grind,CC λc=>?_⟩;have:=DD (show 0<=t by grind) (show 0<=val h v by grind);have:=G1 (show 0<1-t by grind) (show 0<val h u by grind)
   grind
 exact⟨u,v,vu,vv,ho,by rw[e];exact y8 (by rw[<-e];exact hz) ho,ht,f,mf,g,mg,tf,tg,hc⟩
def xM{h:H3}{u v:Q3}(ho:Fw (val h u) (val h v)=true):FC h u v=FC h v u:=by
 have:val h (FC h u v)=0:=YE ho;unfold FC at this⊢;rw[aip] at this⊢;exact y8 this (by rw[wP];exact ho)
theorem VC{M:A3 H3}(hb:EA M){f:H3}(mf:f∈M)(hf:f.1≠o3){l:A3 Q3}(hl:HX f.1 l)(h3:3<=l.length)(hv:∀p,p∈l↔Ba M p/\val f p=0)(h:H3)(p:Q3):p∈F8 h l↔Ba (h::M) p/\val f p=0:=by
 unfold F8;rw[NB];constructor
 ·rintro⟨s,hs,hx⟩;obtain⟨a1,a2,a3,a4⟩:=Sz hl h3 hs;rcases w7 hx with⟨e,hle⟩|⟨ho,e⟩
  ·obtain⟨b1,b2⟩:=(hv s.1).1 a1;rw[e] at hle⊢;exact⟨dW b1 hle,b2⟩
  ·obtain⟨g,mg,g1,g2,hc⟩:=agY hb mf hf hl h3 hv hs;obtain⟨b1,b2⟩:=(hv s.1).1 a1;obtain⟨c1,c2⟩:=(hv s.2).1 a2;have t:=PM ho;have hz:=YE ho;have lin:∀k:H3,val k p=(1-val h s.1/(val h s.1-val h s.2))*val k s.1+val h s.1/(val h s.1-val h s.2)*val k s.2:=λk=>by rw[e];exact FJ _ _ _ _
   rw[<-e] at hz
   generalize val h s.1/(val h s.1-val h s.2)=r at*
   have tf:val f p=0:=by rw[lin,b2,c2];grind
   have tg:val g p=0:=by rw[lin,g1,g2];grind
   refine⟨xc (f:=f) (g:=g) (h:=h) (λk mk=>?_) (Bi _ mf) (Bi _ mg) Dm tf tg hz λhd=>?_,tf⟩
   ·rcases Ag.1 mk with e|mk
    ·subst e;rw[hz];exact FM
    ·rw[lin];have:=DD (show 0<=1-r by grind) (show 0<= -val k s.1 by have:=b1.1 k mk;grind);have:=DD (show 0<=r by grind) (show 0<= -val k s.2 by have:=c1.1 k mk;grind)
     grind
   ·obtain⟨x,hx⟩:=along hc (d:=As s.2 s.1) (by rw[val_sub,b2,c2];grind) (by rw[val_sub,g1,g2];grind);have:=val_sub h s.1 s.2;rw[hx,Ew,hd] at this;have:=Jt.1 ho
    grind
 ·rintro⟨hp,tf⟩;rcases mP hb hp with h1|⟨hz,u,v,vu,vv,ho,e,ht,g,mg,k,mk,tg,tk,hc⟩
  ·have hm:=(hv p).2 ⟨h1,tf⟩;rw[<-vD l] at hm;obtain⟨s,hs,e⟩:=BI.1 hm;refine⟨s,hs,?_⟩;unfold LQ;rw[e,Ab<|hp.1 h Dm];simp
  ·obtain⟨g,mg,tg,hc⟩:∃g∈M,val g p=0/\AS f.1 g.1≠o3:=by
    rcases indep hf hc with x|x
    ·exact⟨g,mg,tg,x⟩
    ·exact⟨k,mk,tk,x⟩
   obtain⟨fu,fv⟩:=ht f mf tf;obtain⟨gu,gv⟩:=ht g mg tg;have mu:=(hv u).2 ⟨vu,fu⟩;have mv:=(hv v).2 ⟨vv,fv⟩;have hne:u≠v:=λc=>by rw[c] at ho;have:=Jt.1 ho;grind
   obtain⟨x,hx⟩:=along hc (d:=As v u) (by rw[val_sub,fu,fv];grind) (by rw[val_sub,gu,gv];grind);have JF:∀y,val f y=0->C2 f.1 u v y= -(x*AG f.1 f.1*val g y):=λy ty=>by
    have h1:=val_sub f u y;have h2:=val_sub g u y;rw[fu,ty] at h1;rw[gu] at h2;unfold C2;rw[hx];have e1:AG f.1 (AS (Aj (AS f.1 g.1) x)<|As y u)=x*(AG f.1 g.1*AG f.1 (As y u)-AG f.1 f.1*AG g.1 (As y u)):=by
     unfold AG AS Aj;grind
    rw[e1,h1,h2];grind
   rcases adj hl mu mv hne (λy my z mz h1 h2=>by
    obtain⟨vy,ty⟩:=(hv y).1 my;obtain⟨vz,tz⟩:=(hv z).1 mz;rw[JF y ty] at h1;rw[JF z tz] at h2;have a:=vy.1 g mg;have b:=vz.1 g mg;by_cases c:0<=x*AG f.1 f.1
    ·have:=DD c (show 0<= -val g y by grind)
     grind
    ·have:=DD (show 0<= -(x*AG f.1 f.1) by grind) (show 0<= -val g z by grind)
     grind) with hs|hs
   ·refine⟨_,hs,?_⟩;unfold LQ;rw[ho,e];simp
   ·refine⟨_,hs,?_⟩;unfold LQ;dsimp only;rw[wP,ho,e,xM ho];simp
theorem an9{L:A3 H3}{f:H3}(hf:f.1≠o3){l:A3 Q3}(hw:Wk f.1 l)(hn:l.Nodup)(hv:∀p∈l,Ba L p/\val f p=0):HX f.1 l:=λa b c s=>by
 have h0:=hw a b c s;have hd:=List.Pairwise.sublist s hn;simp at hd;have ma:=hv a (s.subset (by simp));have mb:=hv b (s.subset (by simp));have mc:=hv c (s.subset (by simp));have:=xZ hf ma.1 mb.1 mc.1 ma.2 mb.2 mc.2 hd.1.1 hd.1.2 hd.2
 grind
theorem YF:((1,0,0):Q3)≠o3:=λe=>by have:=congrArg Prod.fst e;simp only[o3] at this;grind
def cr{M:A3 H3}{v:Q3}(hv:Ba M v){h:Q3}(hz:h≠o3):∃k∈M,val k v=0/\AS h k.1≠o3:=by
 refine CC λDy=>?_
 obtain⟨d,d0,d1⟩:=Ul h;refine d0<|hv.2 d λk mk tk=>ng hz ?_ d1
 exact CC λc=>Dy ⟨k,mk,tk,c⟩
def vk{S:A3 D7}{M:A3 H3}(I:C9 S M){v:Q3}(hv:Ba M v):∃f∈S,v∈f.2:=by
 obtain⟨k,mk,tk,_⟩:=cr hv YF;obtain⟨f,mf,tf⟩:=I.cover v hv.1 ⟨k,mk,tk⟩;exact⟨f,mf,((I.Ea f mf).2.2.2 v).2 ⟨hv,tf⟩⟩
theorem akc{S:A3 D7}{M:A3 H3}(I:C9 S M){h:H3}(hn:∀f∈S,∀p∈f.2,0<=val h p){q:Q3}(hq:Mem M q):0<=val h q:=by
 obtain⟨v,v1,v2,_⟩:=QF I.bdd hq<|Aj h.1<| -1
 obtain⟨f,mf,mv⟩:=vk I v1;have:=hn f mf v mv;rw[Kb,Kb] at v2;unfold val at*;grind
theorem wV{S:A3 D7}{M:A3 H3}(I:C9 S M){h:H3}(hn:∀f∈S,∀p∈f.2,val h p<=0){q:Q3}(hq:Mem M q):val h q<=0:=by
 obtain⟨v,v1,v2,_⟩:=QF I.bdd hq h.1;obtain⟨f,mf,mv⟩:=vk I v1;have:=hn f mf v mv;unfold val at*;grind
theorem vQ{M:A3 H3}{h:H3}(hz:h.1≠o3)(ho:∀q,Mem M q->val h q<=0){p:Q3}(hp:Mem M p)(tp:val h p=0):∃k∈M,val k p=0:=by
 refine CC λDy=>?_
 obtain⟨e,e0,he⟩:=room hp (w:=h.1) λk mk tk=>absurd ⟨k,mk,tk⟩ Dy
 have h1:=ho _<|he e (F3 e0) FM
 have:=G1 e0<|Og hz
 rw[O3,tp] at h1
 grind
theorem xY{M:A3 H3}(hb:EA M){h:H3}(ho:∀q,Mem M q->val h q<=0)(p:Q3):Ba (h::M) p↔Ba M p:=by
 constructor
 ·intro hp;rcases mP hb hp with h1|⟨_,u,v,vu,vv,arW,_⟩
  ·exact h1
  ·have:=ho u vu.1;have:=ho v vv.1;have:=Jt.1 arW
   grind
 ·exact λhp=>dW hp<|ho p hp.1
theorem C9.out{S:A3 D7}{M:A3 H3}(I:C9 S M){h:H3}(hz:h.1≠o3)(hn:∀a∈h::M,∀b∈h::M,QW a b->a=b)(ho:∀f∈S,∀p∈f.2,val h p<=0):C9 S (h::M):=by
 have hall:∀q,Mem M q->val h q<=0:=λq=>wV I ho
 have H4:∀q,Mem (h::M) q->Mem M q:=λq hq k mk=>hq k<|Bi _ mk
 obtain⟨o,hi⟩:=I.int;refine⟨λd hd=>?_,⟨o,λk mk=>?_⟩,λk mk=>?_,hn,λf mf=>?_,I.U9,λp hp ht=>?_⟩
 ·obtain⟨k,mk,hk⟩:=I.bdd d hd;exact⟨k,Bi _ mk,hk⟩
 ·rcases Ag.1 mk with e|mk
  ·subst e;have h1:=hall o λk mk=>F3<|hi k mk
   refine CC λc=>?_
   obtain⟨k',mk',tk'⟩:=vQ hz hall (p:=o) (λk mk=>F3<|hi k mk) (by grind);have:=hi k' mk'
   grind
  ·exact hi k mk
 ·rcases Ag.1 mk with e|mk
  ·subst e;exact hz
  ·exact I.nz k mk
 ·obtain⟨f1,f2,f3,f4⟩:=I.Ea f mf;exact⟨Bi _ f1,f2,f3,λp=>by rw[xY I.bdd hall];exact f4 p⟩
 ·obtain⟨k,mk,tk⟩:=ht;rcases Ag.1 mk with e|mk
  ·subst e;exact I.cover p (H4 p hp)<|vQ hz hall (H4 p hp) tk
  ·exact I.cover p (H4 p hp) ⟨k,mk,tk⟩
theorem toward{a b:Rat}(ha:a<0):∃t:Rat,0<t/\t<1/\(1-t)*a+t*b<0:=by
 by_cases hb:b<=0
 ·exact⟨1/2,by grind,by grind,by grind⟩
 ·have hn:b-a≠0:=by grind
  have e: -a/(b-a)*(b-a)= -a:=NC hn;have hp:0< -a/(b-a):=by rw[P0];exact G1 (by grind) (RY.2 (by grind))
  generalize -a/(b-a)=r at*
  have h1:r<1:=CC λc=>by
   have:=DD (show 0<=r-1 by grind) (show 0<=b-a by grind)
   grind
  exact⟨r*(1/2),by grind,by grind,by grind⟩
theorem qJ{M:A3 H3}{o p:Q3}(hi:∀k∈M,val k o<0)(hp:Mem M p){h:H3}(ha:val h p<0):∃q,(∀k∈M,val k q<0)/\val h q<0:=by
 obtain⟨t,t0,t1,ht⟩:=toward (b:=val h o) ha;refine⟨CQ p o t,λk mk=>?_,by rw[FJ];exact ht⟩;rw[FJ];have a:=DD (show 0<=1-t by grind) (show 0<= -val k p by have:=hp k mk;grind);have b:=G1 t0 (show 0< -val k o by have:=hi k mk;grind)
 grind
theorem vq(h:H3)(p:Q3):val (Aj h.1<| -1,-h.2) p= -val h p:=by unfold val;rw[Kb];grind
theorem aoW{M:A3 H3}{o p:Q3}(hi:∀k∈M,val k o<0)(hp:Mem M p){h:H3}(ha:0<val h p):∃q,(∀k∈M,val k q<0)/\0<val h q:=by
 obtain⟨q,q1,q2⟩:=qJ hi hp (h:=(Aj h.1<| -1,-h.2)) (by rw[vq];grind);rw[vq] at q2;exact⟨q,q1,by grind⟩
theorem zZ{S:A3 D7}{M:A3 H3}(I:C9 S M){f:D7}(mf:f∈S):∃z,Mem M z/\val f.1 z=0/\∀g∈M,val g z=0->AS f.1.1 g.1=o3:=by
 obtain⟨f1,f2,f3,f4⟩:=I.Ea f mf
 match hl:f.2,f3 with
 |a::b::c::l,_=>
  have ho:=f2 a b c (by rw[hl];exact((Nv l).cons_cons c|>.cons_cons b).cons_cons a);obtain⟨va,ta⟩:=(f4 a).1 (by rw[hl];simp);obtain⟨vb,tb⟩:=(f4 b).1 (by rw[hl];simp);obtain⟨vc,tc⟩:=(f4 c).1 (by rw[hl];simp);refine⟨CQ (CQ a b<|1/2) c<|1/3,λk mk=>?_,?_,λg mg tg=>?_⟩
  ·rw[FJ,FJ];have:=va.1 k mk;have:=vb.1 k mk;have:=vc.1 k mk
   grind
  ·rw[FJ,FJ,ta,tb,tc];grind
  ·rw[FJ,FJ] at tg;have:=va.1 g mg;have:=vb.1 g mg;have:=vc.1 g mg;have ga:val g a=0:=by grind
   have gb:val g b=0:=by grind
   have gc:val g c=0:=by grind
   refine CC λhc=>?_
   obtain⟨s,hs⟩:=along hc (d:=As b a) (by rw[val_sub,ta,tb];grind) (by rw[val_sub,ga,gb];grind);obtain⟨r,hr⟩:=along hc (d:=As c a) (by rw[val_sub,ta,tc];grind) (by rw[val_sub,ga,gc];grind);unfold C2 at ho;rw[hs,hr] at ho;have:AG f.1.1 (AS (Aj (AS f.1.1 g.1) s)<|Aj (AS f.1.1 g.1) r)=0:=by unfold AG AS Aj;grind
   grind
def NS(h:H3)(S:A3 D7):A3 D7:=S.filterMap λf=>bif decide (2<(F8 h f.2).length) then some (f.1,F8 h f.2) else none
def vm{h:H3}{S:A3 D7}{g:D7}(hg:g∈NS h S):∃f∈S,2<(F8 h f.2).length/\g=(f.1,F8 h f.2):=by
 obtain⟨f,mf,e⟩:=List.mem_filterMap.1 hg;cases hd:decide (2<(F8 h f.2).length) with
 |false=>rw[hd] at e;cases e
 |true=>rw[hd] at e;exact⟨f,mf,AZ hd,(Dg e).symm⟩
def ajb{h:H3}{S:A3 D7}{f:D7}(mf:f∈S)(hl:2<(F8 h f.2).length):(f.1,F8 h f.2)∈NS h S:=
 List.mem_filterMap.2 ⟨f,mf,by rw[Ab hl];rfl⟩
def C9.VC{S:A3 D7}{M:A3 H3}(I:C9 S M)(h:H3):∀f∈S,∀p,p∈F8 h f.2↔Ba (h::M) p/\val f.1 p=0:=λf mf p=>by
 obtain⟨g1,g2,g3,g4⟩:=I.Ea f mf;exact Trn.VC I.bdd g1 (I.nz _ g1) g2 g3 g4 h p
theorem C9.cut{S:A3 D7}{M:A3 H3}(I:C9 S M){h:H3}(hz:h.1≠o3){f0 f1:D7}{p0 p1:Q3}(m0:f0∈S)(q0:p0∈f0.2)(h0:val h p0<0)(m1:f1∈S)(q1:p1∈f1.2)(h1:0<val h p1):
  (∃o,(∀k∈M,val k o<0)/\val h o<0)/\(∀p,((∃f∈S,p∈F8 h f.2)/\val h p=0)↔Ba (h::M) p/\val h p=0)/\∀l:A3 Q3,(∀p,Ba (h::M) p->val h p=0->p∈l)->3<=l.length:=by
 obtain⟨o,hi⟩:=I.int;have v0:=(((I.Ea f0 m0).2.2.2 p0).1 q0).1;have v1:=(((I.Ea f1 m1).2.2.2 p1).1 q1).1;have H4:∀q,Mem (h::M) q->Mem M q:=λq hq k mk=>hq k<|Bi _ mk
 have hb:EA (h::M):=λd hd=>by
  obtain⟨k,mk,hk⟩:=I.bdd d hd;exact⟨k,Bi _ mk,hk⟩
 obtain⟨o1,i1,n1⟩:=qJ hi v0.1 h0;obtain⟨o2,i2,n2⟩:=aoW hi v1.1 h1;have cm:=I.VC h;refine⟨⟨o1,i1,n1⟩,λp=>?_,λl hl=>?_⟩
 ·constructor
  ·rintro⟨⟨f,mf,mp⟩,tp⟩;exact⟨((cm f mf p).1 mp).1,tp⟩
  ·rintro⟨vp,tp⟩;refine⟨?_,tp⟩;obtain⟨k,mk,tk,hc⟩:=cr vp hz;rcases Ag.1 mk with e|mk
   ·subst e;exact absurd Te hc
   ·obtain⟨f,mf,tf⟩:=I.cover p (H4 p vp.1) ⟨k,mk,tk⟩;exact⟨f,mf,(cm f mf p).2 ⟨vp,tf⟩⟩
 ·have ho:Fw (val h o1) (val h o2)=true:=Jt.2 (.inl ⟨n1,n2⟩);have t:=PM ho;have hv:=YE ho;have neg:∀k∈M,val k (FC h o1 o2)<0:=λk mk=>by
   unfold FC;rw[FJ]
   generalize val h o1/(val h o1-val h o2)=r at t
   have:=G1 (show 0<1-r by grind) (show 0< -val k o1 by have:=i1 k mk;grind);have:=G1 (show 0<r by grind) (show 0< -val k o2 by have:=i2 k mk;grind)
   grind
  refine three hb (q:=FC h o1 o2) (λk mk=>?_) (f:=h) Dm hv hz (λg mg tg=>?_) hl
  ·rcases Ag.1 mk with e|mk
   ·subst e;rw[hv];exact FM
   ·exact F3<|neg k mk
  ·rcases Ag.1 mg with e|mg
   ·subst e;exact Te
   ·have:=neg g mg;grind
theorem C9.clip{S:A3 D7}{M:A3 H3}(I:C9 S M){h:H3}(hz:h.1≠o3)(hn:∀a∈h::M,∀b∈h::M,QW a b->a=b){f0 f1:D7}{p0 p1:Q3}(m0:f0∈S)(q0:p0∈f0.2)(h0:val h p0<0)(m1:f1∈S)(q1:p1∈f1.2)(h1:0<val h p1)
  {l:A3 Q3}(hl:HX h.1 l)(hm:∀p,p∈l↔(∃f∈S,p∈F8 h f.2)/\val h p=0):C9 (NS h S++[(h,l)]) (h::M):=by
 obtain⟨⟨o1,i1,n1⟩,c1,c2⟩:=I.cut hz m0 q0 h0 m1 q1 h1;have v1:=(((I.Ea f1 m1).2.2.2 p1).1 q1).1;have Mh:h∉M:=λc=>by have:=v1.1 h c;grind
 have H4:∀q,Mem (h::M) q->Mem M q:=λq hq k mk=>hq k<|Bi _ mk
 have hb:EA (h::M):=λd hd=>by
  obtain⟨k,mk,hk⟩:=I.bdd d hd;exact⟨k,Bi _ mk,hk⟩
 have cm:=I.VC h;have lm:∀p,p∈l↔Ba (h::M) p/\val h p=0:=λp=>by rw[hm,c1]
 have l3:3<=l.length:=c2 l λp vp tp=>(lm p).2 ⟨vp,tp⟩
 refine⟨hb,⟨o1,λk mk=>?_⟩,λk mk=>?_,hn,λg mg=>?_,?_,λp hp ht=>?_⟩
 ·rcases Ag.1 mk with e|mk
  ·subst e;exact n1
  ·exact i1 k mk
 ·rcases Ag.1 mk with e|mk
  ·subst e;exact hz
  ·exact I.nz k mk
 ·rcases BR.1 mg with mg|mg
  ·obtain⟨f,mf,hlen,e⟩:=vm mg;subst e;obtain⟨g1,g2,g3,g4⟩:=I.Ea f mf;exact⟨Bi _ g1,an9 (I.nz _ g1) (alf g2.wk) (ag2 g2 g3) λp mp=>(cm f mf p).1 mp,hlen,cm f mf⟩
  ·rw[Be.1 mg];exact⟨Dm,hl,l3,lm⟩
 ·refine Kk.2 ⟨?_,Ta _ _,λg mg k mk=>?_⟩
  ·unfold NS;refine List.pairwise_filterMap.2<|I.U9.imp λ{a b} HM x ex y ey=>?_
   cases ha:decide (2<(F8 h a.2).length) with
   |false=>rw[ha] at ex;cases ex
   |true=>
    cases hb:decide (2<(F8 h b.2).length) with
    |false=>rw[hb] at ey;cases ey
    |true=>
     rw[ha] at ex;rw[hb] at ey;rw[<-Dg ex,<-Dg ey];exact HM
  ·obtain⟨f,mf,_,e⟩:=vm mg;rw[e,Be.1 mk];exact λc=>Mh (by have:=(I.Ea f mf).1;rwa [show f.1=h from c] at this)
 ·by_cases tp:val h p=0
  ·exact⟨(h,l),by simp,tp⟩
  ·obtain⟨k,mk,tk⟩:=ht;rcases Ag.1 mk with e|mk
   ·subst e;exact absurd tk tp
   ·obtain⟨f,mf,tf⟩:=I.cover p (H4 p hp) ⟨k,mk,tk⟩;by_cases hlen:2<(F8 h f.2).length
    ·exact⟨_,G3 _<|ajb mf hlen,tf⟩
    ·exfalso;have HF:val h p<0:=by have:=hp h Dm;grind
     obtain⟨z,mz,tz,hc⟩:=zZ I mf;obtain⟨t,t0,t1,hq⟩:=toward (b:=val h z) HF;have g1:=(I.Ea f mf).1;refine hlen (three hb (q:=CQ p z t) (λk mk=>?_) (f:=f.1) (Bi _ g1) (by rw[FJ,tf,tz];grind) (I.nz _ g1) (λg mg tg=>?_) λx vx tx=>(cm f mf x).2 ⟨vx,tx⟩)
     ·rw[FJ];rcases Ag.1 mk with e|mk
      ·subst e;exact F3 hq
      ·have:=DD (show 0<=1-t by grind) (show 0<= -val k p by have:=hp k (Bi _ mk);grind);have:=DD (show 0<=t by grind) (show 0<= -val k z by have:=mz k mk;grind)
       grind
     ·rw[FJ] at tg;rcases Ag.1 mg with e|mg
      ·subst e;grind
      ·refine hc g mg ?_;have a:=DD (show 0<=1-t by grind) (show 0<= -val g p by have:=hp g (Bi _ mg);grind);have b:=DD (show 0<=t by grind) (show 0<= -val g z by have:=mz g mg;grind);have c:t*val g z=0:=by grind
       rcases GV.1 c with x|x<;>grind
theorem C9.empty{S:A3 D7}{M:A3 H3}(I:C9 S M){h:H3}(hn:∀f∈S,∀p∈f.2,0<=val h p): ¬ ∃o,∀k∈h::M,val k o<0:=λ⟨o,ho⟩=>by
 have:=akc I hn (q:=o) λk mk=>F3<|ho k<|Bi _ mk
 have:=ho h Dm
 grind
def zu{w:Q3}{s:Rat}(h:w≠o3)(hs:s≠0):Aj w s≠o3:=λe=>h (by
 have e1:=congrArg Prod.fst e;have e2:=congrArg (λx=>x.2.1) e;have e3:=congrArg (λx=>x.2.2) e;simp only[Aj,o3] at e1 e2 e3;have z:∀x:Rat,x*s=0->x=0:=λx hx=>by
  rcases GV.1 hx with g|g
  ·exact g
  ·exact absurd g hs
 exact J4 (z _ e1) (z _ e2)<|z _ e3)
theorem qG(s:Rat):Aj o3 s=o3:=J4 (by simp only[Aj,o3];grind) (by simp only[Aj,o3];grind) (by simp only[Aj,o3];grind)
theorem iZ(w:Q3):Aj w 0=o3:=J4 (by simp only[Aj];grind) (by simp only[Aj];grind) (by simp only[Aj];grind)
theorem ajc{L:A3 H3}(hp:∃f∈L,∃g∈L,AS f.1 g.1≠o3)(hc:∀f∈L,∀g∈L,AS f.1 g.1≠o3->∃h∈L,0<AG h.1 (AS f.1 g.1)):∀(n:Nat) (d:Q3),(L.filter λh=> !decide (AG h.1 d=0)).length<=n->d≠o3->(∀h∈L,AG h.1 d<=0)->False:=by
 intro n
 induction n with
 |zero=>
  intro d hn hd hle;have h0:(L.filter λh=> !decide (AG h.1 d=0))=[]:=JS (by omega);have ht:∀h∈L,AG h.1 d=0:=λh mh=>CC λe=>by
   have:h∈(L.filter λh=> !decide (AG h.1 d=0)):=Hf.2 ⟨mh,by simp[e]⟩;rw[h0] at this;cases this
  obtain⟨f,mf,g,mg,hfg⟩:=hp;obtain⟨s,hs⟩:=along hfg (ht f mf)<|ht g mg
  obtain⟨h,mh,hh⟩:=hc f mf g mg hfg;have:=ht h mh;rw[hs,Ew] at this;rcases GV.1 this with e|e
  ·subst e;exact hd<|hs.trans<|iZ _
  ·grind
 |succ n ih=>
  intro d hn hd hle;by_cases hA:∃f∈L,∃g∈L,AG f.1 d=0/\AG g.1 d=0/\AS f.1 g.1≠o3
  ·obtain⟨f,mf,g,mg,tf,tg,hfg⟩:=hA;obtain⟨s,hs⟩:=along hfg tf tg;have Lg:s≠0:=λe=>hd (by rw[hs,e];exact iZ _)
   by_cases h0:0<s
   ·obtain⟨h,mh,hh⟩:=hc f mf g mg hfg;have:=hle h mh;rw[hs,Ew] at this;have:=G1 h0 hh
    grind
   ·obtain⟨h,mh,hh⟩:=hc g mg f mf (by rw[Ut];exact zu hfg (by grind));have:=hle h mh;rw[hs,Ew] at this;rw[Ut,Ew] at hh;have:=G1 (show 0< -s by grind) hh
    grind
  ·obtain⟨e,e0,e1,e2⟩:=two (N:=(L.filter λk=>decide<|AG k.1 d=0).map Prod.fst) (λu mu w mw=>by
    obtain⟨f,mf,rfl⟩:=BI.1 mu;obtain⟨g,mg,rfl⟩:=BI.1 mw;obtain⟨mf,tf⟩:=Hf.1 mf;obtain⟨mg,tg⟩:=Hf.1 mg;exact CC λc=>hA ⟨f,mf,g,mg,AZ tf,AZ tg,c⟩) d
   have go:∀e:Q3,e≠o3->(∀k∈L,AG k.1 d=0->AG k.1 e=0)->AG d e=0->(∃k∈L,0<AG k.1 e)->False:=by
    intro e e0 et ed hk;obtain⟨h,mh,ph,hm⟩:=least (λh:H3=>0<AG h.1 e) (λh=> -AG h.1 d/AG h.1 e) L hk;have key:∀k:H3,0<AG k.1 e-> -AG k.1 d/AG k.1 e*AG k.1 e= -AG k.1 d:=λk hk=>NC (by grind)
    have hne:AG h.1 d≠0:=λc=>by have:=et h mh c;grind
    have hr:0<= -AG h.1 d/AG h.1 e:=by
     rw[P0];exact DD (by have:=hle h mh;grind)<|F3<|RY.2 ph
    have kh:=key h ph
    generalize hR: -AG h.1 d/AG h.1 e=r at*
    have:=filter_lt (L:=L) (p:=λh=> !decide (AG h.1 d=0)) (q:=λh=> !decide (AG h.1 (CF d<|Aj e r)=0)) (x:=h) (λy my hy=>by
     simp at hy⊢;exact λc=>hy (by rw[O2,Ew,c,et y my c];grind)) mh (by simp[hne]) (by
     have:AG h.1 (CF d<|Aj e r)=0:=by rw[O2,Ew];grind
     simp[this])
    refine ih (CF d<|Aj e r) (by omega) (λc=>?_) λk mk=>?_
    ·have h1:AG d (CF d<|Aj e r)=0:=by rw[c,WH]
     rw[O2,Ew,ed] at h1;have:=Og hd
     grind
    ·rw[O2,Ew];by_cases g:0<AG k.1 e
     ·have h1:=hm k mk g;have h2:=key k g;have h3:=Yw h1<|F3 g
      grind
     ·have:=DD hr (show 0<= -AG k.1 e by grind);have:=hle k mk
      grind
   have et:∀k∈L,AG k.1 d=0->AG k.1 e=0:=λk mk tk=>e1 _<|BI.2 ⟨k,Hf.2 ⟨mk,Ab tk⟩,rfl⟩
   by_cases hx:∃k∈L,0<AG k.1 e
   ·exact go e e0 et e2 hx
   ·by_cases hy:∃k∈L,0<AG k.1 (Aj e<| -1)
    ·exact go _ (zu e0 (by grind)) (λk mk tk=>by rw[Ew,et k mk tk];grind) (by rw[Ew,e2];grind) hy
    ·have hz:∀k∈L,AG k.1 e=0:=λk mk=>by
      have a: ¬0<AG k.1 e:=λc=>hx ⟨k,mk,c⟩
      have b: ¬0<AG k.1 (Aj e<| -1):=λc=>hy ⟨k,mk,c⟩
      rw[Ew] at b
      grind
     obtain⟨f,mf,g,mg,hfg⟩:=hp;obtain⟨s,hs⟩:=along hfg (hz f mf)<|hz g mg
     obtain⟨h,mh,hh⟩:=hc f mf g mg hfg;have:=hz h mh;rw[hs,Ew] at this;rcases GV.1 this with c|c
     ·subst c;exact e0<|hs.trans<|iZ _
     ·grind
theorem alh{L:A3 H3}:EA L↔(∃f∈L,∃g∈L,AS f.1 g.1≠o3)/\∀f∈L,∀g∈L,AS f.1 g.1≠o3->∃h∈L,0<AG h.1 (AS f.1 g.1):=by
 constructor
 ·refine λhb=>⟨CC λDy=>?_,λf mf g mg hfg=>hb _ hfg⟩
  obtain⟨d,d0,d1,_⟩:=two (N:=L.map Prod.fst) (λu mu w mw=>by
   obtain⟨f,mf,rfl⟩:=BI.1 mu;obtain⟨g,mg,rfl⟩:=BI.1 mw;exact CC λc=>Dy ⟨f,mf,g,mg,c⟩) o3
  obtain⟨h,mh,hh⟩:=hb d d0;have:=d1 _<|BI.2 ⟨h,mh,rfl⟩
  grind
 ·rintro⟨hp,hc⟩ d hd;refine CC λDy=>ajc hp hc _ d (Az _) hd λh mh=>?_
  exact CC λc=>Dy ⟨h,mh,by grind⟩
def E0(a b c:Q3):Rat:=AG (AS a b) c
def I8(a b c:H3):Q3:=Aj (CF (CF (Aj (AS b.1 c.1) a.2)<|Aj (AS c.1 a.1) b.2)<|Aj (AS a.1 b.1) c.2) (E0 a.1 b.1 c.1)⁻¹
theorem Up{a b c:H3}(hd:E0 a.1 b.1 c.1≠0):val a (I8 a b c)=0/\val b (I8 a b c)=0/\val c (I8 a b c)=0:=by
 have hi:=fX _ hd;unfold I8
 generalize (E0 a.1 b.1 c.1)⁻¹ =i at hi
 unfold E0 at hi;refine⟨?_,?_,?_⟩
 ·have:val a (Aj (CF (CF (Aj (AS b.1 c.1) a.2)<|Aj (AS c.1 a.1) b.2)<|Aj (AS a.1 b.1) c.2) i)=a.2*(AG (AS a.1 b.1) c.1*i)-a.2:=by
   unfold val AG Aj CF AS;grind
  rw[this,hi];grind
 ·have:val b (Aj (CF (CF (Aj (AS b.1 c.1) a.2)<|Aj (AS c.1 a.1) b.2)<|Aj (AS a.1 b.1) c.2) i)=b.2*(AG (AS a.1 b.1) c.1*i)-b.2:=by
   unfold val AG Aj CF AS;grind
  rw[this,hi];grind
 ·have:val c (Aj (CF (CF (Aj (AS b.1 c.1) a.2)<|Aj (AS c.1 a.1) b.2)<|Aj (AS a.1 b.1) c.2) i)=c.2*(AG (AS a.1 b.1) c.1*i)-c.2:=by
   unfold val AG Aj CF AS;grind
  rw[this,hi];grind
def Y9{a b c d:Q3}(hd:E0 a b c≠0)(h1:AG a d=0)(h2:AG b d=0)(h3:AG c d=0):d=o3:=by
 have hc:AS a b≠o3:=λe=>hd (by unfold E0;rw[e,N1,WH])
 obtain⟨s,rfl⟩:=along hc h1 h2;rw[Ew] at h3;rcases GV.1 h3 with e|e
 ·subst e;exact iZ _
 ·exact absurd (by unfold E0;rw[N1];exact e) hd
theorem Xw{L:A3 H3}{p:Q3}:Ba L p↔Mem L p/\∃a∈L,∃b∈L,∃c∈L,E0 a.1 b.1 c.1≠0/\p=I8 a b c:=by
 constructor
 ·intro hv;refine⟨hv.1,?_⟩;obtain⟨a,ma,ta,ha⟩:=cr hv YF;have a0:a.1≠o3:=λe=>ha (by rw[e];exact J4 (by simp only[AS,o3];grind) (by simp only[AS,o3];grind) (by simp only[AS,o3];grind))
  obtain⟨b,mb,tb,hb⟩:=cr hv a0;have:∃c∈L,val c p=0/\E0 a.1 b.1 c.1≠0:=by
   refine CC λDy=>hb<|hv.2 _ λc mc tc=>?_
   refine CC λhc=>Dy ⟨c,mc,tc,λe=>hc ?_⟩
   rw[N1];exact e
  obtain⟨c,mc,tc,hc⟩:=this;refine⟨a,ma,b,mb,c,mc,hc,?_⟩;obtain⟨t1,t2,t3⟩:=Up (a:=a) (b:=b) (c:=c) hc;refine OF<|Y9 hc ?_ ?_ ?_
  ·rw[val_sub,ta,t1];grind
  ·rw[val_sub,tb,t2];grind
  ·rw[val_sub,tc,t3];grind
 ·rintro⟨hm,a,ma,b,mb,c,mc,hd,rfl⟩;obtain⟨t1,t2,t3⟩:=Up hd;refine⟨hm,λd h=>Y9 hd (h a ma t1) (h b mb t2)<|h c mc t3⟩
theorem uk(a b c:Q3):E0 b a c= -E0 a b c:=by unfold E0 AG AS;grind
theorem uj(a b c:Q3):E0 a c b= -E0 a b c:=by unfold E0 AG AS;grind
theorem aem(a b c:H3)(h:E0 a.1 b.1 c.1≠0):I8 b a c=I8 a b c:=by
 have h2:E0 b.1 a.1 c.1≠0:=by rw[uk];grind
 obtain⟨t1,t2,t3⟩:=Up h;obtain⟨u1,u2,u3⟩:=Up h2;exact OF (Y9 h (by rw[val_sub,t1,u2];grind) (by rw[val_sub,t2,u1];grind) (by rw[val_sub,t3,u3];grind))
theorem ael(a b c:H3)(h:E0 a.1 b.1 c.1≠0):I8 a c b=I8 a b c:=by
 have h2:E0 a.1 c.1 b.1≠0:=by rw[uj];grind
 obtain⟨t1,t2,t3⟩:=Up h;obtain⟨u1,u2,u3⟩:=Up h2;exact OF (Y9 h (by rw[val_sub,t1,u1];grind) (by rw[val_sub,t2,u3];grind) (by rw[val_sub,t3,u2];grind))
theorem vO{L:A3 H3}(hb:EA L){n:Q3}{c:Rat}(h:∀p,Ba L p->AG n p=c){q:Q3}(hq:Mem L q):AG n q=c:=by
 obtain⟨v,v1,v2,_⟩:=QF hb hq n;obtain⟨u,u1,u2,_⟩:=QF hb hq<|Aj n<| -1
 rw[Kb,Kb] at u2;have:=h v v1;have:=h u u1
 grind
theorem aeg{L:A3 H3}(hb:EA L){n:Q3}(hn:n≠o3){c:Rat}(h:∀p,Ba L p->AG n p=c): ¬ ∃o,∀k∈L,val k o<0:=λ⟨o,ho⟩=>by
 have mo:Mem L o:=λk mk=>F3<|ho k mk
 obtain⟨e,e0,he⟩:=room mo (w:=n) λk mk tk=>by have:=ho k mk;grind
 have h1:=vO hb h mo;have h2:=vO hb h<|he e (F3 e0) FM
 have:=G1 e0<|Og hn
 rw[O2,Ew] at h2
 grind
theorem ajB{L:A3 H3}(hz:∀k∈L,k.1≠o3){a b c d:Q3}(ha:Mem L a)(hb:Mem L b)(hc:Mem L c)(hd:Mem L d)(h:E0 (As b a) (As c a) (As d a)≠0):∃o,∀k∈L,val k o<0:=by
 refine⟨CQ (CQ a b<|1/2) (CQ c d<|1/2)<|1/2,λk mk=>?_⟩;have e:val k (CQ (CQ a b<|1/2) (CQ c d<|1/2)<|1/2)=(1/4)*(val k a+val k b+val k c+val k d):=by rw[FJ,FJ,FJ];grind
 have h1:=ha k mk;have h2:=hb k mk;have h3:=hc k mk;have h4:=hd k mk;refine CC λg=>hz k mk ?_
 have a0:val k a=0:=by grind
 have b0:val k b=0:=by grind
 have c0:val k c=0:=by grind
 have d0:val k d=0:=by grind
 refine Y9 h ?_ ?_ ?_<;>rw[N1,val_sub]
 ·rw[a0,b0];grind
 ·rw[a0,c0];grind
 ·rw[a0,d0];grind
theorem ajI{S:A3 D7}{M:A3 H3}(I:C9 S M){h:H3}(mh:h∈M){a b c:Q3}(va:Ba M a)(vb:Ba M b)(vc:Ba M c)(ta:val h a=0)(tb:val h b=0)(tc:val h c=0)(HM:a≠b)(hac:a≠c)(hbc:b≠c):∃f∈S,f.1=h:=by
 obtain⟨o,hi⟩:=I.int;have hz:val h (CQ (CQ a b<|1/2) c<|1/3)=0:=by rw[FJ,FJ,ta,tb,tc];grind
 obtain⟨f,mf,tf⟩:=I.cover (CQ (CQ a b<|1/2) c<|1/3) (λk mk=>by
  rw[FJ,FJ];have:=va.1 k mk;have:=vb.1 k mk;have:=vc.1 k mk
  grind) ⟨h,mh,hz⟩
 have g1:=(I.Ea f mf).1;refine⟨f,mf,ou hi I.nz I.norm g1 mh (CC λhc=>?_) tf hz⟩;rw[FJ,FJ] at tf;have:=va.1 _ g1;have:=vb.1 _ g1;have:=vc.1 _ g1;have fa:val f.1 a=0:=by grind
 have fb:val f.1 b=0:=by grind
 have fc:val f.1 c=0:=by grind
 obtain⟨s,hs⟩:=along hc (d:=As b a) (by rw[val_sub,fa,fb];grind) (by rw[val_sub,ta,tb];grind);obtain⟨r,hr⟩:=along hc (d:=As c a) (by rw[val_sub,fa,fc];grind) (by rw[val_sub,ta,tc];grind);refine mO va vb vc HM hac hbc ?_;rw[hs,hr];exact J4 (by simp only[AS,Aj];grind) (by simp only[AS,Aj];grind) (by simp only[AS,Aj];grind)
end
structure MJ{α:Type}(c:α×α->A6 Int)(R:α->α->Prop)(l:A3 α):Prop where
 get:∀x∈l,∀y∈l,∃v,c (x,y)=some v/\(v<0↔R x y)
 irr:∀x∈l,¬R x x
 tr:∀x∈l,∀y∈l,∀z∈l,R x y->R y z->R x z
 Lc:∀x∈l,∀y∈l,x=y\/R x y\/R y x
section
variable{α:Type}[DecidableEq α]{c:α×α->Option Int}{R:α->α->Prop}
variable{l:A3 α}
theorem MJ.perm{m:A3 α}(h:MJ c R l)(p:m.Perm l):MJ c R m:=
 ⟨λx mx y my=>h.get x (p.mem_iff.1 mx) y<|p.mem_iff.1 my,λx mx=>h.irr x<|p.mem_iff.1 mx,λx mx y my z mz=>h.tr x (p.mem_iff.1 mx) y (p.mem_iff.1 my) z<|p.mem_iff.1 mz,λx mx y my=>h.Lc x (p.mem_iff.1 mx) y<|p.mem_iff.1 my⟩
theorem yO{x:α}:∀{s:A3 α},MJ c R (x::s)->s.Pairwise (λa b=>a=b\/R b a)->∃r,NZ (λa b=>c (a,b)) x s=some r/\r.Perm (x::s)/\r.Pairwise (λa b=>a=b\/R b a)
 |[],_,_=>⟨[x],rfl,List.Perm.refl _,Ta _ _⟩
 |y::s,h,hs=>by
  have mx:x∈x::y::s:=Dm;have my:y∈x::y::s:=by simp
  obtain⟨v,hv,Im⟩:=h.get x mx y my;obtain⟨h1,h2⟩:=Ki.1 hs;unfold NZ;rw[hv];show ∃r,cond (decide<|v<0) _ _=some r/\_;by_cases hl:v<0
  ·obtain⟨r,r1,r2,r3⟩:=yO (x:=x) (s:=s) ⟨λa ma b mb=>h.get a (by grind) b (by grind),λa ma=>h.irr a (by grind),λa ma b mb d md=>h.tr a (by grind) b (by grind) d (by grind),λa ma b mb=>h.Lc a (by grind) b (by grind)⟩ h2;refine⟨y::r,by rw[Ab hl,BM,r1];rfl,((r2.cons y).trans<|List.Perm.swap x y s),Ki.2 ⟨λz mz=>?_,r3⟩⟩;rcases Ag.1 (r2.mem_iff.1 mz) with e|mz
   ·rw[e];exact .inr<|Im.1 hl
   ·exact h1 z mz
  ·refine⟨x::y::s,by rw[BH hl];rfl,List.Perm.refl _,Ki.2 ⟨λz mz=>?_,hs⟩⟩;have nxy: ¬R x y:=λk=>hl<|Im.2 k
   have hxy:x=y\/R y x:=by
    rcases h.Lc x mx y my with e|e|e
    ·exact .inl e
    ·exact absurd e nxy
    ·exact .inr e
   rcases Ag.1 mz with e|mz
   ·rw[e];exact hxy
   ·rcases hxy with e|e
    ·rw[e];exact h1 z mz
    ·rcases h1 z mz with e2|e2
     ·rw[<-e2];exact .inr e
     ·exact .inr (h.tr z (by simp[mz]) y my x mx e2 e)
theorem vZ:∀(l s:A3 α),MJ c R (s++l)->s.Pairwise (λa b=>a=b\/R b a)->∃r,Il l (λnext x s=>bd (NZ (λa b=>c (a,b)) x s) next) s (λs=>some s.reverse)=some r/\r.Perm (s++l)/\r.Pairwise (λa b=>a=b\/R a b)
 |[],s,h,hs=>⟨s.reverse,rfl,by rw[JQ];exact List.reverse_perm s,by
   rw[List.pairwise_reverse];exact hs.imp λ{a b} k=>k.elim (λe=> .inl e.symm) .inr⟩
 |x::l,s,h,hs=>by
  obtain⟨r,r1,r2,r3⟩:=yO (x:=x) (s:=s) ⟨λa ma b mb=>h.get a (by grind) b (by grind),λa ma=>h.irr a (by grind),λa ma b mb d md=>h.tr a (by grind) b (by grind) d (by grind),λa ma b mb=>h.Lc a (by grind) b (by grind)⟩ hs;have p:(r++l).Perm (s++x::l):=(r2.append_right l).trans (by simpa using(@List.perm_middle _ x s l).symm);obtain⟨t,t1,t2,t3⟩:=vZ l r (h.perm p) r3;refine⟨t,?_,t2.trans p,t3⟩;show bd (NZ (λa b=>c (a,b)) x s) _=_;rw[r1];exact t1
theorem yp{x:α}:∀{s:A3 α},MJ c R (x::s)->(∀y∈s,x=y\/R x y)->Wd c x s=true
 |[],_,_=>rfl
 |y::s,h,hs=>by
  have mx:x∈x::y::s:=Dm;have my:y∈x::y::s:=by simp
  unfold Wd;rw[yp (x:=x) (s:=s) ⟨λa ma b mb=>h.get a (by grind) b (by grind),λa ma=>h.irr a (by grind),λa ma b mb d md=>h.tr a (by grind) b (by grind) d (by grind),λa ma b mb=>h.Lc a (by grind) b (by grind)⟩ λz mz=>hs z<|Bi _ mz,fI];obtain⟨v,v1,v2⟩:=h.get x mx y my;obtain⟨u,u1,u2⟩:=h.get y my x mx;rcases hs y Dm with e|e
  ·rw[Ab e];rfl
  ·rw[v1,u1];cases decide (x=y)
   ·have n: ¬R y x:=λk=>h.irr x mx (h.tr x mx y my x mx e k)
    have a:=v2.2 e;have b: ¬u<0:=λk=>n<|u2.1 k
    show(decide (v<0)&&decide (0<=u))=true;rw[Ab a,Ab (by omega)];rfl
   ·rfl
theorem xV:∀{s:A3 α},MJ c R s->s.Pairwise (λa b=>a=b\/R a b)->OJ c s=true
 |[],_,_=>rfl
 |x::s,h,hs=>by
  obtain⟨h1,h2⟩:=Ki.1 hs;unfold OJ;obtain⟨v,v1,v2⟩:=h.get x Dm x Dm;have: ¬v<0:=λk=>h.irr x Dm<|v2.1 k
  rw[v1,yp h h1,xV (s:=s) ⟨λa ma b mb=>h.get a (by grind) b (by grind),λa ma=>h.irr a (by grind),λa ma b mb d md=>h.tr a (by grind) b (by grind) d (by grind),λa ma b mb=>h.Lc a (by grind) b (by grind)⟩ h2];show(decide (0<=v)&&(true&&true))=true;rw[Ab (by omega)];rfl
theorem xk(h:MJ c R l)(hl:l.length<4611686018427387904):∃s,I2 l c=some s/\s.Perm l/\s.Pairwise (λa b=>a=b\/R a b):=by
 obtain⟨s,s1,s2,s3⟩:=vZ l [] h List.Pairwise.nil;refine⟨s,?_,s2,s3⟩;unfold I2 gj;rw[s1];have ht:totB c l=true:=by
  unfold totB;rw[Cy];intro x mx;rw[Cy];intro y my;obtain⟨v,v1,_⟩:=h.get x mx y my;rw[v1];rfl
 show Dz _ s=_;rw[ht,xV (h.perm s2) s3,show Nat.blt l.length 4611686018427387904=true from Gx hl];rfl
theorem xP{e:α×α->A6 Bool}:∀{x:α} {l:A3 α},(∀a∈x::l,∀b∈x::l,e (a,b)=some (decide<|a=b))->(x::l).Pairwise (λa b=>a=b\/R a b)->MJ c R (x::l)->∃r,WJ (λa b=>e (a,b)) x l=some r/\(x::r).Pairwise R/\∀z,z∈x::r↔z∈x::l
 |x,[],_,_,_=>⟨[],rfl,Ta _ _,λz=>Iff.rfl⟩
 |x,y::l,he,hs,h=>by
  obtain⟨h1,h2⟩:=Ki.1 hs;obtain⟨r,r1,r2,r3⟩:=xP (x:=y) (l:=l) (λa ma b mb=>he a (Bi _ ma) b<|Bi _ mb) h2 ⟨λa ma b mb=>h.get a (by grind) b (by grind),λa ma=>h.irr a (by grind),λa ma b mb d md=>h.tr a (by grind) b (by grind) d (by grind),λa ma b mb=>h.Lc a (by grind) b (by grind)⟩;unfold WJ;rw[he y (by simp) x (by simp),r1];by_cases hxy:y=x
  ·subst hxy;refine⟨r,by rw[Ab rfl];rfl,r2,λz=>?_⟩;rw[r3];simp
  ·refine⟨y::r,by rw[BH hxy];rfl,Ki.2 ⟨λz mz=>?_,r2⟩,λz=>?_⟩
   ·have rxy:R x y:=(h1 y (by simp)).elim (λe=>absurd e.symm hxy) id;rcases Ag.1 mz with e|mz'
    ·rw[e];exact rxy
    ·have ryz:=(Ki.1 r2).1 z mz';exact h.tr x (by simp) y (by simp) z (Bi _<|(r3 z).1 mz) rxy ryz
   ·rw[Ag,r3];simp
theorem afx{e:α×α->A6 Bool}(he:∀a∈l,∀b∈l,e (a,b)=some (decide<|a=b))(hs:l.Pairwise (λa b=>a=b\/R a b))(h:MJ c R l):∃r,Xt l e=some r/\r.Pairwise R/\∀z,z∈r↔z∈l:=by
 cases l with
 |nil=>exact⟨[],rfl,List.Pairwise.nil,λz=>Iff.rfl⟩
 |cons x l=>
  obtain⟨r,r1,r2,r3⟩:=xP he hs h;refine⟨x::r,?_,r2,r3⟩;show bd (WJ (λa b=>e (a,b)) x l) _=_;rw[r1];rfl
end
section
variable{a:Rat}{L:A3 H3}{p:Q3}{x y m:Rat}{M:A3 H3}{v w b:Q3}{S:A3 D7}{k:Rat}{c:Q3}{l:A3 Q3}{n u:Q3}
def Hq(a b:Q3):Prop:=a.1<b.1\/a.1=b.1/\(a.2.1<b.2.1\/a.2.1=b.2.1/\a.2.2<b.2.2)
theorem fF(a:Q3): ¬Hq a a:=by unfold Hq;grind
theorem amX{a:Q3}:Hq a b->Hq b c->Hq a c:=by unfold Hq;grind
theorem akm(a b:Q3):a=b\/Hq a b\/Hq b a:=by
 by_cases h:a=b
 ·exact .inl h
 ·right;have: ¬(a.1=b.1/\a.2.1=b.2.1/\a.2.2=b.2.2):=λk=>h<|Hb k.1 k.2.1 k.2.2
  unfold Hq;grind
def ais{c:Q3×Q3->A6 Int}(h:∀x∈l,∀y∈l,∃v,c (x,y)=some v/\(v<0↔Hq x y)):MJ c Hq l:=
 ⟨h,λx _=>fF x,λx _ y _ z _=>amX,λx _ y _=>akm x y⟩
theorem vN(hn:n≠o3)(hu:AG n u=0)(hv:AG n v=0)(hw:AG n w=0):Aj v (AG n<|AS u w)=CF (Aj u<|AG n<|AS v w) (Aj w<|AG n<|AS u v):=by
 have hp:=Og hn;have hd:E0 u v w*AG n n=0:=by
  have:E0 u v w*AG n n=AG n (AS v w)*AG n u-AG n (AS u w)*AG n v+AG n (AS u v)*AG n w:=by unfold E0 AG AS;grind
  rw[this,hu,hv,hw];grind
 have hd:E0 u v w=0:=by
  rcases GV.1 hd with g|g
  ·exact g
  ·grind
 unfold E0 at hd;refine Hb ?_ ?_ ?_<;>simp only[Aj,CF]
 ·have:u.1*AG n (AS v w)+w.1*AG n (AS u v)-v.1*AG n (AS u w)=AG (AS u v) w*n.1:=by unfold AG AS;grind
  rw[hd] at this;grind
 ·have:u.2.1*AG n (AS v w)+w.2.1*AG n (AS u v)-v.2.1*AG n (AS u w)=AG (AS u v) w*n.2.1:=by unfold AG AS;grind
  rw[hd] at this;grind
 ·have:u.2.2*AG n (AS v w)+w.2.2*AG n (AS u v)-v.2.2*AG n (AS u w)=AG (AS u v) w*n.2.2:=by unfold AG AS;grind
  rw[hd] at this;grind
def Qa(u:Q3):Prop:=0<u.1\/u.1=0/\(0<u.2.1\/u.2.1=0/\0<u.2.2)
theorem lq{a:Q3}(h:Hq a b):Qa (As b a):=by unfold Hq at h;unfold Qa As;dsimp only;grind
theorem akS{b:Rat}(hu:Qa u)(hw:Qa w)(ha:0<a)(hb:0<b):Qa (CF (Aj u a)<|Aj w b):=by
 have m:∀x c:Rat,0<c->(0<x->0<x*c)/\(x=0->x*c=0):=λx c hc=>⟨λh=>G1 h hc,λh=>by rw[h];grind⟩
 have a1:=m u.1 a ha;have a2:=m u.2.1 a ha;have a3:=m u.2.2 a ha;have b1:=m w.1 b hb;have b2:=m w.2.1 b hb;have b3:=m w.2.2 b hb;unfold Qa at*;unfold CF Aj;dsimp only
 grind
theorem amI(hv:Qa v)(h:Qa (Aj v a)):0<a:=by
 refine CC λc=>?_
 have m:∀x:Rat,0<=x->x*a<=0:=λx hx=>by have:=DD hx (show 0<= -a by grind);grind
 have m1:=m v.1;have m2:=m v.2.1;have m3:=m v.2.2;have z:∀x:Rat,0<x->x*a=0->a=0:=λx hx h=>by
  rcases GV.1 h with g|g
  ·grind
  ·exact g
 have z1:=z v.1;have z2:=z v.2.1;unfold Qa at*;unfold Aj at h;dsimp only at h
 grind
theorem ao0{a:Q3}{d:Rat}(hn:n≠o3)(tp:val (n,d) p=0)(ta:val (n,d) a=0)(tb:val (n,d) b=0)(tc:val (n,d) c=0)(la:Hq p a)(lb:Hq p b)(lc:Hq p c)(h1:0<C2 n p a b)(h2:0<C2 n p b c):0<C2 n p a c:=by
 have ea:=val_sub (n,d) p a;have eb:=val_sub (n,d) p b;have ec:=val_sub (n,d) p c;rw[tp,ta] at ea;rw[tp,tb] at eb;rw[tp,tc] at ec;have r:=vN hn (u:=As a p) (v:=As b p) (w:=As c p) (by grind) (by grind) (by grind);unfold C2 at h1 h2⊢;refine amI (lq lb) (v:=As b p) ?_;rw[r];exact akS (lq la) (lq lc) h2 h1
theorem ajg{f:H3}(hf:f.1≠o3)(vp:Ba L p)(tp:val f p=0)(hl:∀x∈l,Ba L x/\val f x=0/\Hq p x){c:Q3×Q3->A6 Int}(hc:∀x∈l,∀y∈l,∃v,c (x,y)=some v/\(v<0↔0<C2 f.1 p x y)):MJ c (λx y=>0<C2 f.1 p x y) l:=by
 refine⟨hc,λx _ h=>?_,λx mx y my z mz h1 h2=>?_,λx mx y my=>?_⟩
 ·rw[Oy] at h;grind
 ·obtain⟨_,a2,a3⟩:=hl x mx;obtain⟨_,b2,b3⟩:=hl y my;obtain⟨_,c2,c3⟩:=hl z mz;exact ao0 hf tp a2 b2 c2 a3 b3 c3 h1 h2
 ·by_cases e:x=y
  ·exact .inl e
  ·right;obtain⟨a1,a2,a3⟩:=hl x mx;obtain⟨b1,b2,b3⟩:=hl y my;have h:=xZ hf vp a1 b1 tp a2 b2 (λe=>fF p (by rw[<-e] at a3;exact a3)) (λe=>fF p (by rw[<-e] at b3;exact b3)) e;have s:C2 f.1 p y x= -C2 f.1 p x y:=by unfold C2 AG AS As;grind
   rw[s];grind
def df{α:Type}{R:α->α->Prop}{l:A3 α}(h:l.Pairwise R){a b:α}(s:[a,b].Sublist l):R a b:=gF.1 h s
theorem agp{f:H3}(hf:f.1≠o3){s:A3 Q3}(hl:∀x∈p::s,Ba L x/\val f x=0)(hs:s.Pairwise λx y=>0<C2 f.1 p x y):HX f.1 (p::s):=by
 intro a b c h;cases h with
 |cons_cons _ h=>exact df hs h
 |cons _ h=>
  have ab:=df hs<|(((Nv [c]).cons_cons b).cons_cons a).trans h
  have bc:=df hs<|((List.sublist_cons_self a [b,c])).trans h
  have ac:=df hs<|(((List.sublist_cons_self b [c])).cons_cons a).trans h
  have g:∀x,x∈[a,b,c]->x∈p::s:=λx mx=>Bi _<|h.subset mx
  obtain⟨vp,tp⟩:=hl p Dm;obtain⟨va,ta⟩:=hl a (g a (by simp));obtain⟨vb,tb⟩:=hl b (g b (by simp));obtain⟨vc,tc⟩:=hl c (g c (by simp));refine CC λDy=>?_
  have ea:=val_sub f p a;have eb:=val_sub f p b;have ec:=val_sub f p c;rw[tp,ta] at ea;rw[tp,tb] at eb;rw[tp,tc] at ec;have r:=vN hf (u:=As a p) (v:=As b p) (w:=As c p) (by grind) (by grind) (by grind);have o:C2 f.1 a b c=C2 f.1 p b c-C2 f.1 p a c+C2 f.1 p a b:=by unfold C2 AG AS As;grind
  have:a=c:=by
   refine OF<|vb.2 _ λh mh th=>?_
   have k:=congrArg (AG h.1) r;rw[Ew,O2,Ew,Ew,val_sub,val_sub,val_sub,th] at k;change C2 f.1 p a c*(0-val h p)=C2 f.1 p b c*(val h a-val h p)+C2 f.1 p a b*(val h c-val h p) at k;have x:=vp.1 h mh;have y:=va.1 h mh;have z:=vc.1 h mh;have i1:=DD (show 0<= -C2 f.1 a b c by grind) (show 0<= -val h p by grind);have i2:=DD (show 0<=C2 f.1 p b c by grind) (show 0<= -val h a by grind);have i3:=DD (show 0<=C2 f.1 p a b by grind) (show 0<= -val h c by grind);rw[o] at i1;have j2:C2 f.1 p b c*val h a=0:=by grind
   have j3:C2 f.1 p a b*val h c=0:=by grind
   rw[val_sub];rcases GV.1 j2 with g|g
   ·grind
   ·rcases GV.1 j3 with g'|g'
    ·grind
    ·rw[g,g'];grind
  rw[this,Oy] at ac
  grind
def D5(a:Rat):A3 H3:=[((-1,0,0),a),((1,0,0),a),((0,-1,0),a),((0,1,0),a),((0,0,-1),a),((0,0,1),a)]
theorem O9(a:Rat)(p:Q3):val ((-1,0,0),a) p= -p.1-a:=by unfold val AG;grind
theorem O8(a:Rat)(p:Q3):val ((1,0,0),a) p=p.1-a:=by unfold val AG;grind
theorem O7(a:Rat)(p:Q3):val ((0,-1,0),a) p= -p.2.1-a:=by unfold val AG;grind
theorem O6(a:Rat)(p:Q3):val ((0,1,0),a) p=p.2.1-a:=by unfold val AG;grind
theorem O5(a:Rat)(p:Q3):val ((0,0,-1),a) p= -p.2.2-a:=by unfold val AG;grind
theorem O4(a:Rat)(p:Q3):val ((0,0,1),a) p=p.2.2-a:=by unfold val AG;grind
def Lv{P:H3->Prop}:(∀h∈D5 a,P h)↔P ((-1,0,0),a)/\P ((1,0,0),a)/\P ((0,-1,0),a)/\P ((0,1,0),a)/\P ((0,0,-1),a)/\P ((0,0,1),a):=by
 unfold D5;simp
def alb{P:H3->Prop}:(∃h∈D5 a,P h)↔P ((-1,0,0),a)\/P ((1,0,0),a)\/P ((0,-1,0),a)\/P ((0,1,0),a)\/P ((0,0,-1),a)\/P ((0,0,1),a):=by
 unfold D5;simp
theorem aiq:Mem (D5 a) p↔(-a<=p.1/\p.1<=a)/\(-a<=p.2.1/\p.2.1<=a)/\ -a<=p.2.2/\p.2.2<=a:=by
 unfold Mem;rw[Lv,O9,O8,O7,O6,O5,O4];grind
theorem T4(ha:0<a):Ba (D5 a) p↔(p.1=a\/p.1= -a)/\(p.2.1=a\/p.2.1= -a)/\(p.2.2=a\/p.2.2= -a):=by
 unfold Ba;rw[aiq];constructor
 ·rintro⟨h,k⟩;have d1:∀x:Rat,AG (-1,0,0) (1,0,0)= -1:=λ_=>by unfold AG;grind
  refine⟨CC λc=>?_,CC λc=>?_,CC λc=>?_⟩
  ·have:=k (1,0,0) (by rw[Lv,O9,O8,O7,O6,O5,O4];unfold AG;grind);exact YF this
  ·have:=k (0,1,0) (by rw[Lv,O9,O8,O7,O6,O5,O4];unfold AG;grind);have:=congrArg (λx:Q3=>x.2.1) this;simp only[o3] at this;grind
  ·have:=k (0,0,1) (by rw[Lv,O9,O8,O7,O6,O5,O4];unfold AG;grind);have:=congrArg (λx:Q3=>x.2.2) this;simp only[o3] at this;grind
 ·rintro⟨h1,h2,h3⟩;refine⟨by grind,λd hd=>?_⟩;rw[Lv,O9,O8,O7,O6,O5,O4] at hd;unfold AG at hd;dsimp only at hd;exact J4 (by grind) (by grind) (by grind)
theorem xO(a:Rat):EA (D5 a):=λd hd=>by
 rw[alb];unfold AG;dsimp only;refine CC λc=>hd (J4 ?_ ?_ ?_)<;>grind
theorem T5{a:Q3}(ha:a∈l)(hb:b∈l)(hc:c∈l)(HM:a≠b)(hac:a≠c)(hbc:b≠c):3<=l.length:=by
 match l,ha,hb,hc with
 |[x],ha,hb,hc=>simp at ha hb hc;exact absurd (ha.trans hb.symm) HM
 |[x,y],ha,hb,hc=>simp at ha hb hc;grind
 |_::_::_::_,_,_,_=>simp
def NW(a:Rat)(f:Rat->Rat->Q3):A3 Q3:=[f (-a)<| -a,f (-a) a,f a<| -a,f a a]
def wK{f:Rat->Rat->Q3}:p∈NW a f↔∃x y,(x=a\/x= -a)/\(y=a\/y= -a)/\p=f x y:=by
 unfold NW;simp only[Ag,VV,or_false];constructor
 ·rintro(h|h|h|h)
  ·exact⟨_,_,.inr rfl,.inr rfl,h⟩
  ·exact⟨_,_,.inr rfl,.inl rfl,h⟩
  ·exact⟨_,_,.inl rfl,.inr rfl,h⟩
  ·exact⟨_,_,.inl rfl,.inl rfl,h⟩
 ·rintro⟨x,y,hx|hx,hy|hy,h⟩<;>subst hx<;>subst hy<;>simp[h]
theorem ahQ(ha:0<a)(hS:S.map Prod.fst=D5 a)(hC:∀f∈S,HX f.1.1 f.2/\∀p,p∈f.2↔Ba (D5 a) p/\val f.1 p=0):C9 S (D5 a):=by
 have hin:∀f∈S,f.1∈D5 a:=λf mf=>by rw[<-hS];exact BI.2 ⟨f,mf,rfl⟩
 have hd:(D5 a).Pairwise (· ≠ ·):=by
  have:((D5 a).map Prod.fst).Pairwise (· ≠ ·):=by
   show List.Pairwise (· ≠ ·) ([(-1,0,0),(1,0,0),(0,-1,0),(0,1,0),(0,0,-1),(0,0,1)]:A3 Q3)
   decide
  exact(Nx.1 this).imp λ{a b} h e=>h<|congrArg Prod.fst e
 have ca:∀h∈D5 a,h.2=a:=by rw[Lv];exact⟨rfl,rfl,rfl,rfl,rfl,rfl⟩
 refine⟨xO a,⟨o3,?_⟩,?_,?_,λf mf=>?_,?_,λp hp ht=>?_⟩
 ·rw[Lv,O9,O8,O7,O6,O5,O4];unfold o3;dsimp only;grind
 ·rw[Lv];unfold o3;simp only[ne_eq,LC];grind
 ·intro h mh k mk hk;obtain⟨s,s0,e⟩:=hk;have:=ca h mh;have hk2:=ca k mk;have e2:k.2=h.2*s:=by rw[e]
  have:s=1:=by
   have:a*(s-1)=0:=by grind
   rcases GV.1 this with g|g<;>grind
  subst this;rw[e];refine Prod.ext (Hb ?_ ?_ ?_) ?_<;>simp only[Aj]<;>grind
 ·obtain⟨c1,c2⟩:=hC f mf;refine⟨hin f mf,c1,?_,c2⟩;have one:∀x y z:Rat,(x=a\/x= -a)->(y=a\/y= -a)->(z=a\/z= -a)->val f.1 (x,y,z)=0->(x,y,z)∈f.2:=λx y z hx hy hz hv=>(c2 _).2 ⟨(T4 ha).2 ⟨hx,hy,hz⟩,hv⟩
  have hne:a≠ -a:=by grind
  have mf:=hin f mf;have hr:a=a\/a= -a:= .inl rfl;have hl: -a=a\/ -a= -a:= .inr rfl
  generalize f.1=h at*
  simp only[D5,Ag,VV,or_false] at mf;rcases mf with e|e|e|e|e|e<;>subst e
  ·exact T5 (one (-a) a a hl hr hr (by rw[O9];grind)) (one (-a) a (-a) hl hr hl (by rw[O9];grind)) (one (-a) (-a) a hl hl hr (by rw[O9];grind)) (by simp[hne]) (by simp[hne]) (by simp[hne])
  ·exact T5 (one a a a hr hr hr (by rw[O8];grind)) (one a a (-a) hr hr hl (by rw[O8];grind)) (one a (-a) a hr hl hr (by rw[O8];grind)) (by simp[hne]) (by simp[hne]) (by simp[hne])
  ·exact T5 (one a (-a) a hr hl hr (by rw[O7];grind)) (one a (-a) (-a) hr hl hl (by rw[O7];grind)) (one (-a) (-a) a hl hl hr (by rw[O7];grind)) (by simp[hne]) (by simp[hne]) (by simp[hne])
  ·exact T5 (one a a a hr hr hr (by rw[O6];grind)) (one a a (-a) hr hr hl (by rw[O6];grind)) (one (-a) a a hl hr hr (by rw[O6];grind)) (by simp[hne]) (by simp[hne]) (by simp[hne])
  ·exact T5 (one a a (-a) hr hr hl (by rw[O5];grind)) (one a (-a) (-a) hr hl hl (by rw[O5];grind)) (one (-a) a (-a) hl hr hl (by rw[O5];grind)) (by simp[hne]) (by simp[hne]) (by simp[hne])
  ·exact T5 (one a a a hr hr hr (by rw[O4];grind)) (one a (-a) a hr hl hr (by rw[O4];grind)) (one (-a) a a hl hr hr (by rw[O4];grind)) (by simp[hne]) (by simp[hne]) (by simp[hne])
 ·rw[<-hS] at hd;exact Nx.1 hd
 ·obtain⟨h,mh,th⟩:=ht;rw[<-hS] at mh;obtain⟨f,mf,e⟩:=BI.1 mh;exact⟨f,mf,by rw[e];exact th⟩
def II(x:Rat):Prop:=∃z:Int,x=(z:Rat)
def II.mul:II x->II y->II (x*y)|⟨a,ha⟩,⟨b,hb⟩=>⟨a*b,by rw[ha,hb,Rat.intCast_mul]⟩
def II.add:II x->II y->II (x+y)|⟨a,ha⟩,⟨b,hb⟩=>⟨a+b,by rw[ha,hb,Rat.intCast_add]⟩
def II.sub:II x->II y->II (x-y)|⟨a,ha⟩,⟨b,hb⟩=>⟨a-b,by rw[ha,hb,Rat.intCast_sub]⟩
def NY(v:Q3):Prop:=II v.1/\II v.2.1/\II v.2.2
def NY.ZV(h:NY v)(k:NY w):NY (AS v w):=
 ⟨(h.2.1.mul k.2.2).sub<|h.2.2.mul k.2.1,(h.2.2.mul k.1).sub<|h.1.mul k.2.2,(h.1.mul k.2.1).sub<|h.2.1.mul k.1⟩
def NY.dot(h:NY v)(k:NY w):II (AG v w):=((h.1.mul k.1).add<|h.2.1.mul k.2.1).add<|h.2.2.mul k.2.2
def II.one(h:II x)(h0:x≠0):1<=x\/x<= -1:=by
 obtain⟨z,rfl⟩:=h;have:z≠0:=λe=>h0 (by rw[e];rfl)
 rcases Int.lt_or_gt_of_ne this with h|h
 ·right;have:=Rat.intCast_le_intCast.2 (show z<= -1 by omega);simpa using this
 ·left;have:=Rat.intCast_le_intCast.2 (show 1<=z by omega);simpa using this
def wi(x m:Rat):Prop:= -m<=x/\x<=m
theorem wi.mul(h:wi x m)(g:wi y k):wi (x*y) (m*k):=by
 obtain⟨a,b⟩:=h;obtain⟨c,d⟩:=g;have p1:=DD (show 0<=m-x by grind) (show 0<=k+y by grind);have p2:=DD (show 0<=m+x by grind) (show 0<=k-y by grind);have p3:=DD (show 0<=m-x by grind) (show 0<=k-y by grind);have p4:=DD (show 0<=m+x by grind) (show 0<=k+y by grind);constructor<;>grind
theorem wi.add(h:wi x m)(g:wi y k):wi (x+y) (m+k):=by unfold wi at*;grind
theorem wi.sub(h:wi x m)(g:wi y k):wi (x-y) (m+k):=by unfold wi at*;grind
def wi3(v:Q3)(m:Rat):Prop:=wi v.1 m/\wi v.2.1 m/\wi v.2.2 m
def wi3.ZV(h:wi3 v m)(g:wi3 w k):wi3 (AS v w) (m*k+m*k):=
 ⟨(h.2.1.mul g.2.2).sub<|h.2.2.mul g.2.1,(h.2.2.mul g.1).sub<|h.1.mul g.2.2,(h.1.mul g.2.1).sub<|h.2.1.mul g.1⟩
theorem amh(h:1<=x\/x<= -1):wi x⁻¹ 1:=by
 have e:=fX x (by grind)
 generalize x⁻¹ =i at e
 constructor
 ·refine CC λc=>?_
  rcases h with g|g
  ·have:=DD (show 0<=x-1 by grind) (show 0<= -i by grind);grind
  ·have:=DD (show 0<= -1-x by grind) (show 0<= -i-1 by grind);grind
 ·refine CC λc=>?_
  rcases h with g|g
  ·have:=DD (show 0<=x-1 by grind) (show 0<=i-1 by grind);grind
  ·have:=DD (show 0<= -1-x by grind) (show 0<=i by grind);grind
theorem aki{a b c:H3}{D:Rat}(ia:NY a.1)(ib:NY b.1)(ic:NY c.1)(ha:wi3 a.1 m/\wi a.2 D)(hb:wi3 b.1 m/\wi b.2 D)(hc:wi3 c.1 m/\wi c.2 D)(hd:E0 a.1 b.1 c.1≠0):wi3 (I8 a b c) (6*(m*m*D)):=by
 have hi:=amh<|II.one ((ia.ZV ib).dot ic) hd
 have x1:=hb.1.ZV hc.1;have x2:=hc.1.ZV ha.1;have x3:=ha.1.ZV hb.1;unfold I8 E0
 generalize (AG (AS a.1 b.1) c.1)⁻¹ =i at hi
 have fin:∀{x y z:Rat},wi x (m*m+m*m)->wi y (m*m+m*m)->wi z (m*m+m*m)->wi ((x*a.2+y*b.2+z*c.2)*i) (6*(m*m*D)):=λh1 h2 h3=>by
  have:=(((h1.mul ha.2).add<|h2.mul hb.2).add<|h3.mul hc.2).mul hi;unfold wi at this⊢
  grind
 exact⟨fin x1.1 x2.1 x3.1,fin x1.2.1 x2.2.1 x3.2.1,fin x1.2.2 x2.2.2 x3.2.2⟩
theorem alJ(hb:EA L){D:Rat}(hm:0<m)(hD:0<D)(hL:∀k∈L,NY k.1/\wi3 k.1 m/\wi k.2 D)(hp:Mem L p):∀h∈D5 (7*(m*m*D)),val h p<0:=by
 have h0:=G1 (G1 hm hm) hD;have key:∀c:Q3,∃v,wi3 v (6*(m*m*D))/\AG c p<=AG c v:=λc=>by
  obtain⟨v,v1,v2,_⟩:=QF hb hp c;obtain⟨_,a,ma,b,mb,d,md,hd,rfl⟩:=Xw.1 v1;obtain⟨ia,wa⟩:=hL a ma;obtain⟨ib,wb⟩:=hL b mb;obtain⟨id,wd⟩:=hL d md;exact⟨_,aki ia ib id wa wb wd hd,v2⟩
 unfold wi3 wi at key;rw[Lv,O9,O8,O7,O6,O5,O4];obtain⟨v1,k1⟩:=key (-1,0,0);obtain⟨v2,k2⟩:=key (1,0,0);obtain⟨v3,k3⟩:=key (0,-1,0);obtain⟨v4,k4⟩:=key (0,1,0);obtain⟨v5,k5⟩:=key (0,0,-1);obtain⟨v6,k6⟩:=key (0,0,1);unfold AG at k1 k2 k3 k4 k5 k6;dsimp only at k1 k2 k3 k4 k5 k6
 grind
theorem C9.drop{C:A3 H3}(I:C9 S M)(hM:∀k,k∈M↔k∈L\/k∈C)(hb:EA L)(hc:∀p,Mem L p->∀h∈C,val h p<0):C9 S L/\∀p,Mem L p↔Mem M p:=by
 have H4:∀p,Mem L p↔Mem M p:=λp=>by
  constructor
  ·intro h k mk;rcases(hM k).1 mk with m|m
   ·exact h k m
   ·exact F3<|hc p h k m
  ·exact λh k mk=>h k<|(hM k).2<| .inl mk
 have hv:∀p,Ba M p↔Ba L p:=λp=>by
  constructor
  ·rintro⟨h1,h2⟩;refine⟨(H4 p).2 h1,λd hd=>h2 d λk mk tk=>?_⟩;rcases(hM k).1 mk with m|m
   ·exact hd k m tk
   ·have:=hc p ((H4 p).2 h1) k m;grind
  ·rintro⟨h1,h2⟩;exact⟨(H4 p).1 h1,λd hd=>h2 d λk mk tk=>hd k ((hM k).2<| .inl mk) tk⟩
 refine⟨⟨hb,?_,λh mh=>I.nz h<|(hM h).2<| .inl mh,λh mh k mk=>I.norm h ((hM h).2<| .inl mh) k<|(hM k).2<| .inl mk,λf mf=>?_,I.U9,λp hp ht=>?_⟩,H4⟩
 ·obtain⟨o,ho⟩:=I.int;exact⟨o,λh mh=>ho h<|(hM h).2<| .inl mh⟩
 ·obtain⟨f1,f2,f3,f4⟩:=I.Ea f mf;refine⟨?_,f2,f3,λp=>by rw[f4,hv]⟩;rcases(hM _).1 f1 with m|m
  ·exact m
  ·obtain⟨p,mp⟩:=List.exists_mem_of_ne_nil f.2 (λe=>by rw[e] at f3;simp at f3);obtain⟨vp,tp⟩:=(f4 p).1 mp;have:=hc p ((H4 p).2 vp.1) _ m
   grind
 ·obtain⟨k,mk,tk⟩:=ht;exact I.cover p ((H4 p).1 hp) ⟨k,(hM k).2<| .inl mk,tk⟩
theorem ajd(I:C9 S M)(hM:∀k,k∈M↔k∈L\/k∈D5 a)(ha:0<a)(h1:∀k∈L,0<k.2)(hc:EA L->∀p,Mem L p->∀h∈D5 a,val h p<0):EA L↔∀f∈S,f.1∈L:=by
 constructor
 ·intro hb f mf;exact((I.drop hM hb<|hc hb).1.Ea f mf).1
 ·intro hf d hd;refine CC λDy=>?_
  have hle:∀k∈L,AG k.1 d<=0:=λk mk=>CC λc=>Dy ⟨k,mk,by grind⟩
  obtain⟨h,mh,ph,hm⟩:=least (λh:H3=>0<AG h.1 d) (λh=>a/AG h.1 d) (D5 a)<|xO a d hd
  have ca:∀h∈D5 a,h.2=a:=by rw[Lv];exact⟨rfl,rfl,rfl,rfl,rfl,rfl⟩
  have key:∀k:H3,0<AG k.1 d->a/AG k.1 d*AG k.1 d=a:=λk hk=>NC (by grind)
  have hr:0<a/AG h.1 d:=by rw[P0];exact G1 ha<|RY.2 ph
  have kh:=key h ph
  generalize a/AG h.1 d=r at*
  have vz:∀k:H3,val k (Aj d r)=r*AG k.1 d-k.2:=λk=>by unfold val;rw[Ew]
  have neg:∀k∈L,val k (Aj d r)<0:=λk mk=>by
   rw[vz];have:=DD (show 0<=r by grind) (show 0<= -AG k.1 d by have:=hle k mk;grind);have:=h1 k mk
   grind
  obtain⟨f,mf,tf⟩:=I.cover (Aj d r) (λk mk=>by
   rcases(hM k).1 mk with m|m
   ·exact F3<|neg k m
   ·rw[vz,ca k m];by_cases g:0<AG k.1 d
    ·have h2:=hm k m g;have h3:=key k g;have:=Yw h2<|F3 g
     grind
    ·have:=DD (show 0<=r by grind) (show 0<= -AG k.1 d by grind)
     grind) ⟨h,(hM h).2<| .inr mh,by rw[vz,ca h mh];grind⟩
  have:=neg f.1<|hf f mf
  grind
structure MD(L M:A3 H3):Prop where
 sub:∀h∈M,h∈L
 le:∀h∈L,∃k∈M,k.1=h.1/\k.2<=h.2
theorem alu{h k:H3}(e:k.1=h.1)(l:k.2<=h.2)(p:Q3):val h p<=val k p:=by unfold val;rw[e];grind
def MD.mem(h:MD L M)(p:Q3):Mem M p↔Mem L p:=
 ⟨λhp x mx=>by obtain⟨k,mk,e,l⟩:=h.le x mx;exact TQ (alu e l p)<|hp k mk,λhp x mx=>hp x<|h.sub x mx⟩
theorem MD.tight(h:MD L M)(hp:Mem M p){x:H3}(mx:x∈L)(tx:val x p=0):x∈M:=by
 obtain⟨k,mk,e,l⟩:=h.le x mx;have h1:=hp k mk;have:k=x:=Prod.ext e (by unfold val at h1 tx;rw[e] at h1;grind);rw[<-this];exact mk
def MD.F0(h:MD L M)(p:Q3):Ba M p↔Ba L p:=
 ⟨λhp=>⟨(h.mem p).1 hp.1,λd hd=>hp.2 d λx mx tx=>hd x (h.sub x mx) tx⟩,
  λhp=>⟨(h.mem p).2 hp.1,λd hd=>hp.2 d λx mx tx=>hd x (h.tight ((h.mem p).2 hp.1) mx tx) tx⟩⟩
def Xe(I:C9 S L)(hm:MD L M){C:A3 Q3}(hC:∀p,p∈C↔Ba M p)(hn:C.Nodup)(h:H3):h∈S.map (·.1)↔h∈M/\3<=(C.filter λp=>decide<|val h p=0).length:=by
 have mf:∀p,p∈(C.filter λp=>decide<|val h p=0)↔Ba L p/\val h p=0:=λp=>by rw[Hf,hC,hm.F0,Ev]
 constructor
 ·intro mh;obtain⟨f,hf,rfl⟩:=BI.1 mh;obtain⟨f1,f2,f3,f4⟩:=I.Ea f hf;have nd:=f2.nodup f3;have mm:∀p∈f.2,p∈(C.filter λp=>decide<|val f.1 p=0):=λp mp=>(mf p).2<|(f4 p).1 mp
  match e:f.2,f3,nd,mm with
  |a::b::c::l,_,nd,mm=>
   have ha:=(mf a).1 (mm a (by simp));refine⟨hm.tight ((hm.mem a).2 ha.1.1) f1 ha.2,T5 (mm a (by simp)) (mm b (by simp)) (mm c (by simp)) ?_ ?_ ?_⟩
   ·intro e;rw[e] at nd;simp at nd
   ·intro e;rw[e] at nd;simp at nd
   ·intro e;rw[e] at nd;simp at nd
 ·rintro⟨mh,h3⟩;have nd:(C.filter λp=>decide<|val h p=0).Nodup:=hn.sublist List.filter_sublist
  match e:C.filter λp=>decide<|val h p=0,h3,nd,mf with
  |a::b::c::l,_,nd,mf=>
   obtain⟨va,ta⟩:=(mf a).1 (by simp);obtain⟨vb,tb⟩:=(mf b).1 (by simp);obtain⟨vc,tc⟩:=(mf c).1 (by simp);obtain⟨f,hf,rfl⟩:=ajI I (hm.sub h mh) va vb vc ta tb tc (λe=>by rw[e] at nd;simp at nd) (λe=>by rw[e] at nd;simp at nd) (λe=>by rw[e] at nd;simp at nd);exact BI.2 ⟨f,hf,rfl⟩
def I9(a:Q3)(A C:A3 Q3)(u n:Q3)(dim:Int):Prop:=
 (dim=0/\∀p∈C,p=a)\/(dim=1/\(∃b∈A,u=As b a)/\u≠o3/\∀p∈C,AS u (As p a)=o3)\/
 (dim=2/\(∃b∈A,∃c∈A,n=AS (As b a) (As c a))/\n≠o3/\∀p∈C,AG n (As p a)=0)
theorem I9.flat{a:Q3}{A C:A3 Q3}{dim:Int}(h:I9 a A C u n dim):∃m:Q3,m≠o3/\∀p∈C,AG m p=AG m a:=by
 rcases h with⟨_,h⟩|⟨_,_,hu,h⟩|⟨_,_,hn,h⟩
 ·exact⟨_,YF,λp mp=>by rw[h p mp]⟩
 ·obtain⟨m,hm,e⟩:=Ul u;refine⟨m,hm,λp mp=>?_⟩;have k:=par hu<|h p mp
  have:AG m (As p a)=0:=by rw[k,Ew,N1 m u,e];grind
  rw[Vn] at this;grind
 ·refine⟨n,hn,λp mp=>?_⟩;have:=h p mp;rw[Vn] at this;grind
theorem aeG{a:Q3}:As a a=o3:=J4 (by simp only[As];grind) (by simp only[As];grind) (by simp only[As];grind)
theorem ajY(u:Q3):AS u o3=o3:=J4 (by simp only[AS,o3];grind) (by simp only[AS,o3];grind) (by simp only[AS,o3];grind)
end
section
variable{a:Q3}{A C:List Q3}{u n:Q3}{p:Q3}
theorem I9.s0(h:I9 a A C u n 0)(e:As p a=o3):I9 a A (C++[p]) u n 0:=by
 rcases h with⟨_,h⟩|⟨h,_⟩|⟨h,_⟩
 ·refine .inl ⟨rfl,λq mq=>?_⟩;rcases BR.1 mq with m|m
  ·exact h q m
  ·rw[Be.1 m];exact(OF e).symm
 ·omega
 ·omega
theorem I9.s01(h:I9 a A C u n 0)(mp:p∈A)(e:As p a≠o3):I9 a A (C++[p]) (As p a) n 1:=by
 rcases h with⟨_,h⟩|⟨h,_⟩|⟨h,_⟩
 ·refine .inr (.inl ⟨rfl,⟨p,mp,rfl⟩,e,λq mq=>?_⟩);rcases BR.1 mq with m|m
  ·rw[h q m,aeG,ajY]
  ·rw[Be.1 m,Te]
 ·omega
 ·omega
theorem I9.s1(h:I9 a A C u n 1)(e:AS u (As p a)=o3):I9 a A (C++[p]) u n 1:=by
 rcases h with⟨h,_⟩|⟨_,h1,h2,h⟩|⟨h,_⟩
 ·omega
 ·refine .inr (.inl ⟨rfl,h1,h2,λq mq=>?_⟩);rcases BR.1 mq with m|m
  ·exact h q m
  ·rw[Be.1 m];exact e
 ·omega
theorem I9.Dk(h:I9 a A C u n 1)(mp:p∈A)(e:AS u (As p a)≠o3):I9 a A (C++[p]) u (AS u<|As p a) 2:=by
 rcases h with⟨h,_⟩|⟨_,⟨b,mb,hb⟩,h2,h⟩|⟨h,_⟩
 ·omega
 ·refine .inr (.inr ⟨rfl,⟨b,mb,p,mp,by rw[hb]⟩,e,λq mq=>?_⟩);rcases BR.1 mq with m|m
  ·rw[par h2<|h q m,Ew,N1 (AS u<|As p a) u,lR];grind
  ·rw[Be.1 m,N1,Xl]
 ·omega
theorem I9.s2(h:I9 a A C u n 2)(e:AG n (As p a)=0):I9 a A (C++[p]) u n 2:=by
 rcases h with⟨h,_⟩|⟨h,_⟩|⟨_,h1,h2,h⟩
 ·omega
 ·omega
 ·refine .inr (.inr ⟨rfl,h1,h2,λq mq=>?_⟩);rcases BR.1 mq with m|m
  ·exact h q m
  ·rw[Be.1 m];exact e
theorem I9.s3(h:I9 a A C u n 2)(e:AG n (As p a)≠0):∃b∈A,∃c∈A,E0 (As b a) (As c a) (As p a)≠0:=by
 rcases h with⟨h,_⟩|⟨h,_⟩|⟨_,⟨b,mb,c,mc,rfl⟩,_⟩
 ·omega
 ·omega
 ·exact⟨b,mb,c,mc,e⟩
end
section
variable{M:A3 H3}{S:A3 D7}{h:H3}{p:Q3}{f:D7}{u v:Q3}{α:Type}{g:D7}
def MR{α:Type}[DecidableEq α]:∀{l T:A3 α},l.Nodup->(∀x∈l,x∈T)->l.length<=T.length
 |[],_,_,_=>F2 _
 |x::l,T,hn,h=>by
  obtain⟨h1,h2⟩:=List.nodup_cons.1 hn;have:=MR (l:=l) (T:=T.erase x) h2 λy my=>(List.mem_erase_of_ne (λe=>h1 (by rw[<-e];exact my))).2<|h y<|Bi _ my
  rw[List.length_erase_of_mem<|h x Dm] at this;have:0<T.length:=List.length_pos_of_mem<|h x Dm
  rw[DF];omega
def apw(M:A3 H3):A3 Q3:=M.flatMap λa=>M.flatMap λb=>M.map λc=>I8 a b c
def ai7(M:A3 H3):(apw M).length=M.length*(M.length*M.length):=by
 have flat:∀{α β:Type} (f:α->A3 β) (w:Nat) (l:A3 α),(∀x∈l,(f x).length=w)->(l.flatMap f).length=l.length*w:=by
  intro α β f w l
  induction l with
  |nil=>intro _;simp
  |cons x l ih=>intro h;rw[P7,ES,h x Dm,ih λy my=>h y<|Bi _ my,DF,Rc,P2]
 exact flat _ _ _ λa _=>flat _ _ _ λb _=>Bw _
def nO{l:A3 Q3}(hn:l.Nodup)(h:∀p∈l,Ba M p):l.length<=M.length*(M.length*M.length):=by
 rw[<-ai7];refine MR hn λp mp=>?_
 obtain⟨_,a,ma,b,mb,c,mc,_,rfl⟩:=Xw.1<|h p mp
 exact NB.2 ⟨a,ma,NB.2 ⟨b,mb,BI.2 ⟨c,mc,rfl⟩⟩⟩
def C9.len(I:C9 S M):S.length<=M.length:=by
 rw[<-Bw (·.1)];refine MR (Nx.2<|I.U9.imp λh=>h) λx mx=>?_
 obtain⟨f,mf,rfl⟩:=BI.1 mx;exact(I.Ea f mf).1
def xr{α:Type}{T:α->α->Prop}(s:∀a b,T a b->T b a):∀{L:A3 α} {a b:α},a≠b->a∈L->b∈L->T a b->∃x y,[y,x].Sublist L/\T x y
 |h::t,a,b,hne,ma,mb,ht=>by
  by_cases ea:a=h
  ·have mb':b∈t:=(Ag.1 mb).resolve_left λe=>hne (by rw[ea,e])
   exact⟨b,a,by rw[ea];exact(Yo.2 mb').cons_cons h,s _ _ ht⟩
  ·have ma':a∈t:=(Ag.1 ma).resolve_left ea;by_cases eb:b=h
   ·exact⟨a,b,by rw[eb];exact(Yo.2 ma').cons_cons h,ht⟩
   ·obtain⟨x,y,h1,h2⟩:=xr s hne ma' ((Ag.1 mb).resolve_left eb) ht;exact⟨x,y,h1.cons h,h2⟩
def yx{α:Type}{T:α->α->α->Prop}(Dk:∀a b c,T a b c->T b a c)(s23:∀a b c,T a b c->T a c b):∀{L:A3 α} {a b c:α},a≠b->b≠c->a≠c->a∈L->b∈L->c∈L->T a b c->∃x y z,[z,y,x].Sublist L/\T x y z
 |h::t,a,b,c,h1,h2,h3,ma,mb,mc,ht=>by
  have two:∀{a b c:α},a≠b->b≠c->a≠c->c=h->a∈h::t->b∈h::t->T a b c->∃x y z,[z,y,x].Sublist (h::t)/\T x y z:=λ{a b c} h1 h2 h3 e ma mb ht=>by
   obtain⟨x,y,k1,k2⟩:=xr (T:=λa b=>T a b c) (λa b k=>Dk _ _ _ k) h1 ((Ag.1 ma).resolve_left λk=>h3 (by rw[k,e])) ((Ag.1 mb).resolve_left λk=>h2 (by rw[k,e])) ht;exact⟨x,y,c,by rw[e];exact k1.cons_cons h,k2⟩
  by_cases ec:c=h
  ·exact two h1 h2 h3 ec ma mb ht
  ·by_cases eb:b=h
   ·exact two h3 (Ne.symm h2) h1 eb ma mc<|s23 _ _ _ ht
   ·by_cases ea:a=h
    ·exact two h2 (Ne.symm h3) (Ne.symm h1) ea mb mc<|s23 _ _ _<|Dk _ _ _ ht
    ·obtain⟨x,y,z,k1,k2⟩:=yx Dk s23 h1 h2 h3 ((Ag.1 ma).resolve_left ea) ((Ag.1 mb).resolve_left eb) ((Ag.1 mc).resolve_left ec) ht;exact⟨x,y,z,k1.cons h,k2⟩
theorem agH{L:A3 H3}:Ba L p↔Mem L p/\∃a b c,[c,b,a].Sublist L/\E0 a.1 b.1 c.1≠0/\p=I8 a b c:=by
 rw[Xw];refine and_congr Iff.rfl ⟨?_,?_⟩
 ·rintro⟨a,ma,b,mb,c,mc,hd,hp⟩;refine yx (T:=λa b c:H3=>E0 a.1 b.1 c.1≠0/\p=I8 a b c) (λa b c h=>⟨by rw[uk];have:=h.1;grind,by rw[h.2,aem a b c h.1]⟩) (λa b c h=>⟨by rw[uj];have:=h.1;grind,by rw[h.2,ael a b c h.1]⟩) ?_ ?_ ?_ ma mb mc ⟨hd,hp⟩
  ·intro e;refine hd ?_;rw[e];unfold E0;rw[Te];unfold AG o3;grind
  ·intro e;refine hd ?_;rw[e];unfold E0;rw[N1,Xl]
  ·intro e;refine hd ?_;rw[e];unfold E0;rw[N1,lR]
 ·rintro⟨a,b,c,hs,hd,hp⟩;exact⟨a,hs.subset (by simp),b,hs.subset (by simp),c,hs.subset (by simp),hd,hp⟩
theorem uG(I:C9 S M)(hp:Mem M p)(mf:f∈S)(tf:val f.1 p=0){g:H3}(mg:g∈M)(tg:val g p=0)(hc:AS f.1.1 g.1≠o3):∃f'∈S,f'.1≠f.1/\val f'.1 p=0:=by
 obtain⟨o,ho⟩:=I.int;have d0:AG f.1.1 (AS (AS f.1.1 g.1) f.1.1)=0:=Xl _ _;have d1:0<AG g.1 (AS (AS f.1.1 g.1) f.1.1):=by
  have:=Og hc;have e:AG g.1 (AS (AS f.1.1 g.1) f.1.1)=AG (AS f.1.1 g.1) (AS f.1.1 g.1):=by unfold AG AS;grind
  rw[e];exact this
 generalize AS (AS f.1.1 g.1) f.1.1=d at d0 d1
 obtain⟨k,mk,⟨tk,pk⟩,hm⟩:=least (λk:H3=>val k p=0/\0<AG k.1 d) (λk=> -val k o/AG k.1 d) M ⟨g,mg,tg,d1⟩;have lk: -val k o/AG k.1 d*AG k.1 d= -val k o:=NC (by grind);have l0:0< -val k o/AG k.1 d:=by rw[P0];exact G1 (by have:=ho k mk;grind)<|RY.2 pk
 generalize hl: -val k o/AG k.1 d=r at lk l0 hm
 have dw:∀x:H3,val x p=0->AG x.1 (CF (As o p)<|Aj d r)=val x o+r*AG x.1 d:=λx tx=>by
  rw[O2,Ew,val_sub,tx];grind
 obtain⟨e,e0,he⟩:=room hp (w:=CF (As o p)<|Aj d r) λx mx tx=>by
  rw[dw x tx];have vx:=ho x mx;by_cases px:0<AG x.1 d
  ·have h1:=hm x mx ⟨tx,px⟩;have h2:=Yw h1<|F3 px
   rw[NC (by grind)] at h2
   grind
  ·have:=DD (F3 l0) (show 0<= -AG x.1 d by grind)
   grind
 obtain⟨e2,e20,he2⟩:∃e2:Rat,0<e2/\e2<=e/\∀x∈M,val x p<0->val x (CF p<|Aj (CF (As o p)<|Aj d r) e2)<0:=by
  have:=hp
  generalize CF (As o p) (Aj d r)=w at he
  have half:∀x∈M,val x p<0->val x (CF p<|Aj w<|e/2)<0:=λx mx vx=>by
   have h1:=he e (F3 e0) FM x mx;rw[O3] at h1⊢;have e3:e/2*AG x.1 w=(1/2)*(e*AG x.1 w):=by grind
   rw[e3];grind
  exact⟨e/2,by grind,by grind,half⟩
 have q1:=he e2 (F3 e20) he2.1;have tq:val k (CF p<|Aj (CF (As o p)<|Aj d r) e2)=0:=by rw[O3,dw k tk,lk,tk];grind
 have fq:val f.1 (CF p<|Aj (CF (As o p)<|Aj d r) e2)<0:=by
  rw[O3,dw f.1 tf,d0,tf];have:=G1 e20 (show 0< -val f.1 o by have:=ho f.1 (I.Ea f mf).1;grind)
  grind
 obtain⟨f',mf',tf'⟩:=I.cover _ q1 ⟨k,mk,tq⟩;refine⟨f',mf',λe=>?_,?_⟩
 ·rw[e] at tf';grind
 ·refine CC λhne=>?_
  have m1:=(I.Ea f' mf').1;have h1:=hp f'.1 m1;have:=he2.2 f'.1 m1 (by grind)
  grind
def uf(I:C9 S M)(mf:f∈S)(mg:g∈S)(hne:f.1≠g.1)(tf:val f.1 p=0)(tg:val g.1 p=0):AS f.1.1 g.1.1≠o3:=λhc=>by
 obtain⟨o,ho⟩:=I.int;exact hne<|ou ho I.nz I.norm (I.Ea f mf).1 (I.Ea g mg).1 hc tf tg
theorem RB(hu:Mem M u)(hv:Mem M v)(ho:Fw (val h u) (val h v)=true){k:H3}(mk:k∈M):val k (FC h u v)=0↔val k u=0/\val k v=0:=by
 have t:=PM ho;unfold FC;rw[FJ]
 generalize val h u/(val h u-val h v)=r at t
 have a:=DD (show 0<=1-r by grind) (show 0<= -val k u by have:=hu k mk;grind);have b:=DD (show 0<=r by grind) (show 0<= -val k v by have:=hv k mk;grind);constructor
 ·intro e;have a0:(1-r)*val k u=0:=by grind
  have b0:r*val k v=0:=by grind
  constructor
  ·rcases GV.1 a0 with x|x<;>grind
  ·rcases GV.1 b0 with x|x<;>grind
 ·rintro⟨e1,e2⟩;rw[e1,e2];grind
theorem ajL(I:C9 S M)(hu:Ba M u)(hv:Ba M v)(h0:val h u<0)(h1:0<val h v)(mf:f∈S)(mg:g∈S)(hne:f.1≠g.1)(fu:val f.1 u=0)(fv:val f.1 v=0)(gu:val g.1 u=0)(gv:val g.1 v=0):
  Ba (h::M) (FC h u v)/\val h (FC h u v)=0:=by
 have ho:Fw (val h u) (val h v)=true:=Jt.2<| .inl ⟨h0,h1⟩
 have t:=PM ho;have hz:=YE ho;have f1:=(I.Ea f mf).1;have g1:=(I.Ea g mg).1;have hc:=uf I mf mg hne fu gu;obtain⟨s,hs⟩:=along hc (d:=As v u) (by rw[val_sub,fu,fv];grind) (by rw[val_sub,gu,gv];grind);refine⟨xc (f:=f.1) (g:=g.1) (h:=h) (λk mk=>?_) (Bi _ f1) (Bi _ g1) Dm ((RB hu.1 hv.1 ho f1).2 ⟨fu,fv⟩) ((RB hu.1 hv.1 ho g1).2 ⟨gu,gv⟩) hz λe=>?_,hz⟩
 ·rcases Ag.1 mk with e|mk
  ·rw[e,hz];exact FM
  ·unfold FC;rw[FJ]
   generalize val h u/(val h u-val h v)=r at t
   have a:=DD (show 0<=1-r by grind) (show 0<= -val k u by have:=hu.1 k mk;grind);have b:=DD (show 0<=r by grind) (show 0<= -val k v by have:=hv.1 k mk;grind)
   grind
 ·have hd:AG h.1 (As v u)=val h v-val h u:=val_sub h u v;rw[hs,Ew,e] at hd
  grind
theorem xJ(I:C9 S M){u' v':Q3}(hu:Ba M u)(hv:Ba M v)(JC:Ba M u')(Im:Ba M v')(h0:val h u<0)(h1:0<val h v)(h0':val h u'<0)(h1':0<val h v')(mf:f∈S)(mg:g∈S)(hne:f.1≠g.1)(fu:val f.1 u=0)(fv:val f.1 v=0)(gu:val g.1 u=0)(gv:val g.1 v=0)
 (e:FC h u v=FC h u' v'):u=u'/\v=v':=by
 have ho:Fw (val h u) (val h v)=true:=Jt.2<| .inl ⟨h0,h1⟩
 have JF:Fw (val h u') (val h v')=true:=Jt.2<| .inl ⟨h0',h1'⟩
 have f1:=(I.Ea f mf).1;have g1:=(I.Ea g mg).1;have hc:=uf I mf mg hne fu gu;have tf:val f.1 u'=0/\val f.1 v'=0:=(RB JC.1 Im.1 JF f1).1 (by rw[<-e];exact(RB hu.1 hv.1 ho f1).2 ⟨fu,fv⟩);have tg:val g.1 u'=0/\val g.1 v'=0:=(RB JC.1 Im.1 JF g1).1 (by rw[<-e];exact(RB hu.1 hv.1 ho g1).2 ⟨gu,gv⟩);have huv:u≠v:=λe=>by rw[e] at h0;grind
 have line:∀x,Ba M x->val f.1 x=0->val g.1 x=0->x=u\/x=v:=λx hx fx gx=>by
  refine CC λc=>?_
  have c1:u≠x:=λe=>c<| .inl e.symm
  have c2:v≠x:=λe=>c<| .inr e.symm
  refine mO hu hv hx huv c1 c2 ?_;obtain⟨s,hs⟩:=along hc (d:=As v u) (by rw[val_sub,fu,fv];grind) (by rw[val_sub,gu,gv];grind);obtain⟨r,hr⟩:=along hc (d:=As x u) (by rw[val_sub,fu,fx];grind) (by rw[val_sub,gu,gx];grind);rw[hs,hr];exact J4 (by simp only[AS,Aj];grind) (by simp only[AS,Aj];grind) (by simp only[AS,Aj];grind)
 constructor
 ·rcases line u' JC tf.1 tg.1 with a|a
  ·exact a.symm
  ·rw[a] at h0';grind
 ·rcases line v' Im tf.2 tg.2 with a|a
  ·rw[a] at h1';grind
  ·exact a.symm
theorem oY{w:Q3}(hu:Ba M u)(hv:Ba M v)(hw:Ba M w)(h0:val h u<0)(h1:0<val h v):FC h u v≠w:=λe=>by
 have t:=PM (x:=val h u) (y:=val h v)<|Jt.2<| .inl ⟨h0,h1⟩
 have:=eF hw hu.1 hv.1 t.1 t.2.1 e.symm;rw[this] at h0;grind
def afw(I:C9 S M)(hp:Ba (h::M) p):Ba M p\/∃u v,Ba M u/\Ba M v/\val h u<0/\0<val h v/\p=FC h u v/\∃f∈S,∃g∈S,f.1≠g.1/\val f.1 u=0/\val f.1 v=0/\val g.1 u=0/\val g.1 v=0:=by
 rcases mP I.bdd hp with h1|⟨hz,u,v,hu,hv,ho,e,ht,f,mf,g,mg,tf,tg,hc⟩
 ·exact .inl h1
 ·right;have hm:Mem M p:=λk mk=>hp.1 k<|Bi _ mk
  obtain⟨f1,m1,t1⟩:=I.cover p hm ⟨f,mf,tf⟩;have two:∃f2∈S,f2.1≠f1.1/\val f2.1 p=0:=by
   rcases indep (I.nz _ (I.Ea f1 m1).1) hc with c|c
   ·exact uG I hm m1 t1 mf tf c
   ·exact uG I hm m1 t1 mg tg c
  obtain⟨f2,m2,ne,t2⟩:=two;have a1:=ht _ (I.Ea f1 m1).1 t1;have a2:=ht _ (I.Ea f2 m2).1 t2;rcases Jt.1 ho with⟨x,y⟩|⟨x,y⟩
  ·exact⟨u,v,hu,hv,x,y,e,f2,m2,f1,m1,ne,a2.1,a2.2,a1.1,a1.2⟩
  ·exact⟨v,u,hv,hu,y,x,by rw[e];exact xM ho,f2,m2,f1,m1,ne,a2.2,a2.1,a1.2,a1.1⟩
end
section
variable{l a:A3 Int}{n:Nat}{x:Int}{b:A3 Int}{u0 v0 v1:Int}{j:Nat}{w:A3 Int}{U2 q:Int}{k i:Nat}
abbrev BT:Int:=1000000000
def AF:A3 Int->Int
 |[]=>0
 |x::l=>x+BT*AF l
def CJ(l:A3 Int):Prop:=∀x∈l,0<=x/\x<BT
def B3(n:Nat):Int:=BT^n
def T8:B3 0=1:=rfl
def JK(n:Nat):B3 (n+1)=BT*B3 n:=by unfold B3;rw[Int.pow_succ,D8]
def N5:∀n,0<B3 n
 |0=>by rw[T8];omega
 |n+1=>by rw[JK];have:=N5 n;unfold BT;omega
def eP(m n:Nat):B3 (m+n)=B3 m*B3 n:=by unfold B3;rw[Int.pow_add]
def MQ(x:Int)(l:A3 Int):AF (x::l)=x+BT*AF l:=rfl
def Qz:∀(l m:A3 Int),AF (l++m)=AF l+B3 l.length*AF m
 |[],m=>by simp[AF,T8]
 |x::l,m=>by
  rw[Q9,MQ,MQ,Qz l m,DF,JK,BZ,DO];omega
def fB:CJ []:=by intro x h;cases h
def dr:CJ (x::l)↔(0<=x/\x<BT)/\CJ l:=by
 unfold CJ;simp only[Ag,forall_eq_or_imp]
def c8{m:A3 Int}:CJ (l++m)↔CJ l/\CJ m:=by
 unfold CJ;constructor
 ·exact λh=>⟨λx hx=>h x<|G3 _ hx,λx hx=>h x<|PA _ hx⟩
 ·rintro⟨h1,h2⟩ x hx;rcases BR.1 hx with h|h
  ·exact h1 x h
  ·exact h2 x h
def Lu(h:CJ l)(n:Nat):CJ (l.take n):=λx hx=>h x<|OA hx
def T9(h:CJ l)(n:Nat):CJ (l.drop n):=λx hx=>h x<|QC hx
def Gs(h:CJ l)(n:Nat):0<=l.getD n 0/\l.getD n 0<BT:=by
 by_cases hn:n<l.length
 ·have:l.getD n 0=l[n]:=by simp[Eo,hn]
  rw[this];exact h _<|Kg hn
 ·have:l.getD n 0=0:=by simp[Eo,hn]
  rw[this];unfold BT;omega
def kN(n:Nat):CJ (List.replicate n 0):=λx hx=>by
 rw[(List.mem_replicate.1 hx).2];unfold BT;omega
def YP(h:CJ l)(n:Nat)(hx:0<=x/\x<BT):CJ (l.set n x):=λy hy=>by
 rcases List.mem_or_eq_of_mem_set hy with h'|h'
 ·exact h y h'
 ·subst h';exact hx
def sB:∀n,AF (List.replicate n 0)=0
 |0=>rfl
 |n+1=>by rw[List.replicate_succ,MQ,sB n];omega
def Ee:∀{l:A3 Int},CJ l->0<=AF l/\AF l<B3 l.length
 |[],_=>by simp[AF,T8]
 |x::l,h=>by
  rw[dr] at h;obtain⟨h1,h2⟩:=Ee h.2;rw[MQ,DF,JK];have:=h.1;unfold BT at*;omega
def UO(h:n<l.length):AF (l.take<|n+1)=AF (l.take n)+B3 n*l.getD n 0:=by
 rw[an h,Qz,DI,Dt (by omega)];simp[AF]
def R4(l:A3 Int)(n:Nat)(h:n<=l.length):AF l=AF (l.take n)+B3 n*AF (l.drop n):=by
 conv=>lhs;rw[<-OC n l]
 rw[Qz,DI,Dt h]
def Sy:∀{l:A3 Int},CJ l->l≠[]->l.getLast?≠some 0->B3 (l.length-1)<=AF l
 |[],_,h,_=>absurd rfl h
 |[x],h,_,hl=>by
  rw[dr] at h;have:x≠0:=λe=>hl (by rw[e];rfl)
  simp[AF,T8];omega
 |x::y::l,h,_,hl=>by
  rw[dr] at h;have:=Sy (l:=y::l) h.2 (by simp) (by simpa using hl);rw[MQ,show(x::y::l).length-1=(y::l).length-1+1 from by simp,JK];have:=h.1;unfold BT at*;omega
def FR(w:A3 Int):Prop:=CJ w/\w.getLast?≠some 0
def FR.nil:FR []:=⟨fB,by simp⟩
def FR.len(h:FR w)(hv:AF w<B3 n):w.length<=n:=by
 by_cases h0:w=[]
 ·subst h0;simp
 ·have h1:=Sy h.1 h0 h.2;rcases Gh n w.length with h2|h2
  ·have:B3 n<=B3 (w.length-1):=by
    obtain⟨k,hk⟩:∃k,w.length-1=n+k:=⟨w.length-1-n,by omega⟩;rw[hk,eP];have a:=N5 n;have b:=N5 k;have:B3 n*1<=B3 n*B3 k:=ET (by omega) (by omega);omega
   omega
  ·exact h2
def xf(h:n<l.length):AF l=AF (l.take n)+B3 n*(l.getD n 0+BT*AF (l.drop<|n+1)):=by
 rw[R4 l n (by omega)]
 congr 2
 rw[Rq h,MQ]
 congr 1
 simp[Eo,h]
def wL{m:Nat}(h:m<=n):B3 m<=B3 n:=by
 obtain⟨k,rfl⟩:∃k,n=m+k:=⟨n-m,by omega⟩;rw[eP];have a:=N5 m;have b:=N5 k;have:B3 m*1<=B3 m*B3 k:=ET (by omega) (by omega);omega
def c6(ha:CJ a)(hb:FR b)(h:a.length<b.length):AF a<AF b:=by
 have h1:=(Ee ha).2;have h2:=Sy hb.1 (by intro e;subst e;simp at h) hb.2;have h3:=wL (show a.length<=b.length-1 by omega);omega
def Hx(l:A3 Int)(n:Nat):AF (l.take<|n+1)=AF (l.take n)+B3 n*l.getD n 0:=by
 rcases Gh n l.length with h|h
 ·exact UO h
 ·rw[Rr h,CB (by omega),CB h];omega
def acq(h:AF (l.drop n)=0)(hk:CJ l){m:Nat}(hm:n<=m):l.getD m 0=0:=by
 have key:∀(l:A3 Int) (j:Nat),CJ l->AF l=0->l.getD j 0=0:=by
  intro l
  induction l with
  |nil=>intro j _ _;simp
  |cons x l ih=>
   intro j hk hv;rw[dr] at hk;rw[MQ] at hv;have h1:=(Ee hk.2).1;have hx:=hk.1;unfold BT at*;cases j with
   |zero=>simp;omega
   |succ j=>simpa using ih j hk.2 (by omega)
 have:=key (l.drop n) (m-n) (T9 hk n) h;simpa[Eo,P8,show n+(m-n)=m by omega] using this
def al8{r:Int}(e:q*v1+r=U2)(h:BT*r+u0<q*v0):(u0+BT*U2)+1<=q*(v0+BT*v1):=by
 rw[BZ,F5 q BT v1,<-e,BZ];omega
def al9{r:Int}(e:q*v1+r=U2)(hr:r<v1)(hu:u0<BT)(hq:0<=q)(hv:0<=v0):(u0+BT*U2)+1<=(q+1)*(v0+BT*v1):=by
 rw[BZ,F5 _ BT v1,<-e,Gg q 1 v1,G2];have:0<=(q+1)*v0:=Kd (by omega) hv;unfold BT at*;omega
def alA{R P UL VL:Int}(e:q*v1+R=U2)(hq:0<=q/\q<BT)(hR:0<=R)(HL:0<=v0/\v0<BT)(hu0:0<=u0)(hv1:BT<=2*v1)(h:BT<=R\/q*v0<=BT*R+u0)
 (hP:0<P)(hU:0<=UL)(hV:VL<P)(hV0:0<=VL):(q-1)*(VL+P*(v0+BT*v1))<=UL+P*(u0+BT*U2):=by
 have hY:q*(v0+BT*v1)<=u0+BT*U2:=by
  rw[BZ,F5 q BT v1,<-e,BZ];have:q*v0<=BT*R+u0:=by
   rcases h with h|h
   ·have:q*v0<=(BT-1)*(BT-1):=P3 (by omega) (by omega) HL.1 (by unfold BT;omega);unfold BT at*;omega
   ·exact h
  omega
 have h1:=ET hY<|Ds hP
 have h2:q*VL<=BT*P:=P3 (by omega) (by omega) hV0 (by unfold BT;omega);have h3:P*BT<=P*(v0+BT*v1):=ET (by unfold BT at*;omega)<|Ds hP
 rw[Rk,G2,BZ q,F5 q P];rw[D8 P BT] at h3;omega
def amb{u1 u2 P UL VL:Int}(hP:0<P)(hU:0<=UL)(hu0:0<=u0)(hu1:0<=u1)(hV:VL<P)(HL:v0<BT)(h:UL+P*(u0+BT*(u1+BT*u2))<BT*(VL+P*(v0+BT*v1))):u2<=v1:=by
 rcases(show v1<u2\/u2<=v1 by omega) with h'|h'
 ·exfalso;have h1:BT*(v0+BT*v1+1)<=u0+BT*(u1+BT*u2):=by unfold BT at*;omega
  have h2:=ET h1<|Ds hP
  rw[F5 P BT,BZ P _ 1,Jv] at h2;rw[BZ BT VL] at h;rw[BZ BT _ P] at h2;have h3:BT*VL<=BT*P:=ET (by omega) (by unfold BT;omega);omega
 ·exact h'
def agN(h:l.length=k+3):AF l=AF (l.take k)+B3 k*(l.getD k 0+BT*(l.getD (k+1) 0+BT*l.getD (k+2) 0)):=by
 have h1:AF (l.take<|k+3)=AF l:=by rw[CB (by omega)]
 rw[<-h1,Hx,Hx,Hx,JK<|k+1,JK,BZ,BZ,BZ,F5 (B3 k) BT,F5 (B3 k) BT,F5 (B3 k) BT,DO,DO,DO];omega
def agO(h:l.length=k+2):AF l=AF (l.take k)+B3 k*(l.getD k 0+BT*l.getD (k+1) 0):=by
 have h1:AF (l.take<|k+2)=AF l:=by rw[CB (by omega)]
 rw[<-h1,Hx,Hx,JK,BZ,F5 (B3 k) BT,DO];omega
def uh(h:CJ l)(hl:n<=l.length)(hv:AF l<B3 n):AF (l.drop n)=0:=by
 have h1:=R4 l n hl;have h2:=(Ee<|T9 h n).1;have h3:=(Ee<|Lu h n).1;rcases(show AF (l.drop n)=0\/1<=AF (l.drop n) by omega) with h4|h4
 ·exact h4
 ·have:=ET h4 (Ds<|N5 n);omega
def div_pos{y:Int}(hx:0<=x)(hy:0<y)(hb:x<=9223372036854775807):GF x y=some (x/y):=by
 unfold GF;rw[BH (by omega),Int.tdiv_eq_ediv_of_nonneg hx];have h1:=Ke hx<|Ds hy
 have h2:=Rh y hx;exact Ad ⟨by omega,by omega⟩
def T7(ha:CJ a)(hl:a.length<1099511627776):Yd (λw=>FR w/\AF w=AF a/\w.length<=a.length) (Oe a):=by
 unfold Oe;refine Yd.lp (λs:A3 Int=>CJ s/\AF s=AF a/\s.length<=a.length) (λs=>s.length) ?_ _ _ ⟨ha,rfl,Az _⟩ (by omega);rintro next s ⟨h1,h2,h3⟩ hn
 refine Yd.Aa (λhg=>?_)<|λhg=>?_
 ·have hs:(0:Int)<s.length:=AZ hg;obtain⟨n,Gc⟩:∃n,s.length=n+1:=⟨s.length-1,by omega⟩;have e1:(s.length:Int)-1=(n:Int):=by omega
  rw[e1];refine⟨(n:Int),Ad ⟨by omega,by omega⟩,Yd.Aa (λ_=>⟨s.getD n 0,BN (by omega),Yd.cond (λhc=>?_)<|λhc=>?_⟩) (λh=>by rw[hg] at h;cases h)⟩
  ·obtain⟨_,hz⟩:=DQ hc;have hz:=AZ hz;refine Yd.bd (Ad ⟨by omega,by omega⟩) (Yd.bd (EO (by omega) (by omega) (by omega)) ?_);have e:(s.take ((n:Nat):Int).toNat).drop (0:Int).toNat=s.take n:=by simp
   rw[e];have hv:AF s=AF (s.take n):=by
    have:=UO (l:=s) (n:=n) (by omega);rw[hz,Ra,VH,CB (by omega)] at this;exact this
   exact hn _ ⟨Lu h1 n,by rw[<-hv];exact h2,by simp;omega⟩ (by simp;omega)
  ·refine Yd.mk ⟨⟨h1,?_⟩,h2,h3⟩;rw[Ab hs,JO] at hc;have hz:=Ay hc;have e:s=s.take n++[s.getD n 0]:=by rw[<-an (by omega),CB (by omega)]
   rw[e];simpa using hz
 ·have hs: ¬(0:Int)<s.length:=Ay hg;have hs:s=[]:=JS (by omega);subst hs;exact Yd.Aa (λh=>by rw[hg] at h;cases h) (λ_=>Yd.cond (λhc=>by simp at hc)<|λ_=>Yd.mk ⟨FR.nil,h2,h3⟩)
def Er(p:Bool×A3 Int)(z:Int):Prop:=FR p.2/\AF p.2=(z.natAbs:Int)/\p.1=decide (z<0)
def FR.pos(h:FR w)(h0:w≠[]):0<AF w:=by
 have:=Sy h.1 h0 h.2;have:=N5<|w.length-1
 omega
def uQ{b:Bool}(ha:CJ a)(hl:a.length<1099511627776):Yd (λp=>Er p (bif b then -AF a else AF a)/\p.2.length<=a.length) (KT b a):=by
 unfold KT;refine Yd.Ak (T7 ha hl) λw ⟨h1,h2,h3⟩=>Yd.mk ⟨⟨h1,?_,?_⟩,h3⟩
 ·have:=(Ee h1.1).1;rw[<-h2];cases b
  ·show AF w=((AF w).natAbs:Int);omega
  ·show AF w=((-AF w).natAbs:Int);omega
 ·have hz:=(Ee h1.1).1;by_cases hw:w=[]
  ·subst hw;have:AF a=0:=h2.symm;rw[this];cases b<;>rfl
  ·have hp:=h1.pos hw;have hlw:0<w.length:=Vb.2 hw;rw[<-h2];cases b
   ·have e2:decide (AF w<0)=false:=BH (by omega);show false=decide (AF w<0);rw[e2]
   ·show(true&&decide ((0:Int)<w.length))=decide (-AF w<0);have e1:decide ((0:Int)<w.length)=true:=Ab (by omega);have e2:decide (-AF w<0)=true:=Ab (by omega);rw[e1,e2];rfl
def rM(ha:FR a)(hb:FR b)(hla:a.length<4398046511104)(hlb:b.length<4398046511104):
  Yd (λr=>(r= -1/\AF a<AF b)\/(r=0/\AF a=AF b)\/(r=1/\AF b<AF a)) (Wh a b):=by
 unfold Wh;refine Yd.cond (λhc=>Yd.cond (λhd=>?_)<|λhd=>?_)<|λhc=>?_
 ·have hd:=AZ hd;exact Yd.mk (.inl ⟨rfl,c6 ha.1 hb (by omega)⟩)
 ·have hd:=Ay hd;rw[F6,HB] at hc;exact Yd.mk (.inr (.inr ⟨rfl,c6 hb.1 ha (by omega)⟩))
 ·rw[VZ,Ev] at hc;have hl:a.length=b.length:=by omega
  refine Yd.bd (Ad ⟨by omega,by omega⟩) ?_;refine Yd.lp (λs:Int=> -1<=s/\s<a.length/\a.drop (s+1).toNat=b.drop (s+1).toNat) (λs:Int=>(s+1).toNat) ?_ _ _ ⟨by omega,by omega,?_⟩ (by omega)
  ·rintro next s ⟨h0,h1,h2⟩ hn
   refine Yd.cond (λhp=>?_)<|λhp=>?_
   ·have hp:=AZ hp;obtain⟨n,rfl⟩:=ER hp;have en:(((n:Nat):Int)+1).toNat=n+1:=by omega
    rw[en] at h2;have gA:A8 a (n:Int)=some (a.getD n 0):=BN (by omega);have gB:A8 b (n:Int)=some (b.getD n 0):=BN (by omega);refine Yd.bd gA<|Yd.bd gB ?_
    have eA:=xf (l:=a) (n:=n) (by omega);have eB:=xf (l:=b) (n:=n) (by omega);rw[h2] at eA;obtain⟨tA0,tA⟩:=Ee<|Lu ha.1 n
    obtain⟨tB0,tB⟩:=Ee<|Lu hb.1 n
    rw[DI,Dt (by omega)] at tA tB;have hpw:=N5 n;have dA:=Nk (l:=a) (n:=n) (by omega);have dB:=Nk (l:=b) (n:=n) (by omega)
    generalize a.getD n 0=X at*
    generalize b.getD n 0=Y at*
    have eA':AF a=AF (a.take n)+B3 n*X+B3 n*(BT*AF (b.drop<|n+1)):=by rw[eA,BZ];omega
    have eB':AF b=AF (b.take n)+B3 n*Y+B3 n*(BT*AF (b.drop<|n+1)):=by rw[eB,BZ];omega
    refine Yd.cond (λhlt=>?_)<|λhlt=>Yd.bd gA<|Yd.bd gB<|Yd.cond (λhgt=>?_)<|λhgt=>?_
    ·have hlt:=AZ hlt;have:B3 n*(X+1)<=B3 n*Y:=ET (by omega) (by omega);rw[BZ,Jv] at this;exact Yd.mk (.inl ⟨rfl,by omega⟩)
    ·have hgt:=AZ hgt;have:B3 n*(Y+1)<=B3 n*X:=ET (by omega) (by omega);rw[BZ,Jv] at this;exact Yd.mk (.inr (.inr ⟨rfl,by omega⟩))
    ·have hlt:=Ay hlt;have hgt:=Ay hgt;have hx:X=Y:=by omega
     refine Yd.bd (Ad ⟨by omega,by omega⟩) (hn _ ⟨by omega,by omega,?_⟩ (by omega));have:(((n:Nat):Int)-1+1).toNat=n:=by omega
     rw[this,dA,dB,hx,h2]
   ·have hp:=Ay hp;have:s= -1:=by omega
    subst this;exact Yd.mk (.inr (.inl ⟨rfl,by simpa using congrArg AF h2⟩))
  ·have:((a.length:Int)-1+1).toNat=a.length:=by omega
   rw[this,Ri,hl,Ri]
def lg:Ud a (n:Int)=some (a.getD n 0):=by
 unfold Ud;by_cases h:n<a.length
 ·rw[Ab (by omega)];show bd (A8 a (n:Int)) _=_;rw[BN h];rfl
 ·rw[BH (by omega),Rr (by omega)];rfl
def Zq(h:l.length<1099511627776):BC 8 l [x]=some (l++[x]):=by
 unfold BC;rw[LN,Ab (by omega),Ab (by omega)];rfl
def adk(ha:CJ a)(hb:CJ b)(hla:a.length<4398046511)(hlb:b.length<4398046511):Yd (λw=>CJ w/\AF w=AF a+AF b/\w.length<=max a.length b.length+1) (aO a b):=by
 unfold aO;refine Yd.lp (λs:A3 Int×Int×Int=>CJ s.1/\(s.2.1=0\/s.2.1=1)/\s.2.2=s.1.length/\s.1.length<=max a.length b.length+1/\(s.1.length=max a.length b.length+1->s.2.1=0)/\
   AF s.1+B3 s.1.length*s.2.1=AF (a.take s.1.length)+AF (b.take s.1.length)) (λs=>max a.length b.length+1-s.1.length) ?_ _ _ ⟨fB,.inl rfl,rfl,by simp,λ_=>rfl,by simp[AF]⟩ (by dsimp only;simp;omega)
 rintro next ⟨o,c,i⟩ ⟨h1,h2,h3,h4,h5,h6⟩ hn
 dsimp only at h1 h2 h3 h4 h5 h6 hn⊢;subst h3;refine Yd.cond (λhc=>?_)<|λhc=>?_
 ·obtain⟨xa,xb⟩:=Gs ha o.length;obtain⟨ya,yb⟩:=Gs hb o.length;have hlt:o.length<=max a.length b.length:=by
   rcases Gh (max a.length b.length) o.length with h|h
   ·have:=h5 (by omega);rw[Kf,Kf,Ev,Ev,Ev] at hc;omega
   ·exact h
  have hz:o.length=max a.length b.length->a.getD o.length 0=0/\b.getD o.length 0=0:=λh=>⟨Rr (by omega),Rr (by omega)⟩
  have hS:0<=a.getD o.length 0+b.getD o.length 0+c/\a.getD o.length 0+b.getD o.length 0+c<2000000000:=by unfold BT at*;omega
  refine Yd.bd lg (Yd.bd lg (Yd.bd (Ad ⟨by omega,by unfold BT at*;omega⟩) (Yd.bd (Ad ⟨by omega,by omega⟩) (Yd.bd (Q1 hS.1 (by omega)) (Yd.bd (Zq (by omega)) (Yd.bd (div_pos hS.1 (by omega) (by omega)) (Yd.bd (Ad ⟨by omega,by omega⟩)<|hn _ ⟨?_,?_,?_,?_,?_,?_⟩ ?_)))))))
  ·rw[c8];exact⟨h1,λx hx=>by rw[Be] at hx;subst hx;unfold BT;omega⟩
  ·dsimp only;omega
  ·dsimp only;rw[List.length_append,List.length_singleton];omega
  ·dsimp only;rw[List.length_append,List.length_singleton];omega
  ·dsimp only;rw[List.length_append,List.length_singleton];intro h;have:=hz (by omega);omega
  ·dsimp only;rw[List.length_append,List.length_singleton,Qz,Hx,Hx,JK];have e:AF [(a.getD o.length 0+b.getD o.length 0+c)%1000000000]=(a.getD o.length 0+b.getD o.length 0+c)%1000000000:=by simp[AF]
   rw[e,D8 BT,DO,<-Int.add_assoc]
   generalize a.getD o.length 0=X at*
   generalize b.getD o.length 0=Y at*
   have hd:X+Y+c=(X+Y+c)%1000000000+BT*((X+Y+c)/1000000000):=by unfold BT;omega
   have:B3 o.length*((X+Y+c)%1000000000)+B3 o.length*(BT*((X+Y+c)/1000000000))=B3 o.length*X+B3 o.length*Y+B3 o.length*c:=by
    rw[<-BZ,<-BZ,<-BZ,<-hd]
   omega
  ·dsimp only;rw[List.length_append,List.length_singleton];omega
 ·rw[LL,LL,HB,HB,HB] at hc;have hc0:c=0:=by omega
  subst hc0;refine Yd.mk ⟨h1,?_,h4⟩;rw[CB (by omega),CB (by omega)] at h6;omega
def sk(ha:CJ a)(hb:CJ b)(hl:b.length<=a.length)(hla:a.length<4398046511)(hv:AF b<=AF a):Yd (λw=>FR w/\AF w=AF a-AF b/\w.length<=a.length) (Wr a b):=by
 unfold Wr;refine Yd.lp (λs:A3 Int×Int×Int=>CJ s.1/\(s.2.1=0\/s.2.1=1)/\s.2.2=s.1.length/\s.1.length<=a.length/\
   AF s.1=AF (a.take s.1.length)-AF (b.take s.1.length)+B3 s.1.length*s.2.1) (λs=>a.length-s.1.length) ?_ _ _ ⟨fB,.inl rfl,rfl,by simp,by simp[AF]⟩ (by dsimp only;simp;omega)
 rintro next ⟨o,c,i⟩ ⟨h1,h2,h3,h4,h5⟩ hn
 dsimp only at h1 h2 h3 h4 h5 hn⊢;subst h3;refine Yd.cond (λhc=>?_)<|λhc=>?_
 ·have hc:=AZ hc;obtain⟨xa,xb⟩:=Gs ha o.length;obtain⟨ya,yb⟩:=Gs hb o.length;refine Yd.bd (BN (by omega)) (Yd.bd lg (Yd.bd (Ad ⟨by unfold BT at*;omega,by unfold BT at*;omega⟩) (Yd.bd (Ad ⟨by unfold BT at*;omega,by unfold BT at*;omega⟩) ?_)));have step:∀d x:Int,(d=0\/d=1)->0<=x->x<1000000000->x=a.getD o.length 0-b.getD o.length 0-c+BT*d->Yd (λw=>FR w/\AF w=AF a-AF b/\w.length<=a.length) (bd (BC 8 o [x]) λBW=>bd (AE<|(o.length:Int)+1) λBg=>next (BW,d,Bg)):=by
   intro d x hd L1 hx1 hx;refine Yd.bd (Zq (by omega)) (Yd.bd (Ad ⟨by omega,by omega⟩)<|hn _ ⟨?_,hd,?_,?_,?_⟩ ?_)
   ·rw[c8];exact⟨h1,λy hy=>by rw[Be] at hy;subst hy;unfold BT;omega⟩
   ·dsimp only;rw[List.length_append,List.length_singleton];omega
   ·dsimp only;rw[List.length_append,List.length_singleton];omega
   ·dsimp only;rw[List.length_append,List.length_singleton,Qz,Hx,Hx,JK,h5];have e:AF [x]=x:=by simp[AF]
    rw[e,D8 BT,DO,hx]
    generalize a.getD o.length 0=X at*
    generalize b.getD o.length 0=Y at*
    have:B3 o.length*(X-Y-c+BT*d)=B3 o.length*X-B3 o.length*Y-B3 o.length*c+B3 o.length*(BT*d):=by
     rw[BZ,He,He]
    omega
   ·dsimp only;rw[List.length_append,List.length_singleton];omega
  refine Yd.jn (λp:Int×Int=>(p.1=0\/p.1=1)/\0<=p.2/\p.2<1000000000/\p.2=a.getD o.length 0-b.getD o.length 0-c+BT*p.1) (λp hp=>step p.1 p.2 hp.1 hp.2.1 hp.2.2.1 hp.2.2.2) λk hk=>Yd.cond (λhd=>?_)<|λhd=>?_
  ·have hd:=AZ hd;refine Yd.bd (Ad ⟨by unfold BT at*;omega,by unfold BT at*;omega⟩) (hk _ ⟨.inr rfl,?_,?_,?_⟩)<;>(dsimp only;unfold BT at*;omega)
  ·have hd:=Ay hd;refine hk _ ⟨.inl rfl,?_,?_,?_⟩<;>(dsimp only;unfold BT at*;omega)
 ·have hc:=Ay hc;have hlen:o.length=a.length:=by omega
  rw[CB (by omega),CB (by omega)] at h5;obtain⟨z1,z2⟩:=Ee h1;have hc0:c=0:=by
   rcases h2 with h|h
   ·exact h
   ·subst h;omega
  subst hc0;refine Yd.Ak (T7 h1 (by omega)) λw ⟨g1,g2,g3⟩=>Yd.mk ⟨g1,by rw[g2,h5];omega,by omega⟩
def tL{d:Int}(ha:CJ a)(hd:0<d/\d<1000000000)(hl:a.length<1099511627776):Yd (λp=>FR p.1/\AF p.1=AF a/d/\p.2=AF a%d/\p.1.length<=a.length) (Wy a d):=by
 unfold Wy;refine Yd.bd (PO (by omega) (by omega) (by omega)) (Yd.bd (Ad ⟨by omega,by omega⟩) ?_);refine Yd.lp (λs:A3 Int×Int×Int=>CJ s.1/\s.1.length=a.length/\(0<=s.2.1/\s.2.1<d)/\ -1<=s.2.2/\s.2.2<a.length/\AF (a.drop (s.2.2+1).toNat)=AF (s.1.drop (s.2.2+1).toNat)*d+s.2.1) (λs=>(s.2.2+1).toNat) ?_ _ _
  ⟨kN _,by simp only[NJ];omega,⟨by dsimp only;omega,by dsimp only;omega⟩,by dsimp only;omega,by dsimp only;omega,?_⟩ (by dsimp only;omega)
 rotate_left
 ·have e:((a.length:Int)-1+1).toNat=a.length:=by omega
  dsimp only;rw[e,Ri,MZ (by simp only[NJ];omega)];simp[AF]
 rintro next ⟨o,r,i⟩ ⟨h1,h2,⟨h3,h3'⟩,h4,h5,h6⟩ hn
 dsimp only at h1 h2 h3 h3' h4 h5 h6 hn⊢;refine Yd.cond (λhc=>?_)<|λhc=>?_
 ·have hc:=AZ hc;obtain⟨n,rfl⟩:=ER hc;have en:(((n:Nat):Int)+1).toNat=n+1:=by omega
  rw[en] at h6;obtain⟨xa,xb⟩:=Gs ha n;have hx:0<=r*1000000000+a.getD n 0/\r*1000000000+a.getD n 0<d*1000000000:=by unfold BT at*;omega
  have hq0:=Ke hx.1<|Ds hd.1
  have hq1:(r*1000000000+a.getD n 0)/d<1000000000:=by
   apply Yn hd.1;omega
  have KJ:=LI (r*1000000000+a.getD n 0) (show d≠0 by omega);have hr1:=Kj (r*1000000000+a.getD n 0) hd.1;refine Yd.bd (Ad ⟨by omega,by omega⟩) (Yd.bd (BN (by omega)) (Yd.bd (Ad ⟨by omega,by omega⟩) (Yd.bd (div_pos hx.1 hd.1 (by omega)) (Yd.bd (BN (by omega)) (Yd.bd (BN (by omega)) (Yd.bd (Q1 hx.1 hd.1) (Yd.bd (Ad ⟨by omega,by omega⟩) (hn _ ⟨YP h1 _ ⟨hq0,hq1⟩,by simpa using h2,⟨KJ,hr1⟩,by dsimp only;omega,by dsimp only;omega,?_⟩ ?_))))))))
  ·dsimp only;have e2:(((n:Nat):Int)-1+1).toNat=n:=by omega
   rw[e2,CA,bT (by omega),Nk (show n<a.length by omega),MQ,MQ,h6];have hdm:=Int.mul_ediv_add_emod (r*1000000000+a.getD n 0) d
   generalize (r*1000000000+a.getD n 0)/d=q at*
   generalize (r*1000000000+a.getD n 0)%d=m at*
   rw[Gg,BZ,DO BT,D8 q d];unfold BT;omega
  ·dsimp only;omega
 ·have hc:=Ay hc;have:i= -1:=by omega
  subst this;have h6:AF a=AF o*d+r:=by simpa using h6
  refine Yd.Ak (T7 h1 (by omega)) λw ⟨g1,g2,g3⟩=>Yd.mk ⟨g1,?_,?_,by dsimp only;omega⟩
  ·dsimp only;rw[g2];exact(Xf h6 h3 h3').1
  ·exact(Xf h6 h3 h3').2
def kL(ha:CJ a)(hb:CJ b)(hla:a.length<4398046511)(hlb:b.length<4398046511):Yd (λw=>FR w/\AF w=AF a*AF b/\w.length<=a.length+b.length) (UB a b):=by
 unfold UB;refine Yd.bd (Ad ⟨by omega,by omega⟩) (Yd.bd (PO (by omega) (by omega) (by omega)) ?_);refine Yd.lp (λs:A3 Int×Int=>CJ s.1/\s.1.length=a.length+b.length/\0<=s.2/\s.2<=a.length/\(∀m,s.2.toNat+b.length<=m->s.1.getD m 0=0)/\AF (s.1.take<|s.2.toNat+b.length)=AF (a.take s.2.toNat)*AF b)
  (λs:A3 Int×Int=>a.length-s.2.toNat) ?_ _ _ ⟨kN _,by simp only[NJ];omega,by dsimp only;omega,by dsimp only;omega,λm _=>nC,?_⟩ (by dsimp only;omega)
 rotate_left
 ·dsimp only;rw[Yl,sB];simp[AF]
 rintro next ⟨o,i⟩ ⟨h1,h2,h3,h4,hz,h5⟩ hn
 simp only at h1 h2 h3 h4 hz h5 hn⊢;obtain⟨n,rfl⟩:=ER h3;simp only[CA,M7] at*;refine Yd.cond (λhc=>?_)<|λhc=>?_
 ·have hc:=AZ hc;refine Yd.lp (λs:A3 Int×Int×Int=>CJ s.1/\s.1.length=a.length+b.length/\(0<=s.2.1/\s.2.1<BT)/\0<=s.2.2/\s.2.2<=b.length/\s.1.drop (n+s.2.2.toNat)=o.drop (n+s.2.2.toNat)/\
    AF (s.1.take<|n+s.2.2.toNat)+B3 (n+s.2.2.toNat)*s.2.1=AF (o.take<|n+s.2.2.toNat)+B3 n*(a.getD n 0*AF (b.take s.2.2.toNat)))
   (λs:A3 Int×Int×Int=>b.length-s.2.2.toNat) ?_ _ _ ⟨h1,h2,⟨by dsimp only;omega,by dsimp only;unfold BT;omega⟩,by dsimp only;omega,by dsimp only;omega,rfl,by simp[AF]⟩ (by dsimp only;omega)
  rintro FN ⟨p,c,j⟩ ⟨g1,g2,g3,g4,g5,g6,g7⟩ Io;simp only at g1 g2 g3 g4 g5 g6 g7 Io⊢;obtain⟨m,rfl⟩:=ER g4;simp only[CA,M7] at*;have eo:p.getD (n+m) 0=o.getD (n+m) 0:=by
   have:=congrArg (λl=>l.getD 0 0) g6;simpa[Eo,P8] using this
  refine Yd.cond (λhd=>?_)<|λhd=>?_
  ·have hd:=AZ hd;have enm:((n:Nat):Int)+((m:Nat):Int)=((n+m:Nat):Int):=by omega
   obtain⟨xa,xb⟩:=Gs ha n;obtain⟨ya,yb⟩:=Gs hb m;obtain⟨oa,ob⟩:=Gs g1<|n+m
   have Mi:a.getD n 0*b.getD m 0<=(BT-1)*(BT-1):=P3 (by omega) (by omega) ya (by unfold BT;omega);have ate:0<=a.getD n 0*b.getD m 0:=Kd xa ya;have hS:0<=p.getD (n+m) 0+a.getD n 0*b.getD m 0+c/\p.getD (n+m) 0+a.getD n 0*b.getD m 0+c<BT*BT:=by
    generalize a.getD n 0*b.getD m 0=q at*
    unfold BT at*;omega
   rw[enm];refine Yd.bd (Ad ⟨by omega,by omega⟩) (Yd.bd (BN (by omega)) (Yd.bd (BN (by omega)) (Yd.bd (BN (by omega)) (Yd.bd (BN (by omega)) (Yd.bd (Ad ⟨by omega,by unfold BT at*;omega⟩) (Yd.bd (Ad ⟨by omega,by unfold BT at*;omega⟩) (Yd.bd (Ad ⟨by omega,by unfold BT at*;omega⟩) (Yd.bd (Ad ⟨by omega,by omega⟩) (Yd.bd (Q1 hS.1 (by omega)) (Yd.bd (BN (by omega)) (Yd.bd (BN (by omega)) (Yd.bd (div_pos hS.1 (by omega) (by unfold BT at*;omega)) (Yd.bd (Ad ⟨by omega,by omega⟩) ?_)))))))))))));have hdm:p.getD (n+m) 0+a.getD n 0*b.getD m 0+c=(p.getD (n+m) 0+a.getD n 0*b.getD m 0+c)%1000000000+BT*((p.getD (n+m) 0+a.getD n 0*b.getD m 0+c)/1000000000):=by unfold BT;omega
   have hr:0<=(p.getD (n+m) 0+a.getD n 0*b.getD m 0+c)%1000000000/\(p.getD (n+m) 0+a.getD n 0*b.getD m 0+c)%1000000000<BT:=by unfold BT;omega
   have hq:0<=(p.getD (n+m) 0+a.getD n 0*b.getD m 0+c)/1000000000/\(p.getD (n+m) 0+a.getD n 0*b.getD m 0+c)/1000000000<BT:=by unfold BT at*;omega
   refine Io _ ⟨YP g1 _ hr,by simpa using g2,hq,by dsimp only;omega,by dsimp only;omega,?_,?_⟩ (by dsimp only;omega)
   ·have e:(((m:Nat):Int)+1).toNat=m+1:=by omega
    simp only[e,CA];rw[fg (by omega),<-KY];have:=congrArg (List.drop 1) g6;rwa [F4,F4] at this
   ·have e:(((m:Nat):Int)+1).toNat=m+1:=by omega
    simp only[e,CA];rw[<-KY,Hx,Gd<|Az _,Ge (by omega),Hx o,Hx b,<-eo,JK]
    generalize (p.getD (n+m) 0+a.getD n 0*b.getD m 0+c)%1000000000=R at*
    generalize (p.getD (n+m) 0+a.getD n 0*b.getD m 0+c)/1000000000=Q at*
    have k1:B3 n*(a.getD n 0*(AF (b.take m)+B3 m*b.getD m 0))=B3 n*(a.getD n 0*AF (b.take m))+B3 (n+m)*(a.getD n 0*b.getD m 0):=by
     rw[BZ,BZ,eP,F5 (a.getD n 0)<|B3 m,DO]
    have k2:B3 (n+m)*R+BT*B3 (n+m)*Q=B3 (n+m)*(a.getD n 0*b.getD m 0)+B3 (n+m)*p.getD (n+m) 0+B3 (n+m)*c:=by
     rw[D8 BT,DO,<-BZ,<-BZ,<-BZ]
     congr 1;omega
    rw[k1];omega
  ·have hd:=Ay hd;have Jl:m=b.length:=by omega
   subst Jl;have enm:((n:Nat):Int)+((b.length:Nat):Int)=((n+b.length:Nat):Int):=by omega
   have hz0:p.getD (n+b.length) 0=0:=by rw[eo];exact hz _<|Az _
   rw[enm];refine Yd.bd (Ad ⟨by omega,by omega⟩) (Yd.bd (Ad ⟨by omega,by omega⟩) (Yd.bd (BN (by omega)) (Yd.bd (BN (by omega)) (Yd.bd (Ad ⟨by omega,by unfold BT at*;omega⟩) (Yd.bd (BN (by omega)) (Yd.bd (BN (by omega)) (Yd.bd (Ad ⟨by omega,by omega⟩) ?_)))))));rw[hz0,Int.zero_add];refine hn _ ⟨YP g1 _ g3,by simpa using g2,by dsimp only;omega,by dsimp only;omega,?_,?_⟩ (by dsimp only;omega)
   ·intro m hm;have e:(((n:Nat):Int)+1).toNat=n+1:=by omega
    simp only[e,CA] at hm⊢;rw[getD_set_ne (by omega)];have:=congrArg (λl=>l.getD (m-(n+b.length)) 0) g6;have h':p.getD m 0=o.getD m 0:=by simpa[Eo,P8,show n+b.length+(m-(n+b.length))=m by omega] using this
    rw[h'];exact hz m (by omega)
   ·have e:(((n:Nat):Int)+1).toNat=n+1:=by omega
    simp only[e,CA];rw[show n+1+b.length=n+b.length+1 by omega,Hx,Gd<|Az _,Ge (by omega),g7,h5,Hx a,CB<|Az _,Gg,DO]
 ·have hc:=Ay hc;have Gc:n=a.length:=by omega
  subst Gc;refine Yd.Ak (T7 h1 (by omega)) λw ⟨q1,q2,q3⟩=>Yd.mk ⟨q1,?_,by omega⟩
  rw[q2];rw[CB (l:=o) (by omega),CB (l:=a) (by omega)] at h5;exact h5
def dU{u:A3 Int}(h:i<n):((u.drop j).take n).getD i 0=u.getD (j+i) 0:=by
 simp[Eo,QA,h,P8]
def Ef{α ρ:Type}{g:Bool}{d:α}{e:A6 α}{K:α->A6 ρ}(h:g=false):Aa g d e K=K d:=by subst h;rfl
def DC{α ρ:Type}{g:Bool}{d:α}{e:A6 α}{K:α->A6 ρ}(h:g=true):Aa g d e K=bd e K:=by subst h;rfl
def ags{u v:A3 Int}(hu:CJ u)(hv:CJ v)(L2:v.length=k+2)(Lf:j+(k+3)<=u.length)(hlen:u.length<4398046511)(WX:BT<=2*v.getD (k+1) 0)
 (hw:w=(u.drop j).take (k+3))(hlt:AF w<BT*AF v):
  Yd (λq=>(0<=q/\q<BT)/\(q-1)*AF v<=AF w/\AF w<(q+1)*AF v) (XJ u v (j:Int)):=by
 unfold XJ;have hwo:CJ w:=by rw[hw];exact Lu (T9 hu _) _
 have hwl:w.length=k+3:=by rw[hw,DI,H9];omega
 have eU:=agN hwl;have eV:=agO L2;obtain⟨bU0,bU1⟩:=Ee<|Lu hwo k
 obtain⟨bV0,bV1⟩:=Ee<|Lu hv k
 rw[DI,Dt (by omega)] at bU1 bV1;have hP:=N5 k;have hu0:=Gs hwo k;have hu1:=Gs hwo<|k+1
 have hu2:=Gs hwo<|k+2
 have HL:=Gs hv k;have hv1:=Gs hv<|k+1
 have w0:u.getD (j+k) 0=w.getD k 0:=by rw[hw,dU (by omega)]
 have w1:u.getD (j+(k+1)) 0=w.getD (k+1) 0:=by rw[hw,dU (by omega)]
 have w2:u.getD (j+(k+2)) 0=w.getD (k+2) 0:=by rw[hw,dU (by omega)]
 have hVP:0<=AF v:=(Ee hv).1;have hU0:0<=AF w:=(Ee hwo).1;have aaA:w.getD (k+2) 0<=v.getD (k+1) 0:=amb hP bU0 hu0.1 hu1.1 bV1 HL.2 (by rw[<-eU,<-eV];exact hlt);have e1:((v.length:Int)-1)=((k+1:Nat):Int):=by omega
 have e2:((v.length:Int)-2)=((k:Nat):Int):=by omega
 have e3:((j:Int)+(v.length:Int))=((j+(k+2):Nat):Int):=by omega
 have e4:(((j+(k+2):Nat):Int)-1)=((j+(k+1):Nat):Int):=by omega
 have e5:(((j+(k+2):Nat):Int)-2)=((j+k:Nat):Int):=by omega
 rw[e1,e2,e3];have i2:A8 u ((j+(k+2):Nat):Int)=some (w.getD (k+2) 0):=by rw[<-w2];exact BN (by omega)
 have i1:A8 u ((j+(k+1):Nat):Int)=some (w.getD (k+1) 0):=by rw[<-w1];exact BN (by omega)
 have i0:A8 u ((j+k:Nat):Int)=some (w.getD k 0):=by rw[<-w0];exact BN (by omega)
 have v1:A8 v ((k+1:Nat):Int)=some (v.getD (k+1) 0):=BN (by omega);have v0:A8 v ((k:Nat):Int)=some (v.getD k 0):=BN (by omega);clear w0 w1 w2 hw
 generalize w.getD (k+2) 0=U2 at*
 generalize w.getD (k+1) 0=U1 at*
 generalize w.getD k 0=U0 at*
 generalize v.getD (k+1) 0=V1 at*
 generalize v.getD k 0=V0 at*
 have hV1:0<V1:=by unfold BT at*;omega
 have hT:0<=U2*1000000000+U1/\U2*1000000000+U1<1000000000000000000:=by unfold BT at*;omega
 refine Yd.bd (Ad ⟨by omega,by omega⟩) (Yd.bd i2 (Yd.bd (Ad ⟨by omega,by unfold BT at*;omega⟩) (Yd.bd (Ad ⟨by omega,by omega⟩) ?_)));rw[e4];refine Yd.bd (Ad ⟨by omega,by omega⟩) (Yd.bd i1 (Yd.bd (Ad ⟨by omega,by omega⟩) (Yd.bd (Ad ⟨by omega,by omega⟩) (Yd.bd v1 (Yd.bd (div_pos hT.1 hV1 (by omega)) (Yd.bd (Ad ⟨by omega,by omega⟩)<|Yd.bd v1<|Yd.bd (Q1 hT.1 hV1) ?_))))));have ht0:=Ke hT.1<|Ds hV1
 have KJ:=LI (U2*1000000000+U1) (show V1≠0 by omega);have hr1:=Kj (U2*1000000000+U1) hV1;have hdm:=Int.mul_ediv_add_emod (U2*1000000000+U1) V1;have ht1:(U2*1000000000+U1)/V1<=1000000001:=by
  apply Int.le_of_lt_add_one;apply Yn hV1;have:(1000000001+1)*V1=1000000000*V1+2*V1:=by omega
  unfold BT at*;omega
 have ami:∀t r:Int,t*V1+r=U1+BT*U2->BT<=r->t<BT:=λt r e h=>by
  refine Int.lt_of_mul_lt_mul_right (a:=V1) ?_<|Ds hV1
  have:BT*U2<=BT*V1:=ET aaA (by unfold BT;omega);unfold BT at*;omega
 refine Yd.lp (λs:Int×Int=>(0<=s.1/\s.1<=1000000001)/\(0<=s.2/\s.2<BT)/\s.1*V1+s.2=U1+BT*U2/\AF w<(s.1+1)*AF v) (λs=>s.1.toNat) ?_ _ _ ⟨⟨ht0,ht1⟩,⟨KJ,by unfold BT at*;dsimp only;omega⟩,?_,?_⟩ (by dsimp only;omega)
 rotate_left
 ·dsimp only;rw[Int.mul_comm _ V1,hdm];unfold BT;omega
 ·dsimp only;have:=al9 (u0:=U0) (v0:=V0) (q:=(U2*1000000000+U1)/V1) (r:=(U2*1000000000+U1)%V1) (U2:=U1+BT*U2) (v1:=V1) (by rw[Int.mul_comm _ V1,hdm];unfold BT;omega) hr1 hu0.2 ht0 HL.1;have:=iC hP bU1 bV0 (show 0<=(U2*1000000000+U1)/V1+1 by omega) this;rw[<-eU,<-eV] at this;exact this
 clear ht0 KJ hr1 hdm ht1 hT;rintro next ⟨t,r⟩ ⟨⟨h1,h1'⟩,⟨h2,h2'⟩,h3,h4⟩ hn
 dsimp only at h1 h1' h2 h2' h3 h4 hn⊢;have fin:∀q R:Int,(0<=q/\q<BT)->0<=R->q*V1+R=U1+BT*U2->AF w<(q+1)*AF v->(BT<=R\/q*V0<=BT*R+U0)->Yd (λq=>(0<=q/\q<BT)/\(q-1)*AF v<=AF w/\AF w<(q+1)*AF v) (some q):=λq R hq hR e hup hh=>by
  refine Yd.mk ⟨hq,?_,hup⟩;have:=alA (P:=B3 k) (UL:=AF<|w.take k) (VL:=AF<|v.take k) e hq hR HL hu0.1 WX hh hP bU0 bV1 bV0;rw[<-eU,<-eV] at this;exact this
 have step:AF w<t*AF v->Yd (λq=>(0<=q/\q<BT)/\(q-1)*AF v<=AF w/\AF w<(q+1)*AF v) (bd (AE<|t-1) λKB=>bd (AE ((k+1:Nat):Int)) λIC=>bd (A8 v IC) λHH=>bd (AE<|r+HH) λG7=>cond (decide<|1000000000<=G7) (some KB)<|next (KB,G7)):=λhUq=>by
  have hq1:1<=t:=by
   rcases(show 1<=t\/t=0 by omega) with h|h
   ·exact h
   ·rw[h,YW] at hUq;omega
  refine Yd.bd (Ad ⟨by omega,by omega⟩) (Yd.bd (Ad ⟨by omega,by omega⟩) (Yd.bd v1 (Yd.bd (Ad ⟨by omega,by unfold BT at*;omega⟩)<|Yd.cond (λhc=>?_)<|λhc=>?_)))
  ·have hc:=AZ hc;have hc:BT<=r+V1:=hc;have e:(t-1)*V1+(r+V1)=U1+BT*U2:=by rw[Int.sub_mul,Int.one_mul];omega
   exact fin (t-1) (r+V1) ⟨by omega,ami _ _ e hc⟩ (by omega) e (by rw[show t-1+1=t by omega];exact hUq)<| .inl hc
  ·have hc:=Ay hc;have hc: ¬BT<=r+V1:=hc;refine hn _ ⟨⟨by dsimp only;omega,by dsimp only;omega⟩,⟨by dsimp only;omega,by dsimp only;omega⟩,?_,?_⟩ (by dsimp only;omega)
   ·dsimp only;rw[Int.sub_mul,Int.one_mul];omega
   ·dsimp only;rw[show t-1+1=t by omega];exact hUq
 by_cases hb:(1000000000:Int)<=t
 ·have hd:=Ab hb;have g1:gd (decide<|(1000000000:Int)<=t) false=false:=by rw[hd];rfl
  repeat rw[Ef g1]
  refine Yd.cond (λ_=>step ?_) (λh=>by rw[hd,VJ] at h;cases h);have:BT*AF v<=t*AF v:=M8 (by unfold BT;omega) hVP;omega
 ·have hd:=BH hb;have g1:gd (decide<|(1000000000:Int)<=t) false=true:=by rw[hd];rfl
  have hb0:0<=t*V0/\t*V0<=1000000000*1000000000:=⟨Kd h1 HL.1,P3 (by omega) (by unfold BT at*;omega) HL.1 (by omega)⟩;rw[DC g1];refine Yd.bd (Ad ⟨by omega,by omega⟩) ?_;rw[DC g1];refine Yd.bd v0 ?_;rw[DC g1];refine Yd.bd (Ad ⟨by omega,by omega⟩) ?_;rw[DC g1];refine Yd.bd (Ad ⟨by omega,by unfold BT at*;omega⟩) ?_;rw[DC g1];refine Yd.bd (Ad ⟨by omega,by omega⟩) ?_;rw[e5,DC g1];refine Yd.bd (Ad ⟨by omega,by omega⟩) ?_;rw[DC g1];refine Yd.bd i0 ?_;rw[DC g1];refine Yd.bd (Ad ⟨by omega,by unfold BT at*;omega⟩)<|Yd.cond (λhc=>?_)<|λhc=>?_
  ·rw[hd,Rf] at hc;have hc:=AZ hc;refine step ?_;have hUq:=iC hP bU1 bV0 h1 (al8 (q:=t) (r:=r) (v1:=V1) (U2:=U1+BT*U2) (u0:=U0) (v0:=V0) h3 (by unfold BT;omega));rw[<-eU,<-eV] at hUq;exact hUq
  ·rw[hd,Rf] at hc;have hc:=Ay hc;exact fin t r ⟨h1,by unfold BT;omega⟩ h2 h3 h4 (.inr (by unfold BT;omega))
def j7:(l.set (j+i) x).drop j=(l.drop j).set i x:=by
 rw[List.drop_set,if_neg (by omega),Nat.add_sub_cancel_left]
def WI:(l.drop j).getD i 0=l.getD (j+i) 0:=by
 simp[Eo,P8]
end
end Trn
