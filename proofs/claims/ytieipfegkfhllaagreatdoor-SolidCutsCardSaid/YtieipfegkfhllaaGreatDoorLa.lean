/- Part of SolidCuts. -/
import Derived.Test.YtieipfegkfhllaaGreatDoorHb
set_option maxRecDepth 100000
set_option maxHeartbeats 20000000
set_option linter.all false
open Go Go.RowKit Go.Proofs Go.Proofs.Tryz
namespace Trn
section
variable{t x:Rat}{α:Type}{y:Rat}
abbrev Q3:=Rat×Rat×Rat
abbrev H3:=Q3×Rat
def AM(v w:Q3):Rat:=v.1*w.1+v.2.1*w.2.1+v.2.2*w.2.2
def BE(v w:Q3):Q3:=(v.1-w.1,v.2.1-w.2.1,v.2.2-w.2.2)
def Ah(v w:Q3):Q3:=(v.2.1*w.2.2-v.2.2*w.2.1,v.2.2*w.1-v.1*w.2.2,v.1*w.2.1-v.2.1*w.1)
def Da(v w:Q3):Q3:=(v.1+w.1,v.2.1+w.2.1,v.2.2+w.2.2)
def BX(v:Q3)(a:Rat):Q3:=(v.1*a,v.2.1*a,v.2.2*a)
def o3:Q3:=(0,0,0)
def val(h:H3)(p:Q3):Rat:=AM h.1 p-h.2
def Mem(L:A3 H3)(p:Q3):Prop:=∀h∈L,val h p<=0
def Ee(L:A3 H3):Prop:=∀d:Q3,d≠o3->∃h∈L,0<AM h.1 d
def Br(L:A3 H3)(p:Q3):Prop:=Mem L p/\∀d:Q3,(∀h∈L,val h p=0->AM h.1 d=0)->d=o3
def LC{v w:Q3}(h1:v.1=w.1)(h2:v.2.1=w.2.1)(h3:v.2.2=w.2.2):v=w:=by let⟨a,b,c⟩:=v;let⟨d,e,f⟩:=w;simp only at h1 h2 h3;rw[h1,h2,h3]
theorem OT(n p d:Q3):AM n (Da p d)=AM n p+AM n d:=by unfold AM Da;grind
theorem WQ(n p d:Q3):AM n (BE p d)=AM n p-AM n d:=by unfold AM BE;grind
theorem Fc(n d:Q3)(a:Rat):AM n (BX d a)=a*AM n d:=by unfold AM BX;grind
theorem NR(n d:Q3):AM n d=AM d n:=by unfold AM;grind
theorem LB(n d:Q3)(a:Rat):AM (BX d a) n=a*AM d n:=by unfold AM BX;grind
theorem Wo(n:Q3):AM n o3=0:=by unfold AM o3;grind
theorem OU(h:H3)(p d:Q3)(r:Rat):val h (Da p<|BX d r)=val h p+r*AM h.1 d:=by unfold val;rw[OT,Fc];grind
theorem bV(x:Rat):0<=x*x:=by
 rcases gk (a:=0) (b:=x) with h|h
 .exact Db h h
 .have:=Db (a:= -x) (b:= -x) AL AL;grind
def pO(h:x*x<=0):x=0:=by rcases Hk.1 (Rat.le_antisymm h<|bV x) with h|h<;>exact h
theorem xg{d:Q3}(h:AM d d<=0):d=o3:=by unfold AM at h;have h1:=bV d.1;have h2:=bV d.2.1;have h3:=bV d.2.2;exact LC (pO AL) (pO AL)<|pO AL
theorem PB{d:Q3}(h:d≠o3):0<AM d d:=by
 by_cases h1:0<AM d d
 .exact h1
 .exact absurd (xg AL) h
def least{α:Type}(P:α->Prop)(f:α->Rat):∀L:A3 α,(∃h∈L,P h)->∃h∈L,P h/\∀k∈L,P k->f h<=f k
 |[],⟨h,m,_⟩=>by cases m
 |x::L,hx=>by
  by_cases hL:∃h∈L,P h
  .let⟨h,m,ph,hm⟩:=least P f L hL;by_cases px:P x
   .rcases gk (a:=f x) (b:=f h) with c|c
    .refine⟨x,Dc,px,λk mk pk=>?_⟩;rcases Aq.1 mk with e|mk
     .rw[e];exact GR
     .exact ZF c<|hm k mk pk
    .refine⟨h,By _ m,ph,λk mk pk=>?_⟩;rcases Aq.1 mk with e|mk
     .rw[e];exact c
     .exact hm k mk pk
   .refine⟨h,By _ m,ph,λk mk pk=>?_⟩;rcases Aq.1 mk with e|mk
    .rw[e] at pk;exact absurd pk px
    .exact hm k mk pk
  .let⟨h,m,ph⟩:=hx;rcases Aq.1 m with e|m
   .subst e;refine⟨h,Dc,ph,λk mk pk=>?_⟩;rcases Aq.1 mk with e|mk
    .rw[e];exact GR
    .exact absurd ⟨k,mk,pk⟩ hL
   .exact absurd ⟨h,m,ph⟩ hL
def filter_lt{α:Type}{p q:α->Bool}:∀{L:A3 α} {x:α},(∀y∈L,q y=true->p y=true)->x∈L->p x=true->q x=false->(L.filter q).length<(L.filter p).length
 |y::L,x,h,m,hp,hq=>by
  have hle:∀M:A3 α,(∀y∈M,q y=true->p y=true)->(M.filter q).length<=(M.filter p).length:=by
   intro M
   induction M with
   |nil=>intro _;exact BK _
   |cons z M ih=>
    intro hM;have:=ih λy my=>hM y<|By _ my
    have hz:=hM z Dc;rw[ZQ,ZQ];cases hqz:q z
    .cases p z<;>simp<;>omega
    .rw[hz hqz];simp;omega
  rw[ZQ,ZQ];rcases Aq.1 m with e|m
  .subst e;rw[hp,hq];have:=hle L λy my=>h y<|By _ my
   simp;omega
  .have:=filter_lt (λy my=>h y<|By _ my) m hp hq;have hy:=h y Dc;cases hqz:q y
   .cases p y<;>simp<;>omega
   .rw[hy hqz];simp;omega
theorem amW{L:A3 H3}(hb:Ee L){p:Q3}(hp:Mem L p)(c:Q3){d:Q3}(hd:d≠o3)(hc:0<=AM c d)(ht:∀h∈L,val h p=0->AM h.1 d=0):∃q,Mem L q/\AM c p<=AM c q/\(∀h∈L,val h p=0->val h q=0)/\∃h∈L,val h p≠0/\val h q=0:=by
 let⟨h,mh,ph,hm⟩:=least (λh:H3=>0<AM h.1 d) (λh=> -val h p/AM h.1 d) L<|hb d hd
 have hv:=hp h mh;have hr:0<= -val h p/AM h.1 d:=by rw[PV];exact Db AL<|GS<|S2.2 ph
 have key:∀k:H3,0<AM k.1 d-> -val k p/AM k.1 d*AM k.1 d= -val k p:=λk hk=>Nc AL
 generalize hR: -val h p/AM h.1 d=r at*
 refine⟨Da p<|BX d r,λk mk=>?_,?_,λk mk hk=>?_,h,mh,λe=>?_,?_⟩
 .rw[OU];have hk:=hp k mk;by_cases g:0<AM k.1 d
  .have h1:=hm k mk g;have h2:=key k g;have h3:=Zf h1<|GS g
   grind
  .have:=Db hr (show 0<= -AM k.1 d by grind)
   grind
 .rw[OT,Fc];have:=Db hr hc
  grind
 .rw[OU,ht k mk hk,hk];grind
 .have:=ht h mh e
  grind
 .rw[OU];have:=key h ph;rw[hR] at this
  grind
theorem aoK{L:A3 H3}(hb:Ee L)(c:Q3):∀(n:Nat) (p:Q3),(L.filter λh=> !decide (val h p=0)).length<=n->Mem L p->∃v,Br L v/\AM c p<=AM c v/\∀h∈L,val h p=0->val h v=0:=by
 intro n
 induction n with
 |zero=>
  intro p hn hp;refine⟨p,⟨hp,λd hd=>?_⟩,GR,λ_ _ h=>h⟩;have h0:(L.filter λh=> !decide (val h p=0))=[]:=LN A4;by_cases hz:d=o3
  .exact hz
  .let⟨h,mh,hh⟩:=hb d hz;have:val h p=0:=by
    by_cases e:val h p=0
    .exact e
    .have:h∈(L.filter λh=> !decide (val h p=0)):=JE.2 ⟨mh,by simp[e]⟩;rw[h0] at this;cases this
   have:=hd h mh this
   grind
 |succ n ih=>
  intro p hn hp;by_cases hv:Br L p
  .exact⟨p,hv,GR,λ_ _ h=>h⟩
  .have:∃d:Q3,(∀h∈L,val h p=0->AM h.1 d=0)/\d≠o3:=by
    refine Co λhn=>hv ⟨hp,λd hd=>?_⟩
    exact Co λhz=>hn ⟨d,hd,hz⟩
   let⟨d,ht,hz⟩:=this;have go:∀d:Q3,(∀h∈L,val h p=0->AM h.1 d=0)->d≠o3->0<=AM c d->∃v,Br L v/\AM c p<=AM c v/\∀h∈L,val h p=0->val h v=0:=by
    intro d ht hz hc;let⟨q,q1,q2,q3,h,mh,q4,q5⟩:=amW hb hp c hz hc ht;have:=filter_lt (L:=L) (p:=λh=> !decide (val h p=0)) (q:=λh=> !decide (val h q=0)) (x:=h) (λy my hy=>by simp at hy⊢;exact λe=>hy<|q3 y my e) mh (by simp[q4]) (by simp[q5])
    let⟨v,v1,v2,v3⟩:=ih q A4 q1;exact⟨v,v1,ZF q2 v2,λh m e=>v3 h m<|q3 h m e⟩
   rcases gk (a:=0) (b:=AM c d) with hc|hc
   .exact go d ht hz hc
   .have hs:∀n:Q3,AM n (BX d<| -1)= -AM n d:=λn=>by rw[Fc];grind
    refine go (BX d<| -1) (λh m e=>by rw[hs,ht h m e];grind) (λe=>hz ?_) (by rw[hs];grind);have e1:=congrArg Prod.fst e;have e2:=congrArg (λx=>x.2.1) e;have e3:=congrArg (λx=>x.2.2) e;simp only[BX,o3] at e1 e2 e3;exact LC (by simp only[o3];grind) (by simp only[o3];grind) (by simp only[o3];grind)
def Qh{L:A3 H3}(hb:Ee L){p:Q3}(hp:Mem L p)(c:Q3):∃v,Br L v/\AM c p<=AM c v/\∀h∈L,val h p=0->val h v=0:=aoK hb c _ p (BK _) hp
def CU(n a b c:Q3):Rat:=AM n<|Ah (BE b a)<|BE c a
def Dk(a b:Q3)(t:Rat):Q3:=Da a<|BX (BE b a) t
theorem J0{v w:Q3}(h:v.1=w.1/\v.2.1=w.2.1/\v.2.2=w.2.2:=by simp only[Dk,Da,BE,BX,Ah,o3];grind):v=w:=LC h.1 h.2.1 h.2.2
theorem Z4(n a b c:Q3):CU n a b c=CU n b c a:=by unfold CU AM Ah BE;grind
theorem gN(n a b:Q3):CU n a a b=0:=by unfold CU AM Ah BE;grind
theorem gM(n a b:Q3):CU n a b a=0:=by unfold CU AM Ah BE;grind
theorem PR(n a b:Q3):CU n b a a=0:=by unfold CU AM Ah BE;grind
theorem fW(n p q a b:Q3)(t:Rat):CU n p q (Dk a b t)=(1-t)*CU n p q a+t*CU n p q b:=by unfold CU Dk AM Ah BE Da BX;grind
theorem akL(n p r a b:Q3)(t:Rat):CU n p (Dk a b t) r=(1-t)*CU n p a r+t*CU n p b r:=by unfold CU Dk AM Ah BE Da BX;grind
theorem akM(n q r a b:Q3)(t:Rat):CU n (Dk a b t) q r=(1-t)*CU n a q r+t*CU n b q r:=by unfold CU Dk AM Ah BE Da BX;grind
theorem Fl(h:H3)(a b:Q3)(t:Rat):val h (Dk a b t)=(1-t)*val h a+t*val h b:=by unfold val Dk AM BE Da BX;grind
theorem jj(h0:0<=t)(h1:t<=1)(hx:0<=x)(hy:0<=y):0<=(1-t)*x+t*y:=by
 have a:=Db (show 0<=1-t by grind) hx;have b:=Db h0 hy
 grind
def Wk(n:Q3)(l:A3 Q3):Prop:=∀a b c,[a,b,c].Sublist l->0<=CU n a b c
def Hi(n:Q3)(l:A3 Q3):Prop:=∀a b c,[a,b,c].Sublist l->0<CU n a b c
def Wk.sub{n:Q3}{l m:A3 Q3}(h:Wk n l)(s:m.Sublist l):Wk n m:=λa b c k=>h a b c<|k.trans s
def Hi.wk{n:Q3}{l:A3 Q3}(h:Hi n l):Wk n l:=λa b c k=>GS<|h a b c k
def Si{x:α}{l:A3 α}(h:x∈l):[x].Sublist l:=List.singleton_sublist.2 h
def anj{n:Q3}{A B:A3 Q3}{a b:Q3}(h0:0<=t)(h1:t<=1)(h:Wk n (A++a::b::B)):Wk n (A++a::Dk a b t::b::B):=by
 intro p q r s;have e:A++a::Dk a b t::b::B=(A++[a])++(Dk a b t::b::B):=AX;have e':A++a::b::B=(A++[a])++(b::B):=AX;rw[e'] at h;rw[e] at s;let⟨s1,s2,es,k1,k2⟩:=Zc.1 s;have inA:∀x∈A++[a],x=a\/[x,a].Sublist (A++[a]):=λx hx=>by
  rcases C3.1 hx with g|g
  .exact .inr<|(Si g).append<|ZT [a]
  .exact .inl<|Cn.1 g
 have inB:∀x∈b::B,x=b\/[b,x].Sublist (b::B):=λx hx=>by
  rcases Aq.1 hx with g|g
  .exact .inl g
  .exact .inr<|(Si g).cons_cons b
 have ma:[a].Sublist (A++[a]):=Si AX;have mb:[b].Sublist (b::B):=Si AX;cases k2 with
 |cons _ k2=>exact h p q r (by rw[es];exact k1.append k2)
 |cons_cons _ k2=>
  rename_i s3
  match s1,es with
  |[],es=>simp at es;obtain⟨rfl,rfl⟩:=es;have hq:q∈b::B:=k2.subset AX;rw[akM];refine jj h0 h1 (h _ _ _<|ma.append k2) ?_;cases k2 with|cons _ k2=>exact h _ _ _<|(k2.cons_cons b).trans<|iU _ _|cons_cons _ k2=>rw[gN];exact GR
  |[x],es=>
   simp at es;obtain⟨rfl,rfl,rfl⟩:=es;have hp:p∈A++[a]:=k1.subset AX;have hr:r∈b::B:=k2.subset AX;rw[akL];refine jj h0 h1 ?_ ?_
   .rcases inA p hp with g|g
    .rw[g,gN];exact GR
    .exact h _ _ _<|g.append k2
   .rcases inB r hr with g|g
    .rw[g,PR];exact GR
    .exact h _ _ _<|k1.append g
  |[x,y],es=>
   simp at es;obtain⟨rfl,rfl,rfl,rfl⟩:=es;have hq:q∈A++[a]:=k1.subset AX;rw[fW];refine jj h0 h1 ?_<|h _ _ _<|k1.append mb
   let⟨t1,t2,et,j1,j2⟩:=Zc.1 k1
   match t1,et with
   |[],et=>simp at et;subst et;have:=j2.length_le;simp at this
   |[x],et=>
    simp at et;obtain⟨rfl,rfl⟩:=et;have:q=a:=by simpa using j2
    rw[this,PR];exact GR
   |[x,y],et=>simp at et;obtain⟨rfl,rfl,rfl⟩:=et;exact h _ _ _<|(j1.append<|ZT [a]).trans AX
   |x::y::z::w,et=>simp at et
  |x::y::z::w,es=>simp at es
def ank{n:Q3}{A:A3 Q3}{a f:Q3}(h0:0<=t)(h1:t<=1)(hf:(A++[a]).head?=some f)(h:Wk n (A++[a])):Wk n (A++[a,Dk a f t]):=by
 intro p q r s;have e:A++[a,Dk a f t]=(A++[a])++[Dk a f t]:=AX;rw[e] at s;let⟨s1,s2,es,k1,k2⟩:=Zc.1 s;cases k2 with
 |cons _ k2=>
  have:s2=[]:=by simpa using k2
  subst this;rw[Ig] at es;exact h p q r (by rw[es];exact k1)
 |cons_cons _ k2=>
  rename_i s3;have:s3=[]:=by simpa using k2
  subst this
  match s1,es with
  |[],es=>simp at es|[x],es=>simp at es
  |[x,y],es=>
   simp at es;obtain⟨rfl,rfl,rfl⟩:=es;rw[fW];refine jj h0 h1 ?_ ?_
   .let⟨t1,t2,et,j1,j2⟩:=Zc.1 k1
    match t1,et with
    |[],et=>simp at et;subst et;have:=j2.length_le;simp at this
    |[x],et=>
     simp at et;obtain⟨rfl,rfl⟩:=et;have:q=a:=by simpa using j2
     rw[this,PR];exact GR
    |[x,y],et=>simp at et;obtain⟨rfl,rfl,rfl⟩:=et;exact h _ _ _<|j1.append<|ZT [a]
    |x::y::z::w,et=>simp at et
   .rw[Z4,Z4]
    match hA:A++[a],hf with
    |x::M,hf=>
     have:x=f:=by simpa using hf
     subst this;rw[hA] at k1 h;cases k1 with|cons _ k1=>exact h _ _ _<|k1.cons_cons x|cons_cons _ k1=>rw[gN];exact GR
  |x::y::z::w,es=>simp at es
theorem Po{a b:Q3}(h:BE b a=o3):a=b:=by have e1:=congrArg Prod.fst h;have e2:=congrArg (λx=>x.2.1) h;have e3:=congrArg (λx=>x.2.2) h;simp[BE,o3] at e1 e2 e3;exact LC AL AL AL
def Wi{d:Q3}(h1:d.1=0)(h2:d.2.1=0)(h3:d.2.2=0):d=o3:=LC h1 h2 h3
theorem par{u w:Q3}(hu:u≠o3)(h:Ah u w=o3):w=BX u (AM u w/AM u u):=by
 have hp:=PB hu;have e1:=congrArg Prod.fst h;have e2:=congrArg (λx=>x.2.1) h;have e3:=congrArg (λx=>x.2.2) h;simp[Ah,o3] at e1 e2 e3;have key:AM u w/AM u u*AM u u=AM u w:=Nc AL
 generalize AM u w/AM u u=s at key⊢
 have z:∀x:Rat,AM u u*x=0->x=0:=λx hx=>by
  rcases Hk.1 hx with g|g
  .grind
  .exact g
 have g1:w.1-u.1*s=0:=z _ (by unfold AM at*;grind);have g2:w.2.1-u.2.1*s=0:=z _ (by unfold AM at*;grind);have g3:w.2.2-u.2.2*s=0:=z _ (by unfold AM at*;grind);exact J0
def UI{u:Q3}:Ah u u=o3:=J0
theorem nP(u w:Q3):AM u (Ah u w)=0:=by unfold AM Ah;grind
theorem YS(u w:Q3):AM w (Ah u w)=0:=by unfold AM Ah;grind
def along{u w d:Q3}(h:Ah u w≠o3)(h1:AM u d=0)(h2:AM w d=0):∃s,d=BX (Ah u w) s:=by refine⟨_,par h ?_⟩;unfold AM at h1 h2;exact J0
theorem flat{n x y:Q3}(hn:n≠o3)(hx:AM n x=0)(hy:AM n y=0)(h:AM n (Ah x y)=0):Ah x y=o3:=by
 have hp:=PB hn;have e:AM (Ah x y) (Ah x y)*AM n n=AM n (Ah x y)*AM n (Ah x y)+AM (Ah (Ah x y) n) (Ah (Ah x y) n):=by unfold AM Ah;grind
 have e2:Ah (Ah x y) n=o3:=by
  have:Ah (Ah x y) n=BE (BX y<|AM n x) (BX x<|AM n y):=by unfold Ah BE BX AM;refine LC ?_ ?_ ?_<;>dsimp<;>grind
  rw[this,hx,hy];unfold BE BX o3;refine LC ?_ ?_ ?_<;>dsimp<;>grind
 rw[h,e2,Wo] at e;refine xg ?_;rcases Hk.1 (show AM (Ah x y) (Ah x y)*AM n n=0 by grind) with g|g<;>grind
theorem zI{L:A3 H3}{p:Q3}(hm:Mem L p){f g h:H3}(mf:f∈L)(mg:g∈L)(mh:h∈L)(tf:val f p=0)(tg:val g p=0)(th:val h p=0)(hd:AM h.1 (Ah f.1 g.1)≠0):Br L p:=by
 refine⟨hm,λd hd'=>?_⟩;have hc:Ah f.1 g.1≠o3:=λe=>hd (by rw[e,Wo])
 obtain⟨s,rfl⟩:=along hc (hd' f mf tf)<|hd' g mg tg
 have:=hd' h mh th;rw[Fc] at this;rcases Hk.1 this with e|e
 .rw[e];exact J0
 .grind
theorem val_sub(h:H3)(a b:Q3):AM h.1 (BE b a)=val h b-val h a:=by unfold val;rw[WQ];grind
theorem fj{L:A3 H3}{v a b:Q3}(hv:Br L v)(ha:Mem L a)(hb:Mem L b)(h0:0<t)(h1:t<1)(e:v=Dk a b t):a=b:=by
 refine Po<|hv.2 _ λh mh th=>?_
 rw[e,Fl] at th;have x:=Db (show 0<=1-t by grind) (show 0<= -val h a by have:=ha h mh;grind);have y:=Db (show 0<=t by grind) (show 0<= -val h b by have:=hb h mh;grind);have x0:(1-t)*val h a=0:=AL;have y0:t*val h b=0:=AL;rw[val_sub];rcases Hk.1 x0 with g|g
 .grind
 .grind
theorem oF{L:A3 H3}{a b c:Q3}(ha:Br L a)(hb:Br L b)(hc:Br L c)(J4:a≠b)(hac:a≠c)(hbc:b≠c):Ah (BE b a) (BE c a)≠o3:=by
 intro h;have hz:BE b a≠o3:=λe=>J4<|Po e
 have e:=par hz h
 generalize AM (BE b a) (BE c a)/AM (BE b a) (BE b a)=s at e
 have e1:=congrArg Prod.fst e;have e2:=congrArg (λx=>x.2.1) e;have e3:=congrArg (λx=>x.2.2) e;simp[BE,BX] at e1 e2 e3;have hs0:s≠0:=λg=>hac (by subst g;exact LC AL AL AL)
 have hs1:s≠1:=λg=>hbc (by subst g;exact LC AL AL AL)
 by_cases h1:1<s
 ·
  have i1:=iI s hs0;have i2:0<s⁻¹ :=S2.2 AL;have i3:s⁻¹ <1:=by have:=GQ i2 (show 0<s-1 by grind);grind
  refine hac<|fj hb ha.1 hc.1 i2 i3 ?_
  exact J0
 .by_cases h2:0<s
  .refine J4 (fj hc ha.1 hb.1 h2 AL ?_);exact J0
  ·
   have hs:0<1-s:=AL;have i1:=iI (1-s) AL;have i2:0<(1-s)⁻¹ :=S2.2 hs;have i3:(1-s)⁻¹ <1:=by have:=GQ i2 (show 0< -s by grind);grind
   refine hbc<|fj ha hb.1 hc.1 (t:=(1-s)⁻¹) i2 i3 ?_
   exact J0
theorem zH{L:A3 H3}{f:H3}(hf:f.1≠o3){a b c:Q3}(ha:Br L a)(hb:Br L b)(hc:Br L c)(ta:val f a=0)(tb:val f b=0)(tc:val f c=0)(J4:a≠b)(hac:a≠c)(hbc:b≠c):CU f.1 a b c≠0:=λe=>oF ha hb hc J4 hac hbc (flat hf (by rw[val_sub,ta,tb];grind) (by rw[val_sub,ta,tc];grind) e)
theorem room{L:A3 H3}{q w:Q3}:Mem L q->(∀h∈L,val h q=0->AM h.1 w<=0)->∃e:Rat,0<e/\∀t,0<=t->t<=e->Mem L (Da q<|BX w t):=by
 induction L with
 |nil=>exact λ_ _=>⟨1,Le,λ_ _ _ h m=>by cases m⟩
 |cons h L ih=>
  intro hq ht;let⟨e,e0,he⟩:=ih (λk m=>hq k<|By _ m)<|λk m=>ht k<|By _ m
  have hv:=hq h Dc;by_cases g:0<AM h.1 w
  .have hne:val h q≠0:=λz=>by have:=ht h Dc z;grind
   have hr:0< -val h q/AM h.1 w:=by rw[PV];exact GQ AL<|S2.2 g
   have hc: -val h q/AM h.1 w*AM h.1 w= -val h q:=Nc AL
   generalize -val h q/AM h.1 w=r at*
   have one:∀t,0<=t->t<=r->val h (Da q<|BX w t)<=0:=λt t0 t1=>by
    rw[OU];have:=Zf t1<|GS g
    grind
   rcases gk (a:=e) (b:=r) with c|c
   .refine⟨e,e0,λt t0 t1 k m=>?_⟩;rcases Aq.1 m with z|m
    .grind
    .exact he t t0 t1 k m
   .refine⟨r,hr,λt t0 t1 k m=>?_⟩;rcases Aq.1 m with z|m
    .grind
    .exact he t t0 (ZF t1 c) k m
  .refine⟨e,e0,λt t0 t1 k m=>?_⟩;rcases Aq.1 m with z|m
   .rw[z,OU];have:=Db t0 (show 0<= -AM h.1 w by grind)
    grind
   .exact he t t0 t1 k m
theorem VS(n:Q3):∃d:Q3,d≠o3/\AM n d=0:=by
 by_cases h:n.1=0
 .exact⟨(1,0,0),λe=>by have:=congrArg Prod.fst e;simp only[o3] at this;grind,by unfold AM;grind⟩
 .exact⟨(-n.2.1,n.1,0),λe=>h (by have:=congrArg (λx=>x.2.1) e;simp[o3] at this;exact this),by unfold AM;grind⟩
theorem Va(u w:Q3):Ah w u=BX (Ah u w) (-1):=by unfold Ah BX;refine LC ?_ ?_ ?_<;>dsimp<;>grind
theorem two{N:A3 Q3}(h:∀u∈N,∀w∈N,Ah u w=o3)(m:Q3):∃d:Q3,d≠o3/\(∀u∈N,AM u d=0)/\AM m d=0:=by
 by_cases hz:∀u∈N,u=o3
 .let⟨d,d0,d1⟩:=VS m;exact⟨d,d0,λu mu=>by rw[hz u mu,NR,Wo],d1⟩
 .let⟨n,hn⟩:=Classical.not_forall.1 hz;let⟨mn,n0⟩:=Classical.not_imp.1 hn;have acE:∀d,AM n d=0->∀u∈N,AM u d=0:=λd hd u mu=>by rw[par n0<|h n mn u mu,LB,hd];grind
  by_cases hc:Ah n m=o3
  .let⟨d,d0,d1⟩:=VS n;exact⟨d,d0,acE d d1,by rw[par n0 hc,LB,d1];grind⟩
  .exact⟨_,hc,acE _<|nP _ _,YS _ _⟩
theorem aur{L:A3 H3}(hb:Ee L){q:Q3}(hq:Mem L q)(hv: ¬Br L q){f g:H3}(mf:f∈L)(mg:g∈L)(tf:val f q=0)(tg:val g q=0)(hc:Ah f.1 g.1≠o3):∃u v t,Br L u/\Br L v/\0<t/\t<1/\q=Dk u v t/\(∀h∈L,val h q=0->val h u=0/\val h v=0)/\u≠v:=by
 have:∃d:Q3,(∀h∈L,val h q=0->AM h.1 d=0)/\d≠o3:=by
  refine Co λhn=>hv ⟨hq,λd hd=>?_⟩
  exact Co λhz=>hn ⟨d,hd,hz⟩
 let⟨d,ht,hz⟩:=this;let⟨v,v1,v2,v3⟩:=Qh hb hq d;let⟨u,u1,u2,u3⟩:=Qh hb hq<|BX d<| -1
 rw[LB,LB] at u2;let⟨s0,e0⟩:=along hc (ht f mf tf)<|ht g mg tg
 let⟨s1,e1⟩:=along hc (d:=BE u q) (by rw[val_sub,u3 f mf tf,tf];grind) (by rw[val_sub,u3 g mg tg,tg];grind);let⟨s2,e2⟩:=along hc (d:=BE v q) (by rw[val_sub,v3 f mf tf,tf];grind) (by rw[val_sub,v3 g mg tg,tg];grind)
 generalize Ah f.1 g.1=e at*
 have he:=PB hc;have nz:∀{x:Q3} {s:Rat},Br L x->BE x q=BX e s->s≠0:=λ{x s} hx h z=>by
  rw[z] at h;have:q=x:=Po<|h.trans<|J0
  exact hv<|this▸hx
 have n1:=nz u1 e1;have n2:=nz v1 e2;have n0:s0≠0:=λz=>hz (by rw[e0,z];exact(J0))
 have p2:0<=AM d (BE v q):=by rw[WQ];grind
 have p1:AM d (BE u q)<=0:=by rw[WQ];grind
 rw[e0,e2,Fc,LB] at p2;rw[e0,e1,Fc,LB] at p1;have q2:0<=s0*s2:=Co λc=>by have:=GQ (show 0< -(s0*s2) by grind) he;grind
 have q1:s0*s1<=0:=Co λc=>by have:=GQ (show 0<s0*s1 by grind) he;grind
 have r2:0<s0*s2:=by
  have:s0*s2≠0:=λc=>by rcases Hk.1 c with g|g<;>contradiction
  grind
 have r1:s0*s1<0:=by
  have:s0*s1≠0:=λc=>by rcases Hk.1 c with g|g<;>contradiction
  grind
 have r3:s0*(s1-s2)<0:=AL;have n3:s1-s2≠0:=λc=>by rw[c] at r3;grind
 have c1:s1/(s1-s2)*(s1-s2)=s1:=Nc n3
 generalize s1/(s1-s2)=t at c1
 have c2:s0*(t*(s1-s2))=s0*s1:=by rw[c1]
 have t0:0<t:=Co λc=>by
  have:=Db (show 0<= -t by grind) (show 0<= -(s0*(s1-s2)) by grind)
  grind
 have t1:t<1:=Co λc=>by
  have:=Db (show 0<=t-1 by grind) (show 0<= -(s0*(s1-s2)) by grind)
  grind
 have k1:=congrArg Prod.fst e1;have k2:=congrArg (λx=>x.2.1) e1;have k3:=congrArg (λx=>x.2.2) e1;have l1:=congrArg Prod.fst e2;have l2:=congrArg (λx=>x.2.1) e2;have l3:=congrArg (λx=>x.2.2) e2;simp[BE,BX] at k1 k2 k3 l1 l2 l3;refine⟨u,v,t,u1,v1,t0,t1,?_,λh mh th=>⟨u3 h mh th,v3 h mh th⟩,λc=>n3 ?_⟩
 .exact J0
 .grind
def JA(f:Q3):A3 Q3->A3 (Q3×Q3)
 |[]=>[]|[a]=>[(a,f)]|a::b::l=>(a,b)::JA f (b::l)
def JJ:A3 Q3->A3 (Q3×Q3)
 |[]=>[]|a::l=>JA a (a::l)
def GF(x y:Rat):Bool:=(decide (x<0)&&decide (0<y))||(decide (0<x)&&decide (y<0))
def Fe(h:H3)(a b:Q3):Q3:=Dk a b<|val h a/(val h a-val h b)
def Lx(h:H3)(s:Q3×Q3):A3 Q3:=(bif decide (val h s.1<=0) then [s.1] else [])++(bif GF (val h s.1) (val h s.2) then [Fe h s.1 s.2] else [])
def FV(h:H3)(l:A3 Q3):A3 Q3:=(JJ l).flatMap<|Lx h
def jX(h:H3)(s:Q3×Q3):A3 Q3:=s.1::(bif GF (val h s.1) (val h s.2) then [Fe h s.1 s.2] else [])
def KX:GF x y=true↔(x<0/\0<y)\/(0<x/\y<0):=by unfold GF;simp
theorem Pr(h:GF x y=true):0<x/(x-y)/\x/(x-y)<1/\(1-x/(x-y))*x+x/(x-y)*y=0:=by
 have h:=KX.1 h;have hn:x-y≠0:=AL;have e:x/(x-y)*(x-y)=x:=Nc hn
 generalize x/(x-y)=t at e
 have t0:0<t:=Co λc=>by
  rcases h with⟨a,b⟩|⟨a,b⟩
  .have:=Db (show 0<= -t by grind) (show 0<=y-x by grind);grind
  .have:=Db (show 0<= -t by grind) (show 0<=x-y by grind);grind
 have t1:t<1:=Co λc=>by
  rcases h with⟨a,b⟩|⟨a,b⟩
  .have:=Db (show 0<=t-1 by grind) (show 0<=y-x by grind);grind
  .have:=Db (show 0<=t-1 by grind) (show 0<=x-y by grind);grind
 exact⟨t0,t1,AL⟩
def Yx{h:H3}{a b:Q3}(ho:GF (val h a) (val h b)=true):val h (Fe h a b)=0:=by unfold Fe;rw[Fl];exact(Pr ho).2.2
def aaG{n:Q3}{h:H3}{f:Q3}:∀(l A:A3 Q3),l≠[]->(A++l).head?=some f->Wk n (A++l)->Wk n (A++(JA f l).flatMap (jX h))
 |[],_,h0,_,_=>absurd rfl h0
 |[a],A,_,hf,hw=>by
  unfold JA;rw[Pc,List.flatMap_nil,Ig];unfold jX;cases ho:GF (val h a) (val h f) with
  |false=>rw[As];exact hw
  |true=>have t:=Pr ho;rw[BI];exact ank (GS t.1) (GS t.2.1) hf hw
 |a::b::l,A,_,hf,hw=>by
  unfold JA;rw[Pc,<-HY];refine aaG (b::l) _ AX ?_ ?_
  .cases A with|nil=>exact hf|cons x A=>exact hf
  .unfold jX;cases ho:GF (val h a) (val h b) with
   |false=>rw[As];simpa using hw
   |true=>have t:=Pr ho;rw[BI];have:=anj (GS t.1) (GS t.2.1) hw;simpa[Fe] using this
def yo{α β:Type}{f g:α->A3 β}:∀{l:A3 α},(∀x∈l,(f x).Sublist<|g x)->(l.flatMap f).Sublist (l.flatMap g)
 |[],_=>ZT _
 |x::l,h=>by rw[Pc,Pc];exact(h x Dc).append<|yo λy m=>h y<|By _ m
theorem anV{n:Q3}{h:H3}{l:A3 Q3}(hw:Wk n l):Wk n (FV h l):=by
 cases l with
 |nil=>exact hw
 |cons a l=>
  have:=aaG (h:=h) (a::l) [] AX rfl hw;refine Wk.sub this<|yo λs _=>?_
  unfold Lx jX;cases decide (val h s.1<=0)
  .grind
  .grind
theorem vP{f:Q3}{s:Q3×Q3}:∀{l A:A3 Q3},(A++l).head?=some f->s∈JA f l->(∃B C,A++l=B++s.1::s.2::C)\/(∃B,A++l=B++[s.1]/\s.2=f)
 |[],A,_,h=>by cases h
 |[a],A,_,h=>by
  have:s=(a,f):=by simpa[JA] using h
  subst this;exact .inr ⟨A,rfl,rfl⟩
 |a::b::l,A,hf,h=>by
  unfold JA at h;rcases Aq.1 h with e|h
  .grind
  .have:=vP (l:=b::l) (A:=A++[a]) (by simpa using hf) h;simpa using this
def nA{f a b:Q3}{C:A3 Q3}:∀{B:A3 Q3},(a,b)∈JA f (B++a::b::C)
 |[]=>by simp[JA]|[x]=>by simp[JA]
 |x::y::B=>by have:=nA (f:=f) (a:=a) (b:=b) (C:=C) (B:=y::B);show(a,b)∈(x,y)::JA f (y::(B++a::b::C));exact By _ this
def ux{f a:Q3}:∀{B:A3 Q3},(a,f)∈JA f (B++[a])
 |[]=>by simp[JA]|[x]=>by simp[JA]
 |x::y::B=>by have:=ux (f:=f) (a:=a) (B:=y::B);show(a,f)∈(x,y)::JA f (y::(B++[a]));exact By _ this
def vQ{f:Q3}:∀l:A3 Q3,(JA f l).map Prod.fst=l
 |[]=>rfl|[a]=>rfl|a::b::l=>by unfold JA;rw[MK,vQ (b::l)]
def xA(l:A3 Q3):(JJ l).map Prod.fst=l:=by cases l with|nil=>rfl|cons a l=>exact vQ _
theorem Hi.ne{n:Q3}{l:A3 Q3}(h:Hi n l){a b c:Q3}(s:[a,b,c].Sublist l):a≠b/\a≠c/\b≠c:=by
 have:=h a b c s;refine⟨λe=>?_,λe=>?_,λe=>?_⟩
 .rw[e,gN] at this;grind
 .rw[e,gM] at this;grind
 .rw[e,PR] at this;grind
def Hi.nodup{n:Q3}{l:A3 Q3}(h:Hi n l)(h3:3<=l.length):l.Nodup:=by
 refine List.pairwise_iff_forall_sublist.2 λ{a b} s e=>?_
 subst e;obtain⟨c,hc⟩:∃c,[c,a,a].Sublist l\/[a,c,a].Sublist l\/[a,a,c].Sublist l:=by
  clear h
  induction l with
  |nil=>cases s
  |cons x l ih=>
   cases s with
   |cons _ s=>exact⟨x,.inl<|s.cons_cons x⟩
   |cons_cons _ s=>
    match l,h3,s with
    |y::z::l,_,s=>cases s with|cons _ s=>exact⟨y,.inr<| .inl<|(s.cons_cons y).cons_cons a⟩|cons_cons _ s=>exact⟨z,.inr<| .inr<|((Si AX).cons_cons a).cons_cons a⟩
 rcases hc with s|s|s
 .exact(h.ne s).2.2 rfl
 .exact(h.ne s).2.1 rfl
 .exact(h.ne s).1 rfl
theorem yJ(n a b c:Q3):CU n b a c= -CU n a b c:=by unfold CU AM Ah BE;grind
theorem TY{n:Q3}{l:A3 Q3}(hl:Hi n l)(h3:3<=l.length){s:Q3×Q3}(hs:s∈JJ l):s.1∈l/\s.2∈l/\s.1≠s.2/\∀c∈l,c≠s.1->c≠s.2->0<CU n s.1 s.2 c:=by
 have hn:=hl.nodup h3;let⟨a,b⟩:=s
 match l,h3,hs with
 |f::l,h3,hs=>
  rcases vP (A:=[]) FN hs with⟨B,C,e⟩|⟨B,e,e2⟩
  .rw[K7] at e;rw[e] at hn hl⊢;refine⟨AX,AX,?_,λc hc h1 h2=>?_⟩
   .grind
   .rcases C3.1 hc with m|m
    .rw[<-Z4];exact hl _ _ _<|(Si m).append<|((Qc C).cons_cons b).cons_cons a
    .have m:c∈C:=by simpa[h1,h2] using m
     exact hl _ _ _<|((Si m).cons_cons b|>.cons_cons a).trans<|iU _ _
  .rw[K7] at e;dsimp only at e e2;subst e2
   match B,e with
   |[],e=>rw[e] at h3;simp at h3
   |x::B,e=>
    have:b=x:=AL;subst this;rw[e] at hn hl⊢;refine⟨AX,AX,?_,λc hc h1 h2=>?_⟩
    .grind
    .have m:c∈B:=by simpa[h1,h2] using hc
     rw[Z4];exact hl _ _ _<|((Si m).append<|ZT [a]).cons_cons b
theorem aq8{l:A3 Q3}(hn:l.Nodup)(h3:3<=l.length)(a b:Q3):∃c∈l,c≠a/\c≠b:=by
 match l,h3,hn with
 |x::y::z::l,_,hn=>
  simp at hn;by_cases h1:x≠a/\x≠b
  .exact⟨x,AX,h1⟩
  .by_cases h2:y≠a/\y≠b
   .exact⟨y,AX,h2⟩
   .refine⟨z,AX,λe=>?_,λe=>?_⟩<;>subst e<;>grind
theorem aiO{n:Q3}{l:A3 Q3}(hl:Hi n l)(h3:3<=l.length){a b:Q3}(h1:(a,b)∈JJ l)(h2:(b,a)∈JJ l):False:=by
 let⟨c,mc,ca,cb⟩:=aq8 (hl.nodup h3) h3 a b;have p:=(TY hl h3 h1).2.2.2 c mc ca cb;have q:=(TY hl h3 h2).2.2.2 c mc cb ca;dsimp only at p q;rw[yJ] at q
 grind
theorem agz{n:Q3}{l:A3 Q3}(hl:Hi n l)(h3:3<=l.length){s r:Q3×Q3}(hs:s∈JJ l)(hr:r∈JJ l)(hne:s.1≠r.1){u:Rat}(t0:0<=t)(t1:t<1)(u0:0<=u)(u1:u<1):Dk s.1 s.2 t≠Dk r.1 r.2 u:=by
 intro e;let⟨a,b⟩:=s;let⟨c,d⟩:=r;let⟨s1,s2,s3,s4⟩:=TY hl h3 hs;let⟨r1,r2,r3,r4⟩:=TY hl h3 hr;dsimp only at*;have z:CU n a b (Dk a b t)=0:=by rw[fW,gM,PR];grind
 rw[e,fW] at z;have dn:0<=CU n a b d:=by
  by_cases h1:d=a
  .rw[h1,gM];exact GR
  .by_cases h2:d=b
   .rw[h2,PR];exact GR
   .grind
 by_cases hcb:c=b
 .subst hcb;rw[PR] at z;have hda:d≠a:=λg=>aiO hl h3 hs<|g▸hr
  have dp:=s4 d r2 hda<|Ne.symm r3
  have:u=0:=AL;subst this;refine s3 ?_;have e1:=congrArg Prod.fst e;have e2:=congrArg (λx=>x.2.1) e;have e3:=congrArg (λx=>x.2.2) e;simp[Dk,Da,BX,BE] at e1 e2 e3;have q1:(1-t)*(a.1-c.1)=0:=AL;have q2:(1-t)*(a.2.1-c.2.1)=0:=AL;have q3:(1-t)*(a.2.2-c.2.2)=0:=AL;have z:∀x:Rat,(1-t)*x=0->x=0:=λx h=>by
   rcases Hk.1 h with g|g
   .grind
   .exact g
  have:=z _ q1;have:=z _ q2;have:=z _ q3;exact LC AL AL AL
 .have cp:=s4 c r1 (Ne.symm hne) hcb;have:=GQ (show 0<1-u by grind) cp;have:=Db u0 dn
  grind
def aqO(a b:Q3):Dk a b 0=a:=J0
theorem xu{h:H3}{s:Q3×Q3}{x:Q3}(hx:x∈Lx h s):(x=s.1/\val h x<=0)\/(GF (val h s.1) (val h s.2)=true/\x=Fe h s.1 s.2):=by
 unfold Lx at hx;rcases C3.1 hx with m|m
 .grind
 .grind
theorem ahg{n:Q3}{h:H3}{l:A3 Q3}(hl:Hi n l)(h3:3<=l.length):(FV h l).Nodup:=by
 unfold FV List.Nodup;have half:∀s x,x∈Lx h s->∃t:Rat,0<=t/\t<1/\x=Dk s.1 s.2 t:=λs x hx=>by
  rcases xu hx with⟨e,_⟩|⟨ho,e⟩
  .exact⟨0,GR,Le,by rw[aqO];exact e⟩
  .have t:=Pr ho;exact⟨_,GS t.1,t.2.1,e⟩
 have hp:((JJ l).map Prod.fst).Nodup:=by rw[xA];exact hl.nodup h3
 have hp:=Nb.1 hp;refine List.pairwise_flatMap.2 ⟨λs hs=>?_,?_⟩
 .unfold Lx;cases decide (val h s.1<=0)
  .cases GF (val h s.1) (val h s.2)<;>simp
  .cases ho:GF (val h s.1) (val h s.2)
   .simp
   .have t0:=(Pr ho).1;have hne:=(TY hl h3 hs).2.2.1;simp[BI,SA,K7,JF,Cn,forall_eq,iG,List.Pairwise.nil,and_true,false_implies,implies_true];intro e;refine hne<|Po ?_
    unfold Fe at e
    generalize val h s.1/(val h s.1-val h s.2)=t at e t0
    have e1:=congrArg Prod.fst e;have e2:=congrArg (λx=>x.2.1) e;have e3:=congrArg (λx=>x.2.2) e;simp[Dk,Da,BX,BE] at e1 e2 e3;have z:∀x:Rat,x*t=0->x=0:=λx h=>by
     rcases Hk.1 h with g|g
     .exact g
     .grind
    exact Wi (z _ (by simp[BE];grind)) (z _ (by simp[BE];grind)) (z _ (by simp[BE];grind))
 .refine UB ?_ hp;intro s r hs hr hne x hx y hy e;let⟨t,t0,t1,ex⟩:=half s x hx;let⟨u,u0,u1,ey⟩:=half r y hy;exact agz hl h3 hs hr hne t0 t1 u0 u1 (by rw[<-ex,<-ey,e])
theorem adj{n:Q3}{l:A3 Q3}(hl:Hi n l){u v:Q3}(hu:u∈l)(hv:v∈l)(hne:u≠v)(h:∀x∈l,∀y∈l,CU n u v x<0->0<CU n u v y->False):(u,v)∈JJ l\/(v,u)∈JJ l:=by
 have key:∀{u v:Q3} {A D:A3 Q3},l=A++u::D->v∈D->(∀x∈l,∀y∈l,CU n u v x<0->0<CU n u v y->False)->(u,v)∈JJ l\/(v,u)∈JJ l:=by
  intro u v A D e hD h;obtain⟨B,C,rfl⟩:=pq hD;cases B with
  |nil=>
   left;rw[e]
   match A with|[]=>exact nA (B:=[])|x::A=>exact nA (B:=x::A)
  |cons x B=>
   have hx:CU n u v x<0:=by
    have:=hl u x v (by
     rw[e];refine((List.Sublist.cons_cons u ?_)).trans<|iU _ _
     exact((Qc B).append (Qc C|>.cons_cons v)).cons_cons x)
    have e2:CU n u v x= -CU n u x v:=by unfold CU AM Ah BE;grind
    rw[e2];grind
   have mx:x∈l:=by rw[e];simp
   match A,C with
   |[],[]=>right;rw[e];exact ux (B:=u::x::B)
   |y::A,_=>refine(h x mx y (by rw[e];simp) hx ?_).elim;rw[<-Z4];refine hl y u v ?_;rw[e];exact List.Sublist.cons_cons y<|(List.Sublist.cons_cons u<|(Qc (x::B)).append (Qc _|>.cons_cons v)).trans<|iU _ _
   |[],y::C=>refine(h x mx y (by rw[e];simp) hx ?_).elim;refine hl u v y ?_;rw[e];exact List.Sublist.cons_cons u<|(Qc (x::B)).append<|(Qc C|>.cons_cons y).cons_cons v
 let⟨A,D,e⟩:=pq hu;have JY:v∈A++u::D:=e▸hv;rcases C3.1 JY with m|m
 .obtain⟨A1,A2,rfl⟩:=pq m;refine(key (u:=v) (v:=u) (A:=A1) (D:=A2++u::D) (by rw[e];simp) AX λx mx y my h1 h2=>?_).symm;rw[yJ] at h1 h2;exact h y my x mx AL AL
 .grind
abbrev CQ:=H3×A3 Q3
def Qw(h k:H3):Prop:=∃s:Rat,0<s/\k=(BX h.1 s,h.2*s)
structure CH(S:A3 CQ)(M:A3 H3):Prop where
 bdd:Ee M
 int:∃o,∀h∈M,val h o<0
 nz:∀h∈M,h.1≠o3
 norm:∀h∈M,∀k∈M,Qw h k->h=k
 Eg:∀f∈S,f.1∈M/\Hi f.1.1 f.2/\3<=f.2.length/\∀p,p∈f.2↔Br M p/\val f.1 p=0
 RA:S.Pairwise λf g=>f.1≠g.1
 cover:∀p,Mem M p->(∃h∈M,val h p=0)->∃f∈S,val f.1 p=0
theorem aac{h:H3}{p:Q3}(e:val h p=0):h.2=AM h.1 p:=by unfold val at e;grind
theorem qU{M:A3 H3}{o:Q3}(hi:∀h∈M,val h o<0)(hz:∀h∈M,h.1≠o3)(hn:∀h∈M,∀k∈M,Qw h k->h=k){h k:H3}(mh:h∈M)(mk:k∈M)(hc:Ah h.1 k.1=o3){p:Q3}(th:val h p=0)(tk:val k p=0):h=k:=by
 have e:=par (hz h mh) hc
 generalize AM h.1 k.1/AM h.1 h.1=s at e
 have e2:k.2=h.2*s:=by rw[aac tk,aac th,e,LB];grind
 refine hn h mh k mk ⟨s,?_,Prod.ext e e2⟩;have a:=hi h mh;have b:=hi k mk;have c:val k o=s*val h o:=by unfold val;rw[e2,e,LB];grind
 refine Co λg=>?_
 have:=Db (show 0<= -s by grind) (show 0<= -val h o by grind)
 grind
def indep{f g k:Q3}(hf:f≠o3)(h:Ah g k≠o3):Ah f g≠o3\/Ah f k≠o3:=by
 by_cases h1:Ah f g=o3
 .by_cases h2:Ah f k=o3
  .refine absurd ?_ h;rw[par hf h1,par hf h2];exact J0
  .exact .inr h2
 .exact .inl h1
theorem pM{f k:Q3}(hf:f≠o3)(h:Ah f k=o3){w:Q3}(hw:AM f w=0):AM k w=0:=by rw[par hf h,LB,hw];grind
theorem aiN{L:A3 H3}(hb:Ee L){f:H3}(mf:f∈L)(hf:f.1≠o3){l:A3 Q3}(hl:Hi f.1 l)(h3:3<=l.length)(hv:∀p,p∈l↔Br L p/\val f p=0){s:Q3×Q3}(hs:s∈JJ l):∃g∈L,val g s.1=0/\val g s.2=0/\Ah f.1 g.1≠o3:=by
 let⟨u,v⟩:=s;let⟨mu,mv,hne,jW⟩:=TY hl h3 hs;dsimp only at*;let⟨vu,tu⟩:=(hv u).1 mu;let⟨vv,tv⟩:=(hv v).1 mv;refine Co λF6=>?_
 have tight:∀g∈L,val g (Dk u v<|1/2)=0->val g u=0/\val g v=0:=λg mg tg=>by
  rw[Fl] at tg;have:=vu.1 g mg;have:=vv.1 g mg
  grind
 have atL:∀g∈L,val g (Dk u v<|1/2)=0->Ah f.1 g.1=o3:=λg mg tg=>by let⟨a,b⟩:=tight g mg tg;exact Co λc=>F6 ⟨g,mg,a,b,c⟩
 have hw:AM f.1 (Ah (BE v u) f.1)=0:=YS _ _;have hz:Ah (BE v u) f.1≠o3:=λe=>by
  have hd:BE v u≠o3:=λe=>hne<|Po e
  have h0:AM f.1 (BE v u)=0:=by rw[val_sub,tu,tv];grind
  have:=par hd e;rw[NR] at h0;rw[h0] at this;refine hf (this.trans<|Wi ?_ ?_ ?_)<;>simp[BX]<;>grind
 have hm:Mem L (Dk u v<|1/2):=λg mg=>by
  rw[Fl];have:=vu.1 g mg;have:=vv.1 g mg
  grind
 let⟨e,e0,he⟩:=room hm (w:=Ah (BE v u) f.1) λg mg tg=>by rw[pM hf (atL g mg tg) hw];exact GR
 have hq:=he e (GS e0) GR;let⟨p,p1,p2,p3⟩:=Qh hb hq<|Ah (BE v u) f.1
 have tp:=p3 f mf (by rw[OU,hw,Fl,tu,tv];grind);have mp:=(hv p).2 ⟨p1,tp⟩;have ho:0<=CU f.1 u v p:=by
  by_cases h1:p=u
  .rw[h1,gM];exact GR
  .by_cases h2:p=v
   .rw[h2,PR];exact GR
   .grind
 have hpos:=GQ e0<|PB hz
 have e1:AM (Ah (BE v u) f.1) p-AM (Ah (BE v u) f.1) (Dk u v<|1/2)= -CU f.1 u v p:=by unfold CU Dk AM Ah BE Da BX;grind
 rw[OT,Fc] at p2
 grind
theorem three{L:A3 H3}(hb:Ee L){q:Q3}(hq:Mem L q){f:H3}(mf:f∈L)(tf:val f q=0)(hf:f.1≠o3)(ht:∀g∈L,val g q=0->Ah f.1 g.1=o3){l:A3 Q3}(hl:∀p,Br L p->val f p=0->p∈l):3<=l.length:=by
 have key:∀w,w≠o3->AM f.1 w=0->∃p∈l,AM w q<AM w p:=λw w0 hw=>by
  let⟨e,e0,he⟩:=room hq (w:=w) λg mg tg=>by rw[pM hf (ht g mg tg) hw];exact GR
  let⟨p,p1,p2,p3⟩:=Qh hb (he e (GS e0) GR) w;refine⟨p,hl p p1 (p3 f mf (by rw[OU,hw,tf];grind)),?_⟩;rw[OT,Fc] at p2;have:=GQ e0<|PB w0
  grind
 have neg:∀w:Q3,w≠o3->BX w (-1)≠o3:=λw h e=>h (by have e1:=congrArg Prod.fst e;have e2:=congrArg (λx=>x.2.1) e;have e3:=congrArg (λx=>x.2.2) e;simp[BX,o3] at e1 e2 e3;exact Wi AL AL AL)
 have both:∀w,w≠o3->AM f.1 w=0->∃p∈l,∃r∈l,AM w p≠AM w r:=λw w0 hw=>by let⟨p,mp,hp⟩:=key w w0 hw;let⟨r,mr,hr⟩:=key (BX w<| -1) (neg w w0) (by rw[Fc,hw];grind);rw[LB,LB] at hr;exact⟨p,mp,r,mr,AL⟩
 match l,both with
 |[],both=>let⟨d,d0,d1⟩:=VS f.1;let⟨p,mp,_⟩:=both d d0 d1;cases mp
 |[a],both=>let⟨d,d0,d1⟩:=VS f.1;let⟨p,mp,r,mr,h⟩:=both d d0 d1;rw[Cn.1 mp,Cn.1 mr] at h;exact absurd rfl h
 |[a,b],both=>
  let⟨d,d0,d1,d2⟩:=two (N:=[f.1]) (λu mu w mw=>by rw[Cn.1 mu,Cn.1 mw];exact UI)<|BE b a
  let⟨p,mp,r,mr,h⟩:=both d d0<|d1 _ AX
  rw[NR,WQ] at d2;have:∀x∈[a,b],AM d x=AM d a:=λx mx=>by
   rcases Aq.1 mx with e|mx
   .rw[e]
   .grind
  rw[this p mp,this r mr] at h;exact absurd rfl h
 |_::_::_::_,_=>simp
def fN{M:A3 H3}{h:H3}{p:Q3}(hp:Br M p)(hv:val h p<=0):Br (h::M) p:=⟨λk mk=>(Aq.1 mk).elim (λe=>by rw[e];exact hv)<|hp.1 k,λd hd=>hp.2 d λk mk=>hd k<|By _ mk⟩
theorem zq{h:H3}{u v:Q3}(hz:val h (Dk u v t)=0)(ho:GF (val h u) (val h v)=true):Dk u v t=Fe h u v:=by
 have h1:=KX.1 ho;have hn:val h u-val h v≠0:=AL;have e:val h u/(val h u-val h v)*(val h u-val h v)=val h u:=Nc hn;unfold Fe;rw[Fl] at hz
 congr 1
 generalize val h u/(val h u-val h v)=r at*
 have:(t-r)*(val h u-val h v)=0:=AL;rcases Hk.1 this with g|g
 .grind
 .grind
theorem akg(u v:Q3)(t:Rat):Dk u v t=Dk v u (1-t):=by unfold Dk Da BX BE;refine LC ?_ ?_ ?_<;>dsimp<;>grind
theorem yK(x y:Rat):GF x y=GF y x:=by rw[ZM,KX,KX];grind
theorem oG{M:A3 H3}(hb:Ee M){h:H3}{p:Q3}(hp:Br (h::M) p):Br M p\/(val h p=0/\∃u v,Br M u/\Br M v/\GF (val h u) (val h v)=true/\p=Fe h u v/\(∀k∈M,val k p=0->val k u=0/\val k v=0)/\∃f∈M,∃g∈M,val f p=0/\val g p=0/\Ah f.1 g.1≠o3):=by
 by_cases hv:Br M p
 .exact .inl hv
 right;have hm:Mem M p:=λk mk=>hp.1 k<|By _ mk
 have hz:val h p=0:=Co λc=>hv ⟨hm,λd hd=>hp.2 d λk mk tk=>by
  rcases Aq.1 mk with e|mk
  .grind
  .exact hd k mk tk⟩
 have:∃f∈M,∃g∈M,val f p=0/\val g p=0/\Ah f.1 g.1≠o3:=by
  refine Co λF6=>?_
  let⟨d,d0,d1,d2⟩:=two (N:=(M.filter λk=>decide<|val k p=0).map Prod.fst) (λu mu w mw=>by obtain⟨f,mf,rfl⟩:=BU.1 mu;obtain⟨g,mg,rfl⟩:=BU.1 mw;let⟨mf,tf⟩:=JE.1 mf;let⟨mg,tg⟩:=JE.1 mg;exact Co λc=>F6 ⟨f,mf,g,mg,Ar tf,Ar tg,c⟩) h.1
  refine d0<|hp.2 d λk mk tk=>?_
  rcases Aq.1 mk with e|mk
  .subst e;exact d2
  .grind
 refine⟨hz,?_⟩;let⟨f,mf,g,mg,tf,tg,hc⟩:=this;let⟨u,v,t,vu,vv,t0,t1,e,ht,hne⟩:=aur hb hm hv mf mg tf tg hc;have hz':=hz;rw[e,Fl] at hz';have both:val h u≠0\/val h v≠0:=by
  refine Co λc=>hne<|Po<|hp.2 _ λk mk tk=>?_
  rw[val_sub];rcases Aq.1 mk with e|mk
  .subst e;grind
  .grind
 have ho:GF (val h u) (val h v)=true:=by
  rw[KX];have hu:val h u≠0:=λc=>by rcases Hk.1 (show t*val h v=0 by rw[c] at hz';grind) with g|g<;>grind
  by_cases h1:val h u<0
  .left;refine⟨h1,Co λc=>?_⟩;have:=Db (show 0<=t by grind) (show 0<= -val h v by grind);have:=GQ (show 0<1-t by grind) (show 0< -val h u by grind)
   grind
  .right;refine⟨AL,Co λc=>?_⟩;have:=Db (show 0<=t by grind) (show 0<=val h v by grind);have:=GQ (show 0<1-t by grind) (show 0<val h u by grind)
   grind
 exact⟨u,v,vu,vv,ho,by rw[e];exact zq (by rw[<-e];exact hz) ho,ht,f,mf,g,mg,tf,tg,hc⟩
def yu{h:H3}{u v:Q3}(ho:GF (val h u) (val h v)=true):Fe h u v=Fe h v u:=by have:val h (Fe h u v)=0:=Yx ho;unfold Fe at this⊢;rw[akg] at this⊢;exact zq this (by rw[yK];exact ho)
theorem Vt{M:A3 H3}(hb:Ee M){f:H3}(mf:f∈M)(hf:f.1≠o3){l:A3 Q3}(hl:Hi f.1 l)(h3:3<=l.length)(hv:∀p,p∈l↔Br M p/\val f p=0)(h:H3)(p:Q3):p∈FV h l↔Br (h::M) p/\val f p=0:=by
 unfold FV;rw[MQ];constructor
 .rintro⟨s,hs,hx⟩;let⟨a1,a2,a3,a4⟩:=TY hl h3 hs;rcases xu hx with⟨e,hle⟩|⟨ho,e⟩
  .let⟨b1,b2⟩:=(hv s.1).1 a1;rw[e] at hle⊢;exact⟨fN b1 hle,b2⟩
  .let⟨g,mg,g1,g2,hc⟩:=aiN hb mf hf hl h3 hv hs;let⟨b1,b2⟩:=(hv s.1).1 a1;let⟨c1,c2⟩:=(hv s.2).1 a2;have t:=Pr ho;have hz:=Yx ho;have lin:∀k:H3,val k p=(1-val h s.1/(val h s.1-val h s.2))*val k s.1+val h s.1/(val h s.1-val h s.2)*val k s.2:=λk=>by rw[e];exact Fl _ _ _ _
   rw[<-e] at hz
   generalize val h s.1/(val h s.1-val h s.2)=r at*
   have tf:val f p=0:=AL;have tg:val g p=0:=AL;refine⟨zI (f:=f) (g:=g) (h:=h) (λk mk=>?_) (By _ mf) (By _ mg) Dc tf tg hz λhd=>?_,tf⟩
   .rcases Aq.1 mk with e|mk
    .grind
    .rw[lin];have:=Db (show 0<=1-r by grind) (show 0<= -val k s.1 by have:=b1.1 k mk;grind);have:=Db (show 0<=r by grind) (show 0<= -val k s.2 by have:=c1.1 k mk;grind)
     grind
   .let⟨x,hx⟩:=along hc (d:=BE s.2 s.1) (by rw[val_sub,b2,c2];grind) (by rw[val_sub,g1,g2];grind);have:=val_sub h s.1 s.2;rw[hx,Fc,hd] at this;have:=KX.1 ho
    grind
 .rintro⟨hp,tf⟩;rcases oG hb hp with h1|⟨hz,u,v,vu,vv,ho,e,ht,g,mg,k,mk,tg,tk,hc⟩
  .have hm:=(hv p).2 ⟨h1,tf⟩;rw[<-xA l] at hm;let⟨s,hs,e⟩:=BU.1 hm;refine⟨s,hs,?_⟩;unfold Lx;rw[e,B4<|hp.1 h Dc];simp
  .obtain⟨g,mg,tg,hc⟩:∃g∈M,val g p=0/\Ah f.1 g.1≠o3:=by
    rcases indep hf hc with x|x
    .grind
    .grind
   let⟨fu,fv⟩:=ht f mf tf;let⟨gu,gv⟩:=ht g mg tg;have mu:=(hv u).2 ⟨vu,fu⟩;have mv:=(hv v).2 ⟨vv,fv⟩;have hne:u≠v:=λc=>by rw[c] at ho;have:=KX.1 ho;grind
   let⟨x,hx⟩:=along hc (d:=BE v u) (by rw[val_sub,fu,fv];grind) (by rw[val_sub,gu,gv];grind);have Jw:∀y,val f y=0->CU f.1 u v y= -(x*AM f.1 f.1*val g y):=λy ty=>by
    have h1:=val_sub f u y;have h2:=val_sub g u y;rw[fu,ty] at h1;rw[gu] at h2;unfold CU;rw[hx];have e1:AM f.1 (Ah (BX (Ah f.1 g.1) x)<|BE y u)=x*(AM f.1 g.1*AM f.1 (BE y u)-AM f.1 f.1*AM g.1 (BE y u)):=by unfold AM Ah BX;grind
    rw[e1,h1,h2];grind
   rcases adj hl mu mv hne (λy my z mz h1 h2=>by
    let⟨vy,ty⟩:=(hv y).1 my;let⟨vz,tz⟩:=(hv z).1 mz;rw[Jw y ty] at h1;rw[Jw z tz] at h2;have a:=vy.1 g mg;have b:=vz.1 g mg;by_cases c:0<=x*AM f.1 f.1
    .have:=Db c (show 0<= -val g y by grind)
     grind
    .have:=Db (show 0<= -(x*AM f.1 f.1) by grind) (show 0<= -val g z by grind)
     grind) with hs|hs
   .refine⟨_,hs,?_⟩;unfold Lx;rw[ho,e];simp
   .refine⟨_,hs,?_⟩;unfold Lx;rw[yK,ho,e,yu ho];simp
theorem ap0{L:A3 H3}{f:H3}(hf:f.1≠o3){l:A3 Q3}(hw:Wk f.1 l)(hn:l.Nodup)(hv:∀p∈l,Br L p/\val f p=0):Hi f.1 l:=λa b c s=>by
 have h0:=hw a b c s;have hd:=List.Pairwise.sublist s hn;simp at hd;have ma:=hv a<|s.subset AX
 have mb:=hv b<|s.subset AX
 have mc:=hv c<|s.subset AX
 have:=zH hf ma.1 mb.1 mc.1 ma.2 mb.2 mc.2 hd.1.1 hd.1.2 hd.2
 grind
theorem Yy:((1,0,0):Q3)≠o3:=by grind [o3]
def fA{M:A3 H3}{v:Q3}(hv:Br M v){h:Q3}(hz:h≠o3):∃k∈M,val k v=0/\Ah h k.1≠o3:=by
 refine Co λF6=>?_
 let⟨d,d0,d1⟩:=VS h;refine d0<|hv.2 d λk mk tk=>pM hz ?_ d1
 exact Co λc=>F6 ⟨k,mk,tk,c⟩
def xi{S:A3 CQ}{M:A3 H3}(I:CH S M){v:Q3}(hv:Br M v):∃f∈S,v∈f.2:=by let⟨k,mk,tk,_⟩:=fA hv Yy;let⟨f,mf,tf⟩:=I.cover v hv.1 ⟨k,mk,tk⟩;exact⟨f,mf,((I.Eg f mf).2.2.2 v).2 ⟨hv,tf⟩⟩
theorem amQ{S:A3 CQ}{M:A3 H3}(I:CH S M){h:H3}(hn:∀f∈S,∀p∈f.2,0<=val h p){q:Q3}(hq:Mem M q):0<=val h q:=by
 let⟨v,v1,v2,_⟩:=Qh I.bdd hq<|BX h.1<| -1
 let⟨f,mf,mv⟩:=xi I v1;have:=hn f mf v mv;rw[LB,LB] at v2;unfold val at*;grind
theorem yQ{S:A3 CQ}{M:A3 H3}(I:CH S M){h:H3}(hn:∀f∈S,∀p∈f.2,val h p<=0){q:Q3}(hq:Mem M q):val h q<=0:=by let⟨v,v1,v2,_⟩:=Qh I.bdd hq h.1;let⟨f,mf,mv⟩:=xi I v1;have:=hn f mf v mv;unfold val at*;grind
theorem xP{M:A3 H3}{h:H3}(hz:h.1≠o3)(ho:∀q,Mem M q->val h q<=0){p:Q3}(hp:Mem M p)(tp:val h p=0):∃k∈M,val k p=0:=by
 refine Co λF6=>?_
 let⟨e,e0,he⟩:=room hp (w:=h.1) λk mk tk=>absurd ⟨k,mk,tk⟩ F6
 have h1:=ho _<|he e (GS e0) GR
 have:=GQ e0<|PB hz
 rw[OU,tp] at h1
 grind
theorem zG{M:A3 H3}(hb:Ee M){h:H3}(ho:∀q,Mem M q->val h q<=0)(p:Q3):Br (h::M) p↔Br M p:=by
 constructor
 .intro hp;rcases oG hb hp with h1|⟨_,u,v,vu,vv,atM,_⟩
  .exact h1
  .have:=ho u vu.1;have:=ho v vv.1;have:=KX.1 atM
   grind
 .exact λhp=>fN hp<|ho p hp.1
theorem CH.out{S:A3 CQ}{M:A3 H3}(I:CH S M){h:H3}(hz:h.1≠o3)(hn:∀a∈h::M,∀b∈h::M,Qw a b->a=b)(ho:∀f∈S,∀p∈f.2,val h p<=0):CH S (h::M):=by
 have hall:∀q,Mem M q->val h q<=0:=λq=>yQ I ho
 have IN:∀q,Mem (h::M) q->Mem M q:=λq hq k mk=>hq k<|By _ mk
 obtain⟨o,hi⟩:=I.int;refine⟨λd hd=>?_,⟨o,λk mk=>?_⟩,λk mk=>?_,hn,λf mf=>?_,I.RA,λp hp ht=>?_⟩
 .obtain⟨k,mk,hk⟩:=I.bdd d hd;exact⟨k,By _ mk,hk⟩
 .rcases Aq.1 mk with e|mk
  .subst e;have h1:=hall o λk mk=>GS<|hi k mk
   refine Co λc=>?_
   obtain⟨k',mk',tk'⟩:=xP hz hall (p:=o) (λk mk=>GS<|hi k mk) AL;have:=hi k' mk'
   grind
  .exact hi k mk
 .rcases Aq.1 mk with e|mk
  .subst e;exact hz
  .exact I.nz k mk
 .obtain⟨f1,f2,f3,f4⟩:=I.Eg f mf;exact⟨By _ f1,f2,f3,λp=>by rw[zG I.bdd hall];exact f4 p⟩
 .obtain⟨k,mk,tk⟩:=ht;rcases Aq.1 mk with e|mk
  .subst e;exact I.cover p (IN p hp)<|xP hz hall (IN p hp) tk
  .exact I.cover p (IN p hp) ⟨k,mk,tk⟩
theorem toward{a b:Rat}(ha:a<0):∃t:Rat,0<t/\t<1/\(1-t)*a+t*b<0:=by
 by_cases hb:b<=0
 .exact⟨1/2,AL,AL,AL⟩
 .have hn:b-a≠0:=AL;have e: -a/(b-a)*(b-a)= -a:=Nc hn;have hp:0< -a/(b-a):=by rw[PV];exact GQ AL<|S2.2 AL
  generalize -a/(b-a)=r at*
  have h1:r<1:=Co λc=>by
   have:=Db (show 0<=r-1 by grind) (show 0<=b-a by grind)
   grind
  exact⟨r*(1/2),AL,AL,AL⟩
theorem rY{M:A3 H3}{o p:Q3}(hi:∀k∈M,val k o<0)(hp:Mem M p){h:H3}(ha:val h p<0):∃q,(∀k∈M,val k q<0)/\val h q<0:=by
 let⟨t,t0,t1,ht⟩:=toward (b:=val h o) ha;refine⟨Dk p o t,λk mk=>?_,by rw[Fl];exact ht⟩;rw[Fl];have a:=Db (show 0<=1-t by grind) (show 0<= -val k p by have:=hp k mk;grind);have b:=GQ t0 (show 0< -val k o by have:=hi k mk;grind)
 grind
theorem xo(h:H3)(p:Q3):val (BX h.1<| -1,-h.2) p= -val h p:=by unfold val;rw[LB];grind
theorem aqM{M:A3 H3}{o p:Q3}(hi:∀k∈M,val k o<0)(hp:Mem M p){h:H3}(ha:0<val h p):∃q,(∀k∈M,val k q<0)/\0<val h q:=by let⟨q,q1,q2⟩:=rY hi hp (h:=(BX h.1<| -1,-h.2)) (by rw[xo];grind);rw[xo] at q2;exact⟨q,q1,AL⟩
theorem abG{S:A3 CQ}{M:A3 H3}(I:CH S M){f:CQ}(mf:f∈S):∃z,Mem M z/\val f.1 z=0/\∀g∈M,val g z=0->Ah f.1.1 g.1=o3:=by
 let⟨f1,f2,f3,f4⟩:=I.Eg f mf
 match hl:f.2,f3 with
 |a::b::c::l,_=>
  have ho:=f2 a b c (by rw[hl];exact((Qc l).cons_cons c|>.cons_cons b).cons_cons a);let⟨va,ta⟩:=(f4 a).1 (by rw[hl];simp);let⟨vb,tb⟩:=(f4 b).1 (by rw[hl];simp);let⟨vc,tc⟩:=(f4 c).1 (by rw[hl];simp);refine⟨Dk (Dk a b<|1/2) c<|1/3,λk mk=>?_,?_,λg mg tg=>?_⟩
  .rw[Fl,Fl];have:=va.1 k mk;have:=vb.1 k mk;have:=vc.1 k mk
   grind
  .rw[Fl,Fl,ta,tb,tc];grind
  .rw[Fl,Fl] at tg;have:=va.1 g mg;have:=vb.1 g mg;have:=vc.1 g mg;have ga:val g a=0:=AL;have gb:val g b=0:=AL;have gc:val g c=0:=AL;refine Co λhc=>?_
   let⟨s,hs⟩:=along hc (d:=BE b a) (by rw[val_sub,ta,tb];grind) (by rw[val_sub,ga,gb];grind);let⟨r,hr⟩:=along hc (d:=BE c a) (by rw[val_sub,ta,tc];grind) (by rw[val_sub,ga,gc];grind);unfold CU at ho;rw[hs,hr] at ho;have:AM f.1.1 (Ah (BX (Ah f.1.1 g.1) s)<|BX (Ah f.1.1 g.1) r)=0:=by unfold AM Ah BX;grind
   grind
def No(h:H3)(S:A3 CQ):A3 CQ:=S.filterMap λf=>bif decide (2<(FV h f.2).length) then some (f.1,FV h f.2) else none
def xj{h:H3}{S:A3 CQ}{g:CQ}(hg:g∈No h S):∃f∈S,2<(FV h f.2).length/\g=(f.1,FV h f.2):=by let⟨f,mf,e⟩:=List.mem_filterMap.1 hg;cases hd:decide (2<(FV h f.2).length) with|false=>rw[hd] at e;cases e|true=>rw[hd] at e;exact⟨f,mf,Ar hd,(E8 e).symm⟩
def alR{h:H3}{S:A3 CQ}{f:CQ}(mf:f∈S)(hl:2<(FV h f.2).length):(f.1,FV h f.2)∈No h S:=List.mem_filterMap.2 ⟨f,mf,by rw[B4 hl];rfl⟩
def CH.Vt{S:A3 CQ}{M:A3 H3}(I:CH S M)(h:H3):∀f∈S,∀p,p∈FV h f.2↔Br (h::M) p/\val f.1 p=0:=λf mf p=>by let⟨g1,g2,g3,g4⟩:=I.Eg f mf;exact Trn.Vt I.bdd g1 (I.nz _ g1) g2 g3 g4 h p
theorem CH.cut{S:A3 CQ}{M:A3 H3}(I:CH S M){h:H3}(hz:h.1≠o3){f0 f1:CQ}{p0 p1:Q3}(m0:f0∈S)(q0:p0∈f0.2)(h0:val h p0<0)(m1:f1∈S)(q1:p1∈f1.2)(h1:0<val h p1):(∃o,(∀k∈M,val k o<0)/\val h o<0)/\(∀p,((∃f∈S,p∈FV h f.2)/\val h p=0)↔Br (h::M) p/\val h p=0)/\∀l:A3 Q3,(∀p,Br (h::M) p->val h p=0->p∈l)->3<=l.length:=by
 obtain⟨o,hi⟩:=I.int;have v0:=(((I.Eg f0 m0).2.2.2 p0).1 q0).1;have v1:=(((I.Eg f1 m1).2.2.2 p1).1 q1).1;have IN:∀q,Mem (h::M) q->Mem M q:=λq hq k mk=>hq k<|By _ mk
 have hb:Ee (h::M):=λd hd=>by obtain⟨k,mk,hk⟩:=I.bdd d hd;exact⟨k,By _ mk,hk⟩
 obtain⟨o1,i1,n1⟩:=rY hi v0.1 h0;obtain⟨o2,i2,n2⟩:=aqM hi v1.1 h1;have cm:=I.Vt h;refine⟨⟨o1,i1,n1⟩,λp=>?_,λl hl=>?_⟩
 .constructor
  .rintro⟨⟨f,mf,mp⟩,tp⟩;exact⟨((cm f mf p).1 mp).1,tp⟩
  .rintro⟨vp,tp⟩;refine⟨?_,tp⟩;obtain⟨k,mk,tk,hc⟩:=fA vp hz;rcases Aq.1 mk with e|mk
   .subst e;exact absurd UI hc
   .obtain⟨f,mf,tf⟩:=I.cover p (IN p vp.1) ⟨k,mk,tk⟩;exact⟨f,mf,(cm f mf p).2 ⟨vp,tf⟩⟩
 .have ho:GF (val h o1) (val h o2)=true:=KX.2 (.inl ⟨n1,n2⟩);have t:=Pr ho;have hv:=Yx ho;have neg:∀k∈M,val k (Fe h o1 o2)<0:=λk mk=>by
   unfold Fe;rw[Fl]
   generalize val h o1/(val h o1-val h o2)=r at t
   have:=GQ (show 0<1-r by grind) (show 0< -val k o1 by have:=i1 k mk;grind);have:=GQ (show 0<r by grind) (show 0< -val k o2 by have:=i2 k mk;grind)
   grind
  refine three hb (q:=Fe h o1 o2) (λk mk=>?_) (f:=h) Dc hv hz (λg mg tg=>?_) hl
  .grind
  .rcases Aq.1 mg with e|mg
   .subst e;exact UI
   .grind
theorem CH.clip{S:A3 CQ}{M:A3 H3}(I:CH S M){h:H3}(hz:h.1≠o3)(hn:∀a∈h::M,∀b∈h::M,Qw a b->a=b){f0 f1:CQ}{p0 p1:Q3}(m0:f0∈S)(q0:p0∈f0.2)(h0:val h p0<0)(m1:f1∈S)(q1:p1∈f1.2)(h1:0<val h p1)
  {l:A3 Q3}(hl:Hi h.1 l)(hm:∀p,p∈l↔(∃f∈S,p∈FV h f.2)/\val h p=0):CH (No h S++[(h,l)]) (h::M):=by
 obtain⟨⟨o1,i1,n1⟩,c1,c2⟩:=I.cut hz m0 q0 h0 m1 q1 h1;have v1:=(((I.Eg f1 m1).2.2.2 p1).1 q1).1;have Nz:h∉M:=λc=>by have:=v1.1 h c;grind
 have IN:∀q,Mem (h::M) q->Mem M q:=λq hq k mk=>hq k<|By _ mk
 have hb:Ee (h::M):=λd hd=>by obtain⟨k,mk,hk⟩:=I.bdd d hd;exact⟨k,By _ mk,hk⟩
 have cm:=I.Vt h;have lm:∀p,p∈l↔Br (h::M) p/\val h p=0:=λp=>by rw[hm,c1]
 have l3:3<=l.length:=c2 l λp vp tp=>(lm p).2 ⟨vp,tp⟩
 refine⟨hb,⟨o1,λk mk=>?_⟩,λk mk=>?_,hn,λg mg=>?_,?_,λp hp ht=>?_⟩
 .grind
 .rcases Aq.1 mk with e|mk
  .subst e;exact hz
  .exact I.nz k mk
 .rcases C3.1 mg with mg|mg
  .obtain⟨f,mf,hlen,e⟩:=xj mg;subst e;obtain⟨g1,g2,g3,g4⟩:=I.Eg f mf;exact⟨By _ g1,ap0 (I.nz _ g1) (anV g2.wk) (ahg g2 g3) λp mp=>(cm f mf p).1 mp,hlen,cm f mf⟩
  .grind
 .refine LK.2 ⟨?_,SC _ _,λg mg k mk=>?_⟩
  .unfold No;refine List.pairwise_filterMap.2<|I.RA.imp λ{a b} J4 x ex y ey=>?_
   cases ha:decide (2<(FV h a.2).length) with
   |false=>rw[ha] at ex;cases ex
   |true=>
    cases hb:decide (2<(FV h b.2).length) with
    |false=>rw[hb] at ey;cases ey
    |true=>rw[ha] at ex;rw[hb] at ey;rw[<-E8 ex,<-E8 ey];exact J4
  .obtain⟨f,mf,_,e⟩:=xj mg;rw[e,Cn.1 mk];exact λc=>Nz (by have:=(I.Eg f mf).1;rwa [show f.1=h from c] at this)
 .by_cases tp:val h p=0
  .exact⟨(h,l),AX,tp⟩
  .obtain⟨k,mk,tk⟩:=ht;rcases Aq.1 mk with e|mk
   .grind
   .obtain⟨f,mf,tf⟩:=I.cover p (IN p hp) ⟨k,mk,tk⟩;by_cases hlen:2<(FV h f.2).length
    .exact⟨_,IB _<|alR mf hlen,tf⟩
    .exfalso;have Iq:val h p<0:=by have:=hp h Dc;grind
     obtain⟨z,mz,tz,hc⟩:=abG I mf;obtain⟨t,t0,t1,hq⟩:=toward (b:=val h z) Iq;have g1:=(I.Eg f mf).1;refine hlen (three hb (q:=Dk p z t) (λk mk=>?_) (f:=f.1) (By _ g1) (by rw[Fl,tf,tz];grind) (I.nz _ g1) (λg mg tg=>?_) λx vx tx=>(cm f mf x).2 ⟨vx,tx⟩)
     .rw[Fl];rcases Aq.1 mk with e|mk
      .subst e;exact GS hq
      .have:=Db (show 0<=1-t by grind) (show 0<= -val k p by have:=hp k (By _ mk);grind);have:=Db (show 0<=t by grind) (show 0<= -val k z by have:=mz k mk;grind)
       grind
     .rw[Fl] at tg;rcases Aq.1 mg with e|mg
      .subst e;grind
      .refine hc g mg ?_;have a:=Db (show 0<=1-t by grind) (show 0<= -val g p by have:=hp g (By _ mg);grind);have b:=Db (show 0<=t by grind) (show 0<= -val g z by have:=mz g mg;grind);have c:t*val g z=0:=AL;rcases Hk.1 c with x|x<;>grind
theorem CH.empty{S:A3 CQ}{M:A3 H3}(I:CH S M){h:H3}(hn:∀f∈S,∀p∈f.2,0<=val h p): ¬ ∃o,∀k∈h::M,val k o<0:=λ⟨o,ho⟩=>by
 have:=amQ I hn (q:=o) λk mk=>GS<|ho k<|By _ mk
 have:=ho h Dc
 grind
theorem abW{w:Q3}{s:Rat}(h:w≠o3)(hs:s≠0):BX w s≠o3:=λe=>h (by
 have e1:=congrArg Prod.fst e;have e2:=congrArg (λx=>x.2.1) e;have e3:=congrArg (λx=>x.2.2) e;simp[BX,o3] at e1 e2 e3;have z:∀x:Rat,x*s=0->x=0:=λx hx=>by
  rcases Hk.1 hx with g|g
  .exact g
  .grind
 exact Wi (z _ e1) (z _ e2)<|z _ e3)
def rW(s:Rat):BX o3 s=o3:=J0
def jq(w:Q3):BX w 0=o3:=J0
theorem alT{L:A3 H3}(hp:∃f∈L,∃g∈L,Ah f.1 g.1≠o3)(hc:∀f∈L,∀g∈L,Ah f.1 g.1≠o3->∃h∈L,0<AM h.1 (Ah f.1 g.1)):∀(n:Nat) (d:Q3),(L.filter λh=> !decide (AM h.1 d=0)).length<=n->d≠o3->(∀h∈L,AM h.1 d<=0)->False:=by
 intro n
 induction n with
 |zero=>
  intro d hn hd hle;have h0:(L.filter λh=> !decide (AM h.1 d=0))=[]:=LN A4;have ht:∀h∈L,AM h.1 d=0:=λh mh=>Co λe=>by have:h∈(L.filter λh=> !decide (AM h.1 d=0)):=JE.2 ⟨mh,by simp[e]⟩;rw[h0] at this;cases this
  let⟨f,mf,g,mg,hfg⟩:=hp;let⟨s,hs⟩:=along hfg (ht f mf)<|ht g mg
  let⟨h,mh,hh⟩:=hc f mf g mg hfg;have:=ht h mh;rw[hs,Fc] at this;rcases Hk.1 this with e|e
  .subst e;exact hd<|hs.trans<|jq _
  .grind
 |succ n ih=>
  intro d hn hd hle;by_cases hA:∃f∈L,∃g∈L,AM f.1 d=0/\AM g.1 d=0/\Ah f.1 g.1≠o3
  .let⟨f,mf,g,mg,tf,tg,hfg⟩:=hA;let⟨s,hs⟩:=along hfg tf tg;have hs0:s≠0:=λe=>hd (by rw[hs,e];exact jq _)
   by_cases h0:0<s
   .let⟨h,mh,hh⟩:=hc f mf g mg hfg;have:=hle h mh;rw[hs,Fc] at this;have:=GQ h0 hh
    grind
   .let⟨h,mh,hh⟩:=hc g mg f mf (by rw[Va];exact abW hfg AL);have:=hle h mh;rw[hs,Fc] at this;rw[Va,Fc] at hh;have:=GQ (show 0< -s by grind) hh
    grind
  .let⟨e,e0,e1,e2⟩:=two (N:=(L.filter λk=>decide<|AM k.1 d=0).map Prod.fst) (λu mu w mw=>by obtain⟨f,mf,rfl⟩:=BU.1 mu;obtain⟨g,mg,rfl⟩:=BU.1 mw;let⟨mf,tf⟩:=JE.1 mf;let⟨mg,tg⟩:=JE.1 mg;exact Co λc=>hA ⟨f,mf,g,mg,Ar tf,Ar tg,c⟩) d
   have go:∀e:Q3,e≠o3->(∀k∈L,AM k.1 d=0->AM k.1 e=0)->AM d e=0->(∃k∈L,0<AM k.1 e)->False:=by
    intro e e0 et ed hk;let⟨h,mh,ph,hm⟩:=least (λh:H3=>0<AM h.1 e) (λh=> -AM h.1 d/AM h.1 e) L hk;have key:∀k:H3,0<AM k.1 e-> -AM k.1 d/AM k.1 e*AM k.1 e= -AM k.1 d:=λk hk=>Nc AL
    have hne:AM h.1 d≠0:=λc=>by have:=et h mh c;grind
    have hr:0<= -AM h.1 d/AM h.1 e:=by rw[PV];exact Db (by have:=hle h mh;grind)<|GS<|S2.2 ph
    have kh:=key h ph
    generalize hR: -AM h.1 d/AM h.1 e=r at*
    have:=filter_lt (L:=L) (p:=λh=> !decide (AM h.1 d=0)) (q:=λh=> !decide (AM h.1 (Da d<|BX e r)=0)) (x:=h) (λy my hy=>by
     simp at hy⊢;exact λc=>hy (by rw[OT,Fc,c,et y my c];grind)) mh (by simp[hne]) (by
     have:AM h.1 (Da d<|BX e r)=0:=by rw[OT,Fc];grind
     simp[this])
    refine ih (Da d<|BX e r) A4 (λc=>?_) λk mk=>?_
    .have h1:AM d (Da d<|BX e r)=0:=by rw[c,Wo]
     rw[OT,Fc,ed] at h1;have:=PB hd
     grind
    .rw[OT,Fc];by_cases g:0<AM k.1 e
     .have h1:=hm k mk g;have h2:=key k g;have h3:=Zf h1<|GS g
      grind
     .have:=Db hr (show 0<= -AM k.1 e by grind);have:=hle k mk
      grind
   have et:∀k∈L,AM k.1 d=0->AM k.1 e=0:=λk mk tk=>e1 _<|BU.2 ⟨k,JE.2 ⟨mk,B4 tk⟩,rfl⟩
   by_cases hx:∃k∈L,0<AM k.1 e
   .grind
   .by_cases hy:∃k∈L,0<AM k.1 (BX e<| -1)
    .exact go _ (abW e0 AL) (λk mk tk=>by rw[Fc,et k mk tk];grind) (by rw[Fc,e2];grind) hy
    .have hz:∀k∈L,AM k.1 e=0:=λk mk=>by
      have a: ¬0<AM k.1 e:=λc=>hx ⟨k,mk,c⟩
      have b: ¬0<AM k.1 (BX e<| -1):=λc=>hy ⟨k,mk,c⟩
      rw[Fc] at b
      grind
     let⟨f,mf,g,mg,hfg⟩:=hp;let⟨s,hs⟩:=along hfg (hz f mf)<|hz g mg
     let⟨h,mh,hh⟩:=hc f mf g mg hfg;have:=hz h mh;rw[hs,Fc] at this;rcases Hk.1 this with c|c
     .subst c;exact e0<|hs.trans<|jq _
     .grind
theorem ana{L:A3 H3}:Ee L↔(∃f∈L,∃g∈L,Ah f.1 g.1≠o3)/\∀f∈L,∀g∈L,Ah f.1 g.1≠o3->∃h∈L,0<AM h.1 (Ah f.1 g.1):=by
 constructor
 .refine λhb=>⟨Co λF6=>?_,λf mf g mg hfg=>hb _ hfg⟩
  let⟨d,d0,d1,_⟩:=two (N:=L.map Prod.fst) (λu mu w mw=>by obtain⟨f,mf,rfl⟩:=BU.1 mu;obtain⟨g,mg,rfl⟩:=BU.1 mw;exact Co λc=>F6 ⟨f,mf,g,mg,c⟩) o3
  let⟨h,mh,hh⟩:=hb d d0;have:=d1 _<|BU.2 ⟨h,mh,rfl⟩
  grind
 .rintro⟨hp,hc⟩ d hd;refine Co λF6=>alT hp hc _ d (BK _) hd λh mh=>?_
  exact Co λc=>F6 ⟨h,mh,AL⟩
def EP(a b c:Q3):Rat:=AM (Ah a b) c
def Im(a b c:H3):Q3:=BX (Da (Da (BX (Ah b.1 c.1) a.2)<|BX (Ah c.1 a.1) b.2)<|BX (Ah a.1 b.1) c.2) (EP a.1 b.1 c.1)⁻¹
theorem VW{a b c:H3}(hd:EP a.1 b.1 c.1≠0):val a (Im a b c)=0/\val b (Im a b c)=0/\val c (Im a b c)=0:=by
 have hi:=iI _ hd;unfold Im
 generalize (EP a.1 b.1 c.1)⁻¹ =i at hi
 unfold EP at hi;refine⟨?_,?_,?_⟩
 .have:val a (BX (Da (Da (BX (Ah b.1 c.1) a.2)<|BX (Ah c.1 a.1) b.2)<|BX (Ah a.1 b.1) c.2) i)=a.2*(AM (Ah a.1 b.1) c.1*i)-a.2:=by unfold val AM BX Da Ah;grind
  rw[this,hi];grind
 .have:val b (BX (Da (Da (BX (Ah b.1 c.1) a.2)<|BX (Ah c.1 a.1) b.2)<|BX (Ah a.1 b.1) c.2) i)=b.2*(AM (Ah a.1 b.1) c.1*i)-b.2:=by unfold val AM BX Da Ah;grind
  rw[this,hi];grind
 .have:val c (BX (Da (Da (BX (Ah b.1 c.1) a.2)<|BX (Ah c.1 a.1) b.2)<|BX (Ah a.1 b.1) c.2) i)=c.2*(AM (Ah a.1 b.1) c.1*i)-c.2:=by unfold val AM BX Da Ah;grind
  rw[this,hi];grind
def Yu{a b c d:Q3}(hd:EP a b c≠0)(h1:AM a d=0)(h2:AM b d=0)(h3:AM c d=0):d=o3:=by
 have hc:Ah a b≠o3:=λe=>hd (by unfold EP;rw[e,NR,Wo])
 obtain⟨s,rfl⟩:=along hc h1 h2;rw[Fc] at h3;rcases Hk.1 h3 with e|e
 .subst e;exact jq _
 .exact absurd (by unfold EP;rw[NR];exact e) hd
theorem Yf{L:A3 H3}{p:Q3}:Br L p↔Mem L p/\∃a∈L,∃b∈L,∃c∈L,EP a.1 b.1 c.1≠0/\p=Im a b c:=by
 constructor
 .intro hv;refine⟨hv.1,?_⟩;let⟨a,ma,ta,ha⟩:=fA hv Yy;have a0:a.1≠o3:=λe=>ha (by rw[e];exact J0)
  let⟨b,mb,tb,hb⟩:=fA hv a0;have:∃c∈L,val c p=0/\EP a.1 b.1 c.1≠0:=by
   refine Co λF6=>hb<|hv.2 _ λc mc tc=>?_
   refine Co λhc=>F6 ⟨c,mc,tc,λe=>hc ?_⟩
   rw[NR];exact e
  let⟨c,mc,tc,hc⟩:=this;refine⟨a,ma,b,mb,c,mc,hc,?_⟩;let⟨t1,t2,t3⟩:=VW (a:=a) (b:=b) (c:=c) hc;refine Po<|Yu hc ?_ ?_ ?_
  .rw[val_sub,ta,t1];grind
  .rw[val_sub,tb,t2];grind
  .rw[val_sub,tc,t3];grind
 .rintro⟨hm,a,ma,b,mb,c,mc,hd,rfl⟩;let⟨t1,t2,t3⟩:=VW hd;refine⟨hm,λd h=>Yu hd (h a ma t1) (h b mb t2)<|h c mc t3⟩
theorem wQ(a b c:Q3):EP b a c= -EP a b c:=by unfold EP AM Ah;grind
theorem wP(a b c:Q3):EP a c b= -EP a b c:=by unfold EP AM Ah;grind
theorem agP(a b c:H3)(h:EP a.1 b.1 c.1≠0):Im b a c=Im a b c:=by
 have h2:EP b.1 a.1 c.1≠0:=by rw[wQ];grind
 let⟨t1,t2,t3⟩:=VW h;let⟨u1,u2,u3⟩:=VW h2;exact Po (Yu h (by rw[val_sub,t1,u2];grind) (by rw[val_sub,t2,u1];grind) (by rw[val_sub,t3,u3];grind))
theorem agO(a b c:H3)(h:EP a.1 b.1 c.1≠0):Im a c b=Im a b c:=by
 have h2:EP a.1 c.1 b.1≠0:=by rw[wP];grind
 let⟨t1,t2,t3⟩:=VW h;let⟨u1,u2,u3⟩:=VW h2;exact Po (Yu h (by rw[val_sub,t1,u1];grind) (by rw[val_sub,t2,u3];grind) (by rw[val_sub,t3,u2];grind))
theorem xN{L:A3 H3}(hb:Ee L){n:Q3}{c:Rat}(h:∀p,Br L p->AM n p=c){q:Q3}(hq:Mem L q):AM n q=c:=by
 let⟨v,v1,v2,_⟩:=Qh hb hq n;let⟨u,u1,u2,_⟩:=Qh hb hq<|BX n<| -1
 rw[LB,LB] at u2;have:=h v v1;have:=h u u1
 grind
theorem agI{L:A3 H3}(hb:Ee L){n:Q3}(hn:n≠o3){c:Rat}(h:∀p,Br L p->AM n p=c): ¬ ∃o,∀k∈L,val k o<0:=λ⟨o,ho⟩=>by
 have mo:Mem L o:=λk mk=>GS<|ho k mk
 let⟨e,e0,he⟩:=room mo (w:=n) λk mk tk=>by have:=ho k mk;grind
 have h1:=xN hb h mo;have h2:=xN hb h<|he e (GS e0) GR
 have:=GQ e0<|PB hn
 rw[OT,Fc] at h2
 grind
theorem al1{L:A3 H3}(hz:∀k∈L,k.1≠o3){a b c d:Q3}(ha:Mem L a)(hb:Mem L b)(hc:Mem L c)(hd:Mem L d)(h:EP (BE b a) (BE c a) (BE d a)≠0):∃o,∀k∈L,val k o<0:=by
 refine⟨Dk (Dk a b<|1/2) (Dk c d<|1/2)<|1/2,λk mk=>?_⟩;have e:val k (Dk (Dk a b<|1/2) (Dk c d<|1/2)<|1/2)=(1/4)*(val k a+val k b+val k c+val k d):=by rw[Fl,Fl,Fl];grind
 have h1:=ha k mk;have h2:=hb k mk;have h3:=hc k mk;have h4:=hd k mk;refine Co λg=>hz k mk ?_
 have a0:val k a=0:=AL;have b0:val k b=0:=AL;have c0:val k c=0:=AL;have d0:val k d=0:=AL;refine Yu h ?_ ?_ ?_<;>rw[NR,val_sub]
 .rw[a0,b0];grind
 .rw[a0,c0];grind
 .rw[a0,d0];grind
theorem al8{S:A3 CQ}{M:A3 H3}(I:CH S M){h:H3}(mh:h∈M){a b c:Q3}(va:Br M a)(vb:Br M b)(vc:Br M c)(ta:val h a=0)(tb:val h b=0)(tc:val h c=0)(J4:a≠b)(hac:a≠c)(hbc:b≠c):∃f∈S,f.1=h:=by
 let⟨o,hi⟩:=I.int;have hz:val h (Dk (Dk a b<|1/2) c<|1/3)=0:=by rw[Fl,Fl,ta,tb,tc];grind
 let⟨f,mf,tf⟩:=I.cover (Dk (Dk a b<|1/2) c<|1/3) (λk mk=>by
  rw[Fl,Fl];have:=va.1 k mk;have:=vb.1 k mk;have:=vc.1 k mk
  grind) ⟨h,mh,hz⟩
 have g1:=(I.Eg f mf).1;refine⟨f,mf,qU hi I.nz I.norm g1 mh (Co λhc=>?_) tf hz⟩;rw[Fl,Fl] at tf;have:=va.1 _ g1;have:=vb.1 _ g1;have:=vc.1 _ g1;have fa:val f.1 a=0:=AL;have fb:val f.1 b=0:=AL;have fc:val f.1 c=0:=AL;let⟨s,hs⟩:=along hc (d:=BE b a) (by rw[val_sub,fa,fb];grind) (by rw[val_sub,ta,tb];grind);let⟨r,hr⟩:=along hc (d:=BE c a) (by rw[val_sub,fa,fc];grind) (by rw[val_sub,ta,tc];grind);refine oF va vb vc J4 hac hbc ?_;rw[hs,hr];exact J0
end
structure M4{α:Type}(c:α×α->AA Int)(R:α->α->Prop)(l:A3 α):Prop where
 get:∀x∈l,∀y∈l,∃v,c (x,y)=some v/\(v<0↔R x y)
 irr:∀x∈l,¬R x x
 tr:∀x∈l,∀y∈l,∀z∈l,R x y->R y z->R x z
 M8:∀x∈l,∀y∈l,x=y\/R x y\/R y x
section
variable{α:Type}[DecidableEq α]{c:α×α->Option Int}{R:α->α->Prop}
variable{l:A3 α}
theorem M4.perm{m:A3 α}(h:M4 c R l)(p:m.Perm l):M4 c R m:=⟨λx mx y my=>h.get x (p.mem_iff.1 mx) y<|p.mem_iff.1 my,λx mx=>h.irr x<|p.mem_iff.1 mx,λx mx y my z mz=>h.tr x (p.mem_iff.1 mx) y (p.mem_iff.1 my) z<|p.mem_iff.1 mz,λx mx y my=>h.M8 x (p.mem_iff.1 mx) y<|p.mem_iff.1 my⟩
theorem aa3{x:α}:∀{s:A3 α},M4 c R (x::s)->s.Pairwise (λa b=>a=b\/R b a)->∃r,Nx (λa b=>c (a,b)) x s=some r/\r.Perm (x::s)/\r.Pairwise (λa b=>a=b\/R b a)
 |[],_,_=>⟨[x],rfl,List.Perm.refl _,SC _ _⟩
 |y::s,h,hs=>by
  have mx:x∈x::y::s:=Dc;have my:y∈x::y::s:=AX;let⟨v,hv,JY⟩:=h.get x mx y my;let⟨h1,h2⟩:=JF.1 hs;unfold Nx;rw[hv];show ∃r,cond (decide<|v<0) _ _=some r/\_;by_cases hl:v<0
  .let⟨r,r1,r2,r3⟩:=aa3 (x:=x) (s:=s) ⟨λa ma b mb=>h.get a AL b AL,λa ma=>h.irr a AL,λa ma b mb d md=>h.tr a AL b AL d AL,λa ma b mb=>h.M8 a AL b AL⟩ h2;refine⟨y::r,by rw[B4 hl,BI,r1];rfl,((r2.cons y).trans<|List.Perm.swap x y s),JF.2 ⟨λz mz=>?_,r3⟩⟩;rcases Aq.1 (r2.mem_iff.1 mz) with e|mz
   .rw[e];exact .inr<|JY.1 hl
   .exact h1 z mz
  .refine⟨x::y::s,by rw[Bo hl];rfl,List.Perm.refl _,JF.2 ⟨λz mz=>?_,hs⟩⟩;have nxy: ¬R x y:=λk=>hl<|JY.2 k
   have hxy:x=y\/R y x:=by
    rcases h.M8 x mx y my with e|e|e
    .exact .inl e
    .exact absurd e nxy
    .exact .inr e
   rcases Aq.1 mz with e|mz
   .rw[e];exact hxy
   .rcases hxy with e|e
    .rw[e];exact h1 z mz
    .rcases h1 z mz with e2|e2
     .rw[<-e2];exact .inr e
     .exact .inr (h.tr z (by simp[mz]) y my x mx e2 e)
theorem xZ:∀(l s:A3 α),M4 c R (s++l)->s.Pairwise (λa b=>a=b\/R b a)->∃r,JX l (λnext x s=>bd (Nx (λa b=>c (a,b)) x s) next) s (λs=>some s.reverse)=some r/\r.Perm (s++l)/\r.Pairwise (λa b=>a=b\/R a b)
 |[],s,h,hs=>⟨s.reverse,rfl,by rw[Ig];exact List.reverse_perm s,by rw[List.pairwise_reverse];exact hs.imp λ{a b} k=>k.elim (λe=> .inl e.symm) .inr⟩
 |x::l,s,h,hs=>by let⟨r,r1,r2,r3⟩:=aa3 (x:=x) (s:=s) ⟨λa ma b mb=>h.get a AL b AL,λa ma=>h.irr a AL,λa ma b mb d md=>h.tr a AL b AL d AL,λa ma b mb=>h.M8 a AL b AL⟩ hs;have p:(r++l).Perm (s++x::l):=(r2.append_right l).trans (by simpa using(@List.perm_middle _ x s l).symm);let⟨t,t1,t2,t3⟩:=xZ l r (h.perm p) r3;refine⟨t,?_,t2.trans p,t3⟩;show bd (Nx (λa b=>c (a,b)) x s) _=_;rw[r1];exact t1
theorem aaX{x:α}:∀{s:A3 α},M4 c R (x::s)->(∀y∈s,x=y\/R x y)->XB c x s=true
 |[],_,_=>rfl
 |y::s,h,hs=>by
  have mx:x∈x::y::s:=Dc;have my:y∈x::y::s:=AX;unfold XB;rw[aaX (x:=x) (s:=s) ⟨λa ma b mb=>h.get a AL b AL,λa ma=>h.irr a AL,λa ma b mb d md=>h.tr a AL b AL d AL,λa ma b mb=>h.M8 a AL b AL⟩ λz mz=>hs z<|By _ mz,gq];let⟨v,v1,v2⟩:=h.get x mx y my;let⟨u,u1,u2⟩:=h.get y my x mx;rcases hs y Dc with e|e
  .rw[B4 e];rfl
  .rw[v1,u1];cases decide (x=y)
   .have n: ¬R y x:=λk=>h.irr x mx (h.tr x mx y my x mx e k)
    have a:=v2.2 e;have b: ¬u<0:=λk=>n<|u2.1 k
    show(decide (v<0)&&decide (0<=u))=true;rw[B4 a,B4 A4];rfl
   .rfl
theorem zC:∀{s:A3 α},M4 c R s->s.Pairwise (λa b=>a=b\/R a b)->Og c s=true
 |[],_,_=>rfl
 |x::s,h,hs=>by
  let⟨h1,h2⟩:=JF.1 hs;unfold Og;let⟨v,v1,v2⟩:=h.get x Dc x Dc;have: ¬v<0:=λk=>h.irr x Dc<|v2.1 k
  rw[v1,aaX h h1,zC (s:=s) ⟨λa ma b mb=>h.get a AL b AL,λa ma=>h.irr a AL,λa ma b mb d md=>h.tr a AL b AL d AL,λa ma b mb=>h.M8 a AL b AL⟩ h2];show(decide (0<=v)&&(true&&true))=true;rw[B4 A4];rfl
theorem pK(h:M4 c R l)(hl:l.length<4611686018427387904):∃s,Ic l c=some s/\s.Perm l/\s.Pairwise (λa b=>a=b\/R a b):=by
 let⟨s,s1,s2,s3⟩:=xZ l [] h List.Pairwise.nil;refine⟨s,?_,s2,s3⟩;unfold Ic jF;rw[s1];have ht:totB c l=true:=by unfold totB;rw[Dj];intro x mx;rw[Dj];intro y my;let⟨v,v1,_⟩:=h.get x mx y my;rw[v1];rfl
 show EL _ s=_;rw[ht,zC (h.perm s2) s3,show Nat.blt l.length 4611686018427387904=true from Ii hl];rfl
theorem yx{e:α×α->AA Bool}:∀{x:α} {l:A3 α},(∀a∈x::l,∀b∈x::l,e (a,b)=some (decide<|a=b))->(x::l).Pairwise (λa b=>a=b\/R a b)->M4 c R (x::l)->∃r,Wq (λa b=>e (a,b)) x l=some r/\(x::r).Pairwise R/\∀z,z∈x::r↔z∈x::l
 |x,[],_,_,_=>⟨[],rfl,SC _ _,λz=>Iff.rfl⟩
 |x,y::l,he,hs,h=>by
  let⟨h1,h2⟩:=JF.1 hs;let⟨r,r1,r2,r3⟩:=yx (x:=y) (l:=l) (λa ma b mb=>he a (By _ ma) b<|By _ mb) h2 ⟨λa ma b mb=>h.get a AL b AL,λa ma=>h.irr a AL,λa ma b mb d md=>h.tr a AL b AL d AL,λa ma b mb=>h.M8 a AL b AL⟩;unfold Wq;rw[he y AX x AX,r1];by_cases hxy:y=x
  .subst hxy;refine⟨r,by rw[B4 rfl];rfl,r2,λz=>?_⟩;rw[r3];simp
  .refine⟨y::r,by rw[Bo hxy];rfl,JF.2 ⟨λz mz=>?_,r2⟩,λz=>?_⟩
   .have rxy:R x y:=(h1 y AX).elim (λe=>absurd e.symm hxy) id;rcases Aq.1 mz with e|mz'
    .rw[e];exact rxy
    .have ryz:=(JF.1 r2).1 z mz';exact h.tr x AX y AX z (By _<|(r3 z).1 mz) rxy ryz
   .rw[Aq,r3];simp
theorem ahb{e:α×α->AA Bool}(he:∀a∈l,∀b∈l,e (a,b)=some (decide<|a=b))(hs:l.Pairwise (λa b=>a=b\/R a b))(h:M4 c R l):∃r,YZ l e=some r/\r.Pairwise R/\∀z,z∈r↔z∈l:=by
 cases l with
 |nil=>exact⟨[],rfl,List.Pairwise.nil,λz=>Iff.rfl⟩
 |cons x l=>let⟨r,r1,r2,r3⟩:=yx he hs h;refine⟨x::r,?_,r2,r3⟩;show bd (Wq (λa b=>e (a,b)) x l) _=_;rw[r1];rfl
theorem aiM{m:A3 α}(hl:l.Pairwise R)(hm:m.Pairwise R)(ha:∀x∈l,∀y∈l,R x y-> ¬R y x)(h:∀z,z∈l↔z∈m):l=m:=by
 induction l generalizing m with
 |nil=>cases m with|nil=>rfl|cons y m=>exact absurd ((h y).2 Dc) AX
 |cons x l ih=>
  cases m with
  |nil=>exact absurd ((h x).1 Dc) AX
  |cons y m=>
   let⟨l1,l2⟩:=JF.1 hl;let⟨m1,m2⟩:=JF.1 hm;have irr:∀z∈x::l,¬R z z:=λz mz k=>ha z mz z mz k k
   have exy:x=y:=by
    refine Co λhne=>?_
    have a:x∈m:=by
     rcases Aq.1 ((h x).1 Dc) with e|e
     .exact absurd e hne
     .exact e
    have b:y∈l:=by
     rcases Aq.1 ((h y).2 Dc) with e|e
     .exact absurd e.symm hne
     .exact e
    exact ha x Dc y (By _ b) (l1 y b)<|m1 x a
   subst exy
   congr 1
   refine ih l2 m2 (λa ma b mb=>ha a (By _ ma) b<|By _ mb) λz=>?_
   constructor
   .intro mz;rcases Aq.1 ((h z).1<|By _ mz) with e|e
    .rw[e] at mz;exact absurd (l1 _ mz)<|irr _ Dc
    .exact e
   .intro mz;rcases Aq.1 ((h z).2<|By _ mz) with e|e
    .rw[e] at mz;exact absurd (m1 _ mz)<|irr _ Dc
    .exact e
end
section
variable{a:Rat}{L:A3 H3}{p:Q3}{x y m:Rat}{M:A3 H3}{v w b:Q3}{S:A3 CQ}{k:Rat}{c:Q3}{l:A3 Q3}{n u:Q3}
def HI(a b:Q3):Prop:=a.1<b.1\/a.1=b.1/\(a.2.1<b.2.1\/a.2.1=b.2.1/\a.2.2<b.2.2)
theorem gj(a:Q3): ¬HI a a:=by unfold HI;grind
theorem aoJ{a:Q3}:HI a b->HI b c->HI a c:=by unfold HI;grind
theorem amV(a b:Q3):a=b\/HI a b\/HI b a:=by
 by_cases h:a=b
 .exact .inl h
 .right;have: ¬(a.1=b.1/\a.2.1=b.2.1/\a.2.2=b.2.2):=λk=>h<|LC k.1 k.2.1 k.2.2
  unfold HI;grind
def aki{c:Q3×Q3->AA Int}(h:∀x∈l,∀y∈l,∃v,c (x,y)=some v/\(v<0↔HI x y)):M4 c HI l:=⟨h,λx _=>gj x,λx _ y _ z _=>aoJ,λx _ y _=>amV x y⟩
theorem xM(hn:n≠o3)(hu:AM n u=0)(hv:AM n v=0)(hw:AM n w=0):BX v (AM n<|Ah u w)=Da (BX u<|AM n<|Ah v w) (BX w<|AM n<|Ah u v):=by
 have hp:=PB hn;have hd:EP u v w*AM n n=0:=by
  have:EP u v w*AM n n=AM n (Ah v w)*AM n u-AM n (Ah u w)*AM n v+AM n (Ah u v)*AM n w:=by unfold EP AM Ah;grind
  rw[this,hu,hv,hw];grind
 have hd:EP u v w=0:=by
  rcases Hk.1 hd with g|g
  .exact g
  .grind
 unfold EP at hd;refine LC ?_ ?_ ?_<;>simp only[BX,Da]
 .have:u.1*AM n (Ah v w)+w.1*AM n (Ah u v)-v.1*AM n (Ah u w)=AM (Ah u v) w*n.1:=by unfold AM Ah;grind
  rw[hd] at this;grind
 .have:u.2.1*AM n (Ah v w)+w.2.1*AM n (Ah u v)-v.2.1*AM n (Ah u w)=AM (Ah u v) w*n.2.1:=by unfold AM Ah;grind
  rw[hd] at this;grind
 .have:u.2.2*AM n (Ah v w)+w.2.2*AM n (Ah u v)-v.2.2*AM n (Ah u w)=AM (Ah u v) w*n.2.2:=by unfold AM Ah;grind
  rw[hd] at this;grind
def R0(u:Q3):Prop:=0<u.1\/u.1=0/\(0<u.2.1\/u.2.1=0/\0<u.2.2)
theorem ni{a:Q3}(h:HI a b):R0 (BE b a):=by grind [HI,R0,BE]
theorem amD{b:Rat}(hu:R0 u)(hw:R0 w)(ha:0<a)(hb:0<b):R0 (Da (BX u a)<|BX w b):=by
 have m:∀x c:Rat,0<c->(0<x->0<x*c)/\(x=0->x*c=0):=λx c hc=>⟨λh=>GQ h hc,λh=>by rw[h];grind⟩
 have a1:=m u.1 a ha;have a2:=m u.2.1 a ha;have a3:=m u.2.2 a ha;have b1:=m w.1 b hb;have b2:=m w.2.1 b hb;have b3:=m w.2.2 b hb;unfold R0 at*;unfold Da BX;dsimp only
 grind
theorem ao7(hv:R0 v)(h:R0 (BX v a)):0<a:=by
 refine Co λc=>?_
 have m:∀x:Rat,0<=x->x*a<=0:=λx hx=>by have:=Db hx (show 0<= -a by grind);grind
 have m1:=m v.1;have m2:=m v.2.1;have m3:=m v.2.2;have z:∀x:Rat,0<x->x*a=0->a=0:=λx hx h=>by
  rcases Hk.1 h with g|g
  .grind
  .exact g
 have z1:=z v.1;have z2:=z v.2.1;unfold R0 at*;unfold BX at h;dsimp only at h
 grind
theorem apf{a:Q3}{d:Rat}(hn:n≠o3)(tp:val (n,d) p=0)(ta:val (n,d) a=0)(tb:val (n,d) b=0)(tc:val (n,d) c=0)(la:HI p a)(lb:HI p b)(lc:HI p c)(h1:0<CU n p a b)(h2:0<CU n p b c):0<CU n p a c:=by have ea:=val_sub (n,d) p a;have eb:=val_sub (n,d) p b;have ec:=val_sub (n,d) p c;rw[tp,ta] at ea;rw[tp,tb] at eb;rw[tp,tc] at ec;have r:=xM hn (u:=BE a p) (v:=BE b p) (w:=BE c p) AL AL AL;unfold CU at h1 h2⊢;refine ao7 (ni lb) (v:=BE b p) ?_;rw[r];exact amD (ni la) (ni lc) h2 h1
theorem alV{f:H3}(hf:f.1≠o3)(vp:Br L p)(tp:val f p=0)(hl:∀x∈l,Br L x/\val f x=0/\HI p x){c:Q3×Q3->AA Int}(hc:∀x∈l,∀y∈l,∃v,c (x,y)=some v/\(v<0↔0<CU f.1 p x y)):M4 c (λx y=>0<CU f.1 p x y) l:=by
 refine⟨hc,λx _ h=>?_,λx mx y my z mz h1 h2=>?_,λx mx y my=>?_⟩
 .rw[PR] at h;grind
 .let⟨_,a2,a3⟩:=hl x mx;let⟨_,b2,b3⟩:=hl y my;let⟨_,c2,c3⟩:=hl z mz;exact apf hf tp a2 b2 c2 a3 b3 c3 h1 h2
 .by_cases e:x=y
  .exact .inl e
  .right;let⟨a1,a2,a3⟩:=hl x mx;let⟨b1,b2,b3⟩:=hl y my;have h:=zH hf vp a1 b1 tp a2 b2 (λe=>gj p (by rw[<-e] at a3;exact a3)) (λe=>gj p (by rw[<-e] at b3;exact b3)) e;have s:CU f.1 p y x= -CU f.1 p x y:=by unfold CU AM Ah BE;grind
   rw[s];grind
theorem fT{α:Type}{R:α->α->Prop}{l:A3 α}(h:l.Pairwise R){a b:α}(s:[a,b].Sublist l):R a b:=by grind
theorem aif{f:H3}(hf:f.1≠o3){s:A3 Q3}(hl:∀x∈p::s,Br L x/\val f x=0)(hs:s.Pairwise λx y=>0<CU f.1 p x y):Hi f.1 (p::s):=by
 intro a b c h;cases h with
 |cons_cons _ h=>exact fT hs h
 |cons _ h=>
  have ab:=fT hs<|(((Qc [c]).cons_cons b).cons_cons a).trans h
  have bc:=fT hs<|((List.sublist_cons_self a [b,c])).trans h
  have ac:=fT hs<|(((List.sublist_cons_self b [c])).cons_cons a).trans h
  have g:∀x,x∈[a,b,c]->x∈p::s:=λx mx=>By _<|h.subset mx
  let⟨vp,tp⟩:=hl p Dc;let⟨va,ta⟩:=hl a<|g a AX
  let⟨vb,tb⟩:=hl b<|g b AX
  let⟨vc,tc⟩:=hl c<|g c AX
  refine Co λF6=>?_
  have ea:=val_sub f p a;have eb:=val_sub f p b;have ec:=val_sub f p c;rw[tp,ta] at ea;rw[tp,tb] at eb;rw[tp,tc] at ec;have r:=xM hf (u:=BE a p) (v:=BE b p) (w:=BE c p) AL AL AL;have o:CU f.1 a b c=CU f.1 p b c-CU f.1 p a c+CU f.1 p a b:=by unfold CU AM Ah BE;grind
  have:a=c:=by
   refine Po<|vb.2 _ λh mh th=>?_
   have k:=congrArg (AM h.1) r;rw[Fc,OT,Fc,Fc,val_sub,val_sub,val_sub,th] at k;change CU f.1 p a c*(0-val h p)=CU f.1 p b c*(val h a-val h p)+CU f.1 p a b*(val h c-val h p) at k;have x:=vp.1 h mh;have y:=va.1 h mh;have z:=vc.1 h mh;have i1:=Db (show 0<= -CU f.1 a b c by grind) (show 0<= -val h p by grind);have i2:=Db (show 0<=CU f.1 p b c by grind) (show 0<= -val h a by grind);have i3:=Db (show 0<=CU f.1 p a b by grind) (show 0<= -val h c by grind);rw[o] at i1;have j2:CU f.1 p b c*val h a=0:=AL;have j3:CU f.1 p a b*val h c=0:=AL;rw[val_sub];rcases Hk.1 j2 with g|g
   .grind
   .rcases Hk.1 j3 with g'|g'
    .grind
    .rw[g,g'];grind
  rw[this,PR] at ac
  grind
def DV(a:Rat):A3 H3:=[((-1,0,0),a),((1,0,0),a),((0,-1,0),a),((0,1,0),a),((0,0,-1),a),((0,0,1),a)]
theorem Oa(a:Rat)(p:Q3):val ((-1,0,0),a) p= -p.1-a:=by unfold val AM;grind
theorem OZ(a:Rat)(p:Q3):val ((1,0,0),a) p=p.1-a:=by unfold val AM;grind
theorem OY(a:Rat)(p:Q3):val ((0,-1,0),a) p= -p.2.1-a:=by unfold val AM;grind
theorem OX(a:Rat)(p:Q3):val ((0,1,0),a) p=p.2.1-a:=by unfold val AM;grind
theorem OW(a:Rat)(p:Q3):val ((0,0,-1),a) p= -p.2.2-a:=by unfold val AM;grind
theorem OV(a:Rat)(p:Q3):val ((0,0,1),a) p=p.2.2-a:=by unfold val AM;grind
def MH{P:H3->Prop}:(∀h∈DV a,P h)↔P ((-1,0,0),a)/\P ((1,0,0),a)/\P ((0,-1,0),a)/\P ((0,1,0),a)/\P ((0,0,-1),a)/\P ((0,0,1),a):=by unfold DV;simp
def anQ{P:H3->Prop}:(∃h∈DV a,P h)↔P ((-1,0,0),a)\/P ((1,0,0),a)\/P ((0,-1,0),a)\/P ((0,1,0),a)\/P ((0,0,-1),a)\/P ((0,0,1),a):=by unfold DV;simp
theorem akh:Mem (DV a) p↔(-a<=p.1/\p.1<=a)/\(-a<=p.2.1/\p.2.1<=a)/\ -a<=p.2.2/\p.2.2<=a:=by unfold Mem;rw[MH,Oa,OZ,OY,OX,OW,OV];grind
theorem Tb(ha:0<a):Br (DV a) p↔(p.1=a\/p.1= -a)/\(p.2.1=a\/p.2.1= -a)/\(p.2.2=a\/p.2.2= -a):=by
 unfold Br;rw[akh];constructor
 .rintro⟨h,k⟩;have d1:∀x:Rat,AM (-1,0,0) (1,0,0)= -1:=λ_=>by unfold AM;grind
  refine⟨Co λc=>?_,Co λc=>?_,Co λc=>?_⟩
  .have:=k (1,0,0) (by rw[MH,Oa,OZ,OY,OX,OW,OV];unfold AM;grind);exact Yy this
  .have:=k (0,1,0) (by rw[MH,Oa,OZ,OY,OX,OW,OV];unfold AM;grind);have:=congrArg (λx:Q3=>x.2.1) this;simp only[o3] at this;grind
  .have:=k (0,0,1) (by rw[MH,Oa,OZ,OY,OX,OW,OV];unfold AM;grind);have:=congrArg (λx:Q3=>x.2.2) this;simp only[o3] at this;grind
 .rintro⟨h1,h2,h3⟩;refine⟨AL,λd hd=>?_⟩;rw[MH,Oa,OZ,OY,OX,OW,OV] at hd;unfold AM at hd;dsimp only at hd;exact Wi AL AL AL
theorem yw(a:Rat):Ee (DV a):=λd hd=>by rw[anQ];unfold AM;refine Co λc=>hd (Wi ?_ ?_ ?_)<;>grind
theorem Tc{a:Q3}(ha:a∈l)(hb:b∈l)(hc:c∈l)(J4:a≠b)(hac:a≠c)(hbc:b≠c):3<=l.length:=by match l,ha,hb,hc with|[x],ha,hb,hc=>simp at ha hb hc;exact absurd (ha.trans hb.symm) J4|[x,y],ha,hb,hc=>simp at ha hb hc;grind|_::_::_::_,_,_,_=>simp
def Nu(a:Rat)(f:Rat->Rat->Q3):A3 Q3:=[f (-a)<| -a,f (-a) a,f a<| -a,f a a]
theorem yF{f:Rat->Rat->Q3}:p∈Nu a f↔∃x y,(x=a\/x= -a)/\(y=a\/y= -a)/\p=f x y:=by(simp_all [Nu]<;>grind)
theorem ajK(ha:0<a)(hS:S.map Prod.fst=DV a)(hC:∀f∈S,Hi f.1.1 f.2/\∀p,p∈f.2↔Br (DV a) p/\val f.1 p=0):CH S (DV a):=by
 have hin:∀f∈S,f.1∈DV a:=λf mf=>by rw[<-hS];exact BU.2 ⟨f,mf,rfl⟩
 have hd:(DV a).Pairwise (· ≠ ·):=by
  have:((DV a).map Prod.fst).Pairwise (· ≠ ·):=by
   show List.Pairwise (· ≠ ·) ([(-1,0,0),(1,0,0),(0,-1,0),(0,1,0),(0,0,-1),(0,0,1)]:A3 Q3)
   decide
  exact(Nb.1 this).imp λ{a b} h e=>h<|congrArg Prod.fst e
 have ca:∀h∈DV a,h.2=a:=by rw[MH];exact⟨rfl,rfl,rfl,rfl,rfl,rfl⟩
 refine⟨yw a,⟨o3,?_⟩,?_,?_,λf mf=>?_,?_,λp hp ht=>?_⟩
 .rw[MH,Oa,OZ,OY,OX,OW,OV];unfold o3;dsimp;grind
 .rw[MH];unfold o3;simp[ne_eq,Lp];grind
 .intro h mh k mk hk;let⟨s,s0,e⟩:=hk;have:=ca h mh;have hk2:=ca k mk;have e2:k.2=h.2*s:=by rw[e]
  have:s=1:=by have:a*(s-1)=0:=AL;rcases Hk.1 this with g|g<;>grind
  subst this;rw[e];refine Prod.ext (LC ?_ ?_ ?_) ?_<;>simp[BX]<;>grind
 .let⟨c1,c2⟩:=hC f mf;refine⟨hin f mf,c1,?_,c2⟩;have one:∀x y z:Rat,(x=a\/x= -a)->(y=a\/y= -a)->(z=a\/z= -a)->val f.1 (x,y,z)=0->(x,y,z)∈f.2:=λx y z hx hy hz hv=>(c2 _).2 ⟨(Tb ha).2 ⟨hx,hy,hz⟩,hv⟩
  have hne:a≠ -a:=AL;have mf:=hin f mf;have hr:a=a\/a= -a:= .inl rfl;have hl: -a=a\/ -a= -a:= .inr rfl
  generalize f.1=h at*
  simp[DV,Aq,iG,or_false] at mf;rcases mf with e|e|e|e|e|e<;>subst e
  .exact Tc (one (-a) a a hl hr hr (by rw[Oa];grind)) (one (-a) a (-a) hl hr hl (by rw[Oa];grind)) (one (-a) (-a) a hl hl hr (by rw[Oa];grind)) (by simp[hne]) (by simp[hne]) (by simp[hne])
  .exact Tc (one a a a hr hr hr (by rw[OZ];grind)) (one a a (-a) hr hr hl (by rw[OZ];grind)) (one a (-a) a hr hl hr (by rw[OZ];grind)) (by simp[hne]) (by simp[hne]) (by simp[hne])
  .exact Tc (one a (-a) a hr hl hr (by rw[OY];grind)) (one a (-a) (-a) hr hl hl (by rw[OY];grind)) (one (-a) (-a) a hl hl hr (by rw[OY];grind)) (by simp[hne]) (by simp[hne]) (by simp[hne])
  .exact Tc (one a a a hr hr hr (by rw[OX];grind)) (one a a (-a) hr hr hl (by rw[OX];grind)) (one (-a) a a hl hr hr (by rw[OX];grind)) (by simp[hne]) (by simp[hne]) (by simp[hne])
  .exact Tc (one a a (-a) hr hr hl (by rw[OW];grind)) (one a (-a) (-a) hr hl hl (by rw[OW];grind)) (one (-a) a (-a) hl hr hl (by rw[OW];grind)) (by simp[hne]) (by simp[hne]) (by simp[hne])
  .exact Tc (one a a a hr hr hr (by rw[OV];grind)) (one a (-a) a hr hl hr (by rw[OV];grind)) (one (-a) a a hl hr hr (by rw[OV];grind)) (by simp[hne]) (by simp[hne]) (by simp[hne])
 .grind
 .grind
def J3(x:Rat):Prop:=∃z:Int,x=(z:Rat)
def J3.mul:J3 x->J3 y->J3 (x*y)|⟨a,ha⟩,⟨b,hb⟩=>⟨a*b,by rw[ha,hb,Rat.intCast_mul]⟩
def J3.add:J3 x->J3 y->J3 (x+y)|⟨a,ha⟩,⟨b,hb⟩=>⟨a+b,by rw[ha,hb,Rat.intCast_add]⟩
def J3.sub:J3 x->J3 y->J3 (x-y)|⟨a,ha⟩,⟨b,hb⟩=>⟨a-b,by rw[ha,hb,Rat.intCast_sub]⟩
def Nw(v:Q3):Prop:=J3 v.1/\J3 v.2.1/\J3 v.2.2
def Nw.aY(h:Nw v)(k:Nw w):Nw (Ah v w):=⟨(h.2.1.mul k.2.2).sub<|h.2.2.mul k.2.1,(h.2.2.mul k.1).sub<|h.1.mul k.2.2,(h.1.mul k.2.1).sub<|h.2.1.mul k.1⟩
def Nw.dot(h:Nw v)(k:Nw w):J3 (AM v w):=((h.1.mul k.1).add<|h.2.1.mul k.2.1).add<|h.2.2.mul k.2.2
def J3.one(h:J3 x)(h0:x≠0):1<=x\/x<= -1:=by
 obtain⟨z,rfl⟩:=h;have:z≠0:=λe=>h0 (by rw[e];rfl)
 rcases Int.lt_or_gt_of_ne this with h|h
 .right;have:=Rat.intCast_le_intCast.2 (show z<= -1 by omega);simpa using this
 .left;have:=Rat.intCast_le_intCast.2 (show 1<=z by omega);simpa using this
def wi(x m:Rat):Prop:= -m<=x/\x<=m
theorem wi.mul(h:wi x m)(g:wi y k):wi (x*y) (m*k):=by let⟨a,b⟩:=h;let⟨c,d⟩:=g;have p1:=Db (show 0<=m-x by grind) (show 0<=k+y by grind);have p2:=Db (show 0<=m+x by grind) (show 0<=k-y by grind);have p3:=Db (show 0<=m-x by grind) (show 0<=k-y by grind);have p4:=Db (show 0<=m+x by grind) (show 0<=k+y by grind);constructor<;>grind
theorem wi.add(h:wi x m)(g:wi y k):wi (x+y) (m+k):=by unfold wi at*;grind
theorem wi.sub(h:wi x m)(g:wi y k):wi (x-y) (m+k):=by unfold wi at*;grind
def wi3(v:Q3)(m:Rat):Prop:=wi v.1 m/\wi v.2.1 m/\wi v.2.2 m
def wi3.aY(h:wi3 v m)(g:wi3 w k):wi3 (Ah v w) (m*k+m*k):=⟨(h.2.1.mul g.2.2).sub<|h.2.2.mul g.2.1,(h.2.2.mul g.1).sub<|h.1.mul g.2.2,(h.1.mul g.2.1).sub<|h.2.1.mul g.1⟩
theorem aoS(h:1<=x\/x<= -1):wi x⁻¹ 1:=by
 have e:=iI x AL
 generalize x⁻¹ =i at e
 constructor
 .refine Co λc=>?_
  rcases h with g|g
  .have:=Db (show 0<=x-1 by grind) (show 0<= -i by grind);grind
  .have:=Db (show 0<= -1-x by grind) (show 0<= -i-1 by grind);grind
 .refine Co λc=>?_
  rcases h with g|g
  .have:=Db (show 0<=x-1 by grind) (show 0<=i-1 by grind);grind
  .have:=Db (show 0<= -1-x by grind) (show 0<=i by grind);grind
theorem amS{a b c:H3}{D:Rat}(ia:Nw a.1)(ib:Nw b.1)(ic:Nw c.1)(ha:wi3 a.1 m/\wi a.2 D)(hb:wi3 b.1 m/\wi b.2 D)(hc:wi3 c.1 m/\wi c.2 D)(hd:EP a.1 b.1 c.1≠0):wi3 (Im a b c) (6*(m*m*D)):=by
 have hi:=aoS<|J3.one ((ia.aY ib).dot ic) hd
 have x1:=hb.1.aY hc.1;have x2:=hc.1.aY ha.1;have x3:=ha.1.aY hb.1;unfold Im EP
 generalize (AM (Ah a.1 b.1) c.1)⁻¹ =i at hi
 have fin:∀{x y z:Rat},wi x (m*m+m*m)->wi y (m*m+m*m)->wi z (m*m+m*m)->wi ((x*a.2+y*b.2+z*c.2)*i) (6*(m*m*D)):=λh1 h2 h3=>by
  have:=(((h1.mul ha.2).add<|h2.mul hb.2).add<|h3.mul hc.2).mul hi;unfold wi at this⊢
  grind
 exact⟨fin x1.1 x2.1 x3.1,fin x1.2.1 x2.2.1 x3.2.1,fin x1.2.2 x2.2.2 x3.2.2⟩
theorem an3(hb:Ee L){D:Rat}(hm:0<m)(hD:0<D)(hL:∀k∈L,Nw k.1/\wi3 k.1 m/\wi k.2 D)(hp:Mem L p):∀h∈DV (7*(m*m*D)),val h p<0:=by
 have h0:=GQ (GQ hm hm) hD;have key:∀c:Q3,∃v,wi3 v (6*(m*m*D))/\AM c p<=AM c v:=λc=>by let⟨v,v1,v2,_⟩:=Qh hb hp c;obtain⟨_,a,ma,b,mb,d,md,hd,rfl⟩:=Yf.1 v1;let⟨ia,wa⟩:=hL a ma;let⟨ib,wb⟩:=hL b mb;let⟨id,wd⟩:=hL d md;exact⟨_,amS ia ib id wa wb wd hd,v2⟩
 unfold wi3 wi at key;rw[MH,Oa,OZ,OY,OX,OW,OV];let⟨v1,k1⟩:=key (-1,0,0);let⟨v2,k2⟩:=key (1,0,0);let⟨v3,k3⟩:=key (0,-1,0);let⟨v4,k4⟩:=key (0,1,0);let⟨v5,k5⟩:=key (0,0,-1);let⟨v6,k6⟩:=key (0,0,1);unfold AM at k1 k2 k3 k4 k5 k6;dsimp only at k1 k2 k3 k4 k5 k6
 grind
theorem CH.drop{C:A3 H3}(I:CH S M)(hM:∀k,k∈M↔k∈L\/k∈C)(hb:Ee L)(hc:∀p,Mem L p->∀h∈C,val h p<0):CH S L/\∀p,Mem L p↔Mem M p:=by
 have IN:∀p,Mem L p↔Mem M p:=λp=>by
  constructor
  .intro h k mk;rcases(hM k).1 mk with m|m
   .exact h k m
   .grind
  .exact λh k mk=>h k<|(hM k).2<| .inl mk
 have hv:∀p,Br M p↔Br L p:=λp=>by
  constructor
  .rintro⟨h1,h2⟩;refine⟨(IN p).2 h1,λd hd=>h2 d λk mk tk=>?_⟩;rcases(hM k).1 mk with m|m
   .exact hd k m tk
   .grind
  .rintro⟨h1,h2⟩;exact⟨(IN p).1 h1,λd hd=>h2 d λk mk tk=>hd k ((hM k).2<| .inl mk) tk⟩
 refine⟨⟨hb,?_,λh mh=>I.nz h<|(hM h).2<| .inl mh,λh mh k mk=>I.norm h ((hM h).2<| .inl mh) k<|(hM k).2<| .inl mk,λf mf=>?_,I.RA,λp hp ht=>?_⟩,IN⟩
 .obtain⟨o,ho⟩:=I.int;exact⟨o,λh mh=>ho h<|(hM h).2<| .inl mh⟩
 .obtain⟨f1,f2,f3,f4⟩:=I.Eg f mf;refine⟨?_,f2,f3,λp=>by rw[f4,hv]⟩;rcases(hM _).1 f1 with m|m
  .exact m
  .obtain⟨p,mp⟩:=List.exists_mem_of_ne_nil f.2 (λe=>by rw[e] at f3;simp at f3);obtain⟨vp,tp⟩:=(f4 p).1 mp;have:=hc p ((IN p).2 vp.1) _ m
   grind
 .obtain⟨k,mk,tk⟩:=ht;exact I.cover p ((IN p).1 hp) ⟨k,(hM k).2<| .inl mk,tk⟩
theorem alU(I:CH S M)(hM:∀k,k∈M↔k∈L\/k∈DV a)(ha:0<a)(h1:∀k∈L,0<k.2)(hc:Ee L->∀p,Mem L p->∀h∈DV a,val h p<0):Ee L↔∀f∈S,f.1∈L:=by
 constructor
 .intro hb f mf;exact((I.drop hM hb<|hc hb).1.Eg f mf).1
 .intro hf d hd;refine Co λF6=>?_
  have hle:∀k∈L,AM k.1 d<=0:=λk mk=>Co λc=>F6 ⟨k,mk,AL⟩
  let⟨h,mh,ph,hm⟩:=least (λh:H3=>0<AM h.1 d) (λh=>a/AM h.1 d) (DV a)<|yw a d hd
  have ca:∀h∈DV a,h.2=a:=by rw[MH];exact⟨rfl,rfl,rfl,rfl,rfl,rfl⟩
  have key:∀k:H3,0<AM k.1 d->a/AM k.1 d*AM k.1 d=a:=λk hk=>Nc AL
  have hr:0<a/AM h.1 d:=by rw[PV];exact GQ ha<|S2.2 ph
  have kh:=key h ph
  generalize a/AM h.1 d=r at*
  have vz:∀k:H3,val k (BX d r)=r*AM k.1 d-k.2:=λk=>by unfold val;rw[Fc]
  have neg:∀k∈L,val k (BX d r)<0:=λk mk=>by
   rw[vz];have:=Db (show 0<=r by grind) (show 0<= -AM k.1 d by have:=hle k mk;grind);have:=h1 k mk
   grind
  let⟨f,mf,tf⟩:=I.cover (BX d r) (λk mk=>by
   rcases(hM k).1 mk with m|m
   .grind
   .rw[vz,ca k m];by_cases g:0<AM k.1 d
    .have h2:=hm k m g;have h3:=key k g;have:=Zf h2<|GS g
     grind
    .have:=Db (show 0<=r by grind) (show 0<= -AM k.1 d by grind)
     grind) ⟨h,(hM h).2<| .inr mh,by rw[vz,ca h mh];grind⟩
  have:=neg f.1<|hf f mf
  grind
structure MX(L M:A3 H3):Prop where
 sub:∀h∈M,h∈L
 le:∀h∈L,∃k∈M,k.1=h.1/\k.2<=h.2
theorem anm{h k:H3}(e:k.1=h.1)(l:k.2<=h.2)(p:Q3):val h p<=val k p:=by unfold val;rw[e];grind
def MX.mem(h:MX L M)(p:Q3):Mem M p↔Mem L p:=⟨λhp x mx=>by obtain⟨k,mk,e,l⟩:=h.le x mx;exact ZF (anm e l p)<|hp k mk,λhp x mx=>hp x<|h.sub x mx⟩
theorem MX.tight(h:MX L M)(hp:Mem M p){x:H3}(mx:x∈L)(tx:val x p=0):x∈M:=by obtain⟨k,mk,e,l⟩:=h.le x mx;have h1:=hp k mk;have:k=x:=Prod.ext e (by unfold val at h1 tx;rw[e] at h1;grind);rw[<-this];exact mk
def MX.FM(h:MX L M)(p:Q3):Br M p↔Br L p:=
 ⟨λhp=>⟨(h.mem p).1 hp.1,λd hd=>hp.2 d λx mx tx=>hd x (h.sub x mx) tx⟩,λhp=>⟨(h.mem p).2 hp.1,λd hd=>hp.2 d λx mx tx=>hd x (h.tight ((h.mem p).2 hp.1) mx tx) tx⟩⟩
theorem YK(I:CH S L)(hm:MX L M){C:A3 Q3}(hC:∀p,p∈C↔Br M p)(hn:C.Nodup)(h:H3):h∈S.map (·.1)↔h∈M/\3<=(C.filter λp=>decide<|val h p=0).length:=by
 have mf:∀p,p∈(C.filter λp=>decide<|val h p=0)↔Br L p/\val h p=0:=λp=>by rw[JE,hC,hm.FM,Hl]
 constructor
 .intro mh;obtain⟨f,hf,rfl⟩:=BU.1 mh;let⟨f1,f2,f3,f4⟩:=I.Eg f hf;have nd:=f2.nodup f3;have mm:∀p∈f.2,p∈(C.filter λp=>decide<|val f.1 p=0):=λp mp=>(mf p).2<|(f4 p).1 mp
  match e:f.2,f3,nd,mm with
  |a::b::c::l,_,nd,mm=>
   have ha:=(mf a).1<|mm a AX
   refine⟨hm.tight ((hm.mem a).2 ha.1.1) f1 ha.2,Tc (mm a AX) (mm b AX) (mm c AX) ?_ ?_ ?_⟩
   .grind
   .grind
   .grind
 .rintro⟨mh,h3⟩;have nd:(C.filter λp=>decide<|val h p=0).Nodup:=hn.sublist List.filter_sublist
  match e:C.filter λp=>decide<|val h p=0,h3,nd,mf with
  |a::b::c::l,_,nd,mf=>let⟨va,ta⟩:=(mf a).1 AX;let⟨vb,tb⟩:=(mf b).1 AX;let⟨vc,tc⟩:=(mf c).1 AX;obtain⟨f,hf,rfl⟩:=al8 I (hm.sub h mh) va vb vc ta tb tc (λe=>by rw[e] at nd;simp at nd) (λe=>by rw[e] at nd;simp at nd) (λe=>by rw[e] at nd;simp at nd);exact BU.2 ⟨f,hf,rfl⟩
def IF(a:Q3)(A C:A3 Q3)(u n:Q3)(dim:Int):Prop:=
 (dim=0/\∀p∈C,p=a)\/(dim=1/\(∃b∈A,u=BE b a)/\u≠o3/\∀p∈C,Ah u (BE p a)=o3)\/
 (dim=2/\(∃b∈A,∃c∈A,n=Ah (BE b a) (BE c a))/\n≠o3/\∀p∈C,AM n (BE p a)=0)
theorem IF.flat{a:Q3}{A C:A3 Q3}{dim:Int}(h:IF a A C u n dim):∃m:Q3,m≠o3/\∀p∈C,AM m p=AM m a:=by
 rcases h with⟨_,h⟩|⟨_,_,hu,h⟩|⟨_,_,hn,h⟩
 .exact⟨_,Yy,λp mp=>by rw[h p mp]⟩
 .let⟨m,hm,e⟩:=VS u;refine⟨m,hm,λp mp=>?_⟩;have k:=par hu<|h p mp
  have:AM m (BE p a)=0:=by rw[k,Fc,NR m u,e];grind
  rw[WQ] at this;grind
 .refine⟨n,hn,λp mp=>?_⟩;have:=h p mp;rw[WQ] at this;grind
def afY{a:Q3}:BE a a=o3:=J0
def alJ(u:Q3):Ah u o3=o3:=J0
end
section
variable{a:Q3}{A C:List Q3}{u n:Q3}{p:Q3}
theorem IF.s0(h:IF a A C u n 0)(e:BE p a=o3):IF a A (C++[p]) u n 0:=by grind [IF,BE,o3]
theorem IF.s01(h:IF a A C u n 0)(mp:p∈A)(e:BE p a≠o3):IF a A (C++[p]) (BE p a) n 1:=by
 rcases h with⟨_,h⟩|⟨h,_⟩|⟨h,_⟩
 .refine .inr (.inl ⟨rfl,⟨p,mp,rfl⟩,e,λq mq=>?_⟩);rcases C3.1 mq with m|m
  .rw[h q m,afY,alJ]
  .rw[Cn.1 m,UI]
 .omega
 .omega
theorem IF.s1(h:IF a A C u n 1)(e:Ah u (BE p a)=o3):IF a A (C++[p]) u n 1:=by
 rcases h with⟨h,_⟩|⟨_,h1,h2,h⟩|⟨h,_⟩
 .omega
 .refine .inr (.inl ⟨rfl,h1,h2,λq mq=>?_⟩);rcases C3.1 mq with m|m
  .exact h q m
  .grind
 .omega
theorem IF.EF(h:IF a A C u n 1)(mp:p∈A)(e:Ah u (BE p a)≠o3):IF a A (C++[p]) u (Ah u<|BE p a) 2:=by
 rcases h with⟨h,_⟩|⟨_,⟨b,mb,hb⟩,h2,h⟩|⟨h,_⟩
 .omega
 .refine .inr (.inr ⟨rfl,⟨b,mb,p,mp,by rw[hb]⟩,e,λq mq=>?_⟩);rcases C3.1 mq with m|m
  .rw[par h2<|h q m,Fc,NR (Ah u<|BE p a) u,nP];grind
  .rw[Cn.1 m,NR,YS]
 .omega
theorem IF.s2(h:IF a A C u n 2)(e:AM n (BE p a)=0):IF a A (C++[p]) u n 2:=by
 rcases h with⟨h,_⟩|⟨h,_⟩|⟨_,h1,h2,h⟩
 .omega
 .omega
 .refine .inr (.inr ⟨rfl,h1,h2,λq mq=>?_⟩);rcases C3.1 mq with m|m
  .exact h q m
  .grind
theorem IF.s3(h:IF a A C u n 2)(e:AM n (BE p a)≠0):∃b∈A,∃c∈A,EP (BE b a) (BE c a) (BE p a)≠0:=by
 rcases h with⟨h,_⟩|⟨h,_⟩|⟨_,⟨b,mb,c,mc,rfl⟩,_⟩
 .omega
 .omega
 .exact⟨b,mb,c,mc,e⟩
end
section
variable{M:A3 H3}{S:A3 CQ}{h:H3}{p:Q3}{f:CQ}{u v:Q3}{α:Type}{g:CQ}
def Ml{α:Type}[DecidableEq α]:∀{l T:A3 α},l.Nodup->(∀x∈l,x∈T)->l.length<=T.length
 |[],_,_,_=>FQ _
 |x::l,T,hn,h=>by
  let⟨h1,h2⟩:=List.nodup_cons.1 hn;have:=Ml (l:=l) (T:=T.erase x) h2 λy my=>(List.mem_erase_of_ne (λe=>h1 (by rw[<-e];exact my))).2<|h y<|By _ my
  rw[List.length_erase_of_mem<|h x Dc] at this;have:0<T.length:=List.length_pos_of_mem<|h x Dc
  rw[E6];omega
def arj(M:A3 H3):A3 Q3:=M.flatMap λa=>M.flatMap λb=>M.map λc=>Im a b c
def ajq(M:A3 H3):(arj M).length=M.length*(M.length*M.length):=by
 have flat:∀{α β:Type} (f:α->A3 β) (w:Nat) (l:A3 α),(∀x∈l,(f x).length=w)->(l.flatMap f).length=l.length*w:=by
  intro α β f w l
  induction l with|nil=>intro _;simp|cons x l ih=>intro h;rw[Pc,E7,h x Dc,ih λy my=>h y<|By _ my,E6,S4,PW]
 exact flat _ _ _ λa _=>flat _ _ _ λb _=>Be _
def p9{l:A3 Q3}(hn:l.Nodup)(h:∀p∈l,Br M p):l.length<=M.length*(M.length*M.length):=by
 rw[<-ajq];refine Ml hn λp mp=>?_
 obtain⟨_,a,ma,b,mb,c,mc,_,rfl⟩:=Yf.1<|h p mp
 exact MQ.2 ⟨a,ma,MQ.2 ⟨b,mb,BU.2 ⟨c,mc,rfl⟩⟩⟩
def CH.len(I:CH S M):S.length<=M.length:=by
 rw[<-Be (·.1)];refine Ml (Nb.2<|I.RA.imp λh=>h) λx mx=>?_
 obtain⟨f,mf,rfl⟩:=BU.1 mx;exact(I.Eg f mf).1
theorem zX{α:Type}{T:α->α->Prop}(s:∀a b,T a b->T b a):∀{L:A3 α} {a b:α},a≠b->a∈L->b∈L->T a b->∃x y,[y,x].Sublist L/\T x y
 |h::t,a,b,hne,ma,mb,ht=>by
  by_cases ea:a=h
  .grind
  .have ma':a∈t:=(Aq.1 ma).resolve_left ea;by_cases eb:b=h
   .grind
   .let⟨x,y,h1,h2⟩:=zX s hne ma' ((Aq.1 mb).resolve_left eb) ht;exact⟨x,y,h1.cons h,h2⟩
theorem aae{α:Type}{T:α->α->α->Prop}(EF:∀a b c,T a b c->T b a c)(s23:∀a b c,T a b c->T a c b):∀{L:A3 α} {a b c:α},a≠b->b≠c->a≠c->a∈L->b∈L->c∈L->T a b c->∃x y z,[z,y,x].Sublist L/\T x y z
 |h::t,a,b,c,h1,h2,h3,ma,mb,mc,ht=>by
  have two:∀{a b c:α},a≠b->b≠c->a≠c->c=h->a∈h::t->b∈h::t->T a b c->∃x y z,[z,y,x].Sublist (h::t)/\T x y z:=λ{a b c} h1 h2 h3 e ma mb ht=>by let⟨x,y,k1,k2⟩:=zX (T:=λa b=>T a b c) (λa b k=>EF _ _ _ k) h1 ((Aq.1 ma).resolve_left λk=>h3 (by rw[k,e])) ((Aq.1 mb).resolve_left λk=>h2 (by rw[k,e])) ht;exact⟨x,y,c,by rw[e];exact k1.cons_cons h,k2⟩
  by_cases ec:c=h
  .grind
  .by_cases eb:b=h
   .grind
   .by_cases ea:a=h
    .grind
    .let⟨x,y,z,k1,k2⟩:=aae EF s23 h1 h2 h3 ((Aq.1 ma).resolve_left ea) ((Aq.1 mb).resolve_left eb) ((Aq.1 mc).resolve_left ec) ht;exact⟨x,y,z,k1.cons h,k2⟩
theorem ahy{L:A3 H3}:Br L p↔Mem L p/\∃a b c,[c,b,a].Sublist L/\EP a.1 b.1 c.1≠0/\p=Im a b c:=by
 rw[Yf];refine and_congr Iff.rfl ⟨?_,?_⟩
 .rintro⟨a,ma,b,mb,c,mc,hd,hp⟩;refine aae (T:=λa b c:H3=>EP a.1 b.1 c.1≠0/\p=Im a b c) (λa b c h=>⟨by rw[wQ];have:=h.1;grind,by rw[h.2,agP a b c h.1]⟩) (λa b c h=>⟨by rw[wP];have:=h.1;grind,by rw[h.2,agO a b c h.1]⟩) ?_ ?_ ?_ ma mb mc ⟨hd,hp⟩
  .intro e;refine hd ?_;rw[e];unfold EP;rw[UI];unfold AM o3;grind
  .intro e;refine hd ?_;rw[e];unfold EP;rw[NR,YS]
  .intro e;refine hd ?_;rw[e];unfold EP;rw[NR,nP]
 .grind
theorem vm(I:CH S M)(hp:Mem M p)(mf:f∈S)(tf:val f.1 p=0){g:H3}(mg:g∈M)(tg:val g p=0)(hc:Ah f.1.1 g.1≠o3):∃f'∈S,f'.1≠f.1/\val f'.1 p=0:=by
 let⟨o,ho⟩:=I.int;have d0:AM f.1.1 (Ah (Ah f.1.1 g.1) f.1.1)=0:=YS _ _;have d1:0<AM g.1 (Ah (Ah f.1.1 g.1) f.1.1):=by
  have:=PB hc;have e:AM g.1 (Ah (Ah f.1.1 g.1) f.1.1)=AM (Ah f.1.1 g.1) (Ah f.1.1 g.1):=by unfold AM Ah;grind
  rw[e];exact this
 generalize Ah (Ah f.1.1 g.1) f.1.1=d at d0 d1
 let⟨k,mk,⟨tk,pk⟩,hm⟩:=least (λk:H3=>val k p=0/\0<AM k.1 d) (λk=> -val k o/AM k.1 d) M ⟨g,mg,tg,d1⟩;have lk: -val k o/AM k.1 d*AM k.1 d= -val k o:=Nc AL;have l0:0< -val k o/AM k.1 d:=by rw[PV];exact GQ (by have:=ho k mk;grind)<|S2.2 pk
 generalize hl: -val k o/AM k.1 d=r at lk l0 hm
 have dw:∀x:H3,val x p=0->AM x.1 (Da (BE o p)<|BX d r)=val x o+r*AM x.1 d:=λx tx=>by rw[OT,Fc,val_sub,tx];grind
 let⟨e,e0,he⟩:=room hp (w:=Da (BE o p)<|BX d r) λx mx tx=>by
  rw[dw x tx];have vx:=ho x mx;by_cases px:0<AM x.1 d
  .have h1:=hm x mx ⟨tx,px⟩;have h2:=Zf h1<|GS px
   rw[Nc AL] at h2
   grind
  .have:=Db (GS l0) (show 0<= -AM x.1 d by grind)
   grind
 obtain⟨e2,e20,he2⟩:∃e2:Rat,0<e2/\e2<=e/\∀x∈M,val x p<0->val x (Da p<|BX (Da (BE o p)<|BX d r) e2)<0:=by
  have:=hp
  generalize Da (BE o p) (BX d r)=w at he
  have half:∀x∈M,val x p<0->val x (Da p<|BX w<|e/2)<0:=λx mx vx=>by have h1:=he e (GS e0) GR x mx;rw[OU] at h1⊢;have e3:e/2*AM x.1 w=(1/2)*(e*AM x.1 w):=AL;rw[e3];grind
  exact⟨e/2,AL,AL,half⟩
 have q1:=he e2 (GS e20) he2.1;have tq:val k (Da p<|BX (Da (BE o p)<|BX d r) e2)=0:=by rw[OU,dw k tk,lk,tk];grind
 have fq:val f.1 (Da p<|BX (Da (BE o p)<|BX d r) e2)<0:=by
  rw[OU,dw f.1 tf,d0,tf];have:=GQ e20 (show 0< -val f.1 o by have:=ho f.1 (I.Eg f mf).1;grind)
  grind
 let⟨f',mf',tf'⟩:=I.cover _ q1 ⟨k,mk,tq⟩;refine⟨f',mf',λe=>?_,?_⟩
 .rw[e] at tf';grind
 .refine Co λhne=>?_
  have m1:=(I.Eg f' mf').1;have h1:=hp f'.1 m1;have:=he2.2 f'.1 m1 AL
  grind
def wL(I:CH S M)(mf:f∈S)(mg:g∈S)(hne:f.1≠g.1)(tf:val f.1 p=0)(tg:val g.1 p=0):Ah f.1.1 g.1.1≠o3:=λhc=>by let⟨o,ho⟩:=I.int;exact hne<|qU ho I.nz I.norm (I.Eg f mf).1 (I.Eg g mg).1 hc tf tg
theorem Ri(hu:Mem M u)(hv:Mem M v)(ho:GF (val h u) (val h v)=true){k:H3}(mk:k∈M):val k (Fe h u v)=0↔val k u=0/\val k v=0:=by
 have t:=Pr ho;unfold Fe;rw[Fl]
 generalize val h u/(val h u-val h v)=r at t
 have a:=Db (show 0<=1-r by grind) (show 0<= -val k u by have:=hu k mk;grind);have b:=Db (show 0<=r by grind) (show 0<= -val k v by have:=hv k mk;grind);constructor
 .intro e;have a0:(1-r)*val k u=0:=AL;have b0:r*val k v=0:=AL;constructor
  .rcases Hk.1 a0 with x|x<;>grind
  .rcases Hk.1 b0 with x|x<;>grind
 .rintro⟨e1,e2⟩;rw[e1,e2];grind
theorem alC(I:CH S M)(hu:Br M u)(hv:Br M v)(h0:val h u<0)(h1:0<val h v)(mf:f∈S)(mg:g∈S)(hne:f.1≠g.1)(fu:val f.1 u=0)(fv:val f.1 v=0)(gu:val g.1 u=0)(gv:val g.1 v=0):Br (h::M) (Fe h u v)/\val h (Fe h u v)=0:=by
 have ho:GF (val h u) (val h v)=true:=KX.2<| .inl ⟨h0,h1⟩
 have t:=Pr ho;have hz:=Yx ho;have f1:=(I.Eg f mf).1;have g1:=(I.Eg g mg).1;have hc:=wL I mf mg hne fu gu;let⟨s,hs⟩:=along hc (d:=BE v u) (by rw[val_sub,fu,fv];grind) (by rw[val_sub,gu,gv];grind);refine⟨zI (f:=f.1) (g:=g.1) (h:=h) (λk mk=>?_) (By _ f1) (By _ g1) Dc ((Ri hu.1 hv.1 ho f1).2 ⟨fu,fv⟩) ((Ri hu.1 hv.1 ho g1).2 ⟨gu,gv⟩) hz λe=>?_,hz⟩
 .rcases Aq.1 mk with e|mk
  .rw[e,hz];exact GR
  .unfold Fe;rw[Fl]
   generalize val h u/(val h u-val h v)=r at t
   have a:=Db (show 0<=1-r by grind) (show 0<= -val k u by have:=hu.1 k mk;grind);have b:=Db (show 0<=r by grind) (show 0<= -val k v by have:=hv.1 k mk;grind)
   grind
 .have hd:AM h.1 (BE v u)=val h v-val h u:=val_sub h u v;rw[hs,Fc,e] at hd
  grind
theorem yr(I:CH S M){u' v':Q3}(hu:Br M u)(hv:Br M v)(Jv:Br M u')(JY:Br M v')(h0:val h u<0)(h1:0<val h v)(h0':val h u'<0)(h1':0<val h v')(mf:f∈S)(mg:g∈S)(hne:f.1≠g.1)(fu:val f.1 u=0)(fv:val f.1 v=0)(gu:val g.1 u=0)(gv:val g.1 v=0)
 (e:Fe h u v=Fe h u' v'):u=u'/\v=v':=by
 have ho:GF (val h u) (val h v)=true:=KX.2<| .inl ⟨h0,h1⟩
 have Jw:GF (val h u') (val h v')=true:=KX.2<| .inl ⟨h0',h1'⟩
 have f1:=(I.Eg f mf).1;have g1:=(I.Eg g mg).1;have hc:=wL I mf mg hne fu gu;have tf:val f.1 u'=0/\val f.1 v'=0:=(Ri Jv.1 JY.1 Jw f1).1 (by rw[<-e];exact(Ri hu.1 hv.1 ho f1).2 ⟨fu,fv⟩);have tg:val g.1 u'=0/\val g.1 v'=0:=(Ri Jv.1 JY.1 Jw g1).1 (by rw[<-e];exact(Ri hu.1 hv.1 ho g1).2 ⟨gu,gv⟩);have huv:u≠v:=λe=>by rw[e] at h0;grind
 have line:∀x,Br M x->val f.1 x=0->val g.1 x=0->x=u\/x=v:=λx hx fx gx=>by
  refine Co λc=>?_
  have c1:u≠x:=λe=>c<| .inl e.symm
  have c2:v≠x:=λe=>c<| .inr e.symm
  refine oF hu hv hx huv c1 c2 ?_;let⟨s,hs⟩:=along hc (d:=BE v u) (by rw[val_sub,fu,fv];grind) (by rw[val_sub,gu,gv];grind);let⟨r,hr⟩:=along hc (d:=BE x u) (by rw[val_sub,fu,fx];grind) (by rw[val_sub,gu,gx];grind);rw[hs,hr];exact J0
 constructor
 .rcases line u' Jv tf.1 tg.1 with a|a
  .exact a.symm
  .rw[a] at h0';grind
 .rcases line v' JY tf.2 tg.2 with a|a
  .rw[a] at h1';grind
  .exact a.symm
theorem qL{w:Q3}(hu:Br M u)(hv:Br M v)(hw:Br M w)(h0:val h u<0)(h1:0<val h v):Fe h u v≠w:=λe=>by
 have t:=Pr (x:=val h u) (y:=val h v)<|KX.2<| .inl ⟨h0,h1⟩
 have:=fj hw hu.1 hv.1 t.1 t.2.1 e.symm;rw[this] at h0;grind
def ahZ(I:CH S M)(hp:Br (h::M) p):Br M p\/∃u v,Br M u/\Br M v/\val h u<0/\0<val h v/\p=Fe h u v/\∃f∈S,∃g∈S,f.1≠g.1/\val f.1 u=0/\val f.1 v=0/\val g.1 u=0/\val g.1 v=0:=by
 rcases oG I.bdd hp with h1|⟨hz,u,v,hu,hv,ho,e,ht,f,mf,g,mg,tf,tg,hc⟩
 .exact .inl h1
 .right;have hm:Mem M p:=λk mk=>hp.1 k<|By _ mk
  let⟨f1,m1,t1⟩:=I.cover p hm ⟨f,mf,tf⟩;have two:∃f2∈S,f2.1≠f1.1/\val f2.1 p=0:=by
   rcases indep (I.nz _ (I.Eg f1 m1).1) hc with c|c
   .exact vm I hm m1 t1 mf tf c
   .exact vm I hm m1 t1 mg tg c
  let⟨f2,m2,ne,t2⟩:=two;have a1:=ht _ (I.Eg f1 m1).1 t1;have a2:=ht _ (I.Eg f2 m2).1 t2;rcases KX.1 ho with⟨x,y⟩|⟨x,y⟩
  .exact⟨u,v,hu,hv,x,y,e,f2,m2,f1,m1,ne,a2.1,a2.2,a1.1,a1.2⟩
  .exact⟨v,u,hv,hu,y,x,by rw[e];exact yu ho,f2,m2,f1,m1,ne,a2.2,a2.1,a1.2,a1.1⟩
end
section
variable{l:A3 Int}{n:Nat}{a b:A3 Int}{j:Nat}{x:Int}{k:Nat}{u:A3 Int}{ρ:Type}{u0 v0 v1:Int}{v w:A3 Int}{m:Nat}{U2 q:Int}{i:Nat}{R:ρ->Prop}{f:Int}
abbrev BT:Int:=1000000000
def AK:A3 Int->Int
 |[]=>0|x::l=>x+BT*AK l
def Cc(l:A3 Int):Prop:=∀x∈l,0<=x/\x<BT
def BJ(n:Nat):Int:=BT^n
def Tf:BJ 0=1:=rfl
def K3(n:Nat):BJ (n+1)=BT*BJ n:=by unfold BJ;rw[Int.pow_succ,FB]
def NT:∀n,0<BJ n
 |0=>by rw[Tf];omega|n+1=>by rw[K3];have:=NT n;unfold BT;omega
theorem gI(m n:Nat):BJ (m+n)=BJ m*BJ n:=by grind [BJ]
def Mk(x:Int)(l:A3 Int):AK (x::l)=x+BT*AK l:=rfl
def RT:∀(l m:A3 Int),AK (l++m)=AK l+BJ l.length*AK m
 |[],m=>by simp[AK,Tf]
 |x::l,m=>by rw[SA,Mk,Mk,RT l m,E6,K3,DU,FG];omega
def gX:Cc []:=by intro x h;cases h
theorem fZ:Cc (x::l)↔(0<=x/\x<BT)/\Cc l:=by simp_all [Cc,BT]
theorem eP{m:A3 Int}:Cc (l++m)↔Cc l/\Cc m:=by grind [Cc]
theorem MF(h:Cc l)(n:Nat):Cc (l.take n):=by grind [Cc]
theorem Tg(h:Cc l)(n:Nat):Cc (l.drop n):=by grind [Cc]
theorem HR(h:Cc l)(n:Nat):0<=l.getD n 0/\l.getD n 0<BT:=by
 by_cases hn:n<l.length
 .have:l.getD n 0=l[n]:=by simp[JH,hn]
  rw[this];exact h _<|Lv hn
 .grind
theorem lq(n:Nat):Cc (List.replicate n 0):=by grind [Cc]
theorem Z9(h:Cc l)(n:Nat)(hx:0<=x/\x<BT):Cc (l.set n x):=by(simp_all [Cc,BT]<;>grind)
def uD:∀n,AK (List.replicate n 0)=0
 |0=>rfl|n+1=>by rw[List.replicate_succ,Mk,uD n];omega
def Ey:∀{l:A3 Int},Cc l->0<=AK l/\AK l<BJ l.length
 |[],_=>by simp[AK,Tf]
 |x::l,h=>by rw[fZ] at h;let⟨h1,h2⟩:=Ey h.2;rw[Mk,E6,K3];have:=h.1;unfold BT at*;omega
def V4(h:n<l.length):AK (l.take<|n+1)=AK (l.take n)+BJ n*l.getD n 0:=by rw[cd h,RT,E1,EU A4];simp[AK]
def Ra(l:A3 Int)(n:Nat)(h:n<=l.length):AK l=AK (l.take n)+BJ n*AK (l.drop n):=by
 conv=>lhs;rw[<-Oc n l]
 rw[RT,E1,EU h]
def TX:∀{l:A3 Int},Cc l->l≠[]->l.getLast?≠some 0->BJ (l.length-1)<=AK l
 |[],_,h,_=>absurd rfl h
 |[x],h,_,hl=>by
  rw[fZ] at h;have:x≠0:=λe=>hl (by rw[e];rfl)
  simp[AK,Tf];omega
 |x::y::l,h,_,hl=>by rw[fZ] at h;have:=TX (l:=y::l) h.2 AX (by simpa using hl);rw[Mk,show(x::y::l).length-1=(y::l).length-1+1 from by simp,K3];have:=h.1;unfold BT at*;omega
def Fv(w:A3 Int):Prop:=Cc w/\w.getLast?≠some 0
def Fv.nil:Fv []:=⟨gX,AX⟩
def Fv.len(h:Fv w)(hv:AK w<BJ n):w.length<=n:=by
 by_cases h0:w=[]
 .subst h0;simp
 .have h1:=TX h.1 h0 h.2;rcases Hj n w.length with h2|h2
  .have:BJ n<=BJ (w.length-1):=by obtain⟨k,hk⟩:∃k,w.length-1=n+k:=⟨w.length-1-n,A4⟩;rw[hk,gI];have a:=NT n;have b:=NT k;have:BJ n*1<=BJ n*BJ k:=Eu A4 A4;omega
   omega
  .exact h2
def zL(h:n<l.length):AK l=AK (l.take n)+BJ n*(l.getD n 0+BT*AK (l.drop<|n+1)):=by
 rw[Ra l n A4]
 congr 2
 rw[UC h,Mk]
 congr 1
 simp[JH,h]
def yG(h:m<=n):BJ m<=BJ n:=by obtain⟨k,rfl⟩:∃k,n=m+k:=⟨n-m,A4⟩;rw[gI];have a:=NT m;have b:=NT k;have:BJ m*1<=BJ m*BJ k:=Eu A4 A4;omega
def eM(ha:Cc a)(hb:Fv b)(h:a.length<b.length):AK a<AK b:=by have h1:=(Ey ha).2;have h2:=TX hb.1 (by intro e;subst e;simp at h) hb.2;have h3:=yG (show a.length<=b.length-1 by omega);omega
def IZ(l:A3 Int)(n:Nat):AK (l.take<|n+1)=AK (l.take n)+BJ n*l.getD n 0:=by
 rcases Hj n l.length with h|h
 .exact V4 h
 .rw[ie h,D5 A4,D5 h];omega
def aeR(h:AK (l.drop n)=0)(hk:Cc l)(hm:n<=m):l.getD m 0=0:=by
 have key:∀(l:A3 Int) (j:Nat),Cc l->AK l=0->l.getD j 0=0:=by
  intro l
  induction l with
  |nil=>intro j _ _;simp
  |cons x l ih=>intro j hk hv;rw[fZ] at hk;rw[Mk] at hv;have h1:=(Ey hk.2).1;have hx:=hk.1;unfold BT at*;cases j with|zero=>simp;omega|succ j=>simpa using ih j hk.2 A4
 have:=key (l.drop n) (m-n) (Tg hk n) h;simpa[JH,U6,show n+(m-n)=m by omega] using this
theorem amn{r:Int}(e:q*v1+r=U2)(h:BT*r+u0<q*v0):(u0+BT*U2)+1<=q*(v0+BT*v1):=by grind
def amq{r:Int}(e:q*v1+r=U2)(hr:r<v1)(hu:u0<BT)(hq:0<=q)(hv:0<=v0):(u0+BT*U2)+1<=(q+1)*(v0+BT*v1):=by rw[DU,GI _ BT v1,<-e,IA q 1 v1,JD];have:0<=(q+1)*v0:=LF A4 hv;unfold BT at*;omega
def amt{R P UL VL:Int}(e:q*v1+R=U2)(hq:0<=q/\q<BT)(hR:0<=R)(Hy:0<=v0/\v0<BT)(hu0:0<=u0)(hv1:BT<=2*v1)(h:BT<=R\/q*v0<=BT*R+u0)
 (hP:0<P)(hU:0<=UL)(hV:VL<P)(hV0:0<=VL):(q-1)*(VL+P*(v0+BT*v1))<=UL+P*(u0+BT*U2):=by
 have hY:q*(v0+BT*v1)<=u0+BT*U2:=by
  rw[DU,GI q BT v1,<-e,DU];have:q*v0<=BT*R+u0:=by
   rcases h with h|h
   .have:q*v0<=(BT-1)*(BT-1):=PZ A4 A4 Hy.1 (by unfold BT;omega);unfold BT at*;omega
   .exact h
  omega
 have h1:=Eu hY<|ET hP
 have h2:q*VL<=BT*P:=PZ A4 A4 hV0 (by unfold BT;omega);have h3:P*BT<=P*(v0+BT*v1):=Eu (by unfold BT at*;omega)<|ET hP
 rw[ZD,JD,DU q,GI q P];rw[FB P BT] at h3;omega
theorem aoN{u1 u2 P UL VL:Int}(hP:0<P)(hU:0<=UL)(hu0:0<=u0)(hu1:0<=u1)(hV:VL<P)(Hy:v0<BT)(h:UL+P*(u0+BT*(u1+BT*u2))<BT*(VL+P*(v0+BT*v1))):u2<=v1:=by
 rcases(show v1<u2\/u2<=v1 by omega) with h'|h'
 .exfalso;have h1:BT*(v0+BT*v1+1)<=u0+BT*(u1+BT*u2):=AL;have h2:=Eu h1<|ET hP
  rw[GI P BT,DU P _ 1,Ln] at h2;rw[DU BT VL] at h;rw[DU BT _ P] at h2;have h3:BT*VL<=BT*P:=Eu A4 (by unfold BT;omega);omega
 .exact h'
theorem aiB(h:l.length=k+3):AK l=AK (l.take k)+BJ k*(l.getD k 0+BT*(l.getD (k+1) 0+BT*l.getD (k+2) 0)):=by have h1:AK (l.take<|k+3)=AK l:=AL;rw[<-h1,IZ,IZ,IZ,K3<|k+1,K3,DU,DU,DU,GI (BJ k) BT,GI (BJ k) BT,GI (BJ k) BT,FG,FG,FG];omega
theorem aiC(h:l.length=k+2):AK l=AK (l.take k)+BJ k*(l.getD k 0+BT*l.getD (k+1) 0):=by have h1:AK (l.take<|k+2)=AK l:=AL;rw[<-h1,IZ,IZ,K3,DU,GI (BJ k) BT,FG];omega
def wN(h:Cc l)(hl:n<=l.length)(hv:AK l<BJ n):AK (l.drop n)=0:=by
 have h1:=Ra l n hl;have h2:=(Ey<|Tg h n).1;have h3:=(Ey<|MF h n).1;rcases(show AK (l.drop n)=0\/1<=AK (l.drop n) by omega) with h4|h4
 .exact h4
 .have:=Eu h4 (ET<|NT n);omega
def div_pos{y:Int}(hx:0<=x)(hy:0<y)(hb:x<=9223372036854775807):Gh x y=some (x/y):=by
 unfold Gh;rw[Bo A4,Int.tdiv_eq_ediv_of_nonneg hx];have h1:=LG hx<|ET hy
 have h2:=S7 y hx;exact EW ⟨A4,A4⟩
def Te(ha:Cc a)(hl:a.length<1099511627776):Yd (λw=>Fv w/\AK w=AK a/\w.length<=a.length) (P9 a):=by
 unfold P9;refine EO (λs:A3 Int=>Cc s/\AK s=AK a/\s.length<=a.length) (λs=>s.length) ?_ _ _ ⟨ha,rfl,BK _⟩ A4;rintro next s ⟨h1,h2,h3⟩ hn
 refine GJ (λhg=>?_)<|λhg=>?_
 .have hs:(0:Int)<s.length:=Ar hg;obtain⟨n,HJ⟩:∃n,s.length=n+1:=⟨s.length-1,A4⟩;have e1:(s.length:Int)-1=(n:Int):=A4;rw[e1];refine⟨(n:Int),EW ⟨A4,A4⟩,GJ (λ_=>⟨s.getD n 0,Bh A4,Ac (λhc=>?_)<|λhc=>?_⟩) (λh=>by rw[hg] at h;cases h)⟩
  .let⟨_,hz⟩:=EA hc;have hz:=Ar hz;refine A6 B9<|A6 (E5 A4 A4 A4) ?_
   have e:(s.take ((n:Nat):Int).toNat).drop (0:Int).toNat=s.take n:=AX;rw[e];have hv:AK s=AK (s.take n):=by have:=V4 (l:=s) (n:=n) A4;rw[hz,Tt,Vy,D5 A4] at this;exact this
   exact hn _ ⟨MF h1 n,by rw[<-hv];exact h2,DD⟩ DD
  .refine AU ⟨⟨h1,?_⟩,h2,h3⟩;rw[B4 hs,Lq] at hc;have hz:=Bg hc;have e:s=s.take n++[s.getD n 0]:=by rw[<-cd A4,D5 A4]
   rw[e];simpa using hz
 .have hs: ¬(0:Int)<s.length:=Bg hg;have hs:s=[]:=LN A4;subst hs;exact GJ (λh=>by rw[hg] at h;cases h) (λ_=>Ac (λhc=>by simp at hc)<|λ_=>AU ⟨Fv.nil,h2,h3⟩)
def F3(p:Bool×A3 Int)(z:Int):Prop:=Fv p.2/\AK p.2=(z.natAbs:Int)/\p.1=decide (z<0)
def Fv.pos(h:Fv w)(h0:w≠[]):0<AK w:=by
 have:=TX h.1 h0 h.2;have:=NT<|w.length-1
 omega
theorem w7{b:Bool}(ha:Cc a)(hl:a.length<1099511627776):Yd (λp=>F3 p (bif b then -AK a else AK a)/\p.2.length<=a.length) (L2 b a):=by
 unfold L2;refine Ap (Te ha hl) λw ⟨h1,h2,h3⟩=>AU ⟨⟨h1,?_,?_⟩,h3⟩
 .have:=(Ey h1.1).1;rw[<-h2];cases b
  .grind
  .grind
 .have hz:=(Ey h1.1).1;by_cases hw:w=[]
  .subst hw;have:AK a=0:=h2.symm;rw[this];cases b<;>rfl
  .have hp:=h1.pos hw;have hlw:0<w.length:=WI.2 hw;rw[<-h2];cases b
   .grind
   .grind
theorem tJ(ha:Fv a)(hb:Fv b)(hla:a.length<4398046511104)(hlb:b.length<4398046511104):Yd (λr=>(r= -1/\AK a<AK b)\/(r=0/\AK a=AK b)\/(r=1/\AK b<AK a)) (XG a b):=by
 unfold XG;refine Ac (λhc=>Ac (λhd=>?_)<|λhd=>?_)<|λhc=>?_
 .have hd:=Ar hd;exact AU<| .inl ⟨rfl,eM ha.1 hb A4⟩
 .have hd:=Bg hd;rw[G5,Ij] at hc;exact AU<| .inr<| .inr ⟨rfl,eM hb.1 ha A4⟩
 .rw[WE,Hl] at hc;have hl:a.length=b.length:=A4;refine A6 B9 ?_;refine EO (λs:Int=> -1<=s/\s<a.length/\a.drop (s+1).toNat=b.drop (s+1).toNat) (λs:Int=>(s+1).toNat) ?_ _ _ ⟨A4,A4,?_⟩ A4
  .rintro next s ⟨h0,h1,h2⟩ hn
   refine Ac (λhp=>?_)<|λhp=>?_
   .have hp:=Ar hp;obtain⟨n,rfl⟩:=Ez hp;have en:(((n:Nat):Int)+1).toNat=n+1:=A4;rw[en] at h2;have gA:AB a (n:Int)=some (a.getD n 0):=Bh A4;have gB:AB b (n:Int)=some (b.getD n 0):=Bh A4;refine A6 gA<|A6 gB ?_
    have eA:=zL (l:=a) (n:=n) A4;have eB:=zL (l:=b) (n:=n) A4;rw[h2] at eA;let⟨tA0,tA⟩:=Ey<|MF ha.1 n
    let⟨tB0,tB⟩:=Ey<|MF hb.1 n
    rw[E1,EU A4] at tA tB;have hpw:=NT n;have dA:=OE (l:=a) (n:=n) A4;have dB:=OE (l:=b) (n:=n) A4
    generalize a.getD n 0=X at*
    generalize b.getD n 0=Y at*
    have eA':AK a=AK (a.take n)+BJ n*X+BJ n*(BT*AK (b.drop<|n+1)):=AL;have eB':AK b=AK (b.take n)+BJ n*Y+BJ n*(BT*AK (b.drop<|n+1)):=AL;refine Ac (λhlt=>?_)<|λhlt=>A6 gA<|A6 gB<|Ac (λhgt=>?_)<|λhgt=>?_
    .have hlt:=Ar hlt;have:BJ n*(X+1)<=BJ n*Y:=Eu A4 A4;rw[DU,Ln] at this;exact AU<| .inl ⟨rfl,A4⟩
    .have hgt:=Ar hgt;have:BJ n*(Y+1)<=BJ n*X:=Eu A4 A4;rw[DU,Ln] at this;exact AU<| .inr<| .inr ⟨rfl,A4⟩
    .have hlt:=Bg hlt;have hgt:=Bg hgt;have hx:X=Y:=A4;refine A6 B9<|hn _ ⟨A4,A4,?_⟩ A4
     have:(((n:Nat):Int)-1+1).toNat=n:=A4;rw[this,dA,dB,hx,h2]
   .have hp:=Bg hp;have:s= -1:=A4;subst this;exact AU (.inr (.inl ⟨rfl,by simpa using congrArg AK h2⟩))
  .have:((a.length:Int)-1+1).toNat=a.length:=A4;rw[this,S8,hl,S8]
theorem ng:VI a (n:Int)=some (a.getD n 0):=by
 unfold VI;by_cases h:n<a.length
 .rw[B4 A4];show bd (AB a (n:Int)) _=_;rw[Bh h];rfl
 .grind
theorem bJ(h:l.length<1099511627776):BG 8 l [x]=some (l++[x]):=by grind [BG]
theorem aet(ha:Cc a)(hb:Cc b)(hla:a.length<4398046511)(hlb:b.length<4398046511):Yd (λw=>Cc w/\AK w=AK a+AK b/\w.length<=max a.length b.length+1) (bk a b):=by
 unfold bk;refine EO (λs:A3 Int×Int×Int=>Cc s.1/\(s.2.1=0\/s.2.1=1)/\s.2.2=s.1.length/\s.1.length<=max a.length b.length+1/\(s.1.length=max a.length b.length+1->s.2.1=0)/\
   AK s.1+BJ s.1.length*s.2.1=AK (a.take s.1.length)+AK (b.take s.1.length)) (λs=>max a.length b.length+1-s.1.length) ?_ _ _ ⟨gX,.inl rfl,rfl,AX,λ_=>rfl,by simp[AK]⟩ (by dsimp only;simp;omega)
 rintro next ⟨o,c,i⟩ ⟨h1,h2,h3,h4,h5,h6⟩ hn
 dsimp only at h1 h2 h3 h4 h5 h6 hn⊢;subst h3;refine Ac (λhc=>?_)<|λhc=>?_
 .let⟨xa,xb⟩:=HR ha o.length;let⟨ya,yb⟩:=HR hb o.length;have hlt:o.length<=max a.length b.length:=AL;have hz:o.length=max a.length b.length->a.getD o.length 0=0/\b.getD o.length 0=0:=λh=>⟨ie A4,ie A4⟩
  have hS:0<=a.getD o.length 0+b.getD o.length 0+c/\a.getD o.length 0+b.getD o.length 0+c<2000000000:=AL;refine A6 ng (A6 ng (A6 (EW ⟨A4,by unfold BT at*;omega⟩)<|A6 B9<|A6 (QR hS.1 A4)<|A6 (bJ A4)<|A6 (div_pos hS.1 A4 A4)<|A6 B9<|hn _ ⟨?_,?_,?_,?_,?_,?_⟩ ?_))
  .rw[eP];exact⟨h1,λx hx=>by rw[Cn] at hx;subst hx;unfold BT;omega⟩
  .dsimp only;omega
  .grind
  .grind
  .grind
  .dsimp only;rw[E7,JG,RT,IZ,IZ,K3];have e:AK [(a.getD o.length 0+b.getD o.length 0+c)%1000000000]=(a.getD o.length 0+b.getD o.length 0+c)%1000000000:=by simp[AK]
   rw[e,FB BT,FG,<-Int.add_assoc]
   generalize a.getD o.length 0=X at*
   generalize b.getD o.length 0=Y at*
   have hd:X+Y+c=(X+Y+c)%1000000000+BT*((X+Y+c)/1000000000):=by unfold BT;omega
   have:BJ o.length*((X+Y+c)%1000000000)+BJ o.length*(BT*((X+Y+c)/1000000000))=BJ o.length*X+BJ o.length*Y+BJ o.length*c:=AL;omega
  .grind
 .rw[MS,MS,Ij,Ij,Ij] at hc;have hc0:c=0:=A4;subst hc0;refine AU ⟨h1,?_,h4⟩;rw[D5 A4,D5 A4] at h6;omega
theorem ue(ha:Cc a)(hb:Cc b)(hl:b.length<=a.length)(hla:a.length<4398046511)(hv:AK b<=AK a):Yd (λw=>Fv w/\AK w=AK a-AK b/\w.length<=a.length) (XQ a b):=by
 unfold XQ;refine EO (λs:A3 Int×Int×Int=>Cc s.1/\(s.2.1=0\/s.2.1=1)/\s.2.2=s.1.length/\s.1.length<=a.length/\
   AK s.1=AK (a.take s.1.length)-AK (b.take s.1.length)+BJ s.1.length*s.2.1) (λs=>a.length-s.1.length) ?_ _ _ ⟨gX,.inl rfl,rfl,AX,by simp[AK]⟩ (by dsimp only;simp;omega)
 rintro next ⟨o,c,i⟩ ⟨h1,h2,h3,h4,h5⟩ hn
 dsimp only at h1 h2 h3 h4 h5 hn⊢;subst h3;refine Ac (λhc=>?_)<|λhc=>?_
 .have hc:=Ar hc;let⟨xa,xb⟩:=HR ha o.length;let⟨ya,yb⟩:=HR hb o.length;refine A6 (Bh A4) (A6 ng (A6 (EW ⟨by unfold BT at*;omega,by unfold BT at*;omega⟩) (A6 (EW ⟨by unfold BT at*;omega,by unfold BT at*;omega⟩) ?_)));have step:∀d x:Int,(d=0\/d=1)->0<=x->x<1000000000->x=a.getD o.length 0-b.getD o.length 0-c+BT*d->Yd (λw=>Fv w/\AK w=AK a-AK b/\w.length<=a.length) (bd (BG 8 o [x]) λBf=>bd (AH<|(o.length:Int)+1) λBq=>next (Bf,d,Bq)):=by
   intro d x hd hx0 hx1 hx;refine A6 (bJ A4)<|A6 B9<|hn _ ⟨?_,hd,?_,?_,?_⟩ ?_
   .rw[eP];exact⟨h1,λy hy=>by rw[Cn] at hy;subst hy;unfold BT;omega⟩
   .grind
   .grind
   .dsimp only;rw[E7,JG,RT,IZ,IZ,K3,h5];have e:AK [x]=x:=by simp[AK]
    rw[e,FB BT,FG,hx]
    generalize a.getD o.length 0=X at*
    generalize b.getD o.length 0=Y at*
    have:BJ o.length*(X-Y-c+BT*d)=BJ o.length*X-BJ o.length*Y-BJ o.length*c+BJ o.length*(BT*d):=AL;omega
   .grind
  refine DI (λp:Int×Int=>(p.1=0\/p.1=1)/\0<=p.2/\p.2<1000000000/\p.2=a.getD o.length 0-b.getD o.length 0-c+BT*p.1) (λp hp=>step p.1 p.2 hp.1 hp.2.1 hp.2.2.1 hp.2.2.2) λk hk=>Ac (λhd=>?_)<|λhd=>?_
  .have hd:=Ar hd;refine A6 (EW ⟨by unfold BT at*;omega,by unfold BT at*;omega⟩) (hk _ ⟨.inr rfl,?_,?_,?_⟩)<;>(dsimp only;unfold BT at*;omega)
  .grind
 .have hc:=Bg hc;have hlen:o.length=a.length:=A4;rw[D5 A4,D5 A4] at h5;let⟨z1,z2⟩:=Ey h1;have hc0:c=0:=AL;subst hc0;refine Ap (Te h1 A4) λw ⟨g1,g2,g3⟩=>AU ⟨g1,by rw[g2,h5];omega,A4⟩
theorem uz{d:Int}(ha:Cc a)(hd:0<d/\d<1000000000)(hl:a.length<1099511627776):Yd (λp=>Fv p.1/\AK p.1=AK a/d/\p.2=AK a%d/\p.1.length<=a.length) (XX a d):=by
 unfold XX;refine A6 (Pt A4 A4 A4)<|A6 B9 ?_
 refine EO (λs:A3 Int×Int×Int=>Cc s.1/\s.1.length=a.length/\(0<=s.2.1/\s.2.1<d)/\ -1<=s.2.2/\s.2.2<a.length/\AK (a.drop (s.2.2+1).toNat)=AK (s.1.drop (s.2.2+1).toNat)*d+s.2.1) (λs=>(s.2.2+1).toNat) ?_ _ _
  ⟨lq _,by simp only[Nd];omega,⟨BY,BY⟩,BY,BY,?_⟩ BY
 rotate_left
 .have e:((a.length:Int)-1+1).toNat=a.length:=A4;dsimp only;rw[e,S8,Mx (by simp only[Nd];omega)];simp[AK]
 rintro next ⟨o,r,i⟩ ⟨h1,h2,⟨h3,h3'⟩,h4,h5,h6⟩ hn
 dsimp only at h1 h2 h3 h3' h4 h5 h6 hn⊢;refine Ac (λhc=>?_)<|λhc=>?_
 .have hc:=Ar hc;obtain⟨n,rfl⟩:=Ez hc;have en:(((n:Nat):Int)+1).toNat=n+1:=A4;rw[en] at h6;let⟨xa,xb⟩:=HR ha n;have hx:0<=r*1000000000+a.getD n 0/\r*1000000000+a.getD n 0<d*1000000000:=AL;have hq0:=LG hx.1<|ET hd.1
  have hq1:(r*1000000000+a.getD n 0)/d<1000000000:=by apply Zb hd.1;omega
  have Kt:=Lu (r*1000000000+a.getD n 0) (show d≠0 by omega);have hr1:=LI (r*1000000000+a.getD n 0) hd.1;refine A6 B9 (A6 (Bh A4) (A6 B9 (A6 (div_pos hx.1 hd.1 A4) (A6 (Bh A4) (A6 (Bh A4) (A6 (QR hx.1 hd.1) (A6 B9 (hn _ ⟨Z9 h1 _ ⟨hq0,hq1⟩,by simpa using h2,⟨Kt,hr1⟩,BY,BY,?_⟩ ?_))))))))
  .dsimp only;have e2:(((n:Nat):Int)-1+1).toNat=n:=A4;rw[e2,Cg,dc A4,OE (show n<a.length by omega),Mk,Mk,h6];have hdm:=Int.mul_ediv_add_emod (r*1000000000+a.getD n 0) d
   generalize (r*1000000000+a.getD n 0)/d=q at*
   generalize (r*1000000000+a.getD n 0)%d=m at*
   rw[IA,DU,FG BT,FB q d];unfold BT;omega
  .dsimp only;omega
 .have hc:=Bg hc;have:i= -1:=A4;subst this;have h6:AK a=AK o*d+r:=by simpa using h6
  refine Ap (Te h1 A4) λw ⟨g1,g2,g3⟩=>AU ⟨g1,?_,?_,BY⟩
  .dsimp only;rw[g2];exact(YL h6 h3 h3').1
  .exact(YL h6 h3 h3').2
theorem lg(ha:Cc a)(hb:Cc b)(hla:a.length<4398046511)(hlb:b.length<4398046511):Yd (λw=>Fv w/\AK w=AK a*AK b/\w.length<=a.length+b.length) (Uq a b):=by
 unfold Uq;refine A6 B9<|A6 (Pt A4 A4 A4) ?_
 refine EO (λs:A3 Int×Int=>Cc s.1/\s.1.length=a.length+b.length/\0<=s.2/\s.2<=a.length/\(∀m,s.2.toNat+b.length<=m->s.1.getD m 0=0)/\AK (s.1.take<|s.2.toNat+b.length)=AK (a.take s.2.toNat)*AK b)
  (λs:A3 Int×Int=>a.length-s.2.toNat) ?_ _ _ ⟨lq _,by simp only[Nd];omega,BY,BY,λm _=>akr,?_⟩ BY
 rotate_left
 .dsimp only;rw[ZZ,uD];simp[AK]
 rintro next ⟨o,i⟩ ⟨h1,h2,h3,h4,hz,h5⟩ hn
 simp only at h1 h2 h3 h4 hz h5 hn⊢;obtain⟨n,rfl⟩:=Ez h3;simp only[Cg,MR] at*;refine Ac (λhc=>?_)<|λhc=>?_
 .have hc:=Ar hc;refine EO (λs:A3 Int×Int×Int=>Cc s.1/\s.1.length=a.length+b.length/\(0<=s.2.1/\s.2.1<BT)/\0<=s.2.2/\s.2.2<=b.length/\s.1.drop (n+s.2.2.toNat)=o.drop (n+s.2.2.toNat)/\
    AK (s.1.take<|n+s.2.2.toNat)+BJ (n+s.2.2.toNat)*s.2.1=AK (o.take<|n+s.2.2.toNat)+BJ n*(a.getD n 0*AK (b.take s.2.2.toNat)))
   (λs:A3 Int×Int×Int=>b.length-s.2.2.toNat) ?_ _ _ ⟨h1,h2,⟨BY,by dsimp only;unfold BT;omega⟩,BY,BY,rfl,by simp[AK]⟩ BY
  rintro Fp ⟨p,c,j⟩ ⟨g1,g2,g3,g4,g5,g6,g7⟩ IW;simp only at g1 g2 g3 g4 g5 g6 g7 IW⊢;obtain⟨m,rfl⟩:=Ez g4;simp only[Cg,MR] at*;have eo:p.getD (n+m) 0=o.getD (n+m) 0:=by have:=congrArg (λl=>l.getD 0 0) g6;simpa[JH,U6] using this
  refine Ac (λhd=>?_)<|λhd=>?_
  .have hd:=Ar hd;have enm:((n:Nat):Int)+((m:Nat):Int)=((n+m:Nat):Int):=A4;let⟨xa,xb⟩:=HR ha n;let⟨ya,yb⟩:=HR hb m;let⟨oa,ob⟩:=HR g1<|n+m
   have N9:a.getD n 0*b.getD m 0<=(BT-1)*(BT-1):=PZ A4 A4 ya (by unfold BT;omega);have avY:0<=a.getD n 0*b.getD m 0:=LF xa ya;have hS:0<=p.getD (n+m) 0+a.getD n 0*b.getD m 0+c/\p.getD (n+m) 0+a.getD n 0*b.getD m 0+c<BT*BT:=AL;rw[enm];refine A6 B9 (A6 (Bh A4) (A6 (Bh A4) (A6 (Bh A4) (A6 (Bh A4) (A6 (EW ⟨A4,by unfold BT at*;omega⟩) (A6 (EW ⟨A4,by unfold BT at*;omega⟩) (A6 (EW ⟨A4,by unfold BT at*;omega⟩) (A6 B9 (A6 (QR hS.1 A4) (A6 (Bh A4) (A6 (Bh A4) (A6 (div_pos hS.1 A4 (by unfold BT at*;omega))<|A6 B9 ?_))))))))))));have hdm:p.getD (n+m) 0+a.getD n 0*b.getD m 0+c=(p.getD (n+m) 0+a.getD n 0*b.getD m 0+c)%1000000000+BT*((p.getD (n+m) 0+a.getD n 0*b.getD m 0+c)/1000000000):=by unfold BT;omega
   have hr:0<=(p.getD (n+m) 0+a.getD n 0*b.getD m 0+c)%1000000000/\(p.getD (n+m) 0+a.getD n 0*b.getD m 0+c)%1000000000<BT:=by unfold BT;omega
   have hq:0<=(p.getD (n+m) 0+a.getD n 0*b.getD m 0+c)/1000000000/\(p.getD (n+m) 0+a.getD n 0*b.getD m 0+c)/1000000000<BT:=AL;refine IW _ ⟨Z9 g1 _ hr,by simpa using g2,hq,BY,BY,?_,?_⟩ BY
   .have e:(((m:Nat):Int)+1).toNat=m+1:=A4;simp only[e,Cg];rw[iL A4,<-LD];have:=congrArg (List.drop 1) g6;rwa [FR,FR] at this
   .have e:(((m:Nat):Int)+1).toNat=m+1:=A4;simp only[e,Cg];rw[<-LD,IZ,HB<|BK _,J9 A4,IZ o,IZ b,<-eo,K3]
    generalize (p.getD (n+m) 0+a.getD n 0*b.getD m 0+c)%1000000000=R at*
    generalize (p.getD (n+m) 0+a.getD n 0*b.getD m 0+c)/1000000000=Q at*
    have k1:BJ n*(a.getD n 0*(AK (b.take m)+BJ m*b.getD m 0))=BJ n*(a.getD n 0*AK (b.take m))+BJ (n+m)*(a.getD n 0*b.getD m 0):=by rw[DU,DU,gI,GI (a.getD n 0)<|BJ m,FG]
    have k2:BJ (n+m)*R+BT*BJ (n+m)*Q=BJ (n+m)*(a.getD n 0*b.getD m 0)+BJ (n+m)*p.getD (n+m) 0+BJ (n+m)*c:=AL;rw[k1];omega
  .have hd:=Bg hd;have KS:m=b.length:=A4;subst KS;have enm:((n:Nat):Int)+((b.length:Nat):Int)=((n+b.length:Nat):Int):=A4;have hz0:p.getD (n+b.length) 0=0:=AL;rw[enm];refine A6 B9 (A6 B9 (A6 (Bh A4) (A6 (Bh A4) (A6 (EW ⟨A4,by unfold BT at*;omega⟩)<|A6 (Bh A4)<|A6 (Bh A4)<|A6 B9 ?_))));rw[hz0,Int.zero_add];refine hn _ ⟨Z9 g1 _ g3,by simpa using g2,BY,BY,?_,?_⟩ BY
   .intro m hm;have e:(((n:Nat):Int)+1).toNat=n+1:=A4;simp only[e,Cg] at hm⊢;rw[getD_set_ne A4];have:=congrArg (λl=>l.getD (m-(n+b.length)) 0) g6;have h':p.getD m 0=o.getD m 0:=AL;rw[h'];exact hz m A4
   .have e:(((n:Nat):Int)+1).toNat=n+1:=A4;simp only[e,Cg];rw[show n+1+b.length=n+b.length+1 by omega,IZ,HB<|BK _,J9 A4,g7,h5,IZ a,D5<|BK _,IA,FG]
 .have hc:=Bg hc;have HJ:n=a.length:=A4;subst HJ;refine Ap (Te h1 A4) λw ⟨q1,q2,q3⟩=>AU ⟨q1,?_,A4⟩
  rw[q2];rw[D5 (l:=o) A4,D5 (l:=a) A4] at h5;exact h5
theorem ajX(h:i<n):((u.drop j).take n).getD i 0=u.getD (j+i) 0:=by grind
def Ep{α:Type}{g:Bool}{d:α}{e:AA α}{K:α->AA ρ}(h:g=false):B1 g d e K=K d:=by subst h;rfl
def Cs{α:Type}{g:Bool}{d:α}{e:AA α}{K:α->AA ρ}(h:g=true):B1 g d e K=bd e K:=by subst h;rfl
theorem aik(hu:Cc u)(hv:Cc v)(La:v.length=k+2)(hul:j+(k+3)<=u.length)(hlen:u.length<4398046511)(X4:BT<=2*v.getD (k+1) 0)
 (hw:w=(u.drop j).take (k+3))(hlt:AK w<BT*AK v):Yd (λq=>(0<=q/\q<BT)/\(q-1)*AK v<=AK w/\AK w<(q+1)*AK v) (Xv u v (j:Int)):=by
 unfold Xv;have hwo:Cc w:=by rw[hw];exact MF (Tg hu _) _
 have hwl:w.length=k+3:=AL;have eU:=aiB hwl;have eV:=aiC La;let⟨bU0,bU1⟩:=Ey<|MF hwo k
 let⟨bV0,bV1⟩:=Ey<|MF hv k
 rw[E1,EU A4] at bU1 bV1;have hP:=NT k;have hu0:=HR hwo k;have hu1:=HR hwo<|k+1
 have hu2:=HR hwo<|k+2
 have Hy:=HR hv k;have hv1:=HR hv<|k+1
 have w0:u.getD (j+k) 0=w.getD k 0:=AL;have w1:u.getD (j+(k+1)) 0=w.getD (k+1) 0:=AL;have w2:u.getD (j+(k+2)) 0=w.getD (k+2) 0:=AL;have hVP:0<=AK v:=(Ey hv).1;have hU0:0<=AK w:=(Ey hwo).1;have abh:w.getD (k+2) 0<=v.getD (k+1) 0:=aoN hP bU0 hu0.1 hu1.1 bV1 Hy.2 (by rw[<-eU,<-eV];exact hlt);have e1:((v.length:Int)-1)=((k+1:Nat):Int):=A4;have e2:((v.length:Int)-2)=((k:Nat):Int):=A4;have e3:((j:Int)+(v.length:Int))=((j+(k+2):Nat):Int):=A4;have e4:(((j+(k+2):Nat):Int)-1)=((j+(k+1):Nat):Int):=A4;have e5:(((j+(k+2):Nat):Int)-2)=((j+k:Nat):Int):=A4;rw[e1,e2,e3];have i2:AB u ((j+(k+2):Nat):Int)=some (w.getD (k+2) 0):=by rw[<-w2];exact Bh A4
 have i1:AB u ((j+(k+1):Nat):Int)=some (w.getD (k+1) 0):=by rw[<-w1];exact Bh A4
 have i0:AB u ((j+k:Nat):Int)=some (w.getD k 0):=by rw[<-w0];exact Bh A4
 have v1:AB v ((k+1:Nat):Int)=some (v.getD (k+1) 0):=Bh A4;have v0:AB v ((k:Nat):Int)=some (v.getD k 0):=Bh A4;clear w0 w1 w2 hw
 generalize w.getD (k+2) 0=U2 at*
 generalize w.getD (k+1) 0=U1 at*
 generalize w.getD k 0=U0 at*
 generalize v.getD (k+1) 0=V1 at*
 generalize v.getD k 0=V0 at*
 have hV1:0<V1:=AL;have hT:0<=U2*1000000000+U1/\U2*1000000000+U1<1000000000000000000:=AL;refine A6 B9 (A6 i2 (A6 (EW ⟨A4,by unfold BT at*;omega⟩)<|A6 B9 ?_));rw[e4];refine A6 B9<|A6 i1<|A6 B9<|A6 B9<|A6 v1<|A6 (div_pos hT.1 hV1 A4)<|A6 B9<|A6 v1<|A6 (QR hT.1 hV1) ?_
 have ht0:=LG hT.1<|ET hV1
 have Kt:=Lu (U2*1000000000+U1) (show V1≠0 by omega);have hr1:=LI (U2*1000000000+U1) hV1;have hdm:=Int.mul_ediv_add_emod (U2*1000000000+U1) V1;have ht1:(U2*1000000000+U1)/V1<=1000000001:=by apply Int.le_of_lt_add_one;apply Zb hV1;have:(1000000001+1)*V1=1000000000*V1+2*V1:=A4;unfold BT at*;omega
 have aoT:∀t r:Int,t*V1+r=U1+BT*U2->BT<=r->t<BT:=λt r e h=>by
  refine Int.lt_of_mul_lt_mul_right (a:=V1) ?_<|ET hV1
  have:BT*U2<=BT*V1:=Eu abh (by unfold BT;omega);unfold BT at*;omega
 refine EO (λs:Int×Int=>(0<=s.1/\s.1<=1000000001)/\(0<=s.2/\s.2<BT)/\s.1*V1+s.2=U1+BT*U2/\AK w<(s.1+1)*AK v) (λs=>s.1.toNat) ?_ _ _ ⟨⟨ht0,ht1⟩,⟨Kt,by unfold BT at*;dsimp only;omega⟩,?_,?_⟩ BY
 rotate_left
 .grind
 .dsimp only;have:=amq (u0:=U0) (v0:=V0) (q:=(U2*1000000000+U1)/V1) (r:=(U2*1000000000+U1)%V1) (U2:=U1+BT*U2) (v1:=V1) (by rw[FB _ V1,hdm];unfold BT;omega) hr1 hu0.2 ht0 Hy.1;have:=jP hP bU1 bV0 (show 0<=(U2*1000000000+U1)/V1+1 by omega) this;rw[<-eU,<-eV] at this;exact this
 clear ht0 Kt hr1 hdm ht1 hT;rintro next ⟨t,r⟩ ⟨⟨h1,h1'⟩,⟨h2,h2'⟩,h3,h4⟩ hn
 dsimp only at h1 h1' h2 h2' h3 h4 hn⊢;have fin:∀q R:Int,(0<=q/\q<BT)->0<=R->q*V1+R=U1+BT*U2->AK w<(q+1)*AK v->(BT<=R\/q*V0<=BT*R+U0)->Yd (λq=>(0<=q/\q<BT)/\(q-1)*AK v<=AK w/\AK w<(q+1)*AK v) (some q):=λq R hq hR e hup hh=>by refine AU ⟨hq,?_,hup⟩;have:=amt (P:=BJ k) (UL:=AK<|w.take k) (VL:=AK<|v.take k) e hq hR Hy hu0.1 X4 hh hP bU0 bV1 bV0;rw[<-eU,<-eV] at this;exact this
 have step:AK w<t*AK v->Yd (λq=>(0<=q/\q<BT)/\(q-1)*AK v<=AK w/\AK w<(q+1)*AK v) (bd (AH<|t-1) λKm=>bd (AH ((k+1:Nat):Int)) λIt=>bd (AB v It) λHu=>bd (AH<|r+Hu) λGY=>cond (decide<|1000000000<=GY) (some Km)<|next (Km,GY)):=λhUq=>by
  have hq1:1<=t:=AL;refine A6 B9 (A6 B9 (A6 v1 (A6 (EW ⟨A4,by unfold BT at*;omega⟩)<|Ac (λhc=>?_)<|λhc=>?_)))
  .have hc:=Ar hc;have hc:BT<=r+V1:=hc;have e:(t-1)*V1+(r+V1)=U1+BT*U2:=AL;exact fin (t-1) (r+V1) ⟨A4,aoT _ _ e hc⟩ A4 e (by rw[show t-1+1=t by omega];exact hUq)<| .inl hc
  .grind
 by_cases hb:(1000000000:Int)<=t
 .have hd:=B4 hb;have g1:gd (decide<|(1000000000:Int)<=t) false=false:=by rw[hd];rfl
  repeat rw[Ep g1]
  refine Ac (λ_=>step ?_) (λh=>by rw[hd,ZG] at h;cases h);have:BT*AK v<=t*AK v:=Mz (by unfold BT;omega) hVP;omega
 .have hd:=Bo hb;have g1:gd (decide<|(1000000000:Int)<=t) false=true:=by rw[hd];rfl
  have hb0:0<=t*V0/\t*V0<=1000000000*1000000000:=⟨LF h1 Hy.1,PZ A4 (by unfold BT at*;omega) Hy.1 A4⟩;rw[Cs g1];refine A6 B9 ?_;rw[Cs g1];refine A6 v0 ?_;rw[Cs g1];refine A6 B9 ?_;rw[Cs g1];refine A6 (EW ⟨A4,by unfold BT at*;omega⟩) ?_;rw[Cs g1];refine A6 B9 ?_;rw[e5,Cs g1];refine A6 B9 ?_;rw[Cs g1];refine A6 i0 ?_;rw[Cs g1];refine A6 (EW ⟨A4,by unfold BT at*;omega⟩)<|Ac (λhc=>?_)<|λhc=>?_
  .rw[hd,Tx] at hc;have hc:=Ar hc;refine step ?_;have hUq:=jP hP bU1 bV0 h1 (amn (q:=t) (r:=r) (v1:=V1) (U2:=U1+BT*U2) (u0:=U0) (v0:=V0) h3 (by unfold BT;omega));rw[<-eU,<-eV] at hUq;exact hUq
  .grind
def kG:(l.set (j+i) x).drop j=(l.drop j).set i x:=by rw[List.drop_set,if_neg A4,Nat.add_sub_cancel_left]
theorem Wp:(l.drop j).getD i 0=l.getD (j+i) 0:=by grind
theorem ah6{t:Int}{bM:A3 Int×Int×Int->AA ρ}(hu:Cc u)(hv:Cc v)(La:v.length=n)(hj:j+n<=u.length)(hl:u.length<4398046511)(ht:0<=t/\t<BT)
 (h:∀u2 b,Cc u2->u2.length=u.length->u2.take j=u.take j->(∀m,j+n<=m->u2.getD m 0=u.getD m 0)->(0<=b/\b<BT)->AK ((u2.drop j).take n)=AK ((u.drop j).take n)-t*AK v+BJ n*b->Yd R (bM (u2,b,(n:Int)))):Yd R (lp 18446744073709551616 (λ(k46:(A3 Int×Int×Int)->AA ρ) (DA:A3 Int×Int×Int)=>cond (decide<|DA.2.2<(v.length:Int)) (bd (AB v DA.2.2) λIt=>bd (AH<|t*It) λHu=>bd (AH<|Hu+DA.2.1) λGY=>bd (AH<|DA.2.2+(j:Int)) λHv=>bd (AB DA.1 Hv) λJs=>bd (AB DA.1 Hv) λJR=>bd (Fs GY (1000000000:Int)) λKq=>bd (AH<|JR-Kq) λIT=>bd (Gh GY (1000000000:Int)) λMe=>jn (λ(s66:Int×Int)=>bd (AH<|DA.2.2+(j:Int)) λJr=>bd (AB DA.1 Jr) λx75=>bd (AB DA.1 Jr) λO3=>bd (AH<|DA.2.2+(1:Int)) λx79=>k46 ((DA.1.set (Jr).toNat s66.2),s66.1,x79)) λk67=>cond (decide<|IT<(0:Int)) (bd (AH<|IT+(1000000000:Int)) λx69=>bd (AH<|Me+(1:Int)) λx71=>k67 (x71,x69)) (k67 (Me,IT))) (bM DA)) (u,(0:Int),(0:Int))):=by
 subst La;refine EO (λs:A3 Int×Int×Int=>Cc s.1/\s.1.length=u.length/\s.1.take j=u.take j/\(∀m,j+s.2.2.toNat<=m->s.1.getD m 0=u.getD m 0)/\(0<=s.2.1/\s.2.1<BT)/\(0<=s.2.2/\s.2.2<=v.length)/\AK ((s.1.drop j).take s.2.2.toNat)=AK ((u.drop j).take s.2.2.toNat)-t*AK (v.take s.2.2.toNat)+BJ s.2.2.toNat*s.2.1)
  (λs=>v.length-s.2.2.toNat) ?_ _ _ ⟨hu,rfl,rfl,λ_ _=>rfl,⟨by dsimp;omega,by dsimp;unfold BT;omega⟩,⟨by dsimp;omega,by dsimp;omega⟩,by simp[AK]⟩ (by dsimp;omega)
 rintro next ⟨p,c,z⟩ ⟨g1,g2,g3,g4,g5,⟨g6,g6'⟩,g7⟩ hn
 dsimp only at g1 g2 g3 g4 g5 g6 g6' g7 hn⊢;obtain⟨i,rfl⟩:=Ez g6;simp only[Cg,MR] at*;refine Ac (λhc=>?_)<|λhc=>?_
 .have hc:=Ar hc;have hi:i<v.length:=A4;have hx:=HR hv i;have hy:=HR g1<|j+i
  have hm0:0<=t*v.getD i 0:=LF ht.1 hx.1;have hm1:t*v.getD i 0<=(BT-1)*(BT-1):=PZ A4 A4 hx.1 (by unfold BT;omega);have ej:(((i:Nat):Int)+((j:Nat):Int))=((j+i:Nat):Int):=A4;have gu:p.getD (j+i) 0=u.getD (j+i) 0:=g4 _<|BK _
  refine A6 (Bh hi) (A6 (EW ⟨A4,by unfold BT at*;omega⟩) (A6 (EW ⟨A4,by unfold BT at*;omega⟩)<|A6 B9 ?_));rw[ej];have step:∀d x:Int,(0<=d/\d<BT)->(0<=x/\x<BT)->x=u.getD (j+i) 0-(t*v.getD i 0+c)+BT*d->Yd R (bd (AH ((j+i:Nat):Int)) λJr=>bd (AB p Jr) λx75=>bd (AB p Jr) λO3=>bd (AH<|((i:Nat):Int)+(1:Int)) λx79=>next ((p.set (Jr).toNat x),d,x79)):=by
   intro d x hd hx0 hxe;refine A6 B9<|A6 (Bh A4)<|A6 (Bh A4)<|A6 B9<|hn _ ⟨Z9 g1 _ hx0,?_,?_,?_,hd,⟨?_,?_⟩,?_⟩ ?_
   .simpa using g2
   .rw[Cg,HB A4];exact g3
   .intro m hm;dsimp only at hm⊢;rw[Cg,getD_set_ne A4];exact g4 m A4
   .dsimp;omega
   .dsimp;omega
   .dsimp only;have e:(((i:Nat):Int)+1).toNat=i+1:=A4;rw[e,Cg,kG,IZ,HB<|BK _,J9 (by rw[Ih];omega),IZ,IZ,g7,Wp,K3,hxe]
    generalize u.getD (j+i) 0=X at*
    generalize v.getD i 0=Y at*
    rw[DU t,GI t];have:BJ i*(X-(t*Y+c)+BT*d)=BJ i*X-BJ i*(t*Y)-BJ i*c+BT*BJ i*d:=AL;omega
   .dsimp;omega
  rw[gu] at hy;refine A6 (Bh A4)<|A6 (Bh A4)<|A6 (QR A4 A4) ?_
  rw[gu]
  generalize hq:t*v.getD i 0=q at*
  refine A6 (EW ⟨by unfold BT at*;omega,by unfold BT at*;omega⟩) (A6 (div_pos A4 A4 (by unfold BT at*;omega)) ?_);refine DI (λs:Int×Int=>(0<=s.1/\s.1<BT)/\(0<=s.2/\s.2<BT)/\s.2=u.getD (j+i) 0-(q+c)+BT*s.1) (λs hs=>step s.1 s.2 hs.1 hs.2.1 hs.2.2) λk hk=>Ac (λhd=>?_)<|λhd=>?_
  .have hd:=Ar hd;refine A6 (EW ⟨by unfold BT at*;omega,by unfold BT at*;omega⟩) (A6 (EW ⟨by unfold BT at*;omega,by unfold BT at*;omega⟩)<|hk _ ⟨?_,?_,?_⟩)<;>(dsimp;unfold BT at*;omega)
  .grind
 .grind
theorem agG{bM:A3 Int×Int×Int->AA ρ}(hu:∀m,m≠j+n->0<=u.getD m 0/\u.getD m 0<BT)(hv:Cc v)(La:v.length=n)(hj:j+n<u.length)(hl:u.length<4398046511)
 (h:∀u2 b,u2.length=u.length->u2.take j=u.take j->(∀m,j+n<=m->u2.getD m 0=u.getD m 0)->(∀m,m≠j+n->0<=u2.getD m 0/\u2.getD m 0<BT)->(b=0\/b=1)->AK ((u2.drop j).take n)+BJ n*b=AK ((u.drop j).take n)+AK v->Yd R (bM (u2,b,(n:Int)))):Yd R (lp 18446744073709551616 (λ(ar:(A3 Int×Int×Int)->AA ρ) (DW:A3 Int×Int×Int)=>cond (decide<|DW.2.2<(v.length:Int)) (bd (AH<|DW.2.2+(j:Int)) λIJ=>bd (AB DW.1 IJ) λLR=>bd (AB DW.1 IJ) λKh=>bd (AB v DW.2.2) λN4=>bd (AH<|Kh+N4) λNr=>bd (AH<|Nr+DW.2.1) λN6=>bd (AH<|DW.2.2+(j:Int)) λLz=>bd (Fs N6 (1000000000:Int)) λQz=>bd (AB DW.1 Lz) λX1=>bd (AB DW.1 Lz) λX0=>bd (Gh N6 (1000000000:Int)) λWz=>bd (AH<|DW.2.2+(1:Int)) λWy=>ar ((DW.1.set (Lz).toNat Qz),Wz,Wy)) (bM DW)) (u,(0:Int),(0:Int))):=by
 subst La;refine EO (λs:A3 Int×Int×Int=>s.1.length=u.length/\s.1.take j=u.take j/\(∀m,j+s.2.2.toNat<=m->s.1.getD m 0=u.getD m 0)/\(∀m,m≠j+v.length->0<=s.1.getD m 0/\s.1.getD m 0<BT)/\(s.2.1=0\/s.2.1=1)/\(0<=s.2.2/\s.2.2<=v.length)/\AK ((s.1.drop j).take s.2.2.toNat)+BJ s.2.2.toNat*s.2.1=AK ((u.drop j).take s.2.2.toNat)+AK (v.take s.2.2.toNat))
  (λs=>v.length-s.2.2.toNat) ?_ _ _ ⟨rfl,rfl,λ_ _=>rfl,hu,.inl rfl,⟨by dsimp;omega,by dsimp;omega⟩,by simp[AK]⟩ (by dsimp;omega)
 rintro next ⟨p,c,z⟩ ⟨g2,g3,g4,g1,g5,⟨g6,g6'⟩,g7⟩ hn
 dsimp only at g1 g2 g3 g4 g5 g6 g6' g7 hn⊢;obtain⟨i,rfl⟩:=Ez g6;simp only[Cg,MR] at*;refine Ac (λhc=>?_)<|λhc=>?_
 .have hc:=Ar hc;have hi:i<v.length:=A4;have hx:=HR hv i;have hy:=g1 (j+i) A4;have ej:(((i:Nat):Int)+((j:Nat):Int))=((j+i:Nat):Int):=A4;have gu:p.getD (j+i) 0=u.getD (j+i) 0:=g4 _<|BK _
  rw[ej];rw[gu] at hy;have hS:0<=u.getD (j+i) 0+v.getD i 0+c/\u.getD (j+i) 0+v.getD i 0+c<2000000000:=AL;have i1:AB p ((j+i:Nat):Int)=some (u.getD (j+i) 0):=by rw[<-gu];exact Bh A4
  have hdm:u.getD (j+i) 0+v.getD i 0+c=(u.getD (j+i) 0+v.getD i 0+c)%1000000000+BT*((u.getD (j+i) 0+v.getD i 0+c)/1000000000):=by unfold BT;omega
  have hr:0<=(u.getD (j+i) 0+v.getD i 0+c)%1000000000/\(u.getD (j+i) 0+v.getD i 0+c)%1000000000<BT:=by unfold BT;omega
  have hd:(u.getD (j+i) 0+v.getD i 0+c)/1000000000=0\/(u.getD (j+i) 0+v.getD i 0+c)/1000000000=1:=A4;refine A6 B9 (A6 i1 (A6 i1 (A6 (Bh hi) (A6 (EW ⟨A4,by unfold BT at*;omega⟩)<|A6 B9<|A6 B9<|A6 (QR hS.1 A4)<|A6 i1<|A6 i1<|A6 (div_pos hS.1 A4 A4)<|A6 B9<|hn _ ⟨?_,?_,?_,?_,hd,⟨?_,?_⟩,?_⟩ ?_))))
  .simpa using g2
  .rw[Cg,HB A4];exact g3
  .grind
  .intro m hm;rw[Cg];by_cases e:m=j+i
   .grind
   .rw[getD_set_ne e];exact g1 m hm
  .dsimp;omega
  .dsimp;omega
  .dsimp only;have e:(((i:Nat):Int)+1).toNat=i+1:=A4;rw[e,Cg,kG,IZ,HB<|BK _,J9 (by rw[Ih];omega),IZ,IZ,Wp,K3]
   generalize (u.getD (j+i) 0+v.getD i 0+c)%1000000000=r at*
   generalize (u.getD (j+i) 0+v.getD i 0+c)/1000000000=d at*
   generalize u.getD (j+i) 0=X at*
   generalize v.getD i 0=Y at*
   have:BJ i*r+BT*BJ i*d=BJ i*X+BJ i*Y+BJ i*c:=AL;omega
  .dsimp;omega
 .grind
theorem zN{t:Int}(h1:1<=t)(h2:t<1000000000)(hf:f=1000000000/(t+1)):1<=f/\f<=500000000/\(t+1)*f<=1000000000/\1000000000<=2*(t*f):=by
 have hp:(0:Int)<t+1:=A4;have a1:(t+1)*f<=1000000000:=by rw[hf,FB];exact Int.ediv_mul_le _ A4
 have a2:1000000000<(f+1)*(t+1):=by rw[hf];exact Int.lt_ediv_add_one_mul_self _ hp
 have a3:1<=f:=by rw[hf];exact(Int.le_ediv_iff_mul_le hp).2 A4
 have a4:f<=500000000:=by have:2*f<=(t+1)*f:=Mz A4 A4;omega
 refine⟨a3,a4,a1,?_⟩;rw[IA,JD] at a2;have e:(t+1)*f=t*f+f:=AL;have e2:f*(t+1)=t*f+f:=AL;rw[e] at a1;rw[e2] at a2;have hP:t<=t*f:=by have:t*1<=t*f:=Eu a3 A4;omega
 rcases(show t=1\/1000000000<=2*t\/(2<=t/\2*t<=999999998) by omega) with h|h|⟨h,h'⟩
 .subst h;omega
 .omega
 .rcases(show 1000000000<=2*(t*f)\/2*(t*f)<=999999999 by omega) with h3|h3
  .exact h3
  .exfalso;have b1:t*(1000000000-t)<=t*(t*f+f):=Eu A4 A4;have b2:t*(2*(t*f))<=t*999999999:=Eu h3 A4;have b3:0<(t-1)*(999999999-2*t):=Int.mul_pos A4 A4;rw[Tq] at b1;rw[DU] at b1;rw[GI] at b2;rw[ZD,JD,Tq,GI t 2 t] at b3
   generalize t*t=T at*
   generalize t*(t*f)=Q at*
   generalize t*f=P at*
   omega
theorem aoI(hb:Fv b)(hbl:b.length=k+2)(hf:f=1000000000/(b.getD (k+1) 0+1))(hv:Fv v)(hvv:AK v=AK b*f):v.length=k+2/\BT<=2*v.getD (k+1) 0/\BJ (k+1)*f<=AK v/\1<=f/\f<=500000000:=by
 have hP:=NT<|k+1
 have hb0:b≠[]:=AL;have l1:=TX hb.1 hb0 hb.2;rw[hbl,show k+2-1=k+1 by omega] at l1;have l2:=V4 (l:=b) (n:=k+1) A4;rw[D5 A4] at l2;let⟨l3,l4⟩:=Ey<|MF hb.1<|k+1
 rw[E1,EU A4] at l4;have ht:=HR hb.1<|k+1
 generalize b.getD (k+1) 0=t at*
 have h1:1<=t:=AL;let⟨f1,f2,f3,f4⟩:=zN h1 (by unfold BT at ht;omega) hf;have u1:(AK b+1)*f<=(BJ (k+1)*(t+1))*f:=Mz (by rw[DU,Ln];omega) A4;rw[IA,JD,FG] at u1;have u2:BJ (k+1)*((t+1)*f)<=BJ (k+1)*BT:=Eu (by unfold BT;omega) A4;have u3:(BJ (k+1)*t)*f<=AK b*f:=Mz A4 A4;rw[FG] at u3;have u4:BJ (k+1)*1<=BJ (k+1)*(t*f):=Eu A4 A4;have u5:BJ (k+1)*f<=BJ (k+1)*(t*f):=Eu (by have:1*f<=t*f:=Mz h1 A4;omega) A4
 rw[<-hvv] at u1 u3;have aqf:v.length<=k+2:=hv.len (by rw[K3,FB];omega);have UX:k+2<=v.length:=by
  rcases Hj v.length (k+2) with h|h
  .have a:=(Ey hv.1).2;have b:=yG (show v.length<=k+1 by omega);omega
  .exact h
 have hlen:v.length=k+2:=A4;refine⟨hlen,?_,A4,f1,f2⟩;have m2:=V4 (l:=v) (n:=k+1) A4;rw[D5 A4] at m2;let⟨m3,m4⟩:=Ey<|MF hv.1<|k+1
 rw[E1,EU A4] at m4;have m5:BJ (k+1)*(t*f)<BJ (k+1)*(v.getD (k+1) 0+1):=AL;have m6:=iV m5<|ET hP
 unfold BT;omega
theorem am4{x:A3 Int}{L:Nat}{K:A3 Int->AA ρ}(hx:Cc x)(hl:x.length<=L+1)(hL:L<109951162)(h:∀u,Cc u->u.length=L+1->AK u=AK x->Yd R (K u)):Yd R (lp 18446744073709551616 (λ(O2:(A3 Int)->AA ρ) (EE:(A3 Int))=>bd (AH<|(L:Int)+(1:Int)) λDN=>cond (decide<|(EE.length:Int)<DN) (bd (BG 8 EE ([(0:Int)]:A3 Int)) λDx=>O2 Dx) (K EE)) x):=by
 refine EO (λs:A3 Int=>Cc s/\s.length<=L+1/\AK s=AK x) (λs=>L+1-s.length) ?_ _ _ ⟨hx,hl,rfl⟩ A4;rintro next s ⟨h1,h2,h3⟩ hn
 refine A6 B9<|Ac (λhc=>?_)<|λhc=>?_
 .have hc:=Ar hc;refine A6 (bJ A4) (hn _ ⟨?_,by rw[E7,JG];omega,?_⟩ (by rw[E7,JG];omega))
  .rw[eP];exact⟨h1,λy hy=>by rw[Cn] at hy;subst hy;unfold BT;omega⟩
  .rw[RT];simp[AK,h3]
 .grind
def aav(h:∀m,0<=l.getD m 0/\l.getD m 0<BT):Cc l:=λx hx=>by obtain⟨i,hi,rfl⟩:=List.getElem_of_mem hx;have:=h i;rwa [JH,Gf hi] at this
def vk:∀{l:A3 Int},(∀m,l.getD m 0=0)->AK l=0
 |[],_=>rfl
 |x::l,h=>by
  have h0:x=0:=by simpa using h 0
  have:=vk (l:=l) λm=>by simpa using h (m+1)
  rw[Mk,h0,this];omega
def top_lt{A V:Int}{L:Nat}(hu:Cc u)(hul:u.length=L+1)(hm:m+(k+2)=L+1)(hv:AK u=A*f)(hA:A<BJ L)(hf:1<=f)(hV:BJ (k+1)*f<=V):AK (u.drop m)<V:=by
 have h1:=Ra u m A4;let⟨b0,b1⟩:=Ey<|MF hu m
 have hP:=NT m;have e:BJ L=BJ m*BJ (k+1):=by rw[<-gI];congr 1;omega
 have h2:(A+1)*f<=BJ L*f:=Mz A4 A4;rw[IA,JD,e,FG] at h2;have h3:BJ m*(BJ (k+1)*f)<=BJ m*V:=Eu hV A4;have h4:BJ m*AK (u.drop m)<BJ m*V:=A4;exact iV h4 A4
end
end Trn
