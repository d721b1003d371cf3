/- Part of SolidMeasures. -/
import Derived.Test.YtmjkpiakobnkgaaGreatDoorHa
set_option maxRecDepth 100000
set_option maxHeartbeats 20000000
set_option linter.all false
open Go Go.RowKit Go.Proofs Go.Proofs.Tryz
namespace Trn
section
variable{t x:Rat}{α:Type}{y:Rat}
abbrev Q3:=Rat×Rat×Rat
abbrev H3:=Q3×Rat
def AI(v w:Q3):Rat:=v.1*w.1+v.2.1*w.2.1+v.2.2*w.2.2
def Af(v w:Q3):Q3:=(v.1-w.1,v.2.1-w.2.1,v.2.2-w.2.2)
def AY(v w:Q3):Q3:=(v.2.1*w.2.2-v.2.2*w.2.1,v.2.2*w.1-v.1*w.2.2,v.1*w.2.1-v.2.1*w.1)
def Bn(v w:Q3):Q3:=(v.1+w.1,v.2.1+w.2.1,v.2.2+w.2.2)
def B7(v:Q3)(a:Rat):Q3:=(v.1*a,v.2.1*a,v.2.2*a)
def o3:Q3:=(0,0,0)
def val(h:H3)(p:Q3):Rat:=AI h.1 p-h.2
def Mem(L:A3 H3)(p:Q3):Prop:=∀h∈L,val h p<=0
def EV(L:A3 H3):Prop:=∀d:Q3,d≠o3->∃h∈L,0<AI h.1 d
def Bi(L:A3 H3)(p:Q3):Prop:=Mem L p/\∀d:Q3,(∀h∈L,val h p=0->AI h.1 d=0)->d=o3
def K5{v w:Q3}(h1:v.1=w.1)(h2:v.2.1=w.2.1)(h3:v.2.2=w.2.2):v=w:=by let⟨a,b,c⟩:=v;let⟨d,e,f⟩:=w;simp only at h1 h2 h3;rw[h1,h2,h3]
theorem No(n p d:Q3):AI n (Bn p d)=AI n p+AI n d:=by unfold AI Bn;grind
theorem Wf(n p d:Q3):AI n (Af p d)=AI n p-AI n d:=by unfold AI Af;grind
theorem Ff(n d:Q3)(a:Rat):AI n (B7 d a)=a*AI n d:=by unfold AI B7;grind
theorem Nf(n d:Q3):AI n d=AI d n:=by unfold AI;grind
theorem LL(n d:Q3)(a:Rat):AI (B7 d a) n=a*AI d n:=by unfold AI B7;grind
theorem Uo(n:Q3):AI n o3=0:=by unfold AI o3;grind
theorem Oa(h:H3)(p d:Q3)(r:Rat):val h (Bn p<|B7 d r)=val h p+r*AI h.1 d:=by unfold val;rw[No,Ff];grind
theorem ba(x:Rat):0<=x*x:=by
 rcases iB (a:=0) (b:=x) with h|h
 .exact DX h h
 .have:=DX (a:= -x) (b:= -x) AK AK;grind
def qA(h:x*x<=0):x=0:=by rcases Ha.1 (Rat.le_antisymm h<|ba x) with h|h<;>exact h
theorem yW{d:Q3}(h:AI d d<=0):d=o3:=by unfold AI at h;have h1:=ba d.1;have h2:=ba d.2.1;have h3:=ba d.2.2;exact K5 (qA AK) (qA AK)<|qA AK
theorem MK{d:Q3}(h:d≠o3):0<AI d d:=by
 by_cases h1:0<AI d d
 .exact h1
 .exact absurd (yW AK) h
def least{α:Type}(P:α->Prop)(f:α->Rat):∀L:A3 α,(∃h∈L,P h)->∃h∈L,P h/\∀k∈L,P k->f h<=f k
 |[],⟨h,m,_⟩=>by cases m
 |x::L,hx=>by
  by_cases hL:∃h∈L,P h
  .let⟨h,m,ph,hm⟩:=least P f L hL;by_cases px:P x
   .rcases iB (a:=f x) (b:=f h) with c|c
    .refine⟨x,Cz,px,λk mk pk=>?_⟩;rcases Am.1 mk with e|mk
     .rw[e];exact G5
     .exact ZT c<|hm k mk pk
    .refine⟨h,Br _ m,ph,λk mk pk=>?_⟩;rcases Am.1 mk with e|mk
     .rw[e];exact c
     .exact hm k mk pk
   .refine⟨h,Br _ m,ph,λk mk pk=>?_⟩;rcases Am.1 mk with e|mk
    .rw[e] at pk;exact absurd pk px
    .exact hm k mk pk
  .let⟨h,m,ph⟩:=hx;rcases Am.1 m with e|m
   .subst e;refine⟨h,Cz,ph,λk mk pk=>?_⟩;rcases Am.1 mk with e|mk
    .rw[e];exact G5
    .exact absurd ⟨k,mk,pk⟩ hL
   .exact absurd ⟨h,m,ph⟩ hL
def filter_lt{α:Type}{p q:α->Bool}:∀{L:A3 α} {x:α},(∀y∈L,q y=true->p y=true)->x∈L->p x=true->q x=false->(L.filter q).length<(L.filter p).length
 |y::L,x,h,m,hp,hq=>by
  have hle:∀M:A3 α,(∀y∈M,q y=true->p y=true)->(M.filter q).length<=(M.filter p).length:=by
   intro M
   induction M with
   |nil=>intro _;exact BQ _
   |cons z M ih=>
    intro hM;have:=ih λy my=>hM y<|Br _ my
    have hz:=hM z Cz;rw[Za,Za];cases hqz:q z
    .cases p z<;>simp<;>omega
    .rw[hz hqz];simp;omega
  rw[Za,Za];rcases Am.1 m with e|m
  .subst e;rw[hp,hq];have:=hle L λy my=>h y<|Br _ my
   simp;omega
  .have:=filter_lt (λy my=>h y<|Br _ my) m hp hq;have hy:=h y Cz;cases hqz:q y
   .cases p y<;>simp<;>omega
   .rw[hy hqz];simp;omega
theorem anT{L:A3 H3}(hb:EV L){p:Q3}(hp:Mem L p)(c:Q3){d:Q3}(hd:d≠o3)(hc:0<=AI c d)(ht:∀h∈L,val h p=0->AI h.1 d=0):∃q,Mem L q/\AI c p<=AI c q/\(∀h∈L,val h p=0->val h q=0)/\∃h∈L,val h p≠0/\val h q=0:=by
 let⟨h,mh,ph,hm⟩:=least (λh:H3=>0<AI h.1 d) (λh=> -val h p/AI h.1 d) L<|hb d hd
 have hv:=hp h mh;have hr:0<= -val h p/AI h.1 d:=by rw[OT];exact DX AK<|Fu<|Qi.2 ph
 have key:∀k:H3,0<AI k.1 d-> -val k p/AI k.1 d*AI k.1 d= -val k p:=λk hk=>Nu AK
 generalize hR: -val h p/AI h.1 d=r at*
 refine⟨Bn p<|B7 d r,λk mk=>?_,?_,λk mk hk=>?_,h,mh,λe=>?_,?_⟩
 .rw[Oa];have hk:=hp k mk;by_cases g:0<AI k.1 d
  .have h1:=hm k mk g;have h2:=key k g;have h3:=Zu h1<|Fu g
   grind
  .have:=DX hr (show 0<= -AI k.1 d by grind)
   grind
 .rw[No,Ff];have:=DX hr hc
  grind
 .rw[Oa,ht k mk hk,hk];grind
 .have:=ht h mh e
  grind
 .rw[Oa];have:=key h ph;rw[hR] at this
  grind
theorem apC{L:A3 H3}(hb:EV L)(c:Q3):∀(n:Nat) (p:Q3),(L.filter λh=> !decide (val h p=0)).length<=n->Mem L p->∃v,Bi L v/\AI c p<=AI c v/\∀h∈L,val h p=0->val h v=0:=by
 intro n
 induction n with
 |zero=>
  intro p hn hp;refine⟨p,⟨hp,λd hd=>?_⟩,G5,λ_ _ h=>h⟩;have h0:(L.filter λh=> !decide (val h p=0))=[]:=LU A4;by_cases hz:d=o3
  .exact hz
  .let⟨h,mh,hh⟩:=hb d hz;have:val h p=0:=by
    by_cases e:val h p=0
    .exact e
    .have:h∈(L.filter λh=> !decide (val h p=0)):=IC.2 ⟨mh,by simp[e]⟩;rw[h0] at this;cases this
   have:=hd h mh this
   grind
 |succ n ih=>
  intro p hn hp;by_cases hv:Bi L p
  .exact⟨p,hv,G5,λ_ _ h=>h⟩
  .have:∃d:Q3,(∀h∈L,val h p=0->AI h.1 d=0)/\d≠o3:=by
    refine Ck λhn=>hv ⟨hp,λd hd=>?_⟩
    exact Ck λhz=>hn ⟨d,hd,hz⟩
   let⟨d,ht,hz⟩:=this;have go:∀d:Q3,(∀h∈L,val h p=0->AI h.1 d=0)->d≠o3->0<=AI c d->∃v,Bi L v/\AI c p<=AI c v/\∀h∈L,val h p=0->val h v=0:=by
    intro d ht hz hc;let⟨q,q1,q2,q3,h,mh,q4,q5⟩:=anT hb hp c hz hc ht;have:=filter_lt (L:=L) (p:=λh=> !decide (val h p=0)) (q:=λh=> !decide (val h q=0)) (x:=h) (λy my hy=>by simp at hy⊢;exact λe=>hy<|q3 y my e) mh (by simp[q4]) (by simp[q5])
    let⟨v,v1,v2,v3⟩:=ih q A4 q1;exact⟨v,v1,ZT q2 v2,λh m e=>v3 h m<|q3 h m e⟩
   rcases iB (a:=0) (b:=AI c d) with hc|hc
   .exact go d ht hz hc
   .have hs:∀n:Q3,AI n (B7 d<| -1)= -AI n d:=λn=>by rw[Ff];grind
    refine go (B7 d<| -1) (λh m e=>by rw[hs,ht h m e];grind) (λe=>hz ?_) (by rw[hs];grind);have e1:=congrArg Prod.fst e;have e2:=congrArg (λx=>x.2.1) e;have e3:=congrArg (λx=>x.2.2) e;simp only[B7,o3] at e1 e2 e3;exact K5 (by simp only[o3];grind) (by simp only[o3];grind) (by simp only[o3];grind)
def Pm{L:A3 H3}(hb:EV L){p:Q3}(hp:Mem L p)(c:Q3):∃v,Bi L v/\AI c p<=AI c v/\∀h∈L,val h p=0->val h v=0:=apC hb c _ p (BQ _) hp
def Bp(n a b c:Q3):Rat:=AI n<|AY (Af b a)<|Af c a
def Dk(a b:Q3)(t:Rat):Q3:=Bn a<|B7 (Af b a) t
theorem FQ{v w:Q3}(h:v.1=w.1/\v.2.1=w.2.1/\v.2.2=w.2.2:=by simp only[Dk,Bn,Af,B7,AY,o3];grind):v=w:=K5 h.1 h.2.1 h.2.2
theorem ZH(n a b c:Q3):Bp n a b c=Bp n b c a:=by unfold Bp AI AY Af;grind
theorem gi(n a b:Q3):Bp n a a b=0:=by unfold Bp AI AY Af;grind
theorem gh(n a b:Q3):Bp n a b a=0:=by unfold Bp AI AY Af;grind
theorem OR(n a b:Q3):Bp n b a a=0:=by unfold Bp AI AY Af;grind
theorem gG(n p q a b:Q3)(t:Rat):Bp n p q (Dk a b t)=(1-t)*Bp n p q a+t*Bp n p q b:=by unfold Bp Dk AI AY Af Bn B7;grind
theorem akc(n p r a b:Q3)(t:Rat):Bp n p (Dk a b t) r=(1-t)*Bp n p a r+t*Bp n p b r:=by unfold Bp Dk AI AY Af Bn B7;grind
theorem akd(n q r a b:Q3)(t:Rat):Bp n (Dk a b t) q r=(1-t)*Bp n a q r+t*Bp n b q r:=by unfold Bp Dk AI AY Af Bn B7;grind
theorem Fs(h:H3)(a b:Q3)(t:Rat):val h (Dk a b t)=(1-t)*val h a+t*val h b:=by unfold val Dk AI Af Bn B7;grind
theorem kD(h0:0<=t)(h1:t<=1)(hx:0<=x)(hy:0<=y):0<=(1-t)*x+t*y:=by
 have a:=DX (show 0<=1-t by grind) hx;have b:=DX h0 hy
 grind
def Wk(n:Q3)(l:A3 Q3):Prop:=∀a b c,[a,b,c].Sublist l->0<=Bp n a b c
def FT(n:Q3)(l:A3 Q3):Prop:=∀a b c,[a,b,c].Sublist l->0<Bp n a b c
def Wk.sub{n:Q3}{l m:A3 Q3}(h:Wk n l)(s:m.Sublist l):Wk n m:=λa b c k=>h a b c<|k.trans s
def FT.sub{n:Q3}{l m:A3 Q3}(h:FT n l)(s:m.Sublist l):FT n m:=λa b c k=>h a b c<|k.trans s
def FT.wk{n:Q3}{l:A3 Q3}(h:FT n l):Wk n l:=λa b c k=>Fu<|h a b c k
def T8{x:α}{l:A3 α}(h:x∈l):[x].Sublist l:=List.singleton_sublist.2 h
def aoS{n:Q3}{A B:A3 Q3}{a b:Q3}(h0:0<=t)(h1:t<=1)(h:Wk n (A++a::b::B)):Wk n (A++a::Dk a b t::b::B):=by
 intro p q r s;have e:A++a::Dk a b t::b::B=(A++[a])++(Dk a b t::b::B):=AT;have e':A++a::b::B=(A++[a])++(b::B):=AT;rw[e'] at h;rw[e] at s;let⟨s1,s2,es,k1,k2⟩:=Zq.1 s;have inA:∀x∈A++[a],x=a\/[x,a].Sublist (A++[a]):=λx hx=>by
  rcases CJ.1 hx with g|g
  .exact .inr<|(T8 g).append<|Zf [a]
  .exact .inl<|Cv.1 g
 have inB:∀x∈b::B,x=b\/[b,x].Sublist (b::B):=λx hx=>by
  rcases Am.1 hx with g|g
  .exact .inl g
  .exact .inr<|(T8 g).cons_cons b
 have ma:[a].Sublist (A++[a]):=T8 AT;have mb:[b].Sublist (b::B):=T8 AT;cases k2 with
 |cons _ k2=>exact h p q r (by rw[es];exact k1.append k2)
 |cons_cons _ k2=>
  rename_i s3
  match s1,es with
  |[],es=>simp at es;obtain⟨rfl,rfl⟩:=es;have hq:q∈b::B:=k2.subset AT;rw[akd];refine kD h0 h1 (h _ _ _<|ma.append k2) ?_;cases k2 with|cons _ k2=>exact h _ _ _<|(k2.cons_cons b).trans<|iq _ _|cons_cons _ k2=>rw[gi];exact G5
  |[x],es=>
   simp at es;obtain⟨rfl,rfl,rfl⟩:=es;have hp:p∈A++[a]:=k1.subset AT;have hr:r∈b::B:=k2.subset AT;rw[akc];refine kD h0 h1 ?_ ?_
   .rcases inA p hp with g|g
    .rw[g,gi];exact G5
    .exact h _ _ _<|g.append k2
   .rcases inB r hr with g|g
    .rw[g,OR];exact G5
    .exact h _ _ _<|k1.append g
  |[x,y],es=>
   simp at es;obtain⟨rfl,rfl,rfl,rfl⟩:=es;have hq:q∈A++[a]:=k1.subset AT;rw[gG];refine kD h0 h1 ?_<|h _ _ _<|k1.append mb
   let⟨t1,t2,et,j1,j2⟩:=Zq.1 k1
   match t1,et with
   |[],et=>simp at et;subst et;have:=j2.length_le;simp at this
   |[x],et=>
    simp at et;obtain⟨rfl,rfl⟩:=et;have:q=a:=by simpa using j2
    rw[this,OR];exact G5
   |[x,y],et=>simp at et;obtain⟨rfl,rfl,rfl⟩:=et;exact h _ _ _<|(j1.append<|Zf [a]).trans AT
   |x::y::z::w,et=>simp at et
  |x::y::z::w,es=>simp at es
def aoT{n:Q3}{A:A3 Q3}{a f:Q3}(h0:0<=t)(h1:t<=1)(hf:(A++[a]).head?=some f)(h:Wk n (A++[a])):Wk n (A++[a,Dk a f t]):=by
 intro p q r s;have e:A++[a,Dk a f t]=(A++[a])++[Dk a f t]:=AT;rw[e] at s;let⟨s1,s2,es,k1,k2⟩:=Zq.1 s;cases k2 with
 |cons _ k2=>
  have:s2=[]:=by simpa using k2
  subst this;rw[K9] at es;exact h p q r (by rw[es];exact k1)
 |cons_cons _ k2=>
  rename_i s3;have:s3=[]:=by simpa using k2
  subst this
  match s1,es with
  |[],es=>simp at es|[x],es=>simp at es
  |[x,y],es=>
   simp at es;obtain⟨rfl,rfl,rfl⟩:=es;rw[gG];refine kD h0 h1 ?_ ?_
   .let⟨t1,t2,et,j1,j2⟩:=Zq.1 k1
    match t1,et with
    |[],et=>simp at et;subst et;have:=j2.length_le;simp at this
    |[x],et=>
     simp at et;obtain⟨rfl,rfl⟩:=et;have:q=a:=by simpa using j2
     rw[this,OR];exact G5
    |[x,y],et=>simp at et;obtain⟨rfl,rfl,rfl⟩:=et;exact h _ _ _<|j1.append<|Zf [a]
    |x::y::z::w,et=>simp at et
   .rw[ZH,ZH]
    match hA:A++[a],hf with
    |x::M,hf=>
     have:x=f:=by simpa using hf
     subst this;rw[hA] at k1 h;cases k1 with|cons _ k1=>exact h _ _ _<|k1.cons_cons x|cons_cons _ k1=>rw[gi];exact G5
  |x::y::z::w,es=>simp at es
theorem Pu{a b:Q3}(h:Af b a=o3):a=b:=by have e1:=congrArg Prod.fst h;have e2:=congrArg (λx=>x.2.1) h;have e3:=congrArg (λx=>x.2.2) h;simp[Af,o3] at e1 e2 e3;exact K5 AK AK AK
def X0{d:Q3}(h1:d.1=0)(h2:d.2.1=0)(h3:d.2.2=0):d=o3:=K5 h1 h2 h3
theorem par{u w:Q3}(hu:u≠o3)(h:AY u w=o3):w=B7 u (AI u w/AI u u):=by
 have hp:=MK hu;have e1:=congrArg Prod.fst h;have e2:=congrArg (λx=>x.2.1) h;have e3:=congrArg (λx=>x.2.2) h;simp[AY,o3] at e1 e2 e3;have key:AI u w/AI u u*AI u u=AI u w:=Nu AK
 generalize AI u w/AI u u=s at key⊢
 have z:∀x:Rat,AI u u*x=0->x=0:=λx hx=>by
  rcases Ha.1 hx with g|g
  .grind
  .exact g
 have g1:w.1-u.1*s=0:=z _ (by unfold AI at*;grind);have g2:w.2.1-u.2.1*s=0:=z _ (by unfold AI at*;grind);have g3:w.2.2-u.2.2*s=0:=z _ (by unfold AI at*;grind);exact FQ
def UY{u:Q3}:AY u u=o3:=FQ
theorem o7(u w:Q3):AI u (AY u w)=0:=by unfold AI AY;grind
theorem Ye(u w:Q3):AI w (AY u w)=0:=by unfold AI AY;grind
def along{u w d:Q3}(h:AY u w≠o3)(h1:AI u d=0)(h2:AI w d=0):∃s,d=B7 (AY u w) s:=by refine⟨_,par h ?_⟩;unfold AI at h1 h2;exact FQ
theorem flat{n x y:Q3}(hn:n≠o3)(hx:AI n x=0)(hy:AI n y=0)(h:AI n (AY x y)=0):AY x y=o3:=by
 have hp:=MK hn;have e:AI (AY x y) (AY x y)*AI n n=AI n (AY x y)*AI n (AY x y)+AI (AY (AY x y) n) (AY (AY x y) n):=by unfold AI AY;grind
 have e2:AY (AY x y) n=o3:=by
  have:AY (AY x y) n=Af (B7 y<|AI n x) (B7 x<|AI n y):=by unfold AY Af B7 AI;refine K5 ?_ ?_ ?_<;>dsimp<;>grind
  rw[this,hx,hy];unfold Af B7 o3;refine K5 ?_ ?_ ?_<;>dsimp<;>grind
 rw[h,e2,Uo] at e;refine yW ?_;rcases Ha.1 (show AI (AY x y) (AY x y)*AI n n=0 by grind) with g|g<;>grind
theorem aBf{L:A3 H3}{p:Q3}(hm:Mem L p){f g h:H3}(mf:f∈L)(mg:g∈L)(mh:h∈L)(tf:val f p=0)(tg:val g p=0)(th:val h p=0)(hd:AI h.1 (AY f.1 g.1)≠0):Bi L p:=by
 refine⟨hm,λd hd'=>?_⟩;have hc:AY f.1 g.1≠o3:=λe=>hd (by rw[e,Uo])
 obtain⟨s,rfl⟩:=along hc (hd' f mf tf)<|hd' g mg tg
 have:=hd' h mh th;rw[Ff] at this;rcases Ha.1 this with e|e
 .rw[e];exact FQ
 .grind
theorem val_sub(h:H3)(a b:Q3):AI h.1 (Af b a)=val h b-val h a:=by unfold val;rw[Wf];grind
theorem gP{L:A3 H3}{v a b:Q3}(hv:Bi L v)(ha:Mem L a)(hb:Mem L b)(h0:0<t)(h1:t<1)(e:v=Dk a b t):a=b:=by
 refine Pu<|hv.2 _ λh mh th=>?_
 rw[e,Fs] at th;have x:=DX (show 0<=1-t by grind) (show 0<= -val h a by have:=ha h mh;grind);have y:=DX (show 0<=t by grind) (show 0<= -val h b by have:=hb h mh;grind);have x0:(1-t)*val h a=0:=AK;have y0:t*val h b=0:=AK;rw[val_sub];rcases Ha.1 x0 with g|g
 .grind
 .grind
theorem Yq{L:A3 H3}{a b c:Q3}(ha:Bi L a)(hb:Bi L b)(hc:Bi L c)(J1:a≠b)(hac:a≠c)(hbc:b≠c):AY (Af b a) (Af c a)≠o3:=by
 intro h;have hz:Af b a≠o3:=λe=>J1<|Pu e
 have e:=par hz h
 generalize AI (Af b a) (Af c a)/AI (Af b a) (Af b a)=s at e
 have e1:=congrArg Prod.fst e;have e2:=congrArg (λx=>x.2.1) e;have e3:=congrArg (λx=>x.2.2) e;simp[Af,B7] at e1 e2 e3;have hs0:s≠0:=λg=>hac (by subst g;exact K5 AK AK AK)
 have hs1:s≠1:=λg=>hbc (by subst g;exact K5 AK AK AK)
 by_cases h1:1<s
 ·
  have i1:=Zi s hs0;have i2:0<s⁻¹ :=Qi.2 AK;have i3:s⁻¹ <1:=by have:=Ft i2 (show 0<s-1 by grind);grind
  refine hac<|gP hb ha.1 hc.1 i2 i3 ?_
  exact FQ
 .by_cases h2:0<s
  .refine J1 (gP hc ha.1 hb.1 h2 AK ?_);exact FQ
  ·
   have hs:0<1-s:=AK;have i1:=Zi (1-s) AK;have i2:0<(1-s)⁻¹ :=Qi.2 hs;have i3:(1-s)⁻¹ <1:=by have:=Ft i2 (show 0< -s by grind);grind
   refine hbc<|gP ha hb.1 hc.1 (t:=(1-s)⁻¹) i2 i3 ?_
   exact FQ
theorem pU{L:A3 H3}{f:H3}(hf:f.1≠o3){a b c:Q3}(ha:Bi L a)(hb:Bi L b)(hc:Bi L c)(ta:val f a=0)(tb:val f b=0)(tc:val f c=0)(J1:a≠b)(hac:a≠c)(hbc:b≠c):Bp f.1 a b c≠0:=λe=>Yq ha hb hc J1 hac hbc (flat hf (by rw[val_sub,ta,tb];grind) (by rw[val_sub,ta,tc];grind) e)
theorem room{L:A3 H3}{q w:Q3}:Mem L q->(∀h∈L,val h q=0->AI h.1 w<=0)->∃e:Rat,0<e/\∀t,0<=t->t<=e->Mem L (Bn q<|B7 w t):=by
 induction L with
 |nil=>exact λ_ _=>⟨1,L9,λ_ _ _ h m=>by cases m⟩
 |cons h L ih=>
  intro hq ht;let⟨e,e0,he⟩:=ih (λk m=>hq k<|Br _ m)<|λk m=>ht k<|Br _ m
  have hv:=hq h Cz;by_cases g:0<AI h.1 w
  .have hne:val h q≠0:=λz=>by have:=ht h Cz z;grind
   have hr:0< -val h q/AI h.1 w:=by rw[OT];exact Ft AK<|Qi.2 g
   have hc: -val h q/AI h.1 w*AI h.1 w= -val h q:=Nu AK
   generalize -val h q/AI h.1 w=r at*
   have one:∀t,0<=t->t<=r->val h (Bn q<|B7 w t)<=0:=λt t0 t1=>by
    rw[Oa];have:=Zu t1<|Fu g
    grind
   rcases iB (a:=e) (b:=r) with c|c
   .refine⟨e,e0,λt t0 t1 k m=>?_⟩;rcases Am.1 m with z|m
    .grind
    .exact he t t0 t1 k m
   .refine⟨r,hr,λt t0 t1 k m=>?_⟩;rcases Am.1 m with z|m
    .grind
    .exact he t t0 (ZT t1 c) k m
  .refine⟨e,e0,λt t0 t1 k m=>?_⟩;rcases Am.1 m with z|m
   .rw[z,Oa];have:=DX t0 (show 0<= -AI h.1 w by grind)
    grind
   .exact he t t0 t1 k m
theorem Ve(n:Q3):∃d:Q3,d≠o3/\AI n d=0:=by
 by_cases h:n.1=0
 .exact⟨(1,0,0),λe=>by have:=congrArg Prod.fst e;simp only[o3] at this;grind,by unfold AI;grind⟩
 .exact⟨(-n.2.1,n.1,0),λe=>h (by have:=congrArg (λx=>x.2.1) e;simp[o3] at this;exact this),by unfold AI;grind⟩
theorem Vm(u w:Q3):AY w u=B7 (AY u w) (-1):=by unfold AY B7;refine K5 ?_ ?_ ?_<;>dsimp<;>grind
theorem two{N:A3 Q3}(h:∀u∈N,∀w∈N,AY u w=o3)(m:Q3):∃d:Q3,d≠o3/\(∀u∈N,AI u d=0)/\AI m d=0:=by
 by_cases hz:∀u∈N,u=o3
 .let⟨d,d0,d1⟩:=Ve m;exact⟨d,d0,λu mu=>by rw[hz u mu,Nf,Uo],d1⟩
 .let⟨n,hn⟩:=Classical.not_forall.1 hz;let⟨mn,n0⟩:=Classical.not_imp.1 hn;have acp:∀d,AI n d=0->∀u∈N,AI u d=0:=λd hd u mu=>by rw[par n0<|h n mn u mu,LL,hd];grind
  by_cases hc:AY n m=o3
  .let⟨d,d0,d1⟩:=Ve n;exact⟨d,d0,acp d d1,by rw[par n0 hc,LL,d1];grind⟩
  .exact⟨_,hc,acp _<|o7 _ _,Ye _ _⟩
theorem avl{L:A3 H3}(hb:EV L){q:Q3}(hq:Mem L q)(hv: ¬Bi L q){f g:H3}(mf:f∈L)(mg:g∈L)(tf:val f q=0)(tg:val g q=0)(hc:AY f.1 g.1≠o3):∃u v t,Bi L u/\Bi L v/\0<t/\t<1/\q=Dk u v t/\(∀h∈L,val h q=0->val h u=0/\val h v=0)/\u≠v:=by
 have:∃d:Q3,(∀h∈L,val h q=0->AI h.1 d=0)/\d≠o3:=by
  refine Ck λhn=>hv ⟨hq,λd hd=>?_⟩
  exact Ck λhz=>hn ⟨d,hd,hz⟩
 let⟨d,ht,hz⟩:=this;let⟨v,v1,v2,v3⟩:=Pm hb hq d;let⟨u,u1,u2,u3⟩:=Pm hb hq<|B7 d<| -1
 rw[LL,LL] at u2;let⟨s0,e0⟩:=along hc (ht f mf tf)<|ht g mg tg
 let⟨s1,e1⟩:=along hc (d:=Af u q) (by rw[val_sub,u3 f mf tf,tf];grind) (by rw[val_sub,u3 g mg tg,tg];grind);let⟨s2,e2⟩:=along hc (d:=Af v q) (by rw[val_sub,v3 f mf tf,tf];grind) (by rw[val_sub,v3 g mg tg,tg];grind)
 generalize AY f.1 g.1=e at*
 have he:=MK hc;have nz:∀{x:Q3} {s:Rat},Bi L x->Af x q=B7 e s->s≠0:=λ{x s} hx h z=>by
  rw[z] at h;have:q=x:=Pu<|h.trans<|FQ
  exact hv<|this▸hx
 have n1:=nz u1 e1;have n2:=nz v1 e2;have n0:s0≠0:=λz=>hz (by rw[e0,z];exact(FQ))
 have p2:0<=AI d (Af v q):=by rw[Wf];grind
 have p1:AI d (Af u q)<=0:=by rw[Wf];grind
 rw[e0,e2,Ff,LL] at p2;rw[e0,e1,Ff,LL] at p1;have q2:0<=s0*s2:=Ck λc=>by have:=Ft (show 0< -(s0*s2) by grind) he;grind
 have q1:s0*s1<=0:=Ck λc=>by have:=Ft (show 0<s0*s1 by grind) he;grind
 have r2:0<s0*s2:=by
  have:s0*s2≠0:=λc=>by rcases Ha.1 c with g|g<;>contradiction
  grind
 have r1:s0*s1<0:=by
  have:s0*s1≠0:=λc=>by rcases Ha.1 c with g|g<;>contradiction
  grind
 have r3:s0*(s1-s2)<0:=AK;have n3:s1-s2≠0:=λc=>by rw[c] at r3;grind
 have c1:s1/(s1-s2)*(s1-s2)=s1:=Nu n3
 generalize s1/(s1-s2)=t at c1
 have c2:s0*(t*(s1-s2))=s0*s1:=by rw[c1]
 have t0:0<t:=Ck λc=>by
  have:=DX (show 0<= -t by grind) (show 0<= -(s0*(s1-s2)) by grind)
  grind
 have t1:t<1:=Ck λc=>by
  have:=DX (show 0<=t-1 by grind) (show 0<= -(s0*(s1-s2)) by grind)
  grind
 have k1:=congrArg Prod.fst e1;have k2:=congrArg (λx=>x.2.1) e1;have k3:=congrArg (λx=>x.2.2) e1;have l1:=congrArg Prod.fst e2;have l2:=congrArg (λx=>x.2.1) e2;have l3:=congrArg (λx=>x.2.2) e2;simp[Af,B7] at k1 k2 k3 l1 l2 l3;refine⟨u,v,t,u1,v1,t0,t1,?_,λh mh th=>⟨u3 h mh th,v3 h mh th⟩,λc=>n3 ?_⟩
 .exact FQ
 .grind
def I8(f:Q3):A3 Q3->A3 (Q3×Q3)
 |[]=>[]|[a]=>[(a,f)]|a::b::l=>(a,b)::I8 f (b::l)
def E7:A3 Q3->A3 (Q3×Q3)
 |[]=>[]|a::l=>I8 a (a::l)
def Gl(x y:Rat):Bool:=(decide (x<0)&&decide (0<y))||(decide (0<x)&&decide (y<0))
def Fy(h:H3)(a b:Q3):Q3:=Dk a b<|val h a/(val h a-val h b)
def M3(h:H3)(s:Q3×Q3):A3 Q3:=(bif decide (val h s.1<=0) then [s.1] else [])++(bif Gl (val h s.1) (val h s.2) then [Fy h s.1 s.2] else [])
def Fh(h:H3)(l:A3 Q3):A3 Q3:=(E7 l).flatMap<|M3 h
def jw(h:H3)(s:Q3×Q3):A3 Q3:=s.1::(bif Gl (val h s.1) (val h s.2) then [Fy h s.1 s.2] else [])
def Kc:Gl x y=true↔(x<0/\0<y)\/(0<x/\y<0):=by unfold Gl;simp
theorem Pw(h:Gl x y=true):0<x/(x-y)/\x/(x-y)<1/\(1-x/(x-y))*x+x/(x-y)*y=0:=by
 have h:=Kc.1 h;have hn:x-y≠0:=AK;have e:x/(x-y)*(x-y)=x:=Nu hn
 generalize x/(x-y)=t at e
 have t0:0<t:=Ck λc=>by
  rcases h with⟨a,b⟩|⟨a,b⟩
  .have:=DX (show 0<= -t by grind) (show 0<=y-x by grind);grind
  .have:=DX (show 0<= -t by grind) (show 0<=x-y by grind);grind
 have t1:t<1:=Ck λc=>by
  rcases h with⟨a,b⟩|⟨a,b⟩
  .have:=DX (show 0<=t-1 by grind) (show 0<=y-x by grind);grind
  .have:=DX (show 0<=t-1 by grind) (show 0<=x-y by grind);grind
 exact⟨t0,t1,AK⟩
def Z9{h:H3}{a b:Q3}(ho:Gl (val h a) (val h b)=true):val h (Fy h a b)=0:=by unfold Fy;rw[Fs];exact(Pw ho).2.2
def aaq{n:Q3}{h:H3}{f:Q3}:∀(l A:A3 Q3),l≠[]->(A++l).head?=some f->Wk n (A++l)->Wk n (A++(I8 f l).flatMap (jw h))
 |[],_,h0,_,_=>absurd rfl h0
 |[a],A,_,hf,hw=>by
  unfold I8;rw[OX,List.flatMap_nil,K9];unfold jw;cases ho:Gl (val h a) (val h f) with
  |false=>rw[B8];exact hw
  |true=>have t:=Pw ho;rw[BX];exact aoT (Fu t.1) (Fu t.2.1) hf hw
 |a::b::l,A,_,hf,hw=>by
  unfold I8;rw[OX,<-ID];refine aaq (b::l) _ AT ?_ ?_
  .cases A with|nil=>exact hf|cons x A=>exact hf
  .unfold jw;cases ho:Gl (val h a) (val h b) with
   |false=>rw[B8];simpa using hw
   |true=>have t:=Pw ho;rw[BX];have:=aoS (Fu t.1) (Fu t.2.1) hw;simpa[Fy] using this
def zq{α β:Type}{f g:α->A3 β}:∀{l:A3 α},(∀x∈l,(f x).Sublist<|g x)->(l.flatMap f).Sublist (l.flatMap g)
 |[],_=>Zf _
 |x::l,h=>by rw[OX,OX];exact(h x Cz).append<|zq λy m=>h y<|Br _ m
theorem aoJ{n:Q3}{h:H3}{l:A3 Q3}(hw:Wk n l):Wk n (Fh h l):=by
 cases l with
 |nil=>exact hw
 |cons a l=>
  have:=aaq (h:=h) (a::l) [] AT rfl hw;refine Wk.sub this<|zq λs _=>?_
  unfold M3 jw;cases decide (val h s.1<=0)
  .grind
  .grind
theorem wP{f:Q3}{s:Q3×Q3}:∀{l A:A3 Q3},(A++l).head?=some f->s∈I8 f l->(∃B C,A++l=B++s.1::s.2::C)\/(∃B,A++l=B++[s.1]/\s.2=f)
 |[],A,_,h=>by cases h
 |[a],A,_,h=>by
  have:s=(a,f):=by simpa[I8] using h
  subst this;exact .inr ⟨A,rfl,rfl⟩
 |a::b::l,A,hf,h=>by
  unfold I8 at h;rcases Am.1 h with e|h
  .grind
  .have:=wP (l:=b::l) (A:=A++[a]) (by simpa using hf) h;simpa using this
def nZ{f a b:Q3}{C:A3 Q3}:∀{B:A3 Q3},(a,b)∈I8 f (B++a::b::C)
 |[]=>by simp[I8]|[x]=>by simp[I8]
 |x::y::B=>by have:=nZ (f:=f) (a:=a) (b:=b) (C:=C) (B:=y::B);show(a,b)∈(x,y)::I8 f (y::(B++a::b::C));exact Br _ this
def vk{f a:Q3}:∀{B:A3 Q3},(a,f)∈I8 f (B++[a])
 |[]=>by simp[I8]|[x]=>by simp[I8]
 |x::y::B=>by have:=vk (f:=f) (a:=a) (B:=y::B);show(a,f)∈(x,y)::I8 f (y::(B++[a]));exact Br _ this
def wQ{f:Q3}:∀l:A3 Q3,(I8 f l).map Prod.fst=l
 |[]=>rfl|[a]=>rfl|a::b::l=>by unfold I8;rw[MW,wQ (b::l)]
def Vp(l:A3 Q3):(E7 l).map Prod.fst=l:=by cases l with|nil=>rfl|cons a l=>exact wQ _
theorem FT.ne{n:Q3}{l:A3 Q3}(h:FT n l){a b c:Q3}(s:[a,b,c].Sublist l):a≠b/\a≠c/\b≠c:=by
 have:=h a b c s;refine⟨λe=>?_,λe=>?_,λe=>?_⟩
 .rw[e,gi] at this;grind
 .rw[e,gh] at this;grind
 .rw[e,OR] at this;grind
def FT.nodup{n:Q3}{l:A3 Q3}(h:FT n l)(h3:3<=l.length):l.Nodup:=by
 refine List.pairwise_iff_forall_sublist.2 λ{a b} s e=>?_
 subst e;obtain⟨c,hc⟩:∃c,[c,a,a].Sublist l\/[a,c,a].Sublist l\/[a,a,c].Sublist l:=by
  clear h
  induction l with
  |nil=>cases s
  |cons x l ih=>
   cases s with
   |cons _ s=>exact⟨x,.inl<|s.cons_cons x⟩
   |cons_cons _ s=>
    match l,h3,s with
    |y::z::l,_,s=>cases s with|cons _ s=>exact⟨y,.inr<| .inl<|(s.cons_cons y).cons_cons a⟩|cons_cons _ s=>exact⟨z,.inr<| .inr<|((T8 AT).cons_cons a).cons_cons a⟩
 rcases hc with s|s|s
 .exact(h.ne s).2.2 rfl
 .exact(h.ne s).2.1 rfl
 .exact(h.ne s).1 rfl
theorem zF(n a b c:Q3):Bp n b a c= -Bp n a b c:=by unfold Bp AI AY Af;grind
theorem MN{n:Q3}{l:A3 Q3}(hl:FT n l)(h3:3<=l.length){s:Q3×Q3}(hs:s∈E7 l):s.1∈l/\s.2∈l/\s.1≠s.2/\∀c∈l,c≠s.1->c≠s.2->0<Bp n s.1 s.2 c:=by
 have hn:=hl.nodup h3;let⟨a,b⟩:=s
 match l,h3,hs with
 |f::l,h3,hs=>
  rcases wP (A:=[]) F6 hs with⟨B,C,e⟩|⟨B,e,e2⟩
  .rw[Ie] at e;rw[e] at hn hl⊢;refine⟨AT,AT,?_,λc hc h1 h2=>?_⟩
   .grind
   .rcases CJ.1 hc with m|m
    .rw[<-ZH];exact hl _ _ _<|(T8 m).append<|((Qn C).cons_cons b).cons_cons a
    .have m:c∈C:=by simpa[h1,h2] using m
     exact hl _ _ _<|((T8 m).cons_cons b|>.cons_cons a).trans<|iq _ _
  .rw[Ie] at e;dsimp only at e e2;subst e2
   match B,e with
   |[],e=>rw[e] at h3;simp at h3
   |x::B,e=>
    have:b=x:=AK;subst this;rw[e] at hn hl⊢;refine⟨AT,AT,?_,λc hc h1 h2=>?_⟩
    .grind
    .have m:c∈B:=by simpa[h1,h2] using hc
     rw[ZH];exact hl _ _ _<|((T8 m).append<|Zf [a]).cons_cons b
theorem ac4{l:A3 Q3}(hn:l.Nodup)(h3:3<=l.length)(a b:Q3):∃c∈l,c≠a/\c≠b:=by
 match l,h3,hn with
 |x::y::z::l,_,hn=>
  simp at hn;by_cases h1:x≠a/\x≠b
  .exact⟨x,AT,h1⟩
  .by_cases h2:y≠a/\y≠b
   .exact⟨y,AT,h2⟩
   .refine⟨z,AT,λe=>?_,λe=>?_⟩<;>subst e<;>grind
theorem oJ{n:Q3}{l:A3 Q3}(hl:FT n l)(h3:3<=l.length){a b:Q3}(h1:(a,b)∈E7 l)(h2:(b,a)∈E7 l):False:=by
 let⟨c,mc,ca,cb⟩:=ac4 (hl.nodup h3) h3 a b;have p:=(MN hl h3 h1).2.2.2 c mc ca cb;have q:=(MN hl h3 h2).2.2.2 c mc cb ca;dsimp only at p q;rw[zF] at q
 grind
theorem ahd{n:Q3}{l:A3 Q3}(hl:FT n l)(h3:3<=l.length){s r:Q3×Q3}(hs:s∈E7 l)(hr:r∈E7 l)(hne:s.1≠r.1){u:Rat}(t0:0<=t)(t1:t<1)(u0:0<=u)(u1:u<1):Dk s.1 s.2 t≠Dk r.1 r.2 u:=by
 intro e;let⟨a,b⟩:=s;let⟨c,d⟩:=r;let⟨s1,s2,s3,s4⟩:=MN hl h3 hs;let⟨r1,r2,r3,r4⟩:=MN hl h3 hr;dsimp only at*;have z:Bp n a b (Dk a b t)=0:=by rw[gG,gh,OR];grind
 rw[e,gG] at z;have dn:0<=Bp n a b d:=by
  by_cases h1:d=a
  .rw[h1,gh];exact G5
  .by_cases h2:d=b
   .rw[h2,OR];exact G5
   .grind
 by_cases hcb:c=b
 .subst hcb;rw[OR] at z;have hda:d≠a:=λg=>oJ hl h3 hs<|g▸hr
  have dp:=s4 d r2 hda<|Ne.symm r3
  have:u=0:=AK;subst this;refine s3 ?_;have e1:=congrArg Prod.fst e;have e2:=congrArg (λx=>x.2.1) e;have e3:=congrArg (λx=>x.2.2) e;simp[Dk,Bn,B7,Af] at e1 e2 e3;have q1:(1-t)*(a.1-c.1)=0:=AK;have q2:(1-t)*(a.2.1-c.2.1)=0:=AK;have q3:(1-t)*(a.2.2-c.2.2)=0:=AK;have z:∀x:Rat,(1-t)*x=0->x=0:=λx h=>by
   rcases Ha.1 h with g|g
   .grind
   .exact g
  have:=z _ q1;have:=z _ q2;have:=z _ q3;exact K5 AK AK AK
 .have cp:=s4 c r1 (Ne.symm hne) hcb;have:=Ft (show 0<1-u by grind) cp;have:=DX u0 dn
  grind
def ar0(a b:Q3):Dk a b 0=a:=FQ
theorem yk{h:H3}{s:Q3×Q3}{x:Q3}(hx:x∈M3 h s):(x=s.1/\val h x<=0)\/(Gl (val h s.1) (val h s.2)=true/\x=Fy h s.1 s.2):=by
 unfold M3 at hx;rcases CJ.1 hx with m|m
 .grind
 .grind
theorem aiB{n:Q3}{h:H3}{l:A3 Q3}(hl:FT n l)(h3:3<=l.length):(Fh h l).Nodup:=by
 unfold Fh List.Nodup;have half:∀s x,x∈M3 h s->∃t:Rat,0<=t/\t<1/\x=Dk s.1 s.2 t:=λs x hx=>by
  rcases yk hx with⟨e,_⟩|⟨ho,e⟩
  .exact⟨0,G5,L9,by rw[ar0];exact e⟩
  .have t:=Pw ho;exact⟨_,Fu t.1,t.2.1,e⟩
 have hp:((E7 l).map Prod.fst).Nodup:=by rw[Vp];exact hl.nodup h3
 have hp:=M0.1 hp;refine ij.2 ⟨λs hs=>?_,?_⟩
 .unfold M3;cases decide (val h s.1<=0)
  .cases Gl (val h s.1) (val h s.2)<;>simp
  .cases ho:Gl (val h s.1) (val h s.2)
   .simp
   .have t0:=(Pw ho).1;have hne:=(MN hl h3 hs).2.2.1;simp[BX,Se,Ie,Hb,Cv,forall_eq,Ze,List.Pairwise.nil,and_true,false_implies,implies_true];intro e;refine hne<|Pu ?_
    unfold Fy at e
    generalize val h s.1/(val h s.1-val h s.2)=t at e t0
    have e1:=congrArg Prod.fst e;have e2:=congrArg (λx=>x.2.1) e;have e3:=congrArg (λx=>x.2.2) e;simp[Dk,Bn,B7,Af] at e1 e2 e3;have z:∀x:Rat,x*t=0->x=0:=λx h=>by
     rcases Ha.1 h with g|g
     .exact g
     .grind
    exact X0 (z _ (by simp[Af];grind)) (z _ (by simp[Af];grind)) (z _ (by simp[Af];grind))
 .refine Sg ?_ hp;intro s r hs hr hne x hx y hy e;let⟨t,t0,t1,ex⟩:=half s x hx;let⟨u,u0,u1,ey⟩:=half r y hy;exact ahd hl h3 hs hr hne t0 t1 u0 u1 (by rw[<-ex,<-ey,e])
theorem adj{n:Q3}{l:A3 Q3}(hl:FT n l){u v:Q3}(hu:u∈l)(hv:v∈l)(hne:u≠v)(h:∀x∈l,∀y∈l,Bp n u v x<0->0<Bp n u v y->False):(u,v)∈E7 l\/(v,u)∈E7 l:=by
 have key:∀{u v:Q3} {A D:A3 Q3},l=A++u::D->v∈D->(∀x∈l,∀y∈l,Bp n u v x<0->0<Bp n u v y->False)->(u,v)∈E7 l\/(v,u)∈E7 l:=by
  intro u v A D e hD h;obtain⟨B,C,rfl⟩:=qY hD;cases B with
  |nil=>
   left;rw[e]
   match A with|[]=>exact nZ (B:=[])|x::A=>exact nZ (B:=x::A)
  |cons x B=>
   have hx:Bp n u v x<0:=by
    have:=hl u x v (by
     rw[e];refine((List.Sublist.cons_cons u ?_)).trans<|iq _ _
     exact((Qn B).append (Qn C|>.cons_cons v)).cons_cons x)
    have e2:Bp n u v x= -Bp n u x v:=by unfold Bp AI AY Af;grind
    rw[e2];grind
   have mx:x∈l:=by rw[e];simp
   match A,C with
   |[],[]=>right;rw[e];exact vk (B:=u::x::B)
   |y::A,_=>refine(h x mx y (by rw[e];simp) hx ?_).elim;rw[<-ZH];refine hl y u v ?_;rw[e];exact List.Sublist.cons_cons y<|(List.Sublist.cons_cons u<|(Qn (x::B)).append (Qn _|>.cons_cons v)).trans<|iq _ _
   |[],y::C=>refine(h x mx y (by rw[e];simp) hx ?_).elim;refine hl u v y ?_;rw[e];exact List.Sublist.cons_cons u<|(Qn (x::B)).append<|(Qn C|>.cons_cons y).cons_cons v
 let⟨A,D,e⟩:=qY hu;have JT:v∈A++u::D:=e▸hv;rcases CJ.1 JT with m|m
 .obtain⟨A1,A2,rfl⟩:=qY m;refine(key (u:=v) (v:=u) (A:=A1) (D:=A2++u::D) (by rw[e];simp) AT λx mx y my h1 h2=>?_).symm;rw[zF] at h1 h2;exact h y my x mx AK AK
 .grind
abbrev Bq:=H3×A3 Q3
def RO(h k:H3):Prop:=∃s:Rat,0<s/\k=(B7 h.1 s,h.2*s)
structure CF(S:A3 Bq)(M:A3 H3):Prop where
 bdd:EV M
 int:∃o,∀h∈M,val h o<0
 nz:∀h∈M,h.1≠o3
 norm:∀h∈M,∀k∈M,RO h k->h=k
 DT:∀f∈S,f.1∈M/\FT f.1.1 f.2/\3<=f.2.length/\∀p,p∈f.2↔Bi M p/\val f.1 p=0
 P0:S.Pairwise λf g=>f.1≠g.1
 cover:∀p,Mem M p->(∃h∈M,val h p=0)->∃f∈S,val f.1 p=0
theorem abJ{h:H3}{p:Q3}(e:val h p=0):h.2=AI h.1 p:=by unfold val at e;grind
theorem rB{M:A3 H3}{o:Q3}(hi:∀h∈M,val h o<0)(hz:∀h∈M,h.1≠o3)(hn:∀h∈M,∀k∈M,RO h k->h=k){h k:H3}(mh:h∈M)(mk:k∈M)(hc:AY h.1 k.1=o3){p:Q3}(th:val h p=0)(tk:val k p=0):h=k:=by
 have e:=par (hz h mh) hc
 generalize AI h.1 k.1/AI h.1 h.1=s at e
 have e2:k.2=h.2*s:=by rw[abJ tk,abJ th,e,LL];grind
 refine hn h mh k mk ⟨s,?_,Prod.ext e e2⟩;have a:=hi h mh;have b:=hi k mk;have c:val k o=s*val h o:=by unfold val;rw[e2,e,LL];grind
 refine Ck λg=>?_
 have:=DX (show 0<= -s by grind) (show 0<= -val h o by grind)
 grind
def indep{f g k:Q3}(hf:f≠o3)(h:AY g k≠o3):AY f g≠o3\/AY f k≠o3:=by
 by_cases h1:AY f g=o3
 .by_cases h2:AY f k=o3
  .refine absurd ?_ h;rw[par hf h1,par hf h2];exact FQ
  .exact .inr h2
 .exact .inl h1
theorem pz{f k:Q3}(hf:f≠o3)(h:AY f k=o3){w:Q3}(hw:AI f w=0):AI k w=0:=by rw[par hf h,LL,hw];grind
theorem oI{L:A3 H3}(hb:EV L){f:H3}(mf:f∈L)(hf:f.1≠o3){l:A3 Q3}(hl:FT f.1 l)(h3:3<=l.length)(hv:∀p,p∈l↔Bi L p/\val f p=0){s:Q3×Q3}(hs:s∈E7 l):∃g∈L,val g s.1=0/\val g s.2=0/\AY f.1 g.1≠o3:=by
 let⟨u,v⟩:=s;let⟨mu,mv,hne,ju⟩:=MN hl h3 hs;dsimp only at*;let⟨vu,tu⟩:=(hv u).1 mu;let⟨vv,tv⟩:=(hv v).1 mv;refine Ck λFJ=>?_
 have tight:∀g∈L,val g (Dk u v<|1/2)=0->val g u=0/\val g v=0:=λg mg tg=>by
  rw[Fs] at tg;have:=vu.1 g mg;have:=vv.1 g mg
  grind
 have atT:∀g∈L,val g (Dk u v<|1/2)=0->AY f.1 g.1=o3:=λg mg tg=>by let⟨a,b⟩:=tight g mg tg;exact Ck λc=>FJ ⟨g,mg,a,b,c⟩
 have hw:AI f.1 (AY (Af v u) f.1)=0:=Ye _ _;have hz:AY (Af v u) f.1≠o3:=λe=>by
  have hd:Af v u≠o3:=λe=>hne<|Pu e
  have h0:AI f.1 (Af v u)=0:=by rw[val_sub,tu,tv];grind
  have:=par hd e;rw[Nf] at h0;rw[h0] at this;refine hf (this.trans<|X0 ?_ ?_ ?_)<;>simp[B7]<;>grind
 have hm:Mem L (Dk u v<|1/2):=λg mg=>by
  rw[Fs];have:=vu.1 g mg;have:=vv.1 g mg
  grind
 let⟨e,e0,he⟩:=room hm (w:=AY (Af v u) f.1) λg mg tg=>by rw[pz hf (atT g mg tg) hw];exact G5
 have hq:=he e (Fu e0) G5;let⟨p,p1,p2,p3⟩:=Pm hb hq<|AY (Af v u) f.1
 have tp:=p3 f mf (by rw[Oa,hw,Fs,tu,tv];grind);have mp:=(hv p).2 ⟨p1,tp⟩;have ho:0<=Bp f.1 u v p:=by
  by_cases h1:p=u
  .rw[h1,gh];exact G5
  .by_cases h2:p=v
   .rw[h2,OR];exact G5
   .grind
 have hpos:=Ft e0<|MK hz
 have e1:AI (AY (Af v u) f.1) p-AI (AY (Af v u) f.1) (Dk u v<|1/2)= -Bp f.1 u v p:=by unfold Bp Dk AI AY Af Bn B7;grind
 rw[No,Ff] at p2
 grind
theorem three{L:A3 H3}(hb:EV L){q:Q3}(hq:Mem L q){f:H3}(mf:f∈L)(tf:val f q=0)(hf:f.1≠o3)(ht:∀g∈L,val g q=0->AY f.1 g.1=o3){l:A3 Q3}(hl:∀p,Bi L p->val f p=0->p∈l):3<=l.length:=by
 have key:∀w,w≠o3->AI f.1 w=0->∃p∈l,AI w q<AI w p:=λw w0 hw=>by
  let⟨e,e0,he⟩:=room hq (w:=w) λg mg tg=>by rw[pz hf (ht g mg tg) hw];exact G5
  let⟨p,p1,p2,p3⟩:=Pm hb (he e (Fu e0) G5) w;refine⟨p,hl p p1 (p3 f mf (by rw[Oa,hw,tf];grind)),?_⟩;rw[No,Ff] at p2;have:=Ft e0<|MK w0
  grind
 have neg:∀w:Q3,w≠o3->B7 w (-1)≠o3:=λw h e=>h (by have e1:=congrArg Prod.fst e;have e2:=congrArg (λx=>x.2.1) e;have e3:=congrArg (λx=>x.2.2) e;simp[B7,o3] at e1 e2 e3;exact X0 AK AK AK)
 have both:∀w,w≠o3->AI f.1 w=0->∃p∈l,∃r∈l,AI w p≠AI w r:=λw w0 hw=>by let⟨p,mp,hp⟩:=key w w0 hw;let⟨r,mr,hr⟩:=key (B7 w<| -1) (neg w w0) (by rw[Ff,hw];grind);rw[LL,LL] at hr;exact⟨p,mp,r,mr,AK⟩
 match l,both with
 |[],both=>let⟨d,d0,d1⟩:=Ve f.1;let⟨p,mp,_⟩:=both d d0 d1;cases mp
 |[a],both=>let⟨d,d0,d1⟩:=Ve f.1;let⟨p,mp,r,mr,h⟩:=both d d0 d1;rw[Cv.1 mp,Cv.1 mr] at h;exact absurd rfl h
 |[a,b],both=>
  let⟨d,d0,d1,d2⟩:=two (N:=[f.1]) (λu mu w mw=>by rw[Cv.1 mu,Cv.1 mw];exact UY)<|Af b a
  let⟨p,mp,r,mr,h⟩:=both d d0<|d1 _ AT
  rw[Nf,Wf] at d2;have:∀x∈[a,b],AI d x=AI d a:=λx mx=>by
   rcases Am.1 mx with e|mx
   .rw[e]
   .grind
  rw[this p mp,this r mr] at h;exact absurd rfl h
 |_::_::_::_,_=>simp
def fe{M:A3 H3}{h:H3}{p:Q3}(hp:Bi M p)(hv:val h p<=0):Bi (h::M) p:=⟨λk mk=>(Am.1 mk).elim (λe=>by rw[e];exact hv)<|hp.1 k,λd hd=>hp.2 d λk mk=>hd k<|Br _ mk⟩
theorem aaP{h:H3}{u v:Q3}(hz:val h (Dk u v t)=0)(ho:Gl (val h u) (val h v)=true):Dk u v t=Fy h u v:=by
 have h1:=Kc.1 ho;have hn:val h u-val h v≠0:=AK;have e:val h u/(val h u-val h v)*(val h u-val h v)=val h u:=Nu hn;unfold Fy;rw[Fs] at hz
 congr 1
 generalize val h u/(val h u-val h v)=r at*
 have:(t-r)*(val h u-val h v)=0:=AK;rcases Ha.1 this with g|g
 .grind
 .grind
theorem alE(u v:Q3)(t:Rat):Dk u v t=Dk v u (1-t):=by unfold Dk Bn B7 Af;refine K5 ?_ ?_ ?_<;>dsimp<;>grind
theorem zG(x y:Rat):Gl x y=Gl y x:=by rw[ZX,Kc,Kc];grind
theorem oq{M:A3 H3}(hb:EV M){h:H3}{p:Q3}(hp:Bi (h::M) p):Bi M p\/(val h p=0/\∃u v,Bi M u/\Bi M v/\Gl (val h u) (val h v)=true/\p=Fy h u v/\(∀k∈M,val k p=0->val k u=0/\val k v=0)/\∃f∈M,∃g∈M,val f p=0/\val g p=0/\AY f.1 g.1≠o3):=by
 by_cases hv:Bi M p
 .exact .inl hv
 right;have hm:Mem M p:=λk mk=>hp.1 k<|Br _ mk
 have hz:val h p=0:=Ck λc=>hv ⟨hm,λd hd=>hp.2 d λk mk tk=>by
  rcases Am.1 mk with e|mk
  .grind
  .exact hd k mk tk⟩
 have:∃f∈M,∃g∈M,val f p=0/\val g p=0/\AY f.1 g.1≠o3:=by
  refine Ck λFJ=>?_
  let⟨d,d0,d1,d2⟩:=two (N:=(M.filter λk=>decide<|val k p=0).map Prod.fst) (λu mu w mw=>by obtain⟨f,mf,rfl⟩:=BM.1 mu;obtain⟨g,mg,rfl⟩:=BM.1 mw;let⟨mf,tf⟩:=IC.1 mf;let⟨mg,tg⟩:=IC.1 mg;exact Ck λc=>FJ ⟨f,mf,g,mg,As tf,As tg,c⟩) h.1
  refine d0<|hp.2 d λk mk tk=>?_
  rcases Am.1 mk with e|mk
  .subst e;exact d2
  .grind
 refine⟨hz,?_⟩;let⟨f,mf,g,mg,tf,tg,hc⟩:=this;let⟨u,v,t,vu,vv,t0,t1,e,ht,hne⟩:=avl hb hm hv mf mg tf tg hc;have hz':=hz;rw[e,Fs] at hz';have both:val h u≠0\/val h v≠0:=by
  refine Ck λc=>hne<|Pu<|hp.2 _ λk mk tk=>?_
  rw[val_sub];rcases Am.1 mk with e|mk
  .subst e;grind
  .grind
 have ho:Gl (val h u) (val h v)=true:=by
  rw[Kc];have hu:val h u≠0:=λc=>by rcases Ha.1 (show t*val h v=0 by rw[c] at hz';grind) with g|g<;>grind
  by_cases h1:val h u<0
  .left;refine⟨h1,Ck λc=>?_⟩;have:=DX (show 0<=t by grind) (show 0<= -val h v by grind);have:=Ft (show 0<1-t by grind) (show 0< -val h u by grind)
   grind
  .right;refine⟨AK,Ck λc=>?_⟩;have:=DX (show 0<=t by grind) (show 0<=val h v by grind);have:=Ft (show 0<1-t by grind) (show 0<val h u by grind)
   grind
 exact⟨u,v,vu,vv,ho,by rw[e];exact aaP (by rw[<-e];exact hz) ho,ht,f,mf,g,mg,tf,tg,hc⟩
def aAF{h:H3}{u v:Q3}(ho:Gl (val h u) (val h v)=true):Fy h u v=Fy h v u:=by have:val h (Fy h u v)=0:=Z9 ho;unfold Fy at this⊢;rw[alE] at this⊢;exact aaP this (by rw[zG];exact ho)
theorem WA{M:A3 H3}(hb:EV M){f:H3}(mf:f∈M)(hf:f.1≠o3){l:A3 Q3}(hl:FT f.1 l)(h3:3<=l.length)(hv:∀p,p∈l↔Bi M p/\val f p=0)(h:H3)(p:Q3):p∈Fh h l↔Bi (h::M) p/\val f p=0:=by
 unfold Fh;rw[Mf];constructor
 .rintro⟨s,hs,hx⟩;let⟨a1,a2,a3,a4⟩:=MN hl h3 hs;rcases yk hx with⟨e,hle⟩|⟨ho,e⟩
  .let⟨b1,b2⟩:=(hv s.1).1 a1;rw[e] at hle⊢;exact⟨fe b1 hle,b2⟩
  .let⟨g,mg,g1,g2,hc⟩:=oI hb mf hf hl h3 hv hs;let⟨b1,b2⟩:=(hv s.1).1 a1;let⟨c1,c2⟩:=(hv s.2).1 a2;have t:=Pw ho;have hz:=Z9 ho;have lin:∀k:H3,val k p=(1-val h s.1/(val h s.1-val h s.2))*val k s.1+val h s.1/(val h s.1-val h s.2)*val k s.2:=λk=>by rw[e];exact Fs _ _ _ _
   rw[<-e] at hz
   generalize val h s.1/(val h s.1-val h s.2)=r at*
   have tf:val f p=0:=AK;have tg:val g p=0:=AK;refine⟨aBf (f:=f) (g:=g) (h:=h) (λk mk=>?_) (Br _ mf) (Br _ mg) Cz tf tg hz λhd=>?_,tf⟩
   .rcases Am.1 mk with e|mk
    .grind
    .rw[lin];have:=DX (show 0<=1-r by grind) (show 0<= -val k s.1 by have:=b1.1 k mk;grind);have:=DX (show 0<=r by grind) (show 0<= -val k s.2 by have:=c1.1 k mk;grind)
     grind
   .let⟨x,hx⟩:=along hc (d:=Af s.2 s.1) (by rw[val_sub,b2,c2];grind) (by rw[val_sub,g1,g2];grind);have:=val_sub h s.1 s.2;rw[hx,Ff,hd] at this;have:=Kc.1 ho
    grind
 .rintro⟨hp,tf⟩;rcases oq hb hp with h1|⟨hz,u,v,vu,vv,ho,e,ht,g,mg,k,mk,tg,tk,hc⟩
  .have hm:=(hv p).2 ⟨h1,tf⟩;rw[<-Vp l] at hm;let⟨s,hs,e⟩:=BM.1 hm;refine⟨s,hs,?_⟩;unfold M3;rw[e,B9<|hp.1 h Cz];simp
  .obtain⟨g,mg,tg,hc⟩:∃g∈M,val g p=0/\AY f.1 g.1≠o3:=by
    rcases indep hf hc with x|x
    .grind
    .grind
   let⟨fu,fv⟩:=ht f mf tf;let⟨gu,gv⟩:=ht g mg tg;have mu:=(hv u).2 ⟨vu,fu⟩;have mv:=(hv v).2 ⟨vv,fv⟩;have hne:u≠v:=λc=>by rw[c] at ho;have:=Kc.1 ho;grind
   let⟨x,hx⟩:=along hc (d:=Af v u) (by rw[val_sub,fu,fv];grind) (by rw[val_sub,gu,gv];grind);have Jt:∀y,val f y=0->Bp f.1 u v y= -(x*AI f.1 f.1*val g y):=λy ty=>by
    have h1:=val_sub f u y;have h2:=val_sub g u y;rw[fu,ty] at h1;rw[gu] at h2;unfold Bp;rw[hx];have e1:AI f.1 (AY (B7 (AY f.1 g.1) x)<|Af y u)=x*(AI f.1 g.1*AI f.1 (Af y u)-AI f.1 f.1*AI g.1 (Af y u)):=by unfold AI AY B7;grind
    rw[e1,h1,h2];grind
   rcases adj hl mu mv hne (λy my z mz h1 h2=>by
    let⟨vy,ty⟩:=(hv y).1 my;let⟨vz,tz⟩:=(hv z).1 mz;rw[Jt y ty] at h1;rw[Jt z tz] at h2;have a:=vy.1 g mg;have b:=vz.1 g mg;by_cases c:0<=x*AI f.1 f.1
    .have:=DX c (show 0<= -val g y by grind)
     grind
    .have:=DX (show 0<= -(x*AI f.1 f.1) by grind) (show 0<= -val g z by grind)
     grind) with hs|hs
   .refine⟨_,hs,?_⟩;unfold M3;rw[ho,e];simp
   .refine⟨_,hs,?_⟩;unfold M3;rw[zG,ho,e,aAF ho];simp
theorem apv{L:A3 H3}{f:H3}(hf:f.1≠o3){l:A3 Q3}(hw:Wk f.1 l)(hn:l.Nodup)(hv:∀p∈l,Bi L p/\val f p=0):FT f.1 l:=λa b c s=>by
 have h0:=hw a b c s;have hd:=List.Pairwise.sublist s hn;simp at hd;have ma:=hv a<|s.subset AT
 have mb:=hv b<|s.subset AT
 have mc:=hv c<|s.subset AT
 have:=pU hf ma.1 mb.1 mc.1 ma.2 mb.2 mc.2 hd.1.1 hd.1.2 hd.2
 grind
theorem ZA:((1,0,0):Q3)≠o3:=by grind [o3]
def fG{M:A3 H3}{v:Q3}(hv:Bi M v){h:Q3}(hz:h≠o3):∃k∈M,val k v=0/\AY h k.1≠o3:=by
 refine Ck λFJ=>?_
 let⟨d,d0,d1⟩:=Ve h;refine d0<|hv.2 d λk mk tk=>pz hz ?_ d1
 exact Ck λc=>FJ ⟨k,mk,tk,c⟩
def yY{S:A3 Bq}{M:A3 H3}(I:CF S M){v:Q3}(hv:Bi M v):∃f∈S,v∈f.2:=by let⟨k,mk,tk,_⟩:=fG hv ZA;let⟨f,mf,tf⟩:=I.cover v hv.1 ⟨k,mk,tk⟩;exact⟨f,mf,((I.DT f mf).2.2.2 v).2 ⟨hv,tf⟩⟩
theorem anC{S:A3 Bq}{M:A3 H3}(I:CF S M){h:H3}(hn:∀f∈S,∀p∈f.2,0<=val h p){q:Q3}(hq:Mem M q):0<=val h q:=by
 let⟨v,v1,v2,_⟩:=Pm I.bdd hq<|B7 h.1<| -1
 let⟨f,mf,mv⟩:=yY I v1;have:=hn f mf v mv;rw[LL,LL] at v2;unfold val at*;grind
theorem zM{S:A3 Bq}{M:A3 H3}(I:CF S M){h:H3}(hn:∀f∈S,∀p∈f.2,val h p<=0){q:Q3}(hq:Mem M q):val h q<=0:=by let⟨v,v1,v2,_⟩:=Pm I.bdd hq h.1;let⟨f,mf,mv⟩:=yY I v1;have:=hn f mf v mv;unfold val at*;grind
theorem yH{M:A3 H3}{h:H3}(hz:h.1≠o3)(ho:∀q,Mem M q->val h q<=0){p:Q3}(hp:Mem M p)(tp:val h p=0):∃k∈M,val k p=0:=by
 refine Ck λFJ=>?_
 let⟨e,e0,he⟩:=room hp (w:=h.1) λk mk tk=>absurd ⟨k,mk,tk⟩ FJ
 have h1:=ho _<|he e (Fu e0) G5
 have:=Ft e0<|MK hz
 rw[Oa,tp] at h1
 grind
theorem aBe{M:A3 H3}(hb:EV M){h:H3}(ho:∀q,Mem M q->val h q<=0)(p:Q3):Bi (h::M) p↔Bi M p:=by
 constructor
 .intro hp;rcases oq hb hp with h1|⟨_,u,v,vu,vv,atU,_⟩
  .exact h1
  .have:=ho u vu.1;have:=ho v vv.1;have:=Kc.1 atU
   grind
 .exact λhp=>fe hp<|ho p hp.1
theorem CF.out{S:A3 Bq}{M:A3 H3}(I:CF S M){h:H3}(hz:h.1≠o3)(hn:∀a∈h::M,∀b∈h::M,RO a b->a=b)(ho:∀f∈S,∀p∈f.2,val h p<=0):CF S (h::M):=by
 have hall:∀q,Mem M q->val h q<=0:=λq=>zM I ho
 have IN:∀q,Mem (h::M) q->Mem M q:=λq hq k mk=>hq k<|Br _ mk
 obtain⟨o,hi⟩:=I.int;refine⟨λd hd=>?_,⟨o,λk mk=>?_⟩,λk mk=>?_,hn,λf mf=>?_,I.P0,λp hp ht=>?_⟩
 .obtain⟨k,mk,hk⟩:=I.bdd d hd;exact⟨k,Br _ mk,hk⟩
 .rcases Am.1 mk with e|mk
  .subst e;have h1:=hall o λk mk=>Fu<|hi k mk
   refine Ck λc=>?_
   obtain⟨k',mk',tk'⟩:=yH hz hall (p:=o) (λk mk=>Fu<|hi k mk) AK;have:=hi k' mk'
   grind
  .exact hi k mk
 .rcases Am.1 mk with e|mk
  .subst e;exact hz
  .exact I.nz k mk
 .obtain⟨f1,f2,f3,f4⟩:=I.DT f mf;exact⟨Br _ f1,f2,f3,λp=>by rw[aBe I.bdd hall];exact f4 p⟩
 .obtain⟨k,mk,tk⟩:=ht;rcases Am.1 mk with e|mk
  .subst e;exact I.cover p (IN p hp)<|yH hz hall (IN p hp) tk
  .exact I.cover p (IN p hp) ⟨k,mk,tk⟩
theorem toward{a b:Rat}(ha:a<0):∃t:Rat,0<t/\t<1/\(1-t)*a+t*b<0:=by
 by_cases hb:b<=0
 .exact⟨1/2,AK,AK,AK⟩
 .have hn:b-a≠0:=AK;have e: -a/(b-a)*(b-a)= -a:=Nu hn;have hp:0< -a/(b-a):=by rw[OT];exact Ft AK<|Qi.2 AK
  generalize -a/(b-a)=r at*
  have h1:r<1:=Ck λc=>by
   have:=DX (show 0<=r-1 by grind) (show 0<=b-a by grind)
   grind
  exact⟨r*(1/2),AK,AK,AK⟩
theorem sj{M:A3 H3}{o p:Q3}(hi:∀k∈M,val k o<0)(hp:Mem M p){h:H3}(ha:val h p<0):∃q,(∀k∈M,val k q<0)/\val h q<0:=by
 let⟨t,t0,t1,ht⟩:=toward (b:=val h o) ha;refine⟨Dk p o t,λk mk=>?_,by rw[Fs];exact ht⟩;rw[Fs];have a:=DX (show 0<=1-t by grind) (show 0<= -val k p by have:=hp k mk;grind);have b:=Ft t0 (show 0< -val k o by have:=hi k mk;grind)
 grind
theorem yf(h:H3)(p:Q3):val (B7 h.1<| -1,-h.2) p= -val h p:=by unfold val;rw[LL];grind
theorem aqw{M:A3 H3}{o p:Q3}(hi:∀k∈M,val k o<0)(hp:Mem M p){h:H3}(ha:0<val h p):∃q,(∀k∈M,val k q<0)/\0<val h q:=by let⟨q,q1,q2⟩:=sj hi hp (h:=(B7 h.1<| -1,-h.2)) (by rw[yf];grind);rw[yf] at q2;exact⟨q,q1,AK⟩
theorem abq{S:A3 Bq}{M:A3 H3}(I:CF S M){f:Bq}(mf:f∈S):∃z,Mem M z/\val f.1 z=0/\∀g∈M,val g z=0->AY f.1.1 g.1=o3:=by
 let⟨f1,f2,f3,f4⟩:=I.DT f mf
 match hl:f.2,f3 with
 |a::b::c::l,_=>
  have ho:=f2 a b c (by rw[hl];exact((Qn l).cons_cons c|>.cons_cons b).cons_cons a);let⟨va,ta⟩:=(f4 a).1 (by rw[hl];simp);let⟨vb,tb⟩:=(f4 b).1 (by rw[hl];simp);let⟨vc,tc⟩:=(f4 c).1 (by rw[hl];simp);refine⟨Dk (Dk a b<|1/2) c<|1/3,λk mk=>?_,?_,λg mg tg=>?_⟩
  .rw[Fs,Fs];have:=va.1 k mk;have:=vb.1 k mk;have:=vc.1 k mk
   grind
  .rw[Fs,Fs,ta,tb,tc];grind
  .rw[Fs,Fs] at tg;have:=va.1 g mg;have:=vb.1 g mg;have:=vc.1 g mg;have ga:val g a=0:=AK;have gb:val g b=0:=AK;have gc:val g c=0:=AK;refine Ck λhc=>?_
   let⟨s,hs⟩:=along hc (d:=Af b a) (by rw[val_sub,ta,tb];grind) (by rw[val_sub,ga,gb];grind);let⟨r,hr⟩:=along hc (d:=Af c a) (by rw[val_sub,ta,tc];grind) (by rw[val_sub,ga,gc];grind);unfold Bp at ho;rw[hs,hr] at ho;have:AI f.1.1 (AY (B7 (AY f.1.1 g.1) s)<|B7 (AY f.1.1 g.1) r)=0:=by unfold AI AY B7;grind
   grind
def O1(h:H3)(S:A3 Bq):A3 Bq:=S.filterMap λf=>bif decide (2<(Fh h f.2).length) then some (f.1,Fh h f.2) else none
def yZ{h:H3}{S:A3 Bq}{g:Bq}(hg:g∈O1 h S):∃f∈S,2<(Fh h f.2).length/\g=(f.1,Fh h f.2):=by let⟨f,mf,e⟩:=List.mem_filterMap.1 hg;cases hd:decide (2<(Fh h f.2).length) with|false=>rw[hd] at e;cases e|true=>rw[hd] at e;exact⟨f,mf,As hd,(Ez e).symm⟩
def alw{h:H3}{S:A3 Bq}{f:Bq}(mf:f∈S)(hl:2<(Fh h f.2).length):(f.1,Fh h f.2)∈O1 h S:=List.mem_filterMap.2 ⟨f,mf,by rw[B9 hl];rfl⟩
def CF.WA{S:A3 Bq}{M:A3 H3}(I:CF S M)(h:H3):∀f∈S,∀p,p∈Fh h f.2↔Bi (h::M) p/\val f.1 p=0:=λf mf p=>by let⟨g1,g2,g3,g4⟩:=I.DT f mf;exact Trn.WA I.bdd g1 (I.nz _ g1) g2 g3 g4 h p
theorem CF.cut{S:A3 Bq}{M:A3 H3}(I:CF S M){h:H3}(hz:h.1≠o3){f0 f1:Bq}{p0 p1:Q3}(m0:f0∈S)(q0:p0∈f0.2)(h0:val h p0<0)(m1:f1∈S)(q1:p1∈f1.2)(h1:0<val h p1):(∃o,(∀k∈M,val k o<0)/\val h o<0)/\(∀p,((∃f∈S,p∈Fh h f.2)/\val h p=0)↔Bi (h::M) p/\val h p=0)/\∀l:A3 Q3,(∀p,Bi (h::M) p->val h p=0->p∈l)->3<=l.length:=by
 obtain⟨o,hi⟩:=I.int;have v0:=(((I.DT f0 m0).2.2.2 p0).1 q0).1;have v1:=(((I.DT f1 m1).2.2.2 p1).1 q1).1;have IN:∀q,Mem (h::M) q->Mem M q:=λq hq k mk=>hq k<|Br _ mk
 have hb:EV (h::M):=λd hd=>by obtain⟨k,mk,hk⟩:=I.bdd d hd;exact⟨k,Br _ mk,hk⟩
 obtain⟨o1,i1,n1⟩:=sj hi v0.1 h0;obtain⟨o2,i2,n2⟩:=aqw hi v1.1 h1;have cm:=I.WA h;refine⟨⟨o1,i1,n1⟩,λp=>?_,λl hl=>?_⟩
 .constructor
  .rintro⟨⟨f,mf,mp⟩,tp⟩;exact⟨((cm f mf p).1 mp).1,tp⟩
  .rintro⟨vp,tp⟩;refine⟨?_,tp⟩;obtain⟨k,mk,tk,hc⟩:=fG vp hz;rcases Am.1 mk with e|mk
   .subst e;exact absurd UY hc
   .obtain⟨f,mf,tf⟩:=I.cover p (IN p vp.1) ⟨k,mk,tk⟩;exact⟨f,mf,(cm f mf p).2 ⟨vp,tf⟩⟩
 .have ho:Gl (val h o1) (val h o2)=true:=Kc.2 (.inl ⟨n1,n2⟩);have t:=Pw ho;have hv:=Z9 ho;have neg:∀k∈M,val k (Fy h o1 o2)<0:=λk mk=>by
   unfold Fy;rw[Fs]
   generalize val h o1/(val h o1-val h o2)=r at t
   have:=Ft (show 0<1-r by grind) (show 0< -val k o1 by have:=i1 k mk;grind);have:=Ft (show 0<r by grind) (show 0< -val k o2 by have:=i2 k mk;grind)
   grind
  refine three hb (q:=Fy h o1 o2) (λk mk=>?_) (f:=h) Cz hv hz (λg mg tg=>?_) hl
  .grind
  .rcases Am.1 mg with e|mg
   .subst e;exact UY
   .grind
theorem CF.clip{S:A3 Bq}{M:A3 H3}(I:CF S M){h:H3}(hz:h.1≠o3)(hn:∀a∈h::M,∀b∈h::M,RO a b->a=b){f0 f1:Bq}{p0 p1:Q3}(m0:f0∈S)(q0:p0∈f0.2)(h0:val h p0<0)(m1:f1∈S)(q1:p1∈f1.2)(h1:0<val h p1)
  {l:A3 Q3}(hl:FT h.1 l)(hm:∀p,p∈l↔(∃f∈S,p∈Fh h f.2)/\val h p=0):CF (O1 h S++[(h,l)]) (h::M):=by
 obtain⟨⟨o1,i1,n1⟩,c1,c2⟩:=I.cut hz m0 q0 h0 m1 q1 h1;have v1:=(((I.DT f1 m1).2.2.2 p1).1 q1).1;have OD:h∉M:=λc=>by have:=v1.1 h c;grind
 have IN:∀q,Mem (h::M) q->Mem M q:=λq hq k mk=>hq k<|Br _ mk
 have hb:EV (h::M):=λd hd=>by obtain⟨k,mk,hk⟩:=I.bdd d hd;exact⟨k,Br _ mk,hk⟩
 have cm:=I.WA h;have lm:∀p,p∈l↔Bi (h::M) p/\val h p=0:=λp=>by rw[hm,c1]
 have l3:3<=l.length:=c2 l λp vp tp=>(lm p).2 ⟨vp,tp⟩
 refine⟨hb,⟨o1,λk mk=>?_⟩,λk mk=>?_,hn,λg mg=>?_,?_,λp hp ht=>?_⟩
 .grind
 .rcases Am.1 mk with e|mk
  .subst e;exact hz
  .exact I.nz k mk
 .rcases CJ.1 mg with mg|mg
  .obtain⟨f,mf,hlen,e⟩:=yZ mg;subst e;obtain⟨g1,g2,g3,g4⟩:=I.DT f mf;exact⟨Br _ g1,apv (I.nz _ g1) (aoJ g2.wk) (aiB g2 g3) λp mp=>(cm f mf p).1 mp,hlen,cm f mf⟩
  .grind
 .refine Hn.2 ⟨?_,UR _ _,λg mg k mk=>?_⟩
  .unfold O1;refine List.pairwise_filterMap.2<|I.P0.imp λ{a b} J1 x ex y ey=>?_
   cases ha:decide (2<(Fh h a.2).length) with
   |false=>rw[ha] at ex;cases ex
   |true=>
    cases hb:decide (2<(Fh h b.2).length) with
    |false=>rw[hb] at ey;cases ey
    |true=>rw[ha] at ex;rw[hb] at ey;rw[<-Ez ex,<-Ez ey];exact J1
  .obtain⟨f,mf,_,e⟩:=yZ mg;rw[e,Cv.1 mk];exact λc=>OD (by have:=(I.DT f mf).1;rwa [show f.1=h from c] at this)
 .by_cases tp:val h p=0
  .exact⟨(h,l),AT,tp⟩
  .obtain⟨k,mk,tk⟩:=ht;rcases Am.1 mk with e|mk
   .grind
   .obtain⟨f,mf,tf⟩:=I.cover p (IN p hp) ⟨k,mk,tk⟩;by_cases hlen:2<(Fh h f.2).length
    .exact⟨_,KB _<|alw mf hlen,tf⟩
    .exfalso;have Io:val h p<0:=by have:=hp h Cz;grind
     obtain⟨z,mz,tz,hc⟩:=abq I mf;obtain⟨t,t0,t1,hq⟩:=toward (b:=val h z) Io;have g1:=(I.DT f mf).1;refine hlen (three hb (q:=Dk p z t) (λk mk=>?_) (f:=f.1) (Br _ g1) (by rw[Fs,tf,tz];grind) (I.nz _ g1) (λg mg tg=>?_) λx vx tx=>(cm f mf x).2 ⟨vx,tx⟩)
     .rw[Fs];rcases Am.1 mk with e|mk
      .subst e;exact Fu hq
      .have:=DX (show 0<=1-t by grind) (show 0<= -val k p by have:=hp k (Br _ mk);grind);have:=DX (show 0<=t by grind) (show 0<= -val k z by have:=mz k mk;grind)
       grind
     .rw[Fs] at tg;rcases Am.1 mg with e|mg
      .subst e;grind
      .refine hc g mg ?_;have a:=DX (show 0<=1-t by grind) (show 0<= -val g p by have:=hp g (Br _ mg);grind);have b:=DX (show 0<=t by grind) (show 0<= -val g z by have:=mz g mg;grind);have c:t*val g z=0:=AK;rcases Ha.1 c with x|x<;>grind
theorem CF.empty{S:A3 Bq}{M:A3 H3}(I:CF S M){h:H3}(hn:∀f∈S,∀p∈f.2,0<=val h p): ¬ ∃o,∀k∈h::M,val k o<0:=λ⟨o,ho⟩=>by
 have:=anC I hn (q:=o) λk mk=>Fu<|ho k<|Br _ mk
 have:=ho h Cz
 grind
theorem ac9{w:Q3}{s:Rat}(h:w≠o3)(hs:s≠0):B7 w s≠o3:=λe=>h (by
 have e1:=congrArg Prod.fst e;have e2:=congrArg (λx=>x.2.1) e;have e3:=congrArg (λx=>x.2.2) e;simp[B7,o3] at e1 e2 e3;have z:∀x:Rat,x*s=0->x=0:=λx hx=>by
  rcases Ha.1 hx with g|g
  .exact g
  .grind
 exact X0 (z _ e1) (z _ e2)<|z _ e3)
def se(s:Rat):B7 o3 s=o3:=FQ
def kH(w:Q3):B7 w 0=o3:=FQ
theorem alx{L:A3 H3}(hp:∃f∈L,∃g∈L,AY f.1 g.1≠o3)(hc:∀f∈L,∀g∈L,AY f.1 g.1≠o3->∃h∈L,0<AI h.1 (AY f.1 g.1)):∀(n:Nat) (d:Q3),(L.filter λh=> !decide (AI h.1 d=0)).length<=n->d≠o3->(∀h∈L,AI h.1 d<=0)->False:=by
 intro n
 induction n with
 |zero=>
  intro d hn hd hle;have h0:(L.filter λh=> !decide (AI h.1 d=0))=[]:=LU A4;have ht:∀h∈L,AI h.1 d=0:=λh mh=>Ck λe=>by have:h∈(L.filter λh=> !decide (AI h.1 d=0)):=IC.2 ⟨mh,by simp[e]⟩;rw[h0] at this;cases this
  let⟨f,mf,g,mg,hfg⟩:=hp;let⟨s,hs⟩:=along hfg (ht f mf)<|ht g mg
  let⟨h,mh,hh⟩:=hc f mf g mg hfg;have:=ht h mh;rw[hs,Ff] at this;rcases Ha.1 this with e|e
  .subst e;exact hd<|hs.trans<|kH _
  .grind
 |succ n ih=>
  intro d hn hd hle;by_cases hA:∃f∈L,∃g∈L,AI f.1 d=0/\AI g.1 d=0/\AY f.1 g.1≠o3
  .let⟨f,mf,g,mg,tf,tg,hfg⟩:=hA;let⟨s,hs⟩:=along hfg tf tg;have hs0:s≠0:=λe=>hd (by rw[hs,e];exact kH _)
   by_cases h0:0<s
   .let⟨h,mh,hh⟩:=hc f mf g mg hfg;have:=hle h mh;rw[hs,Ff] at this;have:=Ft h0 hh
    grind
   .let⟨h,mh,hh⟩:=hc g mg f mf (by rw[Vm];exact ac9 hfg AK);have:=hle h mh;rw[hs,Ff] at this;rw[Vm,Ff] at hh;have:=Ft (show 0< -s by grind) hh
    grind
  .let⟨e,e0,e1,e2⟩:=two (N:=(L.filter λk=>decide<|AI k.1 d=0).map Prod.fst) (λu mu w mw=>by obtain⟨f,mf,rfl⟩:=BM.1 mu;obtain⟨g,mg,rfl⟩:=BM.1 mw;let⟨mf,tf⟩:=IC.1 mf;let⟨mg,tg⟩:=IC.1 mg;exact Ck λc=>hA ⟨f,mf,g,mg,As tf,As tg,c⟩) d
   have go:∀e:Q3,e≠o3->(∀k∈L,AI k.1 d=0->AI k.1 e=0)->AI d e=0->(∃k∈L,0<AI k.1 e)->False:=by
    intro e e0 et ed hk;let⟨h,mh,ph,hm⟩:=least (λh:H3=>0<AI h.1 e) (λh=> -AI h.1 d/AI h.1 e) L hk;have key:∀k:H3,0<AI k.1 e-> -AI k.1 d/AI k.1 e*AI k.1 e= -AI k.1 d:=λk hk=>Nu AK
    have hne:AI h.1 d≠0:=λc=>by have:=et h mh c;grind
    have hr:0<= -AI h.1 d/AI h.1 e:=by rw[OT];exact DX (by have:=hle h mh;grind)<|Fu<|Qi.2 ph
    have kh:=key h ph
    generalize hR: -AI h.1 d/AI h.1 e=r at*
    have:=filter_lt (L:=L) (p:=λh=> !decide (AI h.1 d=0)) (q:=λh=> !decide (AI h.1 (Bn d<|B7 e r)=0)) (x:=h) (λy my hy=>by
     simp at hy⊢;exact λc=>hy (by rw[No,Ff,c,et y my c];grind)) mh (by simp[hne]) (by
     have:AI h.1 (Bn d<|B7 e r)=0:=by rw[No,Ff];grind
     simp[this])
    refine ih (Bn d<|B7 e r) A4 (λc=>?_) λk mk=>?_
    .have h1:AI d (Bn d<|B7 e r)=0:=by rw[c,Uo]
     rw[No,Ff,ed] at h1;have:=MK hd
     grind
    .rw[No,Ff];by_cases g:0<AI k.1 e
     .have h1:=hm k mk g;have h2:=key k g;have h3:=Zu h1<|Fu g
      grind
     .have:=DX hr (show 0<= -AI k.1 e by grind);have:=hle k mk
      grind
   have et:∀k∈L,AI k.1 d=0->AI k.1 e=0:=λk mk tk=>e1 _<|BM.2 ⟨k,IC.2 ⟨mk,B9 tk⟩,rfl⟩
   by_cases hx:∃k∈L,0<AI k.1 e
   .grind
   .by_cases hy:∃k∈L,0<AI k.1 (B7 e<| -1)
    .exact go _ (ac9 e0 AK) (λk mk tk=>by rw[Ff,et k mk tk];grind) (by rw[Ff,e2];grind) hy
    .have hz:∀k∈L,AI k.1 e=0:=λk mk=>by
      have a: ¬0<AI k.1 e:=λc=>hx ⟨k,mk,c⟩
      have b: ¬0<AI k.1 (B7 e<| -1):=λc=>hy ⟨k,mk,c⟩
      rw[Ff] at b
      grind
     let⟨f,mf,g,mg,hfg⟩:=hp;let⟨s,hs⟩:=along hfg (hz f mf)<|hz g mg
     let⟨h,mh,hh⟩:=hc f mf g mg hfg;have:=hz h mh;rw[hs,Ff] at this;rcases Ha.1 this with c|c
     .subst c;exact e0<|hs.trans<|kH _
     .grind
theorem aoL{L:A3 H3}:EV L↔(∃f∈L,∃g∈L,AY f.1 g.1≠o3)/\∀f∈L,∀g∈L,AY f.1 g.1≠o3->∃h∈L,0<AI h.1 (AY f.1 g.1):=by
 constructor
 .refine λhb=>⟨Ck λFJ=>?_,λf mf g mg hfg=>hb _ hfg⟩
  let⟨d,d0,d1,_⟩:=two (N:=L.map Prod.fst) (λu mu w mw=>by obtain⟨f,mf,rfl⟩:=BM.1 mu;obtain⟨g,mg,rfl⟩:=BM.1 mw;exact Ck λc=>FJ ⟨f,mf,g,mg,c⟩) o3
  let⟨h,mh,hh⟩:=hb d d0;have:=d1 _<|BM.2 ⟨h,mh,rfl⟩
  grind
 .rintro⟨hp,hc⟩ d hd;refine Ck λFJ=>alx hp hc _ d (BQ _) hd λh mh=>?_
  exact Ck λc=>FJ ⟨h,mh,AK⟩
def Ct(a b c:Q3):Rat:=AI (AY a b) c
def Il(a b c:H3):Q3:=B7 (Bn (Bn (B7 (AY b.1 c.1) a.2)<|B7 (AY c.1 a.1) b.2)<|B7 (AY a.1 b.1) c.2) (Ct a.1 b.1 c.1)⁻¹
theorem Vi{a b c:H3}(hd:Ct a.1 b.1 c.1≠0):val a (Il a b c)=0/\val b (Il a b c)=0/\val c (Il a b c)=0:=by
 have hi:=Zi _ hd;unfold Il
 generalize (Ct a.1 b.1 c.1)⁻¹ =i at hi
 unfold Ct at hi;refine⟨?_,?_,?_⟩
 .have:val a (B7 (Bn (Bn (B7 (AY b.1 c.1) a.2)<|B7 (AY c.1 a.1) b.2)<|B7 (AY a.1 b.1) c.2) i)=a.2*(AI (AY a.1 b.1) c.1*i)-a.2:=by unfold val AI B7 Bn AY;grind
  rw[this,hi];grind
 .have:val b (B7 (Bn (Bn (B7 (AY b.1 c.1) a.2)<|B7 (AY c.1 a.1) b.2)<|B7 (AY a.1 b.1) c.2) i)=b.2*(AI (AY a.1 b.1) c.1*i)-b.2:=by unfold val AI B7 Bn AY;grind
  rw[this,hi];grind
 .have:val c (B7 (Bn (Bn (B7 (AY b.1 c.1) a.2)<|B7 (AY c.1 a.1) b.2)<|B7 (AY a.1 b.1) c.2) i)=c.2*(AI (AY a.1 b.1) c.1*i)-c.2:=by unfold val AI B7 Bn AY;grind
  rw[this,hi];grind
def Z3{a b c d:Q3}(hd:Ct a b c≠0)(h1:AI a d=0)(h2:AI b d=0)(h3:AI c d=0):d=o3:=by
 have hc:AY a b≠o3:=λe=>hd (by unfold Ct;rw[e,Nf,Uo])
 obtain⟨s,rfl⟩:=along hc h1 h2;rw[Ff] at h3;rcases Ha.1 h3 with e|e
 .subst e;exact kH _
 .exact absurd (by unfold Ct;rw[Nf];exact e) hd
theorem Vu{L:A3 H3}{p:Q3}:Bi L p↔Mem L p/\∃a∈L,∃b∈L,∃c∈L,Ct a.1 b.1 c.1≠0/\p=Il a b c:=by
 constructor
 .intro hv;refine⟨hv.1,?_⟩;let⟨a,ma,ta,ha⟩:=fG hv ZA;have a0:a.1≠o3:=λe=>ha (by rw[e];exact FQ)
  let⟨b,mb,tb,hb⟩:=fG hv a0;have:∃c∈L,val c p=0/\Ct a.1 b.1 c.1≠0:=by
   refine Ck λFJ=>hb<|hv.2 _ λc mc tc=>?_
   refine Ck λhc=>FJ ⟨c,mc,tc,λe=>hc ?_⟩
   rw[Nf];exact e
  let⟨c,mc,tc,hc⟩:=this;refine⟨a,ma,b,mb,c,mc,hc,?_⟩;let⟨t1,t2,t3⟩:=Vi (a:=a) (b:=b) (c:=c) hc;refine Pu<|Z3 hc ?_ ?_ ?_
  .rw[val_sub,ta,t1];grind
  .rw[val_sub,tb,t2];grind
  .rw[val_sub,tc,t3];grind
 .rintro⟨hm,a,ma,b,mb,c,mc,hd,rfl⟩;let⟨t1,t2,t3⟩:=Vi hd;refine⟨hm,λd h=>Z3 hd (h a ma t1) (h b mb t2)<|h c mc t3⟩
theorem xc(a b c:Q3):Ct b a c= -Ct a b c:=by unfold Ct AI AY;grind
theorem xZ(a b c:Q3):Ct a c b= -Ct a b c:=by unfold Ct AI AY;grind
theorem ah7(a b c:H3)(h:Ct a.1 b.1 c.1≠0):Il b a c=Il a b c:=by
 have h2:Ct b.1 a.1 c.1≠0:=by rw[xc];grind
 let⟨t1,t2,t3⟩:=Vi h;let⟨u1,u2,u3⟩:=Vi h2;exact Pu (Z3 h (by rw[val_sub,t1,u2];grind) (by rw[val_sub,t2,u1];grind) (by rw[val_sub,t3,u3];grind))
theorem ah6(a b c:H3)(h:Ct a.1 b.1 c.1≠0):Il a c b=Il a b c:=by
 have h2:Ct a.1 c.1 b.1≠0:=by rw[xZ];grind
 let⟨t1,t2,t3⟩:=Vi h;let⟨u1,u2,u3⟩:=Vi h2;exact Pu (Z3 h (by rw[val_sub,t1,u1];grind) (by rw[val_sub,t2,u3];grind) (by rw[val_sub,t3,u2];grind))
theorem yF{L:A3 H3}(hb:EV L){n:Q3}{c:Rat}(h:∀p,Bi L p->AI n p=c){q:Q3}(hq:Mem L q):AI n q=c:=by
 let⟨v,v1,v2,_⟩:=Pm hb hq n;let⟨u,u1,u2,_⟩:=Pm hb hq<|B7 n<| -1
 rw[LL,LL] at u2;have:=h v v1;have:=h u u1
 grind
theorem ah0{L:A3 H3}(hb:EV L){n:Q3}(hn:n≠o3){c:Rat}(h:∀p,Bi L p->AI n p=c): ¬ ∃o,∀k∈L,val k o<0:=λ⟨o,ho⟩=>by
 have mo:Mem L o:=λk mk=>Fu<|ho k mk
 let⟨e,e0,he⟩:=room mo (w:=n) λk mk tk=>by have:=ho k mk;grind
 have h1:=yF hb h mo;have h2:=yF hb h<|he e (Fu e0) G5
 have:=Ft e0<|MK hn
 rw[No,Ff] at h2
 grind
theorem alY{L:A3 H3}(hz:∀k∈L,k.1≠o3){a b c d:Q3}(ha:Mem L a)(hb:Mem L b)(hc:Mem L c)(hd:Mem L d)(h:Ct (Af b a) (Af c a) (Af d a)≠0):∃o,∀k∈L,val k o<0:=by
 refine⟨Dk (Dk a b<|1/2) (Dk c d<|1/2)<|1/2,λk mk=>?_⟩;have e:val k (Dk (Dk a b<|1/2) (Dk c d<|1/2)<|1/2)=(1/4)*(val k a+val k b+val k c+val k d):=by rw[Fs,Fs,Fs];grind
 have h1:=ha k mk;have h2:=hb k mk;have h3:=hc k mk;have h4:=hd k mk;refine Ck λg=>hz k mk ?_
 have a0:val k a=0:=AK;have b0:val k b=0:=AK;have c0:val k c=0:=AK;have d0:val k d=0:=AK;refine Z3 h ?_ ?_ ?_<;>rw[Nf,val_sub]
 .rw[a0,b0];grind
 .rw[a0,c0];grind
 .rw[a0,d0];grind
theorem alh{S:A3 Bq}{M:A3 H3}(I:CF S M){h:H3}(mh:h∈M){a b c:Q3}(va:Bi M a)(vb:Bi M b)(vc:Bi M c)(ta:val h a=0)(tb:val h b=0)(tc:val h c=0)(J1:a≠b)(hac:a≠c)(hbc:b≠c):∃f∈S,f.1=h:=by
 let⟨o,hi⟩:=I.int;have hz:val h (Dk (Dk a b<|1/2) c<|1/3)=0:=by rw[Fs,Fs,ta,tb,tc];grind
 let⟨f,mf,tf⟩:=I.cover (Dk (Dk a b<|1/2) c<|1/3) (λk mk=>by
  rw[Fs,Fs];have:=va.1 k mk;have:=vb.1 k mk;have:=vc.1 k mk
  grind) ⟨h,mh,hz⟩
 have g1:=(I.DT f mf).1;refine⟨f,mf,rB hi I.nz I.norm g1 mh (Ck λhc=>?_) tf hz⟩;rw[Fs,Fs] at tf;have:=va.1 _ g1;have:=vb.1 _ g1;have:=vc.1 _ g1;have fa:val f.1 a=0:=AK;have fb:val f.1 b=0:=AK;have fc:val f.1 c=0:=AK;let⟨s,hs⟩:=along hc (d:=Af b a) (by rw[val_sub,fa,fb];grind) (by rw[val_sub,ta,tb];grind);let⟨r,hr⟩:=along hc (d:=Af c a) (by rw[val_sub,fa,fc];grind) (by rw[val_sub,ta,tc];grind);refine Yq va vb vc J1 hac hbc ?_;rw[hs,hr];exact FQ
end
structure Ms{α:Type}(c:α×α->A9 Int)(R:α->α->Prop)(l:A3 α):Prop where
 get:∀x∈l,∀y∈l,∃v,c (x,y)=some v/\(v<0↔R x y)
 irr:∀x∈l,¬R x x
 tr:∀x∈l,∀y∈l,∀z∈l,R x y->R y z->R x z
 tri:∀x∈l,∀y∈l,x=y\/R x y\/R y x
section
variable{α:Type}[DecidableEq α]{c:α×α->Option Int}{R:α->α->Prop}
variable{l:A3 α}
theorem Ms.perm{m:A3 α}(h:Ms c R l)(p:m.Perm l):Ms c R m:=⟨λx mx y my=>h.get x (p.mem_iff.1 mx) y<|p.mem_iff.1 my,λx mx=>h.irr x<|p.mem_iff.1 mx,λx mx y my z mz=>h.tr x (p.mem_iff.1 mx) y (p.mem_iff.1 my) z<|p.mem_iff.1 mz,λx mx y my=>h.tri x (p.mem_iff.1 mx) y<|p.mem_iff.1 my⟩
theorem aag{x:α}:∀{s:A3 α},Ms c R (x::s)->s.Pairwise (λa b=>a=b\/R b a)->∃r,OB (λa b=>c (a,b)) x s=some r/\r.Perm (x::s)/\r.Pairwise (λa b=>a=b\/R b a)
 |[],_,_=>⟨[x],rfl,List.Perm.refl _,UR _ _⟩
 |y::s,h,hs=>by
  have mx:x∈x::y::s:=Cz;have my:y∈x::y::s:=AT;let⟨v,hv,JT⟩:=h.get x mx y my;let⟨h1,h2⟩:=Hb.1 hs;unfold OB;rw[hv];show ∃r,cond (decide<|v<0) _ _=some r/\_;by_cases hl:v<0
  .let⟨r,r1,r2,r3⟩:=aag (x:=x) (s:=s) ⟨λa ma b mb=>h.get a AK b AK,λa ma=>h.irr a AK,λa ma b mb d md=>h.tr a AK b AK d AK,λa ma b mb=>h.tri a AK b AK⟩ h2;refine⟨y::r,by rw[B9 hl,BX,r1];rfl,((r2.cons y).trans<|List.Perm.swap x y s),Hb.2 ⟨λz mz=>?_,r3⟩⟩;rcases Am.1 (r2.mem_iff.1 mz) with e|mz
   .rw[e];exact .inr<|JT.1 hl
   .exact h1 z mz
  .refine⟨x::y::s,by rw[CB hl];rfl,List.Perm.refl _,Hb.2 ⟨λz mz=>?_,hs⟩⟩;have nxy: ¬R x y:=λk=>hl<|JT.2 k
   have hxy:x=y\/R y x:=by
    rcases h.tri x mx y my with e|e|e
    .exact .inl e
    .exact absurd e nxy
    .exact .inr e
   rcases Am.1 mz with e|mz
   .rw[e];exact hxy
   .rcases hxy with e|e
    .rw[e];exact h1 z mz
    .rcases h1 z mz with e2|e2
     .rw[<-e2];exact .inr e
     .exact .inr (h.tr z (by simp[mz]) y my x mx e2 e)
theorem yQ:∀(l s:A3 α),Ms c R (s++l)->s.Pairwise (λa b=>a=b\/R b a)->∃r,JS l (λnext x s=>bd (OB (λa b=>c (a,b)) x s) next) s (λs=>some s.reverse)=some r/\r.Perm (s++l)/\r.Pairwise (λa b=>a=b\/R a b)
 |[],s,h,hs=>⟨s.reverse,rfl,by rw[K9];exact List.reverse_perm s,by rw[List.pairwise_reverse];exact hs.imp λ{a b} k=>k.elim (λe=> .inl e.symm) .inr⟩
 |x::l,s,h,hs=>by let⟨r,r1,r2,r3⟩:=aag (x:=x) (s:=s) ⟨λa ma b mb=>h.get a AK b AK,λa ma=>h.irr a AK,λa ma b mb d md=>h.tr a AK b AK d AK,λa ma b mb=>h.tri a AK b AK⟩ hs;have p:(r++l).Perm (s++x::l):=(r2.append_right l).trans (by simpa using(@List.perm_middle _ x s l).symm);let⟨t,t1,t2,t3⟩:=yQ l r (h.perm p) r3;refine⟨t,?_,t2.trans p,t3⟩;show bd (OB (λa b=>c (a,b)) x s) _=_;rw[r1];exact t1
theorem abD{x:α}:∀{s:A3 α},Ms c R (x::s)->(∀y∈s,x=y\/R x y)->XO c x s=true
 |[],_,_=>rfl
 |y::s,h,hs=>by
  have mx:x∈x::y::s:=Cz;have my:y∈x::y::s:=AT;unfold XO;rw[abD (x:=x) (s:=s) ⟨λa ma b mb=>h.get a AK b AK,λa ma=>h.irr a AK,λa ma b mb d md=>h.tr a AK b AK d AK,λa ma b mb=>h.tri a AK b AK⟩ λz mz=>hs z<|Br _ mz,iE];let⟨v,v1,v2⟩:=h.get x mx y my;let⟨u,u1,u2⟩:=h.get y my x mx;rcases hs y Cz with e|e
  .rw[B9 e];rfl
  .rw[v1,u1];cases decide (x=y)
   .have n: ¬R y x:=λk=>h.irr x mx (h.tr x mx y my x mx e k)
    have a:=v2.2 e;have b: ¬u<0:=λk=>n<|u2.1 k
    show(decide (v<0)&&decide (0<=u))=true;rw[B9 a,B9 A4];rfl
   .rfl
theorem aBb:∀{s:A3 α},Ms c R s->s.Pairwise (λa b=>a=b\/R a b)->Ot c s=true
 |[],_,_=>rfl
 |x::s,h,hs=>by
  let⟨h1,h2⟩:=Hb.1 hs;unfold Ot;let⟨v,v1,v2⟩:=h.get x Cz x Cz;have: ¬v<0:=λk=>h.irr x Cz<|v2.1 k
  rw[v1,abD h h1,aBb (s:=s) ⟨λa ma b mb=>h.get a AK b AK,λa ma=>h.irr a AK,λa ma b mb d md=>h.tr a AK b AK d AK,λa ma b mb=>h.tri a AK b AK⟩ h2];show(decide (0<=v)&&(true&&true))=true;rw[B9 A4];rfl
theorem aBn(h:Ms c R l)(hl:l.length<4611686018427387904):∃s,Ia l c=some s/\s.Perm l/\s.Pairwise (λa b=>a=b\/R a b):=by
 let⟨s,s1,s2,s3⟩:=yQ l [] h List.Pairwise.nil;refine⟨s,?_,s2,s3⟩;unfold Ia jW;rw[s1];have ht:totB c l=true:=by unfold totB;rw[Dr];intro x mx;rw[Dr];intro y my;let⟨v,v1,_⟩:=h.get x mx y my;rw[v1];rfl
 show ES _ s=_;rw[ht,aBb (h.perm s2) s3,show Nat.blt l.length 4611686018427387904=true from Ig hl];rfl
theorem aAY{e:α×α->A9 Bool}:∀{x:α} {l:A3 α},(∀a∈x::l,∀b∈x::l,e (a,b)=some (decide<|a=b))->(x::l).Pairwise (λa b=>a=b\/R a b)->Ms c R (x::l)->∃r,X5 (λa b=>e (a,b)) x l=some r/\(x::r).Pairwise R/\∀z,z∈x::r↔z∈x::l
 |x,[],_,_,_=>⟨[],rfl,UR _ _,λz=>Iff.rfl⟩
 |x,y::l,he,hs,h=>by
  let⟨h1,h2⟩:=Hb.1 hs;let⟨r,r1,r2,r3⟩:=aAY (x:=y) (l:=l) (λa ma b mb=>he a (Br _ ma) b<|Br _ mb) h2 ⟨λa ma b mb=>h.get a AK b AK,λa ma=>h.irr a AK,λa ma b mb d md=>h.tr a AK b AK d AK,λa ma b mb=>h.tri a AK b AK⟩;unfold X5;rw[he y AT x AT,r1];by_cases hxy:y=x
  .subst hxy;refine⟨r,by rw[B9 rfl];rfl,r2,λz=>?_⟩;rw[r3];simp
  .refine⟨y::r,by rw[CB hxy];rfl,Hb.2 ⟨λz mz=>?_,r2⟩,λz=>?_⟩
   .have rxy:R x y:=(h1 y AT).elim (λe=>absurd e.symm hxy) id;rcases Am.1 mz with e|mz'
    .rw[e];exact rxy
    .have ryz:=(Hb.1 r2).1 z mz';exact h.tr x AT y AT z (Br _<|(r3 z).1 mz) rxy ryz
   .rw[Am,r3];simp
theorem ai7{e:α×α->A9 Bool}(he:∀a∈l,∀b∈l,e (a,b)=some (decide<|a=b))(hs:l.Pairwise (λa b=>a=b\/R a b))(h:Ms c R l):∃r,Yn l e=some r/\r.Pairwise R/\∀z,z∈r↔z∈l:=by
 cases l with
 |nil=>exact⟨[],rfl,List.Pairwise.nil,λz=>Iff.rfl⟩
 |cons x l=>let⟨r,r1,r2,r3⟩:=aAY he hs h;refine⟨x::r,?_,r2,r3⟩;show bd (X5 (λa b=>e (a,b)) x l) _=_;rw[r1];rfl
theorem aiq{m:A3 α}(hl:l.Pairwise R)(hm:m.Pairwise R)(ha:∀x∈l,∀y∈l,R x y-> ¬R y x)(h:∀z,z∈l↔z∈m):l=m:=by
 induction l generalizing m with
 |nil=>cases m with|nil=>rfl|cons y m=>exact absurd ((h y).2 Cz) AT
 |cons x l ih=>
  cases m with
  |nil=>exact absurd ((h x).1 Cz) AT
  |cons y m=>
   let⟨l1,l2⟩:=Hb.1 hl;let⟨m1,m2⟩:=Hb.1 hm;have irr:∀z∈x::l,¬R z z:=λz mz k=>ha z mz z mz k k
   have exy:x=y:=by
    refine Ck λhne=>?_
    have a:x∈m:=by
     rcases Am.1 ((h x).1 Cz) with e|e
     .exact absurd e hne
     .exact e
    have b:y∈l:=by
     rcases Am.1 ((h y).2 Cz) with e|e
     .exact absurd e.symm hne
     .exact e
    exact ha x Cz y (Br _ b) (l1 y b)<|m1 x a
   subst exy
   congr 1
   refine ih l2 m2 (λa ma b mb=>ha a (Br _ ma) b<|Br _ mb) λz=>?_
   constructor
   .intro mz;rcases Am.1 ((h z).1<|Br _ mz) with e|e
    .rw[e] at mz;exact absurd (l1 _ mz)<|irr _ Cz
    .exact e
   .intro mz;rcases Am.1 ((h z).2<|Br _ mz) with e|e
    .rw[e] at mz;exact absurd (m1 _ mz)<|irr _ Cz
    .exact e
end
section
variable{a:Rat}{L:A3 H3}{p:Q3}{x y m:Rat}{M:A3 H3}{v w b:Q3}{S:A3 Bq}{k:Rat}{c:Q3}{l:A3 Q3}{n u:Q3}
def En(a b:Q3):Prop:=a.1<b.1\/a.1=b.1/\(a.2.1<b.2.1\/a.2.1=b.2.1/\a.2.2<b.2.2)
theorem Qg(a:Q3): ¬En a a:=by unfold En;grind
theorem rP{a:Q3}:En a b->En b c->En a c:=by unfold En;grind
theorem aaV(a b:Q3):a=b\/En a b\/En b a:=by
 by_cases h:a=b
 .exact .inl h
 .right;have: ¬(a.1=b.1/\a.2.1=b.2.1/\a.2.2=b.2.2):=λk=>h<|K5 k.1 k.2.1 k.2.2
  unfold En;grind
def alH{c:Q3×Q3->A9 Int}(h:∀x∈l,∀y∈l,∃v,c (x,y)=some v/\(v<0↔En x y)):Ms c En l:=⟨h,λx _=>Qg x,λx _ y _ z _=>rP,λx _ y _=>aaV x y⟩
theorem yE(hn:n≠o3)(hu:AI n u=0)(hv:AI n v=0)(hw:AI n w=0):B7 v (AI n<|AY u w)=Bn (B7 u<|AI n<|AY v w) (B7 w<|AI n<|AY u v):=by
 have hp:=MK hn;have hd:Ct u v w*AI n n=0:=by
  have:Ct u v w*AI n n=AI n (AY v w)*AI n u-AI n (AY u w)*AI n v+AI n (AY u v)*AI n w:=by unfold Ct AI AY;grind
  rw[this,hu,hv,hw];grind
 have hd:Ct u v w=0:=by
  rcases Ha.1 hd with g|g
  .exact g
  .grind
 unfold Ct at hd;refine K5 ?_ ?_ ?_<;>simp only[B7,Bn]
 .have:u.1*AI n (AY v w)+w.1*AI n (AY u v)-v.1*AI n (AY u w)=AI (AY u v) w*n.1:=by unfold AI AY;grind
  rw[hd] at this;grind
 .have:u.2.1*AI n (AY v w)+w.2.1*AI n (AY u v)-v.2.1*AI n (AY u w)=AI (AY u v) w*n.2.1:=by unfold AI AY;grind
  rw[hd] at this;grind
 .have:u.2.2*AI n (AY v w)+w.2.2*AI n (AY u v)-v.2.2*AI n (AY u w)=AI (AY u v) w*n.2.2:=by unfold AI AY;grind
  rw[hd] at this;grind
def RU(u:Q3):Prop:=0<u.1\/u.1=0/\(0<u.2.1\/u.2.1=0/\0<u.2.2)
theorem oQ{a:Q3}(h:En a b):RU (Af b a):=by grind [En,RU,Af]
theorem an2{b:Rat}(hu:RU u)(hw:RU w)(ha:0<a)(hb:0<b):RU (Bn (B7 u a)<|B7 w b):=by
 have m:∀x c:Rat,0<c->(0<x->0<x*c)/\(x=0->x*c=0):=λx c hc=>⟨λh=>Ft h hc,λh=>by rw[h];grind⟩
 have a1:=m u.1 a ha;have a2:=m u.2.1 a ha;have a3:=m u.2.2 a ha;have b1:=m w.1 b hb;have b2:=m w.2.1 b hb;have b3:=m w.2.2 b hb;unfold RU at*;unfold Bn B7;dsimp only
 grind
theorem aos(hv:RU v)(h:RU (B7 v a)):0<a:=by
 refine Ck λc=>?_
 have m:∀x:Rat,0<=x->x*a<=0:=λx hx=>by have:=DX hx (show 0<= -a by grind);grind
 have m1:=m v.1;have m2:=m v.2.1;have m3:=m v.2.2;have z:∀x:Rat,0<x->x*a=0->a=0:=λx hx h=>by
  rcases Ha.1 h with g|g
  .grind
  .exact g
 have z1:=z v.1;have z2:=z v.2.1;unfold RU at*;unfold B7 at h;dsimp only at h
 grind
theorem ac0{a:Q3}{d:Rat}(hn:n≠o3)(tp:val (n,d) p=0)(ta:val (n,d) a=0)(tb:val (n,d) b=0)(tc:val (n,d) c=0)(la:En p a)(lb:En p b)(lc:En p c)(h1:0<Bp n p a b)(h2:0<Bp n p b c):0<Bp n p a c:=by have ea:=val_sub (n,d) p a;have eb:=val_sub (n,d) p b;have ec:=val_sub (n,d) p c;rw[tp,ta] at ea;rw[tp,tb] at eb;rw[tp,tc] at ec;have r:=yE hn (u:=Af a p) (v:=Af b p) (w:=Af c p) AK AK AK;unfold Bp at h1 h2⊢;refine aos (oQ lb) (v:=Af b p) ?_;rw[r];exact an2 (oQ la) (oQ lc) h2 h1
theorem am8{f:H3}(hf:f.1≠o3)(vp:Bi L p)(tp:val f p=0)(hl:∀x∈l,Bi L x/\val f x=0/\En p x){c:Q3×Q3->A9 Int}(hc:∀x∈l,∀y∈l,∃v,c (x,y)=some v/\(v<0↔0<Bp f.1 p x y)):Ms c (λx y=>0<Bp f.1 p x y) l:=by
 refine⟨hc,λx _ h=>?_,λx mx y my z mz h1 h2=>?_,λx mx y my=>?_⟩
 .rw[OR] at h;grind
 .let⟨_,a2,a3⟩:=hl x mx;let⟨_,b2,b3⟩:=hl y my;let⟨_,c2,c3⟩:=hl z mz;exact ac0 hf tp a2 b2 c2 a3 b3 c3 h1 h2
 .by_cases e:x=y
  .exact .inl e
  .right;let⟨a1,a2,a3⟩:=hl x mx;let⟨b1,b2,b3⟩:=hl y my;have h:=pU hf vp a1 b1 tp a2 b2 (λe=>Qg p (by rw[<-e] at a3;exact a3)) (λe=>Qg p (by rw[<-e] at b3;exact b3)) e;have s:Bp f.1 p y x= -Bp f.1 p x y:=by unfold Bp AI AY Af;grind
   rw[s];grind
theorem fz{α:Type}{R:α->α->Prop}{l:A3 α}(h:l.Pairwise R){a b:α}(s:[a,b].Sublist l):R a b:=by grind
theorem y8{f:H3}(hf:f.1≠o3){s:A3 Q3}(hl:∀x∈p::s,Bi L x/\val f x=0)(hs:s.Pairwise λx y=>0<Bp f.1 p x y):FT f.1 (p::s):=by
 intro a b c h;cases h with
 |cons_cons _ h=>exact fz hs h
 |cons _ h=>
  have ab:=fz hs<|(((Qn [c]).cons_cons b).cons_cons a).trans h
  have bc:=fz hs<|((List.sublist_cons_self a [b,c])).trans h
  have ac:=fz hs<|(((List.sublist_cons_self b [c])).cons_cons a).trans h
  have g:∀x,x∈[a,b,c]->x∈p::s:=λx mx=>Br _<|h.subset mx
  let⟨vp,tp⟩:=hl p Cz;let⟨va,ta⟩:=hl a<|g a AT
  let⟨vb,tb⟩:=hl b<|g b AT
  let⟨vc,tc⟩:=hl c<|g c AT
  refine Ck λFJ=>?_
  have ea:=val_sub f p a;have eb:=val_sub f p b;have ec:=val_sub f p c;rw[tp,ta] at ea;rw[tp,tb] at eb;rw[tp,tc] at ec;have r:=yE hf (u:=Af a p) (v:=Af b p) (w:=Af c p) AK AK AK;have o:Bp f.1 a b c=Bp f.1 p b c-Bp f.1 p a c+Bp f.1 p a b:=by unfold Bp AI AY Af;grind
  have:a=c:=by
   refine Pu<|vb.2 _ λh mh th=>?_
   have k:=congrArg (AI h.1) r;rw[Ff,No,Ff,Ff,val_sub,val_sub,val_sub,th] at k;change Bp f.1 p a c*(0-val h p)=Bp f.1 p b c*(val h a-val h p)+Bp f.1 p a b*(val h c-val h p) at k;have x:=vp.1 h mh;have y:=va.1 h mh;have z:=vc.1 h mh;have i1:=DX (show 0<= -Bp f.1 a b c by grind) (show 0<= -val h p by grind);have i2:=DX (show 0<=Bp f.1 p b c by grind) (show 0<= -val h a by grind);have i3:=DX (show 0<=Bp f.1 p a b by grind) (show 0<= -val h c by grind);rw[o] at i1;have j2:Bp f.1 p b c*val h a=0:=AK;have j3:Bp f.1 p a b*val h c=0:=AK;rw[val_sub];rcases Ha.1 j2 with g|g
   .grind
   .rcases Ha.1 j3 with g'|g'
    .grind
    .rw[g,g'];grind
  rw[this,OR] at ac
  grind
def Dd(a:Rat):A3 H3:=[((-1,0,0),a),((1,0,0),a),((0,-1,0),a),((0,1,0),a),((0,0,-1),a),((0,0,1),a)]
theorem Og(a:Rat)(p:Q3):val ((-1,0,0),a) p= -p.1-a:=by unfold val AI;grind
theorem Of(a:Rat)(p:Q3):val ((1,0,0),a) p=p.1-a:=by unfold val AI;grind
theorem Oe(a:Rat)(p:Q3):val ((0,-1,0),a) p= -p.2.1-a:=by unfold val AI;grind
theorem Od(a:Rat)(p:Q3):val ((0,1,0),a) p=p.2.1-a:=by unfold val AI;grind
theorem Oc(a:Rat)(p:Q3):val ((0,0,-1),a) p= -p.2.2-a:=by unfold val AI;grind
theorem Ob(a:Rat)(p:Q3):val ((0,0,1),a) p=p.2.2-a:=by unfold val AI;grind
def MS{P:H3->Prop}:(∀h∈Dd a,P h)↔P ((-1,0,0),a)/\P ((1,0,0),a)/\P ((0,-1,0),a)/\P ((0,1,0),a)/\P ((0,0,-1),a)/\P ((0,0,1),a):=by unfold Dd;simp
def aoG{P:H3->Prop}:(∃h∈Dd a,P h)↔P ((-1,0,0),a)\/P ((1,0,0),a)\/P ((0,-1,0),a)\/P ((0,1,0),a)\/P ((0,0,-1),a)\/P ((0,0,1),a):=by unfold Dd;simp
theorem alF:Mem (Dd a) p↔(-a<=p.1/\p.1<=a)/\(-a<=p.2.1/\p.2.1<=a)/\ -a<=p.2.2/\p.2.2<=a:=by unfold Mem;rw[MS,Og,Of,Oe,Od,Oc,Ob];grind
theorem Ts(ha:0<a):Bi (Dd a) p↔(p.1=a\/p.1= -a)/\(p.2.1=a\/p.2.1= -a)/\(p.2.2=a\/p.2.2= -a):=by
 unfold Bi;rw[alF];constructor
 .rintro⟨h,k⟩;have d1:∀x:Rat,AI (-1,0,0) (1,0,0)= -1:=λ_=>by unfold AI;grind
  refine⟨Ck λc=>?_,Ck λc=>?_,Ck λc=>?_⟩
  .have:=k (1,0,0) (by rw[MS,Og,Of,Oe,Od,Oc,Ob];unfold AI;grind);exact ZA this
  .have:=k (0,1,0) (by rw[MS,Og,Of,Oe,Od,Oc,Ob];unfold AI;grind);have:=congrArg (λx:Q3=>x.2.1) this;simp only[o3] at this;grind
  .have:=k (0,0,1) (by rw[MS,Og,Of,Oe,Od,Oc,Ob];unfold AI;grind);have:=congrArg (λx:Q3=>x.2.2) this;simp only[o3] at this;grind
 .rintro⟨h1,h2,h3⟩;refine⟨AK,λd hd=>?_⟩;rw[MS,Og,Of,Oe,Od,Oc,Ob] at hd;unfold AI at hd;dsimp only at hd;exact X0 AK AK AK
theorem aAW(a:Rat):EV (Dd a):=λd hd=>by rw[aoG];unfold AI;refine Ck λc=>hd (X0 ?_ ?_ ?_)<;>grind
theorem Tt{a:Q3}(ha:a∈l)(hb:b∈l)(hc:c∈l)(J1:a≠b)(hac:a≠c)(hbc:b≠c):3<=l.length:=by match l,ha,hb,hc with|[x],ha,hb,hc=>simp at ha hb hc;exact absurd (ha.trans hb.symm) J1|[x,y],ha,hb,hc=>simp at ha hb hc;grind|_::_::_::_,_,_,_=>simp
def O6(a:Rat)(f:Rat->Rat->Q3):A3 Q3:=[f (-a)<| -a,f (-a) a,f a<| -a,f a a]
theorem z7{f:Rat->Rat->Q3}:p∈O6 a f↔∃x y,(x=a\/x= -a)/\(y=a\/y= -a)/\p=f x y:=by(simp_all [O6]<;>grind)
theorem ajm(ha:0<a)(hS:S.map Prod.fst=Dd a)(hC:∀f∈S,FT f.1.1 f.2/\∀p,p∈f.2↔Bi (Dd a) p/\val f.1 p=0):CF S (Dd a):=by
 have hin:∀f∈S,f.1∈Dd a:=λf mf=>by rw[<-hS];exact BM.2 ⟨f,mf,rfl⟩
 have hd:(Dd a).Pairwise (· ≠ ·):=by
  have:((Dd a).map Prod.fst).Pairwise (· ≠ ·):=by
   show List.Pairwise (· ≠ ·) ([(-1,0,0),(1,0,0),(0,-1,0),(0,1,0),(0,0,-1),(0,0,1)]:A3 Q3)
   decide
  exact(M0.1 this).imp λ{a b} h e=>h<|congrArg Prod.fst e
 have ca:∀h∈Dd a,h.2=a:=by rw[MS];exact⟨rfl,rfl,rfl,rfl,rfl,rfl⟩
 refine⟨aAW a,⟨o3,?_⟩,?_,?_,λf mf=>?_,?_,λp hp ht=>?_⟩
 .rw[MS,Og,Of,Oe,Od,Oc,Ob];unfold o3;dsimp;grind
 .rw[MS];unfold o3;simp[ne_eq,LH];grind
 .intro h mh k mk hk;let⟨s,s0,e⟩:=hk;have:=ca h mh;have hk2:=ca k mk;have e2:k.2=h.2*s:=by rw[e]
  have:s=1:=by have:a*(s-1)=0:=AK;rcases Ha.1 this with g|g<;>grind
  subst this;rw[e];refine Prod.ext (K5 ?_ ?_ ?_) ?_<;>simp[B7]<;>grind
 .let⟨c1,c2⟩:=hC f mf;refine⟨hin f mf,c1,?_,c2⟩;have one:∀x y z:Rat,(x=a\/x= -a)->(y=a\/y= -a)->(z=a\/z= -a)->val f.1 (x,y,z)=0->(x,y,z)∈f.2:=λx y z hx hy hz hv=>(c2 _).2 ⟨(Ts ha).2 ⟨hx,hy,hz⟩,hv⟩
  have hne:a≠ -a:=AK;have mf:=hin f mf;have hr:a=a\/a= -a:= .inl rfl;have hl: -a=a\/ -a= -a:= .inr rfl
  generalize f.1=h at*
  simp[Dd,Am,Ze,or_false] at mf;rcases mf with e|e|e|e|e|e<;>subst e
  .exact Tt (one (-a) a a hl hr hr (by rw[Og];grind)) (one (-a) a (-a) hl hr hl (by rw[Og];grind)) (one (-a) (-a) a hl hl hr (by rw[Og];grind)) (by simp[hne]) (by simp[hne]) (by simp[hne])
  .exact Tt (one a a a hr hr hr (by rw[Of];grind)) (one a a (-a) hr hr hl (by rw[Of];grind)) (one a (-a) a hr hl hr (by rw[Of];grind)) (by simp[hne]) (by simp[hne]) (by simp[hne])
  .exact Tt (one a (-a) a hr hl hr (by rw[Oe];grind)) (one a (-a) (-a) hr hl hl (by rw[Oe];grind)) (one (-a) (-a) a hl hl hr (by rw[Oe];grind)) (by simp[hne]) (by simp[hne]) (by simp[hne])
  .exact Tt (one a a a hr hr hr (by rw[Od];grind)) (one a a (-a) hr hr hl (by rw[Od];grind)) (one (-a) a a hl hr hr (by rw[Od];grind)) (by simp[hne]) (by simp[hne]) (by simp[hne])
  .exact Tt (one a a (-a) hr hr hl (by rw[Oc];grind)) (one a (-a) (-a) hr hl hl (by rw[Oc];grind)) (one (-a) a (-a) hl hr hl (by rw[Oc];grind)) (by simp[hne]) (by simp[hne]) (by simp[hne])
  .exact Tt (one a a a hr hr hr (by rw[Ob];grind)) (one a (-a) a hr hl hr (by rw[Ob];grind)) (one (-a) a a hl hr hr (by rw[Ob];grind)) (by simp[hne]) (by simp[hne]) (by simp[hne])
 .grind
 .grind
def J0(x:Rat):Prop:=∃z:Int,x=(z:Rat)
def J0.mul:J0 x->J0 y->J0 (x*y)|⟨a,ha⟩,⟨b,hb⟩=>⟨a*b,by rw[ha,hb,Rat.intCast_mul]⟩
def J0.add:J0 x->J0 y->J0 (x+y)|⟨a,ha⟩,⟨b,hb⟩=>⟨a+b,by rw[ha,hb,Rat.intCast_add]⟩
def J0.sub:J0 x->J0 y->J0 (x-y)|⟨a,ha⟩,⟨b,hb⟩=>⟨a-b,by rw[ha,hb,Rat.intCast_sub]⟩
def OA(v:Q3):Prop:=J0 v.1/\J0 v.2.1/\J0 v.2.2
def OA.ae(h:OA v)(k:OA w):OA (AY v w):=⟨(h.2.1.mul k.2.2).sub<|h.2.2.mul k.2.1,(h.2.2.mul k.1).sub<|h.1.mul k.2.2,(h.1.mul k.2.1).sub<|h.2.1.mul k.1⟩
def OA.dot(h:OA v)(k:OA w):J0 (AI v w):=((h.1.mul k.1).add<|h.2.1.mul k.2.1).add<|h.2.2.mul k.2.2
def J0.one(h:J0 x)(h0:x≠0):1<=x\/x<= -1:=by
 obtain⟨z,rfl⟩:=h;have:z≠0:=λe=>h0 (by rw[e];rfl)
 rcases Int.lt_or_gt_of_ne this with h|h
 .right;have:=Rat.intCast_le_intCast.2 (show z<= -1 by omega);simpa using this
 .left;have:=Rat.intCast_le_intCast.2 (show 1<=z by omega);simpa using this
def wi(x m:Rat):Prop:= -m<=x/\x<=m
theorem wi.mul(h:wi x m)(g:wi y k):wi (x*y) (m*k):=by let⟨a,b⟩:=h;let⟨c,d⟩:=g;have p1:=DX (show 0<=m-x by grind) (show 0<=k+y by grind);have p2:=DX (show 0<=m+x by grind) (show 0<=k-y by grind);have p3:=DX (show 0<=m-x by grind) (show 0<=k-y by grind);have p4:=DX (show 0<=m+x by grind) (show 0<=k+y by grind);constructor<;>grind
theorem wi.add(h:wi x m)(g:wi y k):wi (x+y) (m+k):=by unfold wi at*;grind
theorem wi.sub(h:wi x m)(g:wi y k):wi (x-y) (m+k):=by unfold wi at*;grind
def wi3(v:Q3)(m:Rat):Prop:=wi v.1 m/\wi v.2.1 m/\wi v.2.2 m
def wi3.ae(h:wi3 v m)(g:wi3 w k):wi3 (AY v w) (m*k+m*k):=⟨(h.2.1.mul g.2.2).sub<|h.2.2.mul g.2.1,(h.2.2.mul g.1).sub<|h.1.mul g.2.2,(h.1.mul g.2.1).sub<|h.2.1.mul g.1⟩
theorem apW(h:1<=x\/x<= -1):wi x⁻¹ 1:=by
 have e:=Zi x AK
 generalize x⁻¹ =i at e
 constructor
 .refine Ck λc=>?_
  rcases h with g|g
  .have:=DX (show 0<=x-1 by grind) (show 0<= -i by grind);grind
  .have:=DX (show 0<= -1-x by grind) (show 0<= -i-1 by grind);grind
 .refine Ck λc=>?_
  rcases h with g|g
  .have:=DX (show 0<=x-1 by grind) (show 0<=i-1 by grind);grind
  .have:=DX (show 0<= -1-x by grind) (show 0<=i by grind);grind
theorem anI{a b c:H3}{D:Rat}(ia:OA a.1)(ib:OA b.1)(ic:OA c.1)(ha:wi3 a.1 m/\wi a.2 D)(hb:wi3 b.1 m/\wi b.2 D)(hc:wi3 c.1 m/\wi c.2 D)(hd:Ct a.1 b.1 c.1≠0):wi3 (Il a b c) (6*(m*m*D)):=by
 have hi:=apW<|J0.one ((ia.ae ib).dot ic) hd
 have x1:=hb.1.ae hc.1;have x2:=hc.1.ae ha.1;have x3:=ha.1.ae hb.1;unfold Il Ct
 generalize (AI (AY a.1 b.1) c.1)⁻¹ =i at hi
 have fin:∀{x y z:Rat},wi x (m*m+m*m)->wi y (m*m+m*m)->wi z (m*m+m*m)->wi ((x*a.2+y*b.2+z*c.2)*i) (6*(m*m*D)):=λh1 h2 h3=>by
  have:=(((h1.mul ha.2).add<|h2.mul hb.2).add<|h3.mul hc.2).mul hi;unfold wi at this⊢
  grind
 exact⟨fin x1.1 x2.1 x3.1,fin x1.2.1 x2.2.1 x3.2.1,fin x1.2.2 x2.2.2 x3.2.2⟩
theorem anz(hb:EV L){D:Rat}(hm:0<m)(hD:0<D)(hL:∀k∈L,OA k.1/\wi3 k.1 m/\wi k.2 D)(hp:Mem L p):∀h∈Dd (7*(m*m*D)),val h p<0:=by
 have h0:=Ft (Ft hm hm) hD;have key:∀c:Q3,∃v,wi3 v (6*(m*m*D))/\AI c p<=AI c v:=λc=>by let⟨v,v1,v2,_⟩:=Pm hb hp c;obtain⟨_,a,ma,b,mb,d,md,hd,rfl⟩:=Vu.1 v1;let⟨ia,wa⟩:=hL a ma;let⟨ib,wb⟩:=hL b mb;let⟨id,wd⟩:=hL d md;exact⟨_,anI ia ib id wa wb wd hd,v2⟩
 unfold wi3 wi at key;rw[MS,Og,Of,Oe,Od,Oc,Ob];let⟨v1,k1⟩:=key (-1,0,0);let⟨v2,k2⟩:=key (1,0,0);let⟨v3,k3⟩:=key (0,-1,0);let⟨v4,k4⟩:=key (0,1,0);let⟨v5,k5⟩:=key (0,0,-1);let⟨v6,k6⟩:=key (0,0,1);unfold AI at k1 k2 k3 k4 k5 k6;dsimp only at k1 k2 k3 k4 k5 k6
 grind
theorem CF.drop{C:A3 H3}(I:CF S M)(hM:∀k,k∈M↔k∈L\/k∈C)(hb:EV L)(hc:∀p,Mem L p->∀h∈C,val h p<0):CF S L/\∀p,Mem L p↔Mem M p:=by
 have IN:∀p,Mem L p↔Mem M p:=λp=>by
  constructor
  .intro h k mk;rcases(hM k).1 mk with m|m
   .exact h k m
   .grind
  .exact λh k mk=>h k<|(hM k).2<| .inl mk
 have hv:∀p,Bi M p↔Bi L p:=λp=>by
  constructor
  .rintro⟨h1,h2⟩;refine⟨(IN p).2 h1,λd hd=>h2 d λk mk tk=>?_⟩;rcases(hM k).1 mk with m|m
   .exact hd k m tk
   .grind
  .rintro⟨h1,h2⟩;exact⟨(IN p).1 h1,λd hd=>h2 d λk mk tk=>hd k ((hM k).2<| .inl mk) tk⟩
 refine⟨⟨hb,?_,λh mh=>I.nz h<|(hM h).2<| .inl mh,λh mh k mk=>I.norm h ((hM h).2<| .inl mh) k<|(hM k).2<| .inl mk,λf mf=>?_,I.P0,λp hp ht=>?_⟩,IN⟩
 .obtain⟨o,ho⟩:=I.int;exact⟨o,λh mh=>ho h<|(hM h).2<| .inl mh⟩
 .obtain⟨f1,f2,f3,f4⟩:=I.DT f mf;refine⟨?_,f2,f3,λp=>by rw[f4,hv]⟩;rcases(hM _).1 f1 with m|m
  .exact m
  .obtain⟨p,mp⟩:=List.exists_mem_of_ne_nil f.2 (λe=>by rw[e] at f3;simp at f3);obtain⟨vp,tp⟩:=(f4 p).1 mp;have:=hc p ((IN p).2 vp.1) _ m
   grind
 .obtain⟨k,mk,tk⟩:=ht;exact I.cover p ((IN p).1 hp) ⟨k,(hM k).2<| .inl mk,tk⟩
theorem aly(I:CF S M)(hM:∀k,k∈M↔k∈L\/k∈Dd a)(ha:0<a)(h1:∀k∈L,0<k.2)(hc:EV L->∀p,Mem L p->∀h∈Dd a,val h p<0):EV L↔∀f∈S,f.1∈L:=by
 constructor
 .intro hb f mf;exact((I.drop hM hb<|hc hb).1.DT f mf).1
 .intro hf d hd;refine Ck λFJ=>?_
  have hle:∀k∈L,AI k.1 d<=0:=λk mk=>Ck λc=>FJ ⟨k,mk,AK⟩
  let⟨h,mh,ph,hm⟩:=least (λh:H3=>0<AI h.1 d) (λh=>a/AI h.1 d) (Dd a)<|aAW a d hd
  have ca:∀h∈Dd a,h.2=a:=by rw[MS];exact⟨rfl,rfl,rfl,rfl,rfl,rfl⟩
  have key:∀k:H3,0<AI k.1 d->a/AI k.1 d*AI k.1 d=a:=λk hk=>Nu AK
  have hr:0<a/AI h.1 d:=by rw[OT];exact Ft ha<|Qi.2 ph
  have kh:=key h ph
  generalize a/AI h.1 d=r at*
  have vz:∀k:H3,val k (B7 d r)=r*AI k.1 d-k.2:=λk=>by unfold val;rw[Ff]
  have neg:∀k∈L,val k (B7 d r)<0:=λk mk=>by
   rw[vz];have:=DX (show 0<=r by grind) (show 0<= -AI k.1 d by have:=hle k mk;grind);have:=h1 k mk
   grind
  let⟨f,mf,tf⟩:=I.cover (B7 d r) (λk mk=>by
   rcases(hM k).1 mk with m|m
   .grind
   .rw[vz,ca k m];by_cases g:0<AI k.1 d
    .have h2:=hm k m g;have h3:=key k g;have:=Zu h2<|Fu g
     grind
    .have:=DX (show 0<=r by grind) (show 0<= -AI k.1 d by grind)
     grind) ⟨h,(hM h).2<| .inr mh,by rw[vz,ca h mh];grind⟩
  have:=neg f.1<|hf f mf
  grind
structure Ml(L M:A3 H3):Prop where
 sub:∀h∈M,h∈L
 le:∀h∈L,∃k∈M,k.1=h.1/\k.2<=h.2
theorem aoV{h k:H3}(e:k.1=h.1)(l:k.2<=h.2)(p:Q3):val h p<=val k p:=by unfold val;rw[e];grind
def Ml.mem(h:Ml L M)(p:Q3):Mem M p↔Mem L p:=⟨λhp x mx=>by obtain⟨k,mk,e,l⟩:=h.le x mx;exact ZT (aoV e l p)<|hp k mk,λhp x mx=>hp x<|h.sub x mx⟩
theorem Ml.tight(h:Ml L M)(hp:Mem M p){x:H3}(mx:x∈L)(tx:val x p=0):x∈M:=by obtain⟨k,mk,e,l⟩:=h.le x mx;have h1:=hp k mk;have:k=x:=Prod.ext e (by unfold val at h1 tx;rw[e] at h1;grind);rw[<-this];exact mk
def Ml.Fb(h:Ml L M)(p:Q3):Bi M p↔Bi L p:=
 ⟨λhp=>⟨(h.mem p).1 hp.1,λd hd=>hp.2 d λx mx tx=>hd x (h.sub x mx) tx⟩,λhp=>⟨(h.mem p).2 hp.1,λd hd=>hp.2 d λx mx tx=>hd x (h.tight ((h.mem p).2 hp.1) mx tx) tx⟩⟩
theorem YV(I:CF S L)(hm:Ml L M){C:A3 Q3}(hC:∀p,p∈C↔Bi M p)(hn:C.Nodup)(h:H3):h∈S.map (·.1)↔h∈M/\3<=(C.filter λp=>decide<|val h p=0).length:=by
 have mf:∀p,p∈(C.filter λp=>decide<|val h p=0)↔Bi L p/\val h p=0:=λp=>by rw[IC,hC,hm.Fb,Hm]
 constructor
 .intro mh;obtain⟨f,hf,rfl⟩:=BM.1 mh;let⟨f1,f2,f3,f4⟩:=I.DT f hf;have nd:=f2.nodup f3;have mm:∀p∈f.2,p∈(C.filter λp=>decide<|val f.1 p=0):=λp mp=>(mf p).2<|(f4 p).1 mp
  match e:f.2,f3,nd,mm with
  |a::b::c::l,_,nd,mm=>
   have ha:=(mf a).1<|mm a AT
   refine⟨hm.tight ((hm.mem a).2 ha.1.1) f1 ha.2,Tt (mm a AT) (mm b AT) (mm c AT) ?_ ?_ ?_⟩
   .grind
   .grind
   .grind
 .rintro⟨mh,h3⟩;have nd:(C.filter λp=>decide<|val h p=0).Nodup:=hn.sublist List.filter_sublist
  match e:C.filter λp=>decide<|val h p=0,h3,nd,mf with
  |a::b::c::l,_,nd,mf=>let⟨va,ta⟩:=(mf a).1 AT;let⟨vb,tb⟩:=(mf b).1 AT;let⟨vc,tc⟩:=(mf c).1 AT;obtain⟨f,hf,rfl⟩:=alh I (hm.sub h mh) va vb vc ta tb tc (λe=>by rw[e] at nd;simp at nd) (λe=>by rw[e] at nd;simp at nd) (λe=>by rw[e] at nd;simp at nd);exact BM.2 ⟨f,hf,rfl⟩
def IG(a:Q3)(A C:A3 Q3)(u n:Q3)(dim:Int):Prop:=
 (dim=0/\∀p∈C,p=a)\/(dim=1/\(∃b∈A,u=Af b a)/\u≠o3/\∀p∈C,AY u (Af p a)=o3)\/
 (dim=2/\(∃b∈A,∃c∈A,n=AY (Af b a) (Af c a))/\n≠o3/\∀p∈C,AI n (Af p a)=0)
theorem IG.flat{a:Q3}{A C:A3 Q3}{dim:Int}(h:IG a A C u n dim):∃m:Q3,m≠o3/\∀p∈C,AI m p=AI m a:=by
 rcases h with⟨_,h⟩|⟨_,_,hu,h⟩|⟨_,_,hn,h⟩
 .exact⟨_,ZA,λp mp=>by rw[h p mp]⟩
 .let⟨m,hm,e⟩:=Ve u;refine⟨m,hm,λp mp=>?_⟩;have k:=par hu<|h p mp
  have:AI m (Af p a)=0:=by rw[k,Ff,Nf m u,e];grind
  rw[Wf] at this;grind
 .refine⟨n,hn,λp mp=>?_⟩;have:=h p mp;rw[Wf] at this;grind
def ag9{a:Q3}:Af a a=o3:=FQ
def als(u:Q3):AY u o3=o3:=FQ
end
section
variable{a:Q3}{A C:List Q3}{u n:Q3}{p:Q3}
theorem IG.s0(h:IG a A C u n 0)(e:Af p a=o3):IG a A (C++[p]) u n 0:=by grind [IG,Af,o3]
theorem IG.s01(h:IG a A C u n 0)(mp:p∈A)(e:Af p a≠o3):IG a A (C++[p]) (Af p a) n 1:=by
 rcases h with⟨_,h⟩|⟨h,_⟩|⟨h,_⟩
 .refine .inr (.inl ⟨rfl,⟨p,mp,rfl⟩,e,λq mq=>?_⟩);rcases CJ.1 mq with m|m
  .rw[h q m,ag9,als]
  .rw[Cv.1 m,UY]
 .omega
 .omega
theorem IG.s1(h:IG a A C u n 1)(e:AY u (Af p a)=o3):IG a A (C++[p]) u n 1:=by
 rcases h with⟨h,_⟩|⟨_,h1,h2,h⟩|⟨h,_⟩
 .omega
 .refine .inr (.inl ⟨rfl,h1,h2,λq mq=>?_⟩);rcases CJ.1 mq with m|m
  .exact h q m
  .grind
 .omega
theorem IG.EJ(h:IG a A C u n 1)(mp:p∈A)(e:AY u (Af p a)≠o3):IG a A (C++[p]) u (AY u<|Af p a) 2:=by
 rcases h with⟨h,_⟩|⟨_,⟨b,mb,hb⟩,h2,h⟩|⟨h,_⟩
 .omega
 .refine .inr (.inr ⟨rfl,⟨b,mb,p,mp,by rw[hb]⟩,e,λq mq=>?_⟩);rcases CJ.1 mq with m|m
  .rw[par h2<|h q m,Ff,Nf (AY u<|Af p a) u,o7];grind
  .rw[Cv.1 m,Nf,Ye]
 .omega
theorem IG.s2(h:IG a A C u n 2)(e:AI n (Af p a)=0):IG a A (C++[p]) u n 2:=by
 rcases h with⟨h,_⟩|⟨h,_⟩|⟨_,h1,h2,h⟩
 .omega
 .omega
 .refine .inr (.inr ⟨rfl,h1,h2,λq mq=>?_⟩);rcases CJ.1 mq with m|m
  .exact h q m
  .grind
theorem IG.s3(h:IG a A C u n 2)(e:AI n (Af p a)≠0):∃b∈A,∃c∈A,Ct (Af b a) (Af c a) (Af p a)≠0:=by
 rcases h with⟨h,_⟩|⟨h,_⟩|⟨_,⟨b,mb,c,mc,rfl⟩,_⟩
 .omega
 .omega
 .exact⟨b,mb,c,mc,e⟩
end
section
variable{M:A3 H3}{S:A3 Bq}{h:H3}{p:Q3}{f:Bq}{u v:Q3}{α:Type}{g:Bq}
def Kb{α:Type}[DecidableEq α]:∀{l T:A3 α},l.Nodup->(∀x∈l,x∈T)->l.length<=T.length
 |[],_,_,_=>FV _
 |x::l,T,hn,h=>by
  let⟨h1,h2⟩:=iN.1 hn;have:=Kb (l:=l) (T:=T.erase x) h2 λy my=>(List.mem_erase_of_ne (λe=>h1 (by rw[<-e];exact my))).2<|h y<|Br _ my
  rw[List.length_erase_of_mem<|h x Cz] at this;have:0<T.length:=List.length_pos_of_mem<|h x Cz
  rw[E2];omega
def asK(M:A3 H3):A3 Q3:=M.flatMap λa=>M.flatMap λb=>M.map λc=>Il a b c
def ak5(M:A3 H3):(asK M).length=M.length*(M.length*M.length):=by
 have flat:∀{α β:Type} (f:α->A3 β) (w:Nat) (l:A3 α),(∀x∈l,(f x).length=w)->(l.flatMap f).length=l.length*w:=by
  intro α β f w l
  induction l with|nil=>intro _;simp|cons x l ih=>intro h;rw[OX,DS,h x Cz,ih λy my=>h y<|Br _ my,E2,SY,Pc]
 exact flat _ _ _ λa _=>flat _ _ _ λb _=>C2 _
def pW{l:A3 Q3}(hn:l.Nodup)(h:∀p∈l,Bi M p):l.length<=M.length*(M.length*M.length):=by
 rw[<-ak5];refine Kb hn λp mp=>?_
 obtain⟨_,a,ma,b,mb,c,mc,_,rfl⟩:=Vu.1<|h p mp
 exact Mf.2 ⟨a,ma,Mf.2 ⟨b,mb,BM.2 ⟨c,mc,rfl⟩⟩⟩
def CF.len(I:CF S M):S.length<=M.length:=by
 rw[<-C2 (·.1)];refine Kb (M0.2<|I.P0.imp λh=>h) λx mx=>?_
 obtain⟨f,mf,rfl⟩:=BM.1 mx;exact(I.DT f mf).1
theorem aa1{α:Type}{T:α->α->Prop}(s:∀a b,T a b->T b a):∀{L:A3 α} {a b:α},a≠b->a∈L->b∈L->T a b->∃x y,[y,x].Sublist L/\T x y
 |h::t,a,b,hne,ma,mb,ht=>by
  by_cases ea:a=h
  .grind
  .have ma':a∈t:=(Am.1 ma).resolve_left ea;by_cases eb:b=h
   .grind
   .let⟨x,y,h1,h2⟩:=aa1 s hne ma' ((Am.1 mb).resolve_left eb) ht;exact⟨x,y,h1.cons h,h2⟩
theorem abM{α:Type}{T:α->α->α->Prop}(EJ:∀a b c,T a b c->T b a c)(s23:∀a b c,T a b c->T a c b):∀{L:A3 α} {a b c:α},a≠b->b≠c->a≠c->a∈L->b∈L->c∈L->T a b c->∃x y z,[z,y,x].Sublist L/\T x y z
 |h::t,a,b,c,h1,h2,h3,ma,mb,mc,ht=>by
  have two:∀{a b c:α},a≠b->b≠c->a≠c->c=h->a∈h::t->b∈h::t->T a b c->∃x y z,[z,y,x].Sublist (h::t)/\T x y z:=λ{a b c} h1 h2 h3 e ma mb ht=>by let⟨x,y,k1,k2⟩:=aa1 (T:=λa b=>T a b c) (λa b k=>EJ _ _ _ k) h1 ((Am.1 ma).resolve_left λk=>h3 (by rw[k,e])) ((Am.1 mb).resolve_left λk=>h2 (by rw[k,e])) ht;exact⟨x,y,c,by rw[e];exact k1.cons_cons h,k2⟩
  by_cases ec:c=h
  .grind
  .by_cases eb:b=h
   .grind
   .by_cases ea:a=h
    .grind
    .let⟨x,y,z,k1,k2⟩:=abM EJ s23 h1 h2 h3 ((Am.1 ma).resolve_left ea) ((Am.1 mb).resolve_left eb) ((Am.1 mc).resolve_left ec) ht;exact⟨x,y,z,k1.cons h,k2⟩
theorem aiW{L:A3 H3}:Bi L p↔Mem L p/\∃a b c,[c,b,a].Sublist L/\Ct a.1 b.1 c.1≠0/\p=Il a b c:=by
 rw[Vu];refine and_congr Iff.rfl ⟨?_,?_⟩
 .rintro⟨a,ma,b,mb,c,mc,hd,hp⟩;refine abM (T:=λa b c:H3=>Ct a.1 b.1 c.1≠0/\p=Il a b c) (λa b c h=>⟨by rw[xc];have:=h.1;grind,by rw[h.2,ah7 a b c h.1]⟩) (λa b c h=>⟨by rw[xZ];have:=h.1;grind,by rw[h.2,ah6 a b c h.1]⟩) ?_ ?_ ?_ ma mb mc ⟨hd,hp⟩
  .intro e;refine hd ?_;rw[e];unfold Ct;rw[UY];unfold AI o3;grind
  .intro e;refine hd ?_;rw[e];unfold Ct;rw[Nf,Ye]
  .intro e;refine hd ?_;rw[e];unfold Ct;rw[Nf,o7]
 .grind
theorem nW(I:CF S M)(hp:Mem M p)(mf:f∈S)(tf:val f.1 p=0){g:H3}(mg:g∈M)(tg:val g p=0)(hc:AY f.1.1 g.1≠o3):∃f'∈S,f'.1≠f.1/\val f'.1 p=0:=by
 let⟨o,ho⟩:=I.int;have d0:AI f.1.1 (AY (AY f.1.1 g.1) f.1.1)=0:=Ye _ _;have d1:0<AI g.1 (AY (AY f.1.1 g.1) f.1.1):=by
  have:=MK hc;have e:AI g.1 (AY (AY f.1.1 g.1) f.1.1)=AI (AY f.1.1 g.1) (AY f.1.1 g.1):=by unfold AI AY;grind
  rw[e];exact this
 generalize AY (AY f.1.1 g.1) f.1.1=d at d0 d1
 let⟨k,mk,⟨tk,pk⟩,hm⟩:=least (λk:H3=>val k p=0/\0<AI k.1 d) (λk=> -val k o/AI k.1 d) M ⟨g,mg,tg,d1⟩;have lk: -val k o/AI k.1 d*AI k.1 d= -val k o:=Nu AK;have l0:0< -val k o/AI k.1 d:=by rw[OT];exact Ft (by have:=ho k mk;grind)<|Qi.2 pk
 generalize hl: -val k o/AI k.1 d=r at lk l0 hm
 have dw:∀x:H3,val x p=0->AI x.1 (Bn (Af o p)<|B7 d r)=val x o+r*AI x.1 d:=λx tx=>by rw[No,Ff,val_sub,tx];grind
 let⟨e,e0,he⟩:=room hp (w:=Bn (Af o p)<|B7 d r) λx mx tx=>by
  rw[dw x tx];have vx:=ho x mx;by_cases px:0<AI x.1 d
  .have h1:=hm x mx ⟨tx,px⟩;have h2:=Zu h1<|Fu px
   rw[Nu AK] at h2
   grind
  .have:=DX (Fu l0) (show 0<= -AI x.1 d by grind)
   grind
 obtain⟨e2,e20,he2⟩:∃e2:Rat,0<e2/\e2<=e/\∀x∈M,val x p<0->val x (Bn p<|B7 (Bn (Af o p)<|B7 d r) e2)<0:=by
  have:=hp
  generalize Bn (Af o p) (B7 d r)=w at he
  have half:∀x∈M,val x p<0->val x (Bn p<|B7 w<|e/2)<0:=λx mx vx=>by have h1:=he e (Fu e0) G5 x mx;rw[Oa] at h1⊢;have e3:e/2*AI x.1 w=(1/2)*(e*AI x.1 w):=AK;rw[e3];grind
  exact⟨e/2,AK,AK,half⟩
 have q1:=he e2 (Fu e20) he2.1;have tq:val k (Bn p<|B7 (Bn (Af o p)<|B7 d r) e2)=0:=by rw[Oa,dw k tk,lk,tk];grind
 have fq:val f.1 (Bn p<|B7 (Bn (Af o p)<|B7 d r) e2)<0:=by
  rw[Oa,dw f.1 tf,d0,tf];have:=Ft e20 (show 0< -val f.1 o by have:=ho f.1 (I.DT f mf).1;grind)
  grind
 let⟨f',mf',tf'⟩:=I.cover _ q1 ⟨k,mk,tq⟩;refine⟨f',mf',λe=>?_,?_⟩
 .rw[e] at tf';grind
 .refine Ck λhne=>?_
  have m1:=(I.DT f' mf').1;have h1:=hp f'.1 m1;have:=he2.2 f'.1 m1 AK
  grind
def o4(I:CF S M)(mf:f∈S)(mg:g∈S)(hne:f.1≠g.1)(tf:val f.1 p=0)(tg:val g.1 p=0):AY f.1.1 g.1.1≠o3:=λhc=>by let⟨o,ho⟩:=I.int;exact hne<|rB ho I.nz I.norm (I.DT f mf).1 (I.DT g mg).1 hc tf tg
theorem SA(hu:Mem M u)(hv:Mem M v)(ho:Gl (val h u) (val h v)=true){k:H3}(mk:k∈M):val k (Fy h u v)=0↔val k u=0/\val k v=0:=by
 have t:=Pw ho;unfold Fy;rw[Fs]
 generalize val h u/(val h u-val h v)=r at t
 have a:=DX (show 0<=1-r by grind) (show 0<= -val k u by have:=hu k mk;grind);have b:=DX (show 0<=r by grind) (show 0<= -val k v by have:=hv k mk;grind);constructor
 .intro e;have a0:(1-r)*val k u=0:=AK;have b0:r*val k v=0:=AK;constructor
  .rcases Ha.1 a0 with x|x<;>grind
  .rcases Ha.1 b0 with x|x<;>grind
 .rintro⟨e1,e2⟩;rw[e1,e2];grind
theorem alm(I:CF S M)(hu:Bi M u)(hv:Bi M v)(h0:val h u<0)(h1:0<val h v)(mf:f∈S)(mg:g∈S)(hne:f.1≠g.1)(fu:val f.1 u=0)(fv:val f.1 v=0)(gu:val g.1 u=0)(gv:val g.1 v=0):Bi (h::M) (Fy h u v)/\val h (Fy h u v)=0:=by
 have ho:Gl (val h u) (val h v)=true:=Kc.2<| .inl ⟨h0,h1⟩
 have t:=Pw ho;have hz:=Z9 ho;have f1:=(I.DT f mf).1;have g1:=(I.DT g mg).1;have hc:=o4 I mf mg hne fu gu;let⟨s,hs⟩:=along hc (d:=Af v u) (by rw[val_sub,fu,fv];grind) (by rw[val_sub,gu,gv];grind);refine⟨aBf (f:=f.1) (g:=g.1) (h:=h) (λk mk=>?_) (Br _ f1) (Br _ g1) Cz ((SA hu.1 hv.1 ho f1).2 ⟨fu,fv⟩) ((SA hu.1 hv.1 ho g1).2 ⟨gu,gv⟩) hz λe=>?_,hz⟩
 .rcases Am.1 mk with e|mk
  .rw[e,hz];exact G5
  .unfold Fy;rw[Fs]
   generalize val h u/(val h u-val h v)=r at t
   have a:=DX (show 0<=1-r by grind) (show 0<= -val k u by have:=hu.1 k mk;grind);have b:=DX (show 0<=r by grind) (show 0<= -val k v by have:=hv.1 k mk;grind)
   grind
 .have hd:AI h.1 (Af v u)=val h v-val h u:=val_sub h u v;rw[hs,Ff,e] at hd
  grind
theorem zx(I:CF S M){u' v':Q3}(hu:Bi M u)(hv:Bi M v)(Jr:Bi M u')(JT:Bi M v')(h0:val h u<0)(h1:0<val h v)(h0':val h u'<0)(h1':0<val h v')(mf:f∈S)(mg:g∈S)(hne:f.1≠g.1)(fu:val f.1 u=0)(fv:val f.1 v=0)(gu:val g.1 u=0)(gv:val g.1 v=0)
 (e:Fy h u v=Fy h u' v'):u=u'/\v=v':=by
 have ho:Gl (val h u) (val h v)=true:=Kc.2<| .inl ⟨h0,h1⟩
 have Jt:Gl (val h u') (val h v')=true:=Kc.2<| .inl ⟨h0',h1'⟩
 have f1:=(I.DT f mf).1;have g1:=(I.DT g mg).1;have hc:=o4 I mf mg hne fu gu;have tf:val f.1 u'=0/\val f.1 v'=0:=(SA Jr.1 JT.1 Jt f1).1 (by rw[<-e];exact(SA hu.1 hv.1 ho f1).2 ⟨fu,fv⟩);have tg:val g.1 u'=0/\val g.1 v'=0:=(SA Jr.1 JT.1 Jt g1).1 (by rw[<-e];exact(SA hu.1 hv.1 ho g1).2 ⟨gu,gv⟩);have huv:u≠v:=λe=>by rw[e] at h0;grind
 have line:∀x,Bi M x->val f.1 x=0->val g.1 x=0->x=u\/x=v:=λx hx fx gx=>by
  refine Ck λc=>?_
  have c1:u≠x:=λe=>c<| .inl e.symm
  have c2:v≠x:=λe=>c<| .inr e.symm
  refine Yq hu hv hx huv c1 c2 ?_;let⟨s,hs⟩:=along hc (d:=Af v u) (by rw[val_sub,fu,fv];grind) (by rw[val_sub,gu,gv];grind);let⟨r,hr⟩:=along hc (d:=Af x u) (by rw[val_sub,fu,fx];grind) (by rw[val_sub,gu,gx];grind);rw[hs,hr];exact FQ
 constructor
 .rcases line u' Jr tf.1 tg.1 with a|a
  .exact a.symm
  .rw[a] at h0';grind
 .rcases line v' JT tf.2 tg.2 with a|a
  .rw[a] at h1';grind
  .exact a.symm
theorem qo{w:Q3}(hu:Bi M u)(hv:Bi M v)(hw:Bi M w)(h0:val h u<0)(h1:0<val h v):Fy h u v≠w:=λe=>by
 have t:=Pw (x:=val h u) (y:=val h v)<|Kc.2<| .inl ⟨h0,h1⟩
 have:=gP hw hu.1 hv.1 t.1 t.2.1 e.symm;rw[this] at h0;grind
def ai6(I:CF S M)(hp:Bi (h::M) p):Bi M p\/∃u v,Bi M u/\Bi M v/\val h u<0/\0<val h v/\p=Fy h u v/\∃f∈S,∃g∈S,f.1≠g.1/\val f.1 u=0/\val f.1 v=0/\val g.1 u=0/\val g.1 v=0:=by
 rcases oq I.bdd hp with h1|⟨hz,u,v,hu,hv,ho,e,ht,f,mf,g,mg,tf,tg,hc⟩
 .exact .inl h1
 .right;have hm:Mem M p:=λk mk=>hp.1 k<|Br _ mk
  let⟨f1,m1,t1⟩:=I.cover p hm ⟨f,mf,tf⟩;have two:∃f2∈S,f2.1≠f1.1/\val f2.1 p=0:=by
   rcases indep (I.nz _ (I.DT f1 m1).1) hc with c|c
   .exact nW I hm m1 t1 mf tf c
   .exact nW I hm m1 t1 mg tg c
  let⟨f2,m2,ne,t2⟩:=two;have a1:=ht _ (I.DT f1 m1).1 t1;have a2:=ht _ (I.DT f2 m2).1 t2;rcases Kc.1 ho with⟨x,y⟩|⟨x,y⟩
  .exact⟨u,v,hu,hv,x,y,e,f2,m2,f1,m1,ne,a2.1,a2.2,a1.1,a1.2⟩
  .exact⟨v,u,hv,hu,y,x,by rw[e];exact aAF ho,f2,m2,f1,m1,ne,a2.2,a2.1,a1.2,a1.1⟩
def T6:Q3->A3 Q3->Q3
 |_,[]=>o3|p,q::l=>Bn (AY p q)<|T6 q l
def acC:A3 Q3->Q3
 |[]=>o3|p::l=>T6 p<|l++[p]
def aiT(a b c:Q3):Bn (Bn a b) c=Bn a (Bn b c):=FQ
def ajw(a b:Q3):Bn a b=Bn b a:=FQ
def ac1(a:Q3):Bn a o3=a:=FQ
def ap2(a:Q3):Bn o3 a=a:=by rw[ajw,ac1]
def Ld(o:Q3):Q3->A3 Q3->Q3
 |_,[]=>o3|p,q::l=>Bn (AY (Af p o)<|Af q o)<|Ld o q l
theorem zt(o:Q3):∀(l:A3 Q3) (p:Q3),Bn (AY o p) (T6 p<|l++[o])=Ld o p l
 |[],p=>K5 (by simp only[Ld,T6,Ie,Bn,AY,o3];grind) (by simp only[Ld,T6,Ie,Bn,AY,o3];grind) (by simp only[Ld,T6,Ie,Bn,AY,o3];grind)
 |q::l,p=>by
  have ih:=zt o l q;show Bn (AY o p) (Bn (AY p q)<|T6 q<|l++[o])=Bn (AY (Af p o)<|Af q o) (Ld o q l);rw[<-ih]
  generalize T6 q (l++[o])=w
  exact FQ
def yz(o p:Q3)(l:A3 Q3):acC (o::p::l)=Ld o p l:=zt o l p
def pI(o x:Q3):∀(l:A3 Q3) (p y:Q3) (B:A3 Q3),p::l=B++[y]->Ld o p (l++[x])=Bn (Ld o p l) (AY (Af y o)<|Af x o)
 |[],p,y,B,e=>by
  have:p=y:=by cases B with|nil=>simpa using e|cons b B=>simp at e
  subst this;show Bn _ o3=Bn o3 _;rw[ac1,ap2]
 |q::l,p,y,B,e=>by
  cases B with
  |nil=>simp at e
  |cons b B=>rw[Se,List.cons.injEq] at e;show Bn (AY (Af p o)<|Af q o) (Ld o q<|l++[x])=Bn (Bn (AY (Af p o)<|Af q o)<|Ld o q l) _;rw[pI o x l q y B e.2,aiT]
theorem zC{L:A3 H3}(hb:EV L){f:H3}(mf:f∈L)(hf:f.1≠o3){l:A3 Q3}(hl:FT f.1 l)(h3:3<=l.length)(hv:∀p,p∈l↔Bi L p/\val f p=0):l.length<=L.length:=by
 have ex:∀s:Q3×Q3,∃g:H3,s∈E7 l->g∈L/\val g s.1=0/\val g s.2=0/\AY f.1 g.1≠o3:=λs=>by
  by_cases hs:s∈E7 l
  .let⟨g,h⟩:=oI hb mf hf hl h3 hv hs;exact⟨g,λ_=>h⟩
  .exact⟨f,λh=>absurd h hs⟩
 let⟨G,hG⟩:=Classical.axiomOfChoice ex;have nd:(E7 l).Pairwise λs r=>s.1≠r.1:=by
  have:((E7 l).map Prod.fst).Nodup:=by rw[Vp];exact hl.nodup h3
  exact M0.1 this
 have inj:(E7 l).Pairwise λs r=>G s≠G r:=Sg (λ{s r} ms mr hne e=>by
  let⟨mg,s1,s2,hc⟩:=hG s ms;let⟨_,r1,r2,_⟩:=hG r mr;rw[<-e] at r1 r2;let⟨a1,a2,a3,_⟩:=MN hl h3 ms;let⟨b1,b2,b3,_⟩:=MN hl h3 mr;have line:∀x∈l,val (G s) x=0->x=s.1\/x=s.2:=λx mx gx=>by
   refine Ck λc=>?_
   let⟨vu,fu⟩:=(hv _).1 a1;let⟨vv,fv⟩:=(hv _).1 a2;let⟨vx,fx⟩:=(hv _).1 mx;refine Yq vu vv vx a3 (λe=>c<| .inl e.symm) (λe=>c<| .inr e.symm) ?_;let⟨t,ht⟩:=along hc (d:=Af s.2 s.1) (by rw[val_sub,fu,fv];grind) (by rw[val_sub,s1,s2];grind);let⟨w,hw⟩:=along hc (d:=Af x s.1) (by rw[val_sub,fu,fx];grind) (by rw[val_sub,s1,gx];grind);rw[ht,hw];exact FQ
  have x1:=(line r.1 b1 r1).resolve_left<|λe=>hne e.symm
  have x2:r.2=s.1:=(line r.2 b2 r2).resolve_right λe=>b3 (by rw[x1,e])
  have:(s.2,s.1)∈E7 l:=by rw[<-x1,<-x2];exact mr
  exact oJ hl h3 (a:=s.1) (b:=s.2) ms this) nd
 have:=Kb (l:=(E7 l).map G) (T:=L) (M0.2 inj) λx mx=>by obtain⟨s,ms,rfl⟩:=BM.1 mx;exact(hG s ms).1
 rw[C2] at this;have e:(E7 l).length=l.length:=by rw[<-C2 (f:=Prod.fst),Vp]
 omega
def sm{α:Type}(f:α->Rat):A3 α->Rat
 |[]=>0|x::l=>f x+sm f l
end
section
variable{α β:Type}{f g:α->Rat}{l m:List α}
theorem abO:sm f (l++m)=sm f l+sm f m:=by induction l with|nil=>show _=0+_;grind|cons x l ih=>show f x+sm f (l++m)=f x+sm f l+sm f m;rw[ih];grind
theorem pq(h:l.Perm m):sm f l=sm f m:=by induction h with|nil=>rfl|cons x _ ih=>show f x+_=f x+_;rw[ih]|swap x y l=>show f y+(f x+_)=f x+(f y+_);grind|trans _ _ a b=>rw[a,b]
theorem yo(h:∀x∈l,f x=g x):sm f l=sm g l:=by
 induction l with
 |nil=>rfl
 |cons x l ih=>show f x+_=g x+_;rw[h x Cz,ih λy m=>h y<|Br _ m]
theorem jN:sm (λx=>f x-g x) l=sm f l-sm g l:=by induction l with|nil=>show(0:Rat)=0-0;grind|cons x l ih=>show f x-g x+sm (λx=>f x-g x) l=f x+sm f l-(g x+sm g l);rw[ih];grind
theorem qz{h:β->α}{l:A3 β}:sm f (l.map h)=sm (λx=>f<|h x) l:=by induction l with|nil=>rfl|cons x l ih=>show f (h x)+_=f (h x)+_;rw[ih]
theorem amU{h:β->A3 α}{l:A3 β}:sm f (l.flatMap h)=sm (λx=>sm f<|h x) l:=by induction l with|nil=>rfl|cons x l ih=>rw[OX,abO,ih];rfl
theorem qD[DecidableEq α](h1:l.Nodup)(h2:m.Nodup)(h:∀x,x∈l↔x∈m):l.Perm m:=(List.perm_ext_iff_of_nodup h1 h2).2 λx=>h x
end
section
variable{S:A3 Bq}{M:A3 H3}{l:A3 Q3}{n p o:Q3}
theorem p7(hl:FT n l)(h3:3<=l.length){a b:Q3}:(a,b)∈E7 l↔a∈l/\b∈l/\a≠b/\∀c∈l,c≠a->c≠b->0<Bp n a b c:=by
 refine⟨λh=>MN hl h3 h,λ⟨ma,mb,hne,h⟩=>?_⟩;rw[<-Vp l] at ma;let⟨⟨a',x⟩,ms,e⟩:=BM.1 ma;dsimp only at e;subst e;let⟨_,mx,hx,hl'⟩:=MN hl h3 ms;dsimp only at*;by_cases e:x=b
 .grind
 .have h1:=h x mx (λc=>hx c.symm) e;have h2:=hl' b mb (λc=>hne c.symm) λc=>e c.symm
  have:Bp n a' x b= -Bp n a' b x:=by unfold Bp AI AY Af;grind
  grind
def nF(hl:FT n l)(h3:3<=l.length):(E7 l).Nodup:=by have h:=hl.nodup h3;rw[<-Vp l] at h;exact(M0.1 h).imp λ{s t} hne e=>hne (by rw[e])
theorem ahb{m:A3 Q3}(hl:FT n l)(hm:FT n m)(h3:3<=l.length)(h3':3<=m.length)(h:∀z,z∈l↔z∈m):(E7 l).Perm (E7 m):=
 qD (nF hl h3) (nF hm h3') λ⟨a,b⟩=>by
  rw[p7 hl h3,p7 hm h3'];constructor
  .grind
  .grind
theorem xz(I:CF S M){f g:Bq}(mf:f∈S)(mg:g∈S)(hne:f.1≠g.1){q:Q3}(hs:(p,q)∈E7 f.2)(gp:val g.1 p=0)(gq:val g.1 q=0):(q,p)∈E7 g.2:=by
 let⟨f1,f2,f3,f4⟩:=I.DT f mf;let⟨g1,g2,g3,g4⟩:=I.DT g mg;let⟨mp,mq,hpq,hl⟩:=MN f2 f3 hs;dsimp only at*;let⟨vp,fp⟩:=(f4 p).1 mp;let⟨vq,fq⟩:=(f4 q).1 mq;have hc:=o4 I mf mg hne fp gp;have nf:=MK<|I.nz _ f1
 have ng:=MK<|I.nz _ g1
 let⟨t,ht⟩:=along hc (d:=Af q p) (by rw[val_sub,fp,fq];grind) (by rw[val_sub,gp,gq];grind);have line:∀x,Bi M x->val f.1 x=0->val g.1 x=0->x=p\/x=q:=λx hx fx gx=>by
  refine Ck λc=>?_
  refine Yq vp vq hx hpq (λe=>c<| .inl e.symm) (λe=>c<| .inr e.symm) ?_;let⟨r,hr⟩:=along hc (d:=Af x p) (by rw[val_sub,fp,fx];grind) (by rw[val_sub,gp,gx];grind);rw[ht,hr];exact FQ
 have asL:0<t:=by
  let⟨s,ms,sp,sq⟩:=ac4 (f2.nodup f3) f3 p q;have o:=hl s ms sp sq;let⟨vs,fs⟩:=(f4 s).1 ms;have gs:val g.1 s<0:=by
   have:=vs.1 g.1 g1;have:val g.1 s≠0:=λe=>(line s vs fs e).elim sp sq
   grind
  have e1:Bp f.1.1 p q s=t*(AI f.1.1 g.1.1*AI f.1.1 (Af s p)-AI f.1.1 f.1.1*AI g.1.1 (Af s p)):=by unfold Bp;rw[ht];unfold AI AY B7;grind
  rw[val_sub,val_sub,fs,fp,gp] at e1;refine Ck λc=>?_
  have:=DX (show 0<= -t by grind) (DX (Fu nf) (show 0<= -val g.1 s by grind))
  grind
 refine(p7 g2 g3).2 ⟨(g4 q).2 ⟨vq,gq⟩,(g4 p).2 ⟨vp,gp⟩,λe=>hpq e.symm,λr mr rq rp=>?_⟩;let⟨vr,gr⟩:=(g4 r).1 mr;have fr:val f.1 r<0:=by
  have:=vr.1 f.1 f1;have:val f.1 r≠0:=λe=>(line r vr e gr).elim rp rq
  grind
 have e2:Bp g.1.1 q p r=t*(AI g.1.1 f.1.1*AI g.1.1 (Af r q)-AI g.1.1 g.1.1*AI f.1.1 (Af r q)):=by
  have:Bp g.1.1 q p r= -AI g.1.1 (AY (Af q p)<|Af r q):=by unfold Bp AI AY Af;grind
  rw[this,ht];unfold AI AY B7;grind
 rw[val_sub,val_sub,gr,gq,fq] at e2;have:=Ft asL (Ft ng (show 0< -val f.1 r by grind))
 grind
theorem afq(I:CF S M){q:Q3}(h:(p,q)∈S.flatMap λf=>E7 f.2):(q,p)∈S.flatMap λf=>E7 f.2:=by
 let⟨f,mf,hs⟩:=Mf.1 h;let⟨f1,f2,f3,f4⟩:=I.DT f mf;let⟨mp,mq,hpq,_⟩:=MN f2 f3 hs;let⟨vp,fp⟩:=(f4 _).1 mp;let⟨vq,fq⟩:=(f4 _).1 mq;let⟨k,mk,kp,kq,hc⟩:=oI I.bdd f1 (I.nz _ f1) f2 f3 f4 hs;dsimp only at*;have hm:∀h∈M,val h (Dk p q<|1/2)=1/2*val h p+1/2*val h q:=λh _=>by rw[Fs];grind
 let⟨g,mg,gf,tg⟩:=nW I (p:=Dk p q<|1/2) (λh mh=>by rw[hm h mh];have:=vp.1 h mh;have:=vq.1 h mh;grind) mf (by rw[hm _ f1,fp,fq];grind) mk (by rw[hm k mk,kp,kq];grind) hc
 have g1:=(I.DT g mg).1;rw[hm _ g1] at tg;have a:=vp.1 _ g1;have b:=vq.1 _ g1;exact Mf.2 ⟨g,mg,xz I mf mg (λe=>gf e.symm) hs AK AK⟩
def ahc(I:CF S M):(S.flatMap λf=>E7 f.2).Nodup:=by refine ij.2 ⟨λf mf=>nF (I.DT f mf).2.1 (I.DT f mf).2.2.1,I.P0.imp_of_mem λ{f g} mf mg hne x mx y my e=>?_⟩;subst e;let⟨p,q⟩:=x;let⟨g1,g2,g3,g4⟩:=I.DT g mg;let⟨mp,mq,_,_⟩:=MN g2 g3 my;exact oJ g2 g3 my<|xz I mf mg hne mx ((g4 _).1 mp).2 ((g4 _).1 mq).2
theorem aha(I:CF S M){G:Q3->Q3->Rat}(hG:∀a b,G b a= -G a b):sm (λf:Bq=>sm (λs=>G s.1 s.2)<|E7 f.2) S=0:=by
 have n:=ahc I;have e:=amU (f:=λs:Q3×Q3=>G s.1 s.2) (h:=λf:Bq=>E7 f.2) (l:=S);have c:∀{p q:Q3},(p,q)∈(S.flatMap λf=>E7 f.2)->(q,p)∈(S.flatMap λf=>E7 f.2):=λh=>afq I h
 rw[<-e]
 generalize (S.flatMap λf=>E7 f.2)=P at*
 have n2:(P.map λs:Q3×Q3=>(s.2,s.1)).Nodup:=M0.2 (n.imp λ{s t} hne e=>hne (by let⟨a,b⟩:=s;let⟨d,f⟩:=t;simp[LH] at e;rw[e.1,e.2]))
 have p:=qD n n2 λ⟨a,b⟩=>by
  rw[BM];constructor
  .grind
  .grind
 have e1:=pq (f:=λs:Q3×Q3=>G s.1 s.2) p;rw[qz] at e1;have e2:sm (λs:Q3×Q3=>G s.2 s.1) P=sm (λs=>(λ_=>0) s-G s.1 s.2) P:=yo λs _=>by rw[hG s.1 s.2];grind
 rw[jN] at e2;have e3:∀Q:A3 (Q3×Q3),sm (λ_=>0) Q=0:=λQ=>by induction Q with|nil=>rfl|cons x l ih=>show 0+_=_;rw[ih];grind
 rw[e3] at e2;dsimp only at e1
 grind
def kk(c:Rat)(w o a b d:Q3):Rat:=Ct (Af a o) (Af b o) (Af d o)*(c+AI w (Bn (Bn o a)<|Bn b d))
theorem aab(c:Rat)(w z o a b d:Q3):kk c w o a b d=kk c w z a b d-(kk c w z o a b+kk c w z o b d+kk c w z o d a):=by unfold kk Ct AI AY Bn Af;grind
theorem qf(c:Rat)(w z o a b:Q3):kk c w z o b a= -kk c w z o a b:=by unfold kk Ct AI AY Bn Af;grind
def Lc(T:Q3->Q3->Rat):Q3->A3 Q3->Rat
 |_,[]=>0|p,q::l=>T p q+Lc T q l
theorem xV{T H:Q3->Q3->Rat}{o:Q3}(bK:∀a b,H b a= -H a b):∀{l:A3 Q3} {p:Q3},(∀a∈p::l,∀b∈p::l,T a b=H o a+H a b+H b o)->Lc T p l=H o p+sm (λs:Q3×Q3=>H s.1 s.2) (I8 o (p::l))
 |[],p,_=>by show(0:Rat)=H o p+(H p o+0);rw[bK o p];grind
 |q::l,p,h=>by
  show T p q+Lc T q l=H o p+(H p q+sm _ (I8 o (q::l)));rw[xV bK λa ma b mb=>h a (Br _ ma) b<|Br _ mb,h p AT q AT,bK o q]
  grind
def ajk{T H:Q3->Q3->Rat}(bK:∀a b,H b a= -H a b)(h:∀a∈p::l,∀b∈p::l,T a b=H o a+H a b+H b o):Lc T p l=sm (λs:Q3×Q3=>H s.1 s.2) (E7 (o::p::l)):=xV bK h
def GV(c:Rat)(w z:Q3):A3 Q3->Rat
 |o::p::l=>Lc (kk c w z o) p l|_=>0
theorem yU{c:Rat}{w z y e:Q3}{h:H3}(hn:h.1≠o3)(hl:∀x∈l,val h x=0)(he:val h e=0)(h3:3<=l.length):GV c w y l=sm (λs:Q3×Q3=>kk c w z e s.1 s.2-kk c w z y s.1 s.2) (E7 l):=by
 match l,h3 with
 |o::p::l,h3=>
  refine ajk (H:=λa b=>kk c w z e a b-kk c w z y a b) (λa b=>by rw[qf c w z e,qf c w z y];grind) λa ma b mb=>?_
  have ho:=hl o AT;have ha:=hl a<|Br _ ma
  have hb:=hl b<|Br _ mb
  have arq:kk c w e o a b=0:=by
   have z1:=val_sub h e o;have z2:=val_sub h e a;have z3:=val_sub h e b;rw[he,ho] at z1;rw[he,ha] at z2;rw[he,hb] at z3;have r:=flat hn (x:=Af o e) (y:=Af a e);have hd:Ct (Af o e) (Af a e) (Af b e)=0:=by
    have hp:=MK hn;have e1:Ct (Af o e) (Af a e) (Af b e)*AI h.1 h.1=AI h.1 (AY (Af a e)<|Af b e)*AI h.1 (Af o e)-AI h.1 (AY (Af o e)<|Af b e)*AI h.1 (Af a e)+AI h.1 (AY (Af o e)<|Af a e)*AI h.1 (Af b e):=by unfold Ct AI AY;grind
    rw[z1,z2,z3] at e1;rcases Ha.1 (show Ct (Af o e) (Af a e) (Af b e)*AI h.1 h.1=0 by grind) with g|g
    .exact g
    .grind
   unfold kk;rw[hd];grind
  have k1:=aab c w z e o a b;have k2:=aab c w z y o a b;rw[arq] at k1
  grind
theorem Wj(I:CF S M)(c:Rat)(w z y:Q3){W:A3 (Bq×A3 Q3)}(hW:(W.map (·.1)).Perm S)(hP:∀f∈W,FT f.1.1.1 f.2/\3<=f.2.length/\∀x,x∈f.2↔x∈f.1.2):sm (λf=>GV c w y f.2) W=sm (λf:Bq=>GV c w z f.2) S:=by
 have key:∀f∈W,GV c w y f.2=GV c w z f.1.2-sm (λs:Q3×Q3=>kk c w z y s.1 s.2) (E7 f.1.2):=λf mf=>by
  let⟨f1,f2,f3,f4⟩:=I.DT f.1<|hW.mem_iff.1<|BM.2 ⟨f,mf,rfl⟩
  let⟨p1,p2,p3⟩:=hP f mf;have hf:∀x∈f.1.2,val f.1.1 x=0:=λx mx=>((f4 x).1 mx).2
  obtain⟨e,l,hel⟩:∃e l,f.1.2=e::l:=by cases h:f.1.2 with|nil=>rw[h] at f3;simp at f3|cons e l=>exact⟨e,l,rfl⟩
  have he:val f.1.1 e=0:=hf e (by rw[hel];simp);rw[yU (z:=z) (I.nz _ f1) (λx mx=>hf x<|(p3 x).1 mx) he p2,yU (z:=z) (I.nz _ f1) hf he f3,pq<|ahb p1 f2 p2 f3 p3,jN,jN];have:sm (λs:Q3×Q3=>kk c w z z s.1 s.2) (E7 f.1.2)=0:=by
   have:∀Q:A3 (Q3×Q3),sm (λs:Q3×Q3=>kk c w z z s.1 s.2) Q=0:=λQ=>by
    induction Q with
    |nil=>rfl
    |cons x l ih=>show kk c w z z x.1 x.2+_=_;rw[ih];unfold kk Ct AI AY Af;grind
   exact this _
  rw[this];grind
 rw[yo key,<-qz (f:=λf:Bq=>GV c w z f.2-sm (λs:Q3×Q3=>kk c w z y s.1 s.2) (E7 f.2)) (h:=λf:Bq×A3 Q3=>f.1),pq hW,jN,aha I λa b=>qf c w z y a b]
 grind
theorem aar{n y:Q3}{d:Rat}(hy:val (n,d) y<0){o:Q3}:∀{l:A3 Q3} {p:Q3},FT n (o::p::l)->(∀x∈o::p::l,val (n,d) x=0)->0<=Lc (kk 1 o3 y o) p l/\(l≠[]->0<Lc (kk 1 o3 y o) p l)
 |[],_,_,_=>⟨G5,λh=>absurd rfl h⟩
 |q::l,p,hc,ht=>by
  have ih:=(aar hy (FT.sub hc<|(List.sublist_cons_self p (q::l)).cons_cons o) λx mx=>ht x (by simp[Am] at mx⊢;grind)).1;have ho:=hc o p q AT;have tz:=ht o AT;have u1:=val_sub (n,d) o p;have u2:=val_sub (n,d) o q;have u3:=val_sub (n,d) y o;rw[tz,ht p AT] at u1;rw[tz,ht q AT] at u2;rw[tz] at u3;have nn:0<AI n n:=MK λe=>by rw[e] at ho;unfold Bp AI o3 at ho;grind
  have pos:0<kk 1 o3 y o p q:=by
   have e:kk 1 o3 y o p q*AI n n=Bp n o p q*AI n (Af o y)+(AI n (Af p o)*AI (Af q o) (AY (Af o y) n)-AI n (Af q o)*AI (Af p o) (AY (Af o y) n)):=by unfold kk Ct Bp AI AY Af Bn o3;grind
   dsimp only at u1 u2 u3;rw[u1,u2,u3] at e;have m:=Ft ho (show 0< -val (n,d) y by grind);refine Ck λg=>?_
   have:=DX (show 0<= -kk 1 o3 y o p q by grind)<|Fu nn
   grind
  have:0<Lc (kk 1 o3 y o) p (q::l):=by show 0<kk 1 o3 y o p q+Lc (kk 1 o3 y o) q l;grind
  exact⟨Fu this,λ_=>this⟩
theorem aBg(I:CF S M):0<sm (λf:Bq=>GV 1 o3 o3 f.2) S:=by
 let⟨y,hy⟩:=I.int;have ne:S≠[]:=λe=>by let⟨v,hv,_⟩:=Pm I.bdd (p:=y) (λh mh=>Fu<|hy h mh) y;refine absurd (hv.2 (1,0,0) λh mh th=>?_) (λc=>by have:=congrArg Prod.fst c;simp[o3] at this);let⟨f,mf,_⟩:=I.cover v hv.1 ⟨h,mh,th⟩;rw[e] at mf;cases mf
 have e:=Wj I 1 o3 o3 y (W:=S.map λf=>(f,f.2)) (by rw[Nk];simp[Function.comp_def]) λf mf=>by obtain⟨g,mg,rfl⟩:=BM.1 mf;let⟨_,f2,f3,_⟩:=I.DT g mg;exact⟨f2,f3,λx=>Iff.rfl⟩
 rw[<-e,qz];have one:∀f∈S,0<GV 1 o3 y f.2:=λf mf=>by
  let⟨f1,f2,f3,f4⟩:=I.DT f mf;have tight:∀x∈f.2,val f.1 x=0:=λx mx=>((f4 x).1 mx).2
  have hf:=hy _ f1
  match h:f.2,f3 with
  |o::p::q::l,_=>rw[h] at f2 tight;exact(aar (d:=f.1.2) hf f2 tight).2 AT
 have all:∀T:A3 Bq,(∀f∈T,0<GV 1 o3 y f.2)->0<=sm (λf:Bq=>GV 1 o3 y f.2) T:=λT=>by
  induction T with
  |nil=>intro _;exact G5
  |cons f T ih=>
   intro h;have a:=h f Cz;have b:=ih λg mg=>h g<|Br _ mg
   show 0<=GV 1 o3 y f.2+_
   grind
 match S,ne,one with
 |f::T,_,one=>
  have a:=one f Cz;have b:=all T λg mg=>one g<|Br _ mg
  show 0<GV 1 o3 y f.2+_
  grind
theorem zu(o y:Q3):∀(l:A3 Q3) (p:Q3),AI (Af o y) (Ld o p l)=Lc (kk 1 o3 y o) p l
 |[],p=>Uo _
 |q::l,p=>by
  show AI (Af o y) (Bn (AY (Af p o)<|Af q o)<|Ld o q l)=kk 1 o3 y o p q+Lc (kk 1 o3 y o) q l;rw[No,zu o y l q]
  congr 1
  unfold kk Ct AI AY Af Bn o3;grind
end
section
variable{n m:Nat}{l:A3 Int}{k:Nat}{q:Rat}{x:Int}{a:A3 Int}{c d:Nat}{p:Bool×A3 Int}{z:Int}{b:A3 Int}{j:Nat}{ρ:Type}{u:AA}{y:Int}{w v:A3 Int}{u0 v0 v1:Int}{R:ρ->Prop}{neg:Bool}{core:AA}{U2:Int}{i:Nat}{α:Type}{f:Int}{s:AA}
abbrev BT:Int:=1000000000
def AL:A3 Int->Int
 |[]=>0|x::l=>x+BT*AL l
def Cg(l:A3 Int):Prop:=∀x∈l,0<=x/\x<BT
def BP(n:Nat):Int:=BT^n
def Tw:BP 0=1:=rfl
def K3(n:Nat):BP (n+1)=BT*BP n:=by unfold BP;rw[Int.pow_succ,FM]
def Nh:∀n,0<BP n
 |0=>by rw[Tw];omega|n+1=>by rw[K3];have:=Nh n;unfold BT;omega
theorem gX(m n:Nat):BP (m+n)=BP m*BP n:=by grind [BP]
def N1(x:Int)(l:A3 Int):AL (x::l)=x+BT*AL l:=rfl
def Rz:∀(l m:A3 Int),AL (l++m)=AL l+BP l.length*AL m
 |[],m=>by simp[AL,Tw]
 |x::l,m=>by rw[Se,N1,N1,Rz l m,E2,K3,Dc,FW];omega
def gy:Cg []:=by intro x h;cases h
theorem gJ:Cg (x::l)↔(0<=x/\x<BT)/\Cg l:=by simp_all [Cg,BT]
theorem ek{m:A3 Int}:Cg (l++m)↔Cg l/\Cg m:=by grind [Cg]
theorem MQ(h:Cg l)(n:Nat):Cg (l.take n):=by grind [Cg]
theorem Tx(h:Cg l)(n:Nat):Cg (l.drop n):=by grind [Cg]
theorem HW(h:Cg l)(n:Nat):0<=l.getD n 0/\l.getD n 0<BT:=by
 by_cases hn:n<l.length
 .have:l.getD n 0=l[n]:=by simp[JB,hn]
  rw[this];exact h _<|Lz hn
 .grind
theorem mR(n:Nat):Cg (List.replicate n 0):=by grind [Cg]
theorem ZN(h:Cg l)(n:Nat)(hx:0<=x/\x<BT):Cg (l.set n x):=by(simp_all [Cg,BT]<;>grind)
def uu:∀n,AL (List.replicate n 0)=0
 |0=>rfl|n+1=>by rw[List.replicate_succ,N1,uu n];omega
def F7:∀{l:A3 Int},Cg l->0<=AL l/\AL l<BP l.length
 |[],_=>by simp[AL,Tw]
 |x::l,h=>by rw[gJ] at h;let⟨h1,h2⟩:=F7 h.2;rw[N1,E2,K3];have:=h.1;unfold BT at*;omega
def VK(h:n<l.length):AL (l.take<|n+1)=AL (l.take n)+BP n*l.getD n 0:=by rw[dC h,Rz,EK,EZ A4];simp[AL]
def S3(l:A3 Int)(n:Nat)(h:n<=l.length):AL l=AL (l.take n)+BP n*AL (l.drop n):=by
 conv=>lhs;rw[<-Oi n l]
 rw[Rz,EK,EZ h]
def To:∀{l:A3 Int},Cg l->l≠[]->l.getLast?≠some 0->BP (l.length-1)<=AL l
 |[],_,h,_=>absurd rfl h
 |[x],h,_,hl=>by
  rw[gJ] at h;have:x≠0:=λe=>hl (by rw[e];rfl)
  simp[AL,Tw];omega
 |x::y::l,h,_,hl=>by rw[gJ] at h;have:=To (l:=y::l) h.2 AT (by simpa using hl);rw[N1,show(x::y::l).length-1=(y::l).length-1+1 from by simp,K3];have:=h.1;unfold BT at*;omega
def GB(w:A3 Int):Prop:=Cg w/\w.getLast?≠some 0
def GB.nil:GB []:=⟨gy,AT⟩
def GB.len(h:GB w)(hv:AL w<BP n):w.length<=n:=by
 by_cases h0:w=[]
 .subst h0;simp
 .have h1:=To h.1 h0 h.2;rcases Hl n w.length with h2|h2
  .have:BP n<=BP (w.length-1):=by obtain⟨k,hk⟩:∃k,w.length-1=n+k:=⟨w.length-1-n,A4⟩;rw[hk,gX];have a:=Nh n;have b:=Nh k;have:BP n*1<=BP n*BP k:=F0 A4 A4;omega
   omega
  .exact h2
def aBi(h:n<l.length):AL l=AL (l.take n)+BP n*(l.getD n 0+BT*AL (l.drop<|n+1)):=by
 rw[S3 l n A4]
 congr 2
 rw[US h,N1]
 congr 1
 simp[JB,h]
def zA(h:m<=n):BP m<=BP n:=by obtain⟨k,rfl⟩:∃k,n=m+k:=⟨n-m,A4⟩;rw[gX];have a:=Nh m;have b:=Nh k;have:BP m*1<=BP m*BP k:=F0 A4 A4;omega
def eX(ha:Cg a)(hb:GB b)(h:a.length<b.length):AL a<AL b:=by have h1:=(F7 ha).2;have h2:=To hb.1 (by intro e;subst e;simp at h) hb.2;have h3:=zA (show a.length<=b.length-1 by omega);omega
def IY(l:A3 Int)(n:Nat):AL (l.take<|n+1)=AL (l.take n)+BP n*l.getD n 0:=by
 rcases Hl n l.length with h|h
 .exact VK h
 .rw[j8 h,D6 A4,D6 h];omega
def aev(h:AL (l.drop n)=0)(hk:Cg l)(hm:n<=m):l.getD m 0=0:=by
 have key:∀(l:A3 Int) (j:Nat),Cg l->AL l=0->l.getD j 0=0:=by
  intro l
  induction l with
  |nil=>intro j _ _;simp
  |cons x l ih=>intro j hk hv;rw[gJ] at hk;rw[N1] at hv;have h1:=(F7 hk.2).1;have hx:=hk.1;unfold BT at*;cases j with|zero=>simp;omega|succ j=>simpa using ih j hk.2 A4
 have:=key (l.drop n) (m-n) (Tx hk n) h;simpa[JB,UK,show n+(m-n)=m by omega] using this
theorem anl{q r:Int}(e:q*v1+r=U2)(h:BT*r+u0<q*v0):(u0+BT*U2)+1<=q*(v0+BT*v1):=by grind
def anm{q r:Int}(e:q*v1+r=U2)(hr:r<v1)(hu:u0<BT)(hq:0<=q)(hv:0<=v0):(u0+BT*U2)+1<=(q+1)*(v0+BT*v1):=by rw[Dc,GQ _ BT v1,<-e,IB q 1 v1,JA];have:0<=(q+1)*v0:=LN A4 hv;unfold BT at*;omega
def ann{q R P UL VL:Int}(e:q*v1+R=U2)(hq:0<=q/\q<BT)(hR:0<=R)(Hy:0<=v0/\v0<BT)(hu0:0<=u0)(hv1:BT<=2*v1)(h:BT<=R\/q*v0<=BT*R+u0)
 (hP:0<P)(hU:0<=UL)(hV:VL<P)(hV0:0<=VL):(q-1)*(VL+P*(v0+BT*v1))<=UL+P*(u0+BT*U2):=by
 have hY:q*(v0+BT*v1)<=u0+BT*U2:=by
  rw[Dc,GQ q BT v1,<-e,Dc];have:q*v0<=BT*R+u0:=by
   rcases h with h|h
   .have:q*v0<=(BT-1)*(BT-1):=Pf A4 A4 Hy.1 (by unfold BT;omega);unfold BT at*;omega
   .exact h
  omega
 have h1:=F0 hY<|EY hP
 have h2:q*VL<=BT*P:=Pf A4 A4 hV0 (by unfold BT;omega);have h3:P*BT<=P*(v0+BT*v1):=F0 (by unfold BT at*;omega)<|EY hP
 rw[ZR,JA,Dc q,GQ q P];rw[FM P BT] at h3;omega
theorem apE{u1 u2 P UL VL:Int}(hP:0<P)(hU:0<=UL)(hu0:0<=u0)(hu1:0<=u1)(hV:VL<P)(Hy:v0<BT)(h:UL+P*(u0+BT*(u1+BT*u2))<BT*(VL+P*(v0+BT*v1))):u2<=v1:=by
 rcases(show v1<u2\/u2<=v1 by omega) with h'|h'
 .exfalso;have h1:BT*(v0+BT*v1+1)<=u0+BT*(u1+BT*u2):=AK;have h2:=F0 h1<|EY hP
  rw[GQ P BT,Dc P _ 1,Ls] at h2;rw[Dc BT VL] at h;rw[Dc BT _ P] at h2;have h3:BT*VL<=BT*P:=F0 A4 (by unfold BT;omega);omega
 .exact h'
theorem aiZ(h:l.length=k+3):AL l=AL (l.take k)+BP k*(l.getD k 0+BT*(l.getD (k+1) 0+BT*l.getD (k+2) 0)):=by have h1:AL (l.take<|k+3)=AL l:=AK;rw[<-h1,IY,IY,IY,K3<|k+1,K3,Dc,Dc,Dc,GQ (BP k) BT,GQ (BP k) BT,GQ (BP k) BT,FW,FW,FW];omega
theorem aia(h:l.length=k+2):AL l=AL (l.take k)+BP k*(l.getD k 0+BT*l.getD (k+1) 0):=by have h1:AL (l.take<|k+2)=AL l:=AK;rw[<-h1,IY,IY,K3,Dc,GQ (BP k) BT,FW];omega
def xX(h:Cg l)(hl:n<=l.length)(hv:AL l<BP n):AL (l.drop n)=0:=by
 have h1:=S3 l n hl;have h2:=(F7<|Tx h n).1;have h3:=(F7<|MQ h n).1;rcases(show AL (l.drop n)=0\/1<=AL (l.drop n) by omega) with h4|h4
 .exact h4
 .have:=F0 h4 (EY<|Nh n);omega
def div_pos(hx:0<=x)(hy:0<y)(hb:x<=9223372036854775807):Gv x y=some (x/y):=by
 unfold Gv;rw[CB A4,Int.tdiv_eq_ediv_of_nonneg hx];have h1:=LO hx<|EY hy
 have h2:=Sb y hx;exact EL ⟨A4,A4⟩
def Tv(ha:Cg a)(hl:a.length<1099511627776):Yd (λw=>GB w/\AL w=AL a/\w.length<=a.length) (PF a):=by
 unfold PF;refine ET (λs:A3 Int=>Cg s/\AL s=AL a/\s.length<=a.length) (λs=>s.length) ?_ _ _ ⟨ha,rfl,BQ _⟩ A4;rintro next s ⟨h1,h2,h3⟩ hn
 refine GR (λhg=>?_)<|λhg=>?_
 .have hs:(0:Int)<s.length:=As hg;obtain⟨n,HR⟩:∃n,s.length=n+1:=⟨s.length-1,A4⟩;have e1:(s.length:Int)-1=(n:Int):=A4;rw[e1];refine⟨(n:Int),EL ⟨A4,A4⟩,GR (λ_=>⟨s.getD n 0,Bm A4,Ab (λhc=>?_)<|λhc=>?_⟩) (λh=>by rw[hg] at h;cases h)⟩
  .let⟨_,hz⟩:=EG hc;have hz:=As hz;refine A5 BH<|A5 (EC A4 A4 A4) ?_
   have e:(s.take ((n:Nat):Int).toNat).drop (0:Int).toNat=s.take n:=AT;rw[e];have hv:AL s=AL (s.take n):=by have:=VK (l:=s) (n:=n) A4;rw[hz,UD,WG,D6 A4] at this;exact this
   exact hn _ ⟨MQ h1 n,by rw[<-hv];exact h2,DJ⟩ DJ
  .refine AW ⟨⟨h1,?_⟩,h2,h3⟩;rw[B9 hs,Kg] at hc;have hz:=Bh hc;have e:s=s.take n++[s.getD n 0]:=by rw[<-dC A4,D6 A4]
   rw[e];simpa using hz
 .have hs: ¬(0:Int)<s.length:=Bh hg;have hs:s=[]:=LU A4;subst hs;exact GR (λh=>by rw[hg] at h;cases h) (λ_=>Ab (λhc=>by simp at hc)<|λ_=>AW ⟨GB.nil,h2,h3⟩)
def FE(p:Bool×A3 Int)(z:Int):Prop:=GB p.2/\AL p.2=(z.natAbs:Int)/\p.1=decide (z<0)
def GB.pos(h:GB w)(h0:w≠[]):0<AL w:=by
 have:=To h.1 h0 h.2;have:=Nh<|w.length-1
 omega
theorem xI{b:Bool}(ha:Cg a)(hl:a.length<1099511627776):Yd (λp=>FE p (bif b then -AL a else AL a)/\p.2.length<=a.length) (LA b a):=by
 unfold LA;refine Au (Tv ha hl) λw ⟨h1,h2,h3⟩=>AW ⟨⟨h1,?_,?_⟩,h3⟩
 .have:=(F7 h1.1).1;rw[<-h2];cases b
  .grind
  .grind
 .have hz:=(F7 h1.1).1;by_cases hw:w=[]
  .subst hw;have:AL a=0:=h2.symm;rw[this];cases b<;>rfl
  .have hp:=h1.pos hw;have hlw:0<w.length:=UN.2 hw;rw[<-h2];cases b
   .grind
   .grind
theorem uN(ha:GB a)(hb:GB b)(hla:a.length<4398046511104)(hlb:b.length<4398046511104):Yd (λr=>(r= -1/\AL a<AL b)\/(r=0/\AL a=AL b)\/(r=1/\AL b<AL a)) (XS a b):=by
 unfold XS;refine Ab (λhc=>Ab (λhd=>?_)<|λhd=>?_)<|λhc=>?_
 .have hd:=As hd;exact AW<| .inl ⟨rfl,eX ha.1 hb A4⟩
 .have hd:=Bh hd;rw[GM,Ih] at hc;exact AW<| .inr<| .inr ⟨rfl,eX hb.1 ha A4⟩
 .rw[WV,Hm] at hc;have hl:a.length=b.length:=A4;refine A5 BH ?_;refine ET (λs:Int=> -1<=s/\s<a.length/\a.drop (s+1).toNat=b.drop (s+1).toNat) (λs:Int=>(s+1).toNat) ?_ _ _ ⟨A4,A4,?_⟩ A4
  .rintro next s ⟨h0,h1,h2⟩ hn
   refine Ab (λhp=>?_)<|λhp=>?_
   .have hp:=As hp;obtain⟨n,rfl⟩:=FA hp;have en:(((n:Nat):Int)+1).toNat=n+1:=A4;rw[en] at h2;have gA:AB a (n:Int)=some (a.getD n 0):=Bm A4;have gB:AB b (n:Int)=some (b.getD n 0):=Bm A4;refine A5 gA<|A5 gB ?_
    have eA:=aBi (l:=a) (n:=n) A4;have eB:=aBi (l:=b) (n:=n) A4;rw[h2] at eA;let⟨tA0,tA⟩:=F7<|MQ ha.1 n
    let⟨tB0,tB⟩:=F7<|MQ hb.1 n
    rw[EK,EZ A4] at tA tB;have hpw:=Nh n;have dA:=OK (l:=a) (n:=n) A4;have dB:=OK (l:=b) (n:=n) A4
    generalize a.getD n 0=X at*
    generalize b.getD n 0=Y at*
    have eA':AL a=AL (a.take n)+BP n*X+BP n*(BT*AL (b.drop<|n+1)):=AK;have eB':AL b=AL (b.take n)+BP n*Y+BP n*(BT*AL (b.drop<|n+1)):=AK;refine Ab (λhlt=>?_)<|λhlt=>A5 gA<|A5 gB<|Ab (λhgt=>?_)<|λhgt=>?_
    .have hlt:=As hlt;have:BP n*(X+1)<=BP n*Y:=F0 A4 A4;rw[Dc,Ls] at this;exact AW<| .inl ⟨rfl,A4⟩
    .have hgt:=As hgt;have:BP n*(Y+1)<=BP n*X:=F0 A4 A4;rw[Dc,Ls] at this;exact AW<| .inr<| .inr ⟨rfl,A4⟩
    .have hlt:=Bh hlt;have hgt:=Bh hgt;have hx:X=Y:=A4;refine A5 BH<|hn _ ⟨A4,A4,?_⟩ A4
     have:(((n:Nat):Int)-1+1).toNat=n:=A4;rw[this,dA,dB,hx,h2]
   .have hp:=Bh hp;have:s= -1:=A4;subst this;exact AW (.inr (.inl ⟨rfl,by simpa using congrArg AL h2⟩))
  .have:((a.length:Int)-1+1).toNat=a.length:=A4;rw[this,Sc,hl,Sc]
theorem gN:VX a (n:Int)=some (a.getD n 0):=by
 unfold VX;by_cases h:n<a.length
 .rw[B9 A4];show bd (AB a (n:Int)) _=_;rw[Bm h];rfl
 .grind
theorem bJ(h:l.length<1099511627776):BN 8 l [x]=some (l++[x]):=by grind [BN]
theorem afb(ha:Cg a)(hb:Cg b)(hla:a.length<4398046511)(hlb:b.length<4398046511):Yd (λw=>Cg w/\AL w=AL a+AL b/\w.length<=max a.length b.length+1) (br a b):=by
 unfold br;refine ET (λs:A3 Int×Int×Int=>Cg s.1/\(s.2.1=0\/s.2.1=1)/\s.2.2=s.1.length/\s.1.length<=max a.length b.length+1/\(s.1.length=max a.length b.length+1->s.2.1=0)/\
   AL s.1+BP s.1.length*s.2.1=AL (a.take s.1.length)+AL (b.take s.1.length)) (λs=>max a.length b.length+1-s.1.length) ?_ _ _ ⟨gy,.inl rfl,rfl,AT,λ_=>rfl,by simp[AL]⟩ (by dsimp only;simp;omega)
 rintro next ⟨o,c,i⟩ ⟨h1,h2,h3,h4,h5,h6⟩ hn
 dsimp only at h1 h2 h3 h4 h5 h6 hn⊢;subst h3;refine Ab (λhc=>?_)<|λhc=>?_
 .let⟨xa,xb⟩:=HW ha o.length;let⟨ya,yb⟩:=HW hb o.length;have hlt:o.length<=max a.length b.length:=AK;have hz:o.length=max a.length b.length->a.getD o.length 0=0/\b.getD o.length 0=0:=λh=>⟨j8 A4,j8 A4⟩
  have hS:0<=a.getD o.length 0+b.getD o.length 0+c/\a.getD o.length 0+b.getD o.length 0+c<2000000000:=AK;refine A5 gN (A5 gN (A5 (EL ⟨A4,by unfold BT at*;omega⟩)<|A5 BH<|A5 (Qd hS.1 A4)<|A5 (bJ A4)<|A5 (div_pos hS.1 A4 A4)<|A5 BH<|hn _ ⟨?_,?_,?_,?_,?_,?_⟩ ?_))
  .rw[ek];exact⟨h1,λx hx=>by rw[Cv] at hx;subst hx;unfold BT;omega⟩
  .dsimp only;omega
  .grind
  .grind
  .grind
  .dsimp only;rw[DS,Fw,Rz,IY,IY,K3];have e:AL [(a.getD o.length 0+b.getD o.length 0+c)%1000000000]=(a.getD o.length 0+b.getD o.length 0+c)%1000000000:=by simp[AL]
   rw[e,FM BT,FW,<-Int.add_assoc]
   generalize a.getD o.length 0=X at*
   generalize b.getD o.length 0=Y at*
   have hd:X+Y+c=(X+Y+c)%1000000000+BT*((X+Y+c)/1000000000):=by unfold BT;omega
   have:BP o.length*((X+Y+c)%1000000000)+BP o.length*(BT*((X+Y+c)/1000000000))=BP o.length*X+BP o.length*Y+BP o.length*c:=AK;omega
  .grind
 .rw[Ki,Ki,Ih,Ih,Ih] at hc;have hc0:c=0:=A4;subst hc0;refine AW ⟨h1,?_,h4⟩;rw[D6 A4,D6 A4] at h6;omega
theorem vQ(ha:Cg a)(hb:Cg b)(hl:b.length<=a.length)(hla:a.length<4398046511)(hv:AL b<=AL a):Yd (λw=>GB w/\AL w=AL a-AL b/\w.length<=a.length) (XZ a b):=by
 unfold XZ;refine ET (λs:A3 Int×Int×Int=>Cg s.1/\(s.2.1=0\/s.2.1=1)/\s.2.2=s.1.length/\s.1.length<=a.length/\
   AL s.1=AL (a.take s.1.length)-AL (b.take s.1.length)+BP s.1.length*s.2.1) (λs=>a.length-s.1.length) ?_ _ _ ⟨gy,.inl rfl,rfl,AT,by simp[AL]⟩ (by dsimp only;simp;omega)
 rintro next ⟨o,c,i⟩ ⟨h1,h2,h3,h4,h5⟩ hn
 dsimp only at h1 h2 h3 h4 h5 hn⊢;subst h3;refine Ab (λhc=>?_)<|λhc=>?_
 .have hc:=As hc;let⟨xa,xb⟩:=HW ha o.length;let⟨ya,yb⟩:=HW hb o.length;refine A5 (Bm A4) (A5 gN (A5 (EL ⟨by unfold BT at*;omega,by unfold BT at*;omega⟩) (A5 (EL ⟨by unfold BT at*;omega,by unfold BT at*;omega⟩) ?_)));have step:∀d x:Int,(d=0\/d=1)->0<=x->x<1000000000->x=a.getD o.length 0-b.getD o.length 0-c+BT*d->Yd (λw=>GB w/\AL w=AL a-AL b/\w.length<=a.length) (bd (BN 8 o [x]) λBl=>bd (AG<|(o.length:Int)+1) λBw=>next (Bl,d,Bw)):=by
   intro d x hd hx0 hx1 hx;refine A5 (bJ A4)<|A5 BH<|hn _ ⟨?_,hd,?_,?_,?_⟩ ?_
   .rw[ek];exact⟨h1,λy hy=>by rw[Cv] at hy;subst hy;unfold BT;omega⟩
   .grind
   .grind
   .dsimp only;rw[DS,Fw,Rz,IY,IY,K3,h5];have e:AL [x]=x:=by simp[AL]
    rw[e,FM BT,FW,hx]
    generalize a.getD o.length 0=X at*
    generalize b.getD o.length 0=Y at*
    have:BP o.length*(X-Y-c+BT*d)=BP o.length*X-BP o.length*Y-BP o.length*c+BP o.length*(BT*d):=AK;omega
   .grind
  refine DZ (λp:Int×Int=>(p.1=0\/p.1=1)/\0<=p.2/\p.2<1000000000/\p.2=a.getD o.length 0-b.getD o.length 0-c+BT*p.1) (λp hp=>step p.1 p.2 hp.1 hp.2.1 hp.2.2.1 hp.2.2.2) λk hk=>Ab (λhd=>?_)<|λhd=>?_
  .have hd:=As hd;refine A5 (EL ⟨by unfold BT at*;omega,by unfold BT at*;omega⟩) (hk _ ⟨.inr rfl,?_,?_,?_⟩)<;>(dsimp only;unfold BT at*;omega)
  .grind
 .have hc:=Bh hc;have hlen:o.length=a.length:=A4;rw[D6 A4,D6 A4] at h5;let⟨z1,z2⟩:=F7 h1;have hc0:c=0:=AK;subst hc0;refine Au (Tv h1 A4) λw ⟨g1,g2,g3⟩=>AW ⟨g1,by rw[g2,h5];omega,A4⟩
theorem vt{d:Int}(ha:Cg a)(hd:0<d/\d<1000000000)(hl:a.length<1099511627776):Yd (λp=>GB p.1/\AL p.1=AL a/d/\p.2=AL a%d/\p.1.length<=a.length) (Xh a d):=by
 unfold Xh;refine A5 (Py A4 A4 A4)<|A5 BH ?_
 refine ET (λs:A3 Int×Int×Int=>Cg s.1/\s.1.length=a.length/\(0<=s.2.1/\s.2.1<d)/\ -1<=s.2.2/\s.2.2<a.length/\AL (a.drop (s.2.2+1).toNat)=AL (s.1.drop (s.2.2+1).toNat)*d+s.2.1) (λs=>(s.2.2+1).toNat) ?_ _ _
  ⟨mR _,by simp only[Nv];omega,⟨BS,BS⟩,BS,BS,?_⟩ BS
 rotate_left
 .have e:((a.length:Int)-1+1).toNat=a.length:=A4;dsimp only;rw[e,Sc,NG (by simp only[Nv];omega)];simp[AL]
 rintro next ⟨o,r,i⟩ ⟨h1,h2,⟨h3,h3'⟩,h4,h5,h6⟩ hn
 dsimp only at h1 h2 h3 h3' h4 h5 h6 hn⊢;refine Ab (λhc=>?_)<|λhc=>?_
 .have hc:=As hc;obtain⟨n,rfl⟩:=FA hc;have en:(((n:Nat):Int)+1).toNat=n+1:=A4;rw[en] at h6;let⟨xa,xb⟩:=HW ha n;have hx:0<=r*1000000000+a.getD n 0/\r*1000000000+a.getD n 0<d*1000000000:=AK;have hq0:=LO hx.1<|EY hd.1
  have hq1:(r*1000000000+a.getD n 0)/d<1000000000:=by apply Zp hd.1;omega
  have Kz:=Ly (r*1000000000+a.getD n 0) (show d≠0 by omega);have hr1:=LQ (r*1000000000+a.getD n 0) hd.1;refine A5 BH (A5 (Bm A4) (A5 BH (A5 (div_pos hx.1 hd.1 A4) (A5 (Bm A4) (A5 (Bm A4) (A5 (Qd hx.1 hd.1) (A5 BH (hn _ ⟨ZN h1 _ ⟨hq0,hq1⟩,by simpa using h2,⟨Kz,hr1⟩,BS,BS,?_⟩ ?_))))))))
  .dsimp only;have e2:(((n:Nat):Int)-1+1).toNat=n:=A4;rw[e2,Ci,dz A4,OK (show n<a.length by omega),N1,N1,h6];have hdm:=Int.mul_ediv_add_emod (r*1000000000+a.getD n 0) d
   generalize (r*1000000000+a.getD n 0)/d=q at*
   generalize (r*1000000000+a.getD n 0)%d=m at*
   rw[IB,Dc,FW BT,FM q d];unfold BT;omega
  .dsimp only;omega
 .have hc:=Bh hc;have:i= -1:=A4;subst this;have h6:AL a=AL o*d+r:=by simpa using h6
  refine Au (Tv h1 A4) λw ⟨g1,g2,g3⟩=>AW ⟨g1,?_,?_,BS⟩
  .dsimp only;rw[g2];exact(YW h6 h3 h3').1
  .exact(YW h6 h3 h3').2
theorem mP(ha:Cg a)(hb:Cg b)(hla:a.length<4398046511)(hlb:b.length<4398046511):Yd (λw=>GB w/\AL w=AL a*AL b/\w.length<=a.length+b.length) (V9 a b):=by
 unfold V9;refine A5 BH<|A5 (Py A4 A4 A4) ?_
 refine ET (λs:A3 Int×Int=>Cg s.1/\s.1.length=a.length+b.length/\0<=s.2/\s.2<=a.length/\(∀m,s.2.toNat+b.length<=m->s.1.getD m 0=0)/\AL (s.1.take<|s.2.toNat+b.length)=AL (a.take s.2.toNat)*AL b)
  (λs:A3 Int×Int=>a.length-s.2.toNat) ?_ _ _ ⟨mR _,by simp only[Nv];omega,BS,BS,λm _=>alP,?_⟩ BS
 rotate_left
 .dsimp only;rw[Zk,uu];simp[AL]
 rintro next ⟨o,i⟩ ⟨h1,h2,h3,h4,hz,h5⟩ hn
 simp only at h1 h2 h3 h4 hz h5 hn⊢;obtain⟨n,rfl⟩:=FA h3;simp only[Ci,Mg] at*;refine Ab (λhc=>?_)<|λhc=>?_
 .have hc:=As hc;refine ET (λs:A3 Int×Int×Int=>Cg s.1/\s.1.length=a.length+b.length/\(0<=s.2.1/\s.2.1<BT)/\0<=s.2.2/\s.2.2<=b.length/\s.1.drop (n+s.2.2.toNat)=o.drop (n+s.2.2.toNat)/\
    AL (s.1.take<|n+s.2.2.toNat)+BP (n+s.2.2.toNat)*s.2.1=AL (o.take<|n+s.2.2.toNat)+BP n*(a.getD n 0*AL (b.take s.2.2.toNat)))
   (λs:A3 Int×Int×Int=>b.length-s.2.2.toNat) ?_ _ _ ⟨h1,h2,⟨BS,by dsimp only;unfold BT;omega⟩,BS,BS,rfl,by simp[AL]⟩ BS
  rintro FN ⟨p,c,j⟩ ⟨g1,g2,g3,g4,g5,g6,g7⟩ IW;simp only at g1 g2 g3 g4 g5 g6 g7 IW⊢;obtain⟨m,rfl⟩:=FA g4;simp only[Ci,Mg] at*;have eo:p.getD (n+m) 0=o.getD (n+m) 0:=by have:=congrArg (λl=>l.getD 0 0) g6;simpa[JB,UK] using this
  refine Ab (λhd=>?_)<|λhd=>?_
  .have hd:=As hd;have enm:((n:Nat):Int)+((m:Nat):Int)=((n+m:Nat):Int):=A4;let⟨xa,xb⟩:=HW ha n;let⟨ya,yb⟩:=HW hb m;let⟨oa,ob⟩:=HW g1<|n+m
   have NS:a.getD n 0*b.getD m 0<=(BT-1)*(BT-1):=Pf A4 A4 ya (by unfold BT;omega);have awP:0<=a.getD n 0*b.getD m 0:=LN xa ya;have hS:0<=p.getD (n+m) 0+a.getD n 0*b.getD m 0+c/\p.getD (n+m) 0+a.getD n 0*b.getD m 0+c<BT*BT:=AK;rw[enm];refine A5 BH (A5 (Bm A4) (A5 (Bm A4) (A5 (Bm A4) (A5 (Bm A4) (A5 (EL ⟨A4,by unfold BT at*;omega⟩) (A5 (EL ⟨A4,by unfold BT at*;omega⟩) (A5 (EL ⟨A4,by unfold BT at*;omega⟩) (A5 BH (A5 (Qd hS.1 A4) (A5 (Bm A4) (A5 (Bm A4) (A5 (div_pos hS.1 A4 (by unfold BT at*;omega))<|A5 BH ?_))))))))))));have hdm:p.getD (n+m) 0+a.getD n 0*b.getD m 0+c=(p.getD (n+m) 0+a.getD n 0*b.getD m 0+c)%1000000000+BT*((p.getD (n+m) 0+a.getD n 0*b.getD m 0+c)/1000000000):=by unfold BT;omega
   have hr:0<=(p.getD (n+m) 0+a.getD n 0*b.getD m 0+c)%1000000000/\(p.getD (n+m) 0+a.getD n 0*b.getD m 0+c)%1000000000<BT:=by unfold BT;omega
   have hq:0<=(p.getD (n+m) 0+a.getD n 0*b.getD m 0+c)/1000000000/\(p.getD (n+m) 0+a.getD n 0*b.getD m 0+c)/1000000000<BT:=AK;refine IW _ ⟨ZN g1 _ hr,by simpa using g2,hq,BS,BS,?_,?_⟩ BS
   .have e:(((m:Nat):Int)+1).toNat=m+1:=A4;simp only[e,Ci];rw[iY A4,<-LM];have:=congrArg (List.drop 1) g6;rwa [Fe,Fe] at this
   .have e:(((m:Nat):Int)+1).toNat=m+1:=A4;simp only[e,Ci];rw[<-LM,IY,HJ<|BQ _,J7 A4,IY o,IY b,<-eo,K3]
    generalize (p.getD (n+m) 0+a.getD n 0*b.getD m 0+c)%1000000000=R at*
    generalize (p.getD (n+m) 0+a.getD n 0*b.getD m 0+c)/1000000000=Q at*
    have k1:BP n*(a.getD n 0*(AL (b.take m)+BP m*b.getD m 0))=BP n*(a.getD n 0*AL (b.take m))+BP (n+m)*(a.getD n 0*b.getD m 0):=by rw[Dc,Dc,gX,GQ (a.getD n 0)<|BP m,FW]
    have k2:BP (n+m)*R+BT*BP (n+m)*Q=BP (n+m)*(a.getD n 0*b.getD m 0)+BP (n+m)*p.getD (n+m) 0+BP (n+m)*c:=AK;rw[k1];omega
  .have hd:=Bh hd;have KV:m=b.length:=A4;subst KV;have enm:((n:Nat):Int)+((b.length:Nat):Int)=((n+b.length:Nat):Int):=A4;have hz0:p.getD (n+b.length) 0=0:=AK;rw[enm];refine A5 BH (A5 BH (A5 (Bm A4) (A5 (Bm A4) (A5 (EL ⟨A4,by unfold BT at*;omega⟩)<|A5 (Bm A4)<|A5 (Bm A4)<|A5 BH ?_))));rw[hz0,Int.zero_add];refine hn _ ⟨ZN g1 _ g3,by simpa using g2,BS,BS,?_,?_⟩ BS
   .intro m hm;have e:(((n:Nat):Int)+1).toNat=n+1:=A4;simp only[e,Ci] at hm⊢;rw[getD_set_ne A4];have:=congrArg (λl=>l.getD (m-(n+b.length)) 0) g6;have h':p.getD m 0=o.getD m 0:=AK;rw[h'];exact hz m A4
   .have e:(((n:Nat):Int)+1).toNat=n+1:=A4;simp only[e,Ci];rw[show n+1+b.length=n+b.length+1 by omega,IY,HJ<|BQ _,J7 A4,g7,h5,IY a,D6<|BQ _,IB,FW]
 .have hc:=Bh hc;have HR:n=a.length:=A4;subst HR;refine Au (Tv h1 A4) λw ⟨q1,q2,q3⟩=>AW ⟨q1,?_,A4⟩
  rw[q2];rw[D6 (l:=o) A4,D6 (l:=a) A4] at h5;exact h5
theorem ak0{u:A3 Int}(h:i<n):((u.drop j).take n).getD i 0=u.getD (j+i) 0:=by grind
def Dy{g:Bool}{d:α}{e:A9 α}{K:α->A9 ρ}(h:g=false):Ax g d e K=K d:=by subst h;rfl
def Cb{g:Bool}{d:α}{e:A9 α}{K:α->A9 ρ}(h:g=true):Ax g d e K=bd e K:=by subst h;rfl
theorem ajE{u:A3 Int}(hu:Cg u)(hv:Cg v)(hvl:v.length=k+2)(hul:j+(k+3)<=u.length)(hlen:u.length<4398046511)(XH:BT<=2*v.getD (k+1) 0)
 (hw:w=(u.drop j).take (k+3))(hlt:AL w<BT*AL v):Yd (λq=>(0<=q/\q<BT)/\(q-1)*AL v<=AL w/\AL w<(q+1)*AL v) (Y6 u v (j:Int)):=by
 unfold Y6;have hwo:Cg w:=by rw[hw];exact MQ (Tx hu _) _
 have hwl:w.length=k+3:=AK;have eU:=aiZ hwl;have eV:=aia hvl;let⟨bU0,bU1⟩:=F7<|MQ hwo k
 let⟨bV0,bV1⟩:=F7<|MQ hv k
 rw[EK,EZ A4] at bU1 bV1;have hP:=Nh k;have hu0:=HW hwo k;have hu1:=HW hwo<|k+1
 have hu2:=HW hwo<|k+2
 have Hy:=HW hv k;have hv1:=HW hv<|k+1
 have w0:u.getD (j+k) 0=w.getD k 0:=AK;have w1:u.getD (j+(k+1)) 0=w.getD (k+1) 0:=AK;have w2:u.getD (j+(k+2)) 0=w.getD (k+2) 0:=AK;have hVP:0<=AL v:=(F7 hv).1;have hU0:0<=AL w:=(F7 hwo).1;have acN:w.getD (k+2) 0<=v.getD (k+1) 0:=apE hP bU0 hu0.1 hu1.1 bV1 Hy.2 (by rw[<-eU,<-eV];exact hlt);have e1:((v.length:Int)-1)=((k+1:Nat):Int):=A4;have e2:((v.length:Int)-2)=((k:Nat):Int):=A4;have e3:((j:Int)+(v.length:Int))=((j+(k+2):Nat):Int):=A4;have e4:(((j+(k+2):Nat):Int)-1)=((j+(k+1):Nat):Int):=A4;have e5:(((j+(k+2):Nat):Int)-2)=((j+k:Nat):Int):=A4;rw[e1,e2,e3];have i2:AB u ((j+(k+2):Nat):Int)=some (w.getD (k+2) 0):=by rw[<-w2];exact Bm A4
 have i1:AB u ((j+(k+1):Nat):Int)=some (w.getD (k+1) 0):=by rw[<-w1];exact Bm A4
 have i0:AB u ((j+k:Nat):Int)=some (w.getD k 0):=by rw[<-w0];exact Bm A4
 have v1:AB v ((k+1:Nat):Int)=some (v.getD (k+1) 0):=Bm A4;have v0:AB v ((k:Nat):Int)=some (v.getD k 0):=Bm A4;clear w0 w1 w2 hw
 generalize w.getD (k+2) 0=U2 at*
 generalize w.getD (k+1) 0=U1 at*
 generalize w.getD k 0=U0 at*
 generalize v.getD (k+1) 0=V1 at*
 generalize v.getD k 0=V0 at*
 have hV1:0<V1:=AK;have hT:0<=U2*1000000000+U1/\U2*1000000000+U1<1000000000000000000:=AK;refine A5 BH (A5 i2 (A5 (EL ⟨A4,by unfold BT at*;omega⟩)<|A5 BH ?_));rw[e4];refine A5 BH<|A5 i1<|A5 BH<|A5 BH<|A5 v1<|A5 (div_pos hT.1 hV1 A4)<|A5 BH<|A5 v1<|A5 (Qd hT.1 hV1) ?_
 have ht0:=LO hT.1<|EY hV1
 have Kz:=Ly (U2*1000000000+U1) (show V1≠0 by omega);have hr1:=LQ (U2*1000000000+U1) hV1;have hdm:=Int.mul_ediv_add_emod (U2*1000000000+U1) V1;have ht1:(U2*1000000000+U1)/V1<=1000000001:=by apply Int.le_of_lt_add_one;apply Zp hV1;have:(1000000001+1)*V1=1000000000*V1+2*V1:=A4;unfold BT at*;omega
 have apX:∀t r:Int,t*V1+r=U1+BT*U2->BT<=r->t<BT:=λt r e h=>by
  refine Int.lt_of_mul_lt_mul_right (a:=V1) ?_<|EY hV1
  have:BT*U2<=BT*V1:=F0 acN (by unfold BT;omega);unfold BT at*;omega
 refine ET (λs:Int×Int=>(0<=s.1/\s.1<=1000000001)/\(0<=s.2/\s.2<BT)/\s.1*V1+s.2=U1+BT*U2/\AL w<(s.1+1)*AL v) (λs=>s.1.toNat) ?_ _ _ ⟨⟨ht0,ht1⟩,⟨Kz,by unfold BT at*;dsimp only;omega⟩,?_,?_⟩ BS
 rotate_left
 .grind
 .dsimp only;have:=anm (u0:=U0) (v0:=V0) (q:=(U2*1000000000+U1)/V1) (r:=(U2*1000000000+U1)%V1) (U2:=U1+BT*U2) (v1:=V1) (by rw[FM _ V1,hdm];unfold BT;omega) hr1 hu0.2 ht0 Hy.1;have:=jk hP bU1 bV0 (show 0<=(U2*1000000000+U1)/V1+1 by omega) this;rw[<-eU,<-eV] at this;exact this
 clear ht0 Kz hr1 hdm ht1 hT;rintro next ⟨t,r⟩ ⟨⟨h1,h1'⟩,⟨h2,h2'⟩,h3,h4⟩ hn
 dsimp only at h1 h1' h2 h2' h3 h4 hn⊢;have fin:∀q R:Int,(0<=q/\q<BT)->0<=R->q*V1+R=U1+BT*U2->AL w<(q+1)*AL v->(BT<=R\/q*V0<=BT*R+U0)->Yd (λq=>(0<=q/\q<BT)/\(q-1)*AL v<=AL w/\AL w<(q+1)*AL v) (some q):=λq R hq hR e hup hh=>by refine AW ⟨hq,?_,hup⟩;have:=ann (P:=BP k) (UL:=AL<|w.take k) (VL:=AL<|v.take k) e hq hR Hy hu0.1 XH hh hP bU0 bV1 bV0;rw[<-eU,<-eV] at this;exact this
 have step:AL w<t*AL v->Yd (λq=>(0<=q/\q<BT)/\(q-1)*AL v<=AL w/\AL w<(q+1)*AL v) (bd (AG<|t-1) λKs=>bd (AG ((k+1:Nat):Int)) λIt=>bd (AB v It) λHt=>bd (AG<|r+Ht) λGj=>cond (decide<|1000000000<=Gj) (some Ks)<|next (Ks,Gj)):=λhUq=>by
  have hq1:1<=t:=AK;refine A5 BH (A5 BH (A5 v1 (A5 (EL ⟨A4,by unfold BT at*;omega⟩)<|Ab (λhc=>?_)<|λhc=>?_)))
  .have hc:=As hc;have hc:BT<=r+V1:=hc;have e:(t-1)*V1+(r+V1)=U1+BT*U2:=AK;exact fin (t-1) (r+V1) ⟨A4,apX _ _ e hc⟩ A4 e (by rw[show t-1+1=t by omega];exact hUq)<| .inl hc
  .grind
 by_cases hb:(1000000000:Int)<=t
 .have hd:=B9 hb;have g1:gd (decide<|(1000000000:Int)<=t) false=false:=by rw[hd];rfl
  repeat rw[Dy g1]
  refine Ab (λ_=>step ?_) (λh=>by rw[hd,ZU] at h;cases h);have:BT*AL v<=t*AL v:=NH (by unfold BT;omega) hVP;omega
 .have hd:=CB hb;have g1:gd (decide<|(1000000000:Int)<=t) false=true:=by rw[hd];rfl
  have hb0:0<=t*V0/\t*V0<=1000000000*1000000000:=⟨LN h1 Hy.1,Pf A4 (by unfold BT at*;omega) Hy.1 A4⟩;rw[Cb g1];refine A5 BH ?_;rw[Cb g1];refine A5 v0 ?_;rw[Cb g1];refine A5 BH ?_;rw[Cb g1];refine A5 (EL ⟨A4,by unfold BT at*;omega⟩) ?_;rw[Cb g1];refine A5 BH ?_;rw[e5,Cb g1];refine A5 BH ?_;rw[Cb g1];refine A5 i0 ?_;rw[Cb g1];refine A5 (EL ⟨A4,by unfold BT at*;omega⟩)<|Ab (λhc=>?_)<|λhc=>?_
  .rw[hd,WI] at hc;have hc:=As hc;refine step ?_;have hUq:=jk hP bU1 bV0 h1 (anl (q:=t) (r:=r) (v1:=V1) (U2:=U1+BT*U2) (u0:=U0) (v0:=V0) h3 (by unfold BT;omega));rw[<-eU,<-eV] at hUq;exact hUq
  .grind
def kT:(l.set (j+i) x).drop j=(l.drop j).set i x:=by rw[List.drop_set,if_neg A4,Nat.add_sub_cancel_left]
theorem X4:(l.drop j).getD i 0=l.getD (j+i) 0:=by grind
theorem ahi{u:A3 Int}{t:Int}{bN:A3 Int×Int×Int->A9 ρ}(hu:Cg u)(hv:Cg v)(hvl:v.length=n)(hj:j+n<=u.length)(hl:u.length<4398046511)(ht:0<=t/\t<BT)
 (h:∀u2 b,Cg u2->u2.length=u.length->u2.take j=u.take j->(∀m,j+n<=m->u2.getD m 0=u.getD m 0)->(0<=b/\b<BT)->AL ((u2.drop j).take n)=AL ((u.drop j).take n)-t*AL v+BP n*b->Yd R (bN (u2,b,(n:Int)))):Yd R (lp 18446744073709551616 (λ(k46:(A3 Int×Int×Int)->A9 ρ) (DG:A3 Int×Int×Int)=>cond (decide<|DG.2.2<(v.length:Int)) (bd (AB v DG.2.2) λIt=>bd (AG<|t*It) λHt=>bd (AG<|Ht+DG.2.1) λGj=>bd (AG<|DG.2.2+(j:Int)) λHv=>bd (AB DG.1 Hv) λJo=>bd (AB DG.1 Hv) λJM=>bd (G9 Gj (1000000000:Int)) λKv=>bd (AG<|JM-Kv) λIT=>bd (Gv Gj (1000000000:Int)) λx64=>jn (λ(s66:Int×Int)=>bd (AG<|DG.2.2+(j:Int)) λJn=>bd (AB DG.1 Jn) λx75=>bd (AB DG.1 Jn) λx77=>bd (AG<|DG.2.2+(1:Int)) λx79=>k46 ((DG.1.set (Jn).toNat s66.2),s66.1,x79)) λk67=>cond (decide<|IT<(0:Int)) (bd (AG<|IT+(1000000000:Int)) λx69=>bd (AG<|x64+(1:Int)) λx71=>k67 (x71,x69)) (k67 (x64,IT))) (bN DG)) (u,(0:Int),(0:Int))):=by
 subst hvl;refine ET (λs:A3 Int×Int×Int=>Cg s.1/\s.1.length=u.length/\s.1.take j=u.take j/\(∀m,j+s.2.2.toNat<=m->s.1.getD m 0=u.getD m 0)/\(0<=s.2.1/\s.2.1<BT)/\(0<=s.2.2/\s.2.2<=v.length)/\AL ((s.1.drop j).take s.2.2.toNat)=AL ((u.drop j).take s.2.2.toNat)-t*AL (v.take s.2.2.toNat)+BP s.2.2.toNat*s.2.1)
  (λs=>v.length-s.2.2.toNat) ?_ _ _ ⟨hu,rfl,rfl,λ_ _=>rfl,⟨by dsimp;omega,by dsimp;unfold BT;omega⟩,⟨by dsimp;omega,by dsimp;omega⟩,by simp[AL]⟩ (by dsimp;omega)
 rintro next ⟨p,c,z⟩ ⟨g1,g2,g3,g4,g5,⟨g6,g6'⟩,g7⟩ hn
 dsimp only at g1 g2 g3 g4 g5 g6 g6' g7 hn⊢;obtain⟨i,rfl⟩:=FA g6;simp only[Ci,Mg] at*;refine Ab (λhc=>?_)<|λhc=>?_
 .have hc:=As hc;have hi:i<v.length:=A4;have hx:=HW hv i;have hy:=HW g1<|j+i
  have hm0:0<=t*v.getD i 0:=LN ht.1 hx.1;have hm1:t*v.getD i 0<=(BT-1)*(BT-1):=Pf A4 A4 hx.1 (by unfold BT;omega);have ej:(((i:Nat):Int)+((j:Nat):Int))=((j+i:Nat):Int):=A4;have gu:p.getD (j+i) 0=u.getD (j+i) 0:=g4 _<|BQ _
  refine A5 (Bm hi) (A5 (EL ⟨A4,by unfold BT at*;omega⟩) (A5 (EL ⟨A4,by unfold BT at*;omega⟩)<|A5 BH ?_));rw[ej];have step:∀d x:Int,(0<=d/\d<BT)->(0<=x/\x<BT)->x=u.getD (j+i) 0-(t*v.getD i 0+c)+BT*d->Yd R (bd (AG ((j+i:Nat):Int)) λJn=>bd (AB p Jn) λx75=>bd (AB p Jn) λx77=>bd (AG<|((i:Nat):Int)+(1:Int)) λx79=>next ((p.set (Jn).toNat x),d,x79)):=by
   intro d x hd hx0 hxe;refine A5 BH<|A5 (Bm A4)<|A5 (Bm A4)<|A5 BH<|hn _ ⟨ZN g1 _ hx0,?_,?_,?_,hd,⟨?_,?_⟩,?_⟩ ?_
   .simpa using g2
   .rw[Ci,HJ A4];exact g3
   .intro m hm;dsimp only at hm⊢;rw[Ci,getD_set_ne A4];exact g4 m A4
   .dsimp;omega
   .dsimp;omega
   .dsimp only;have e:(((i:Nat):Int)+1).toNat=i+1:=A4;rw[e,Ci,kT,IY,HJ<|BQ _,J7 (by rw[Ja];omega),IY,IY,g7,X4,K3,hxe]
    generalize u.getD (j+i) 0=X at*
    generalize v.getD i 0=Y at*
    rw[Dc t,GQ t];have:BP i*(X-(t*Y+c)+BT*d)=BP i*X-BP i*(t*Y)-BP i*c+BT*BP i*d:=AK;omega
   .dsimp;omega
  rw[gu] at hy;refine A5 (Bm A4)<|A5 (Bm A4)<|A5 (Qd A4 A4) ?_
  rw[gu]
  generalize hq:t*v.getD i 0=q at*
  refine A5 (EL ⟨by unfold BT at*;omega,by unfold BT at*;omega⟩) (A5 (div_pos A4 A4 (by unfold BT at*;omega)) ?_);refine DZ (λs:Int×Int=>(0<=s.1/\s.1<BT)/\(0<=s.2/\s.2<BT)/\s.2=u.getD (j+i) 0-(q+c)+BT*s.1) (λs hs=>step s.1 s.2 hs.1 hs.2.1 hs.2.2) λk hk=>Ab (λhd=>?_)<|λhd=>?_
  .have hd:=As hd;refine A5 (EL ⟨by unfold BT at*;omega,by unfold BT at*;omega⟩) (A5 (EL ⟨by unfold BT at*;omega,by unfold BT at*;omega⟩)<|hk _ ⟨?_,?_,?_⟩)<;>(dsimp;unfold BT at*;omega)
  .grind
 .grind
theorem ago{u:A3 Int}{bN:A3 Int×Int×Int->A9 ρ}(hu:∀m,m≠j+n->0<=u.getD m 0/\u.getD m 0<BT)(hv:Cg v)(hvl:v.length=n)(hj:j+n<u.length)(hl:u.length<4398046511)
 (h:∀u2 b,u2.length=u.length->u2.take j=u.take j->(∀m,j+n<=m->u2.getD m 0=u.getD m 0)->(∀m,m≠j+n->0<=u2.getD m 0/\u2.getD m 0<BT)->(b=0\/b=1)->AL ((u2.drop j).take n)+BP n*b=AL ((u.drop j).take n)+AL v->Yd R (bN (u2,b,(n:Int)))):Yd R (lp 18446744073709551616 (λ(ax:(A3 Int×Int×Int)->A9 ρ) (De:A3 Int×Int×Int)=>cond (decide<|De.2.2<(v.length:Int)) (bd (AG<|De.2.2+(j:Int)) λII=>bd (AB De.1 II) λLa=>bd (AB De.1 II) λKn=>bd (AB v De.2.2) λNN=>bd (AG<|Kn+NN) λO3=>bd (AG<|O3+De.2.1) λNP=>bd (AG<|De.2.2+(j:Int)) λM7=>bd (G9 NP (1000000000:Int)) λRT=>bd (AB De.1 M7) λXE=>bd (AB De.1 M7) λXD=>bd (Gv NP (1000000000:Int)) λXC=>bd (AG<|De.2.2+(1:Int)) λXB=>ax ((De.1.set (M7).toNat RT),XC,XB)) (bN De)) (u,(0:Int),(0:Int))):=by
 subst hvl;refine ET (λs:A3 Int×Int×Int=>s.1.length=u.length/\s.1.take j=u.take j/\(∀m,j+s.2.2.toNat<=m->s.1.getD m 0=u.getD m 0)/\(∀m,m≠j+v.length->0<=s.1.getD m 0/\s.1.getD m 0<BT)/\(s.2.1=0\/s.2.1=1)/\(0<=s.2.2/\s.2.2<=v.length)/\AL ((s.1.drop j).take s.2.2.toNat)+BP s.2.2.toNat*s.2.1=AL ((u.drop j).take s.2.2.toNat)+AL (v.take s.2.2.toNat))
  (λs=>v.length-s.2.2.toNat) ?_ _ _ ⟨rfl,rfl,λ_ _=>rfl,hu,.inl rfl,⟨by dsimp;omega,by dsimp;omega⟩,by simp[AL]⟩ (by dsimp;omega)
 rintro next ⟨p,c,z⟩ ⟨g2,g3,g4,g1,g5,⟨g6,g6'⟩,g7⟩ hn
 dsimp only at g1 g2 g3 g4 g5 g6 g6' g7 hn⊢;obtain⟨i,rfl⟩:=FA g6;simp only[Ci,Mg] at*;refine Ab (λhc=>?_)<|λhc=>?_
 .have hc:=As hc;have hi:i<v.length:=A4;have hx:=HW hv i;have hy:=g1 (j+i) A4;have ej:(((i:Nat):Int)+((j:Nat):Int))=((j+i:Nat):Int):=A4;have gu:p.getD (j+i) 0=u.getD (j+i) 0:=g4 _<|BQ _
  rw[ej];rw[gu] at hy;have hS:0<=u.getD (j+i) 0+v.getD i 0+c/\u.getD (j+i) 0+v.getD i 0+c<2000000000:=AK;have i1:AB p ((j+i:Nat):Int)=some (u.getD (j+i) 0):=by rw[<-gu];exact Bm A4
  have hdm:u.getD (j+i) 0+v.getD i 0+c=(u.getD (j+i) 0+v.getD i 0+c)%1000000000+BT*((u.getD (j+i) 0+v.getD i 0+c)/1000000000):=by unfold BT;omega
  have hr:0<=(u.getD (j+i) 0+v.getD i 0+c)%1000000000/\(u.getD (j+i) 0+v.getD i 0+c)%1000000000<BT:=by unfold BT;omega
  have hd:(u.getD (j+i) 0+v.getD i 0+c)/1000000000=0\/(u.getD (j+i) 0+v.getD i 0+c)/1000000000=1:=A4;refine A5 BH (A5 i1 (A5 i1 (A5 (Bm hi) (A5 (EL ⟨A4,by unfold BT at*;omega⟩)<|A5 BH<|A5 BH<|A5 (Qd hS.1 A4)<|A5 i1<|A5 i1<|A5 (div_pos hS.1 A4 A4)<|A5 BH<|hn _ ⟨?_,?_,?_,?_,hd,⟨?_,?_⟩,?_⟩ ?_))))
  .simpa using g2
  .rw[Ci,HJ A4];exact g3
  .grind
  .intro m hm;rw[Ci];by_cases e:m=j+i
   .grind
   .rw[getD_set_ne e];exact g1 m hm
  .dsimp;omega
  .dsimp;omega
  .dsimp only;have e:(((i:Nat):Int)+1).toNat=i+1:=A4;rw[e,Ci,kT,IY,HJ<|BQ _,J7 (by rw[Ja];omega),IY,IY,X4,K3]
   generalize (u.getD (j+i) 0+v.getD i 0+c)%1000000000=r at*
   generalize (u.getD (j+i) 0+v.getD i 0+c)/1000000000=d at*
   generalize u.getD (j+i) 0=X at*
   generalize v.getD i 0=Y at*
   have:BP i*r+BT*BP i*d=BP i*X+BP i*Y+BP i*c:=AK;omega
  .dsimp;omega
 .grind
theorem aBk{t:Int}(h1:1<=t)(h2:t<1000000000)(hf:f=1000000000/(t+1)):1<=f/\f<=500000000/\(t+1)*f<=1000000000/\1000000000<=2*(t*f):=by
 have hp:(0:Int)<t+1:=A4;have a1:(t+1)*f<=1000000000:=by rw[hf,FM];exact Int.ediv_mul_le _ A4
 have a2:1000000000<(f+1)*(t+1):=by rw[hf];exact Int.lt_ediv_add_one_mul_self _ hp
 have a3:1<=f:=by rw[hf];exact(Int.le_ediv_iff_mul_le hp).2 A4
 have a4:f<=500000000:=by have:2*f<=(t+1)*f:=NH A4 A4;omega
 refine⟨a3,a4,a1,?_⟩;rw[IB,JA] at a2;have e:(t+1)*f=t*f+f:=AK;have e2:f*(t+1)=t*f+f:=AK;rw[e] at a1;rw[e2] at a2;have hP:t<=t*f:=by have:t*1<=t*f:=F0 a3 A4;omega
 rcases(show t=1\/1000000000<=2*t\/(2<=t/\2*t<=999999998) by omega) with h|h|⟨h,h'⟩
 .subst h;omega
 .omega
 .rcases(show 1000000000<=2*(t*f)\/2*(t*f)<=999999999 by omega) with h3|h3
  .exact h3
  .exfalso;have b1:t*(1000000000-t)<=t*(t*f+f):=F0 A4 A4;have b2:t*(2*(t*f))<=t*999999999:=F0 h3 A4;have b3:0<(t-1)*(999999999-2*t):=Int.mul_pos A4 A4;rw[UB] at b1;rw[Dc] at b1;rw[GQ] at b2;rw[ZR,JA,UB,GQ t 2 t] at b3
   generalize t*t=T at*
   generalize t*(t*f)=Q at*
   generalize t*f=P at*
   omega
theorem ap4(hb:GB b)(hbl:b.length=k+2)(hf:f=1000000000/(b.getD (k+1) 0+1))(hv:GB v)(hvv:AL v=AL b*f):v.length=k+2/\BT<=2*v.getD (k+1) 0/\BP (k+1)*f<=AL v/\1<=f/\f<=500000000:=by
 have hP:=Nh<|k+1
 have hb0:b≠[]:=AK;have l1:=To hb.1 hb0 hb.2;rw[hbl,show k+2-1=k+1 by omega] at l1;have l2:=VK (l:=b) (n:=k+1) A4;rw[D6 A4] at l2;let⟨l3,l4⟩:=F7<|MQ hb.1<|k+1
 rw[EK,EZ A4] at l4;have ht:=HW hb.1<|k+1
 generalize b.getD (k+1) 0=t at*
 have h1:1<=t:=AK;let⟨f1,f2,f3,f4⟩:=aBk h1 (by unfold BT at ht;omega) hf;have u1:(AL b+1)*f<=(BP (k+1)*(t+1))*f:=NH (by rw[Dc,Ls];omega) A4;rw[IB,JA,FW] at u1;have u2:BP (k+1)*((t+1)*f)<=BP (k+1)*BT:=F0 (by unfold BT;omega) A4;have u3:(BP (k+1)*t)*f<=AL b*f:=NH A4 A4;rw[FW] at u3;have u4:BP (k+1)*1<=BP (k+1)*(t*f):=F0 A4 A4;have u5:BP (k+1)*f<=BP (k+1)*(t*f):=F0 (by have:1*f<=t*f:=NH h1 A4;omega) A4
 rw[<-hvv] at u1 u3;have arP:v.length<=k+2:=hv.len (by rw[K3,FM];omega);have Um:k+2<=v.length:=by
  rcases Hl v.length (k+2) with h|h
  .have a:=(F7 hv.1).2;have b:=zA (show v.length<=k+1 by omega);omega
  .exact h
 have hlen:v.length=k+2:=A4;refine⟨hlen,?_,A4,f1,f2⟩;have m2:=VK (l:=v) (n:=k+1) A4;rw[D6 A4] at m2;let⟨m3,m4⟩:=F7<|MQ hv.1<|k+1
 rw[EK,EZ A4] at m4;have m5:BP (k+1)*(t*f)<BP (k+1)*(v.getD (k+1) 0+1):=AK;have m6:=ir m5<|EY hP
 unfold BT;omega
theorem amn{x:A3 Int}{L:Nat}{K:A3 Int->A9 ρ}(hx:Cg x)(hl:x.length<=L+1)(hL:L<109951162)(h:∀u,Cg u->u.length=L+1->AL u=AL x->Yd R (K u)):Yd R (lp 18446744073709551616 (λ(k26:(A3 Int)->A9 ρ) (EI:(A3 Int))=>bd (AG<|(L:Int)+(1:Int)) λCx=>cond (decide<|(EI.length:Int)<Cx) (bd (BN 8 EI ([(0:Int)]:A3 Int)) λEO=>k26 EO) (K EI)) x):=by
 refine ET (λs:A3 Int=>Cg s/\s.length<=L+1/\AL s=AL x) (λs=>L+1-s.length) ?_ _ _ ⟨hx,hl,rfl⟩ A4;rintro next s ⟨h1,h2,h3⟩ hn
 refine A5 BH<|Ab (λhc=>?_)<|λhc=>?_
 .have hc:=As hc;refine A5 (bJ A4) (hn _ ⟨?_,by rw[DS,Fw];omega,?_⟩ (by rw[DS,Fw];omega))
  .rw[ek];exact⟨h1,λy hy=>by rw[Cv] at hy;subst hy;unfold BT;omega⟩
  .rw[Rz];simp[AL,h3]
 .grind
def abb(h:∀m,0<=l.getD m 0/\l.getD m 0<BT):Cg l:=λx hx=>by obtain⟨i,hi,rfl⟩:=List.getElem_of_mem hx;have:=h i;rwa [JB,Gs hi] at this
def wx:∀{l:A3 Int},(∀m,l.getD m 0=0)->AL l=0
 |[],_=>rfl
 |x::l,h=>by
  have h0:x=0:=by simpa using h 0
  have:=wx (l:=l) λm=>by simpa using h (m+1)
  rw[N1,h0,this];omega
def top_lt{u:A3 Int}{A V:Int}{L:Nat}(hu:Cg u)(hul:u.length=L+1)(hm:m+(k+2)=L+1)(hv:AL u=A*f)(hA:A<BP L)(hf:1<=f)(hV:BP (k+1)*f<=V):AL (u.drop m)<V:=by
 have h1:=S3 u m A4;let⟨b0,b1⟩:=F7<|MQ hu m
 have hP:=Nh m;have e:BP L=BP m*BP (k+1):=by rw[<-gX];congr 1;omega
 have h2:(A+1)*f<=BP L*f:=NH A4 A4;rw[IB,JA,e,FW] at h2;have h3:BP m*(BP (k+1)*f)<=BP m*V:=F0 hV A4;have h4:BP m*AL (u.drop m)<BP m*V:=A4;exact ir h4 A4
theorem akO{u:A3 Int}{K:A3 Int×Int->A9 ρ}(hu:Cg u)(hv:Cg v)(hvl:v.length=k+2)(hj:j+(k+3)<=u.length)(hlen:u.length<439804651)(XH:BT<=2*v.getD (k+1) 0)(hlt:AL (u.drop<|j+1)<AL v)
 (h:∀l t,Cg l->l.length=u.length->l.take j=u.take j->0<=t->t<BT->AL (l.drop j)=AL (u.drop j)-t*AL v->AL (l.drop j)<AL v->Yd R (K (l,t))):Yd R (bd (Y6 u v (j:Int)) λGW=>lp 18446744073709551616 (λ(k46:(A3 Int×Int×Int)->A9 ρ) (DG:A3 Int×Int×Int)=>cond (decide<|DG.2.2<(v.length:Int)) (bd (AB v DG.2.2) λIt=>bd (AG<|GW*It) λHt=>bd (AG<|Ht+DG.2.1) λGj=>bd (AG<|DG.2.2+(j:Int)) λHv=>bd (AB DG.1 Hv) λJo=>bd (AB DG.1 Hv) λJM=>bd (G9 Gj (1000000000:Int)) λKv=>bd (AG<|JM-Kv) λIT=>bd (Gv Gj (1000000000:Int)) λx64=>jn (λ(s66:Int×Int)=>bd (AG<|DG.2.2+(j:Int)) λJn=>bd (AB DG.1 Jn) λx75=>bd (AB DG.1 Jn) λx77=>bd (AG<|DG.2.2+(1:Int)) λx79=>k46 ((DG.1.set (Jn).toNat s66.2),s66.1,x79)) λk67=>cond (decide<|IT<(0:Int)) (bd (AG<|IT+(1000000000:Int)) λx69=>bd (AG<|x64+(1:Int)) λx71=>k67 (x71,x69)) (k67 (x64,IT))) (bd (AG<|(j:Int)+(v.length:Int)) λKu=>bd (AG<|(j:Int)+(v.length:Int)) λx83=>bd (AB DG.1 x83) λx85=>bd (AB DG.1 x83) λx87=>bd (AG<|x87-DG.2.1) λKM=>bd (AB DG.1 Ku) λx91=>bd (AB DG.1 Ku) λx93=>bd (AG<|(j:Int)+(v.length:Int)) λx95=>bd (AB (DG.1.set (Ku).toNat KM) x95) λx97=>bd (AB (DG.1.set (Ku).toNat KM) x95) λx99=>jn (λ(TA:A3 Int×Int)=>K TA) λX9=>cond (decide<|x99<(0:Int)) (bd (AG<|GW-(1:Int)) λkC=>lp 18446744073709551616 (λ(ax:(A3 Int×Int×Int)->A9 ρ) (De:A3 Int×Int×Int)=>cond (decide<|De.2.2<(v.length:Int)) (bd (AG<|De.2.2+(j:Int)) λII=>bd (AB De.1 II) λLa=>bd (AB De.1 II) λKn=>bd (AB v De.2.2) λNN=>bd (AG<|Kn+NN) λO3=>bd (AG<|O3+De.2.1) λNP=>bd (AG<|De.2.2+(j:Int)) λM7=>bd (G9 NP (1000000000:Int)) λRT=>bd (AB De.1 M7) λXE=>bd (AB De.1 M7) λXD=>bd (Gv NP (1000000000:Int)) λXC=>bd (AG<|De.2.2+(1:Int)) λXB=>ax ((De.1.set (M7).toNat RT),XC,XB)) (bd (AG<|(j:Int)+(v.length:Int)) λT1=>bd (AG<|(j:Int)+(v.length:Int)) λXA=>bd (AB De.1 XA) λacm=>bd (AB De.1 XA) λkB=>bd (AG<|kB+De.2.1) λkA=>bd (AB De.1 T1) λack=>bd (AB De.1 T1) λacj=>X9 ((De.1.set (T1).toNat kA),kC))) ((DG.1.set (Ku).toNat KM),(0:Int),(0:Int))) (X9 ((DG.1.set (Ku).toNat KM),GW)))) (u,(0:Int),(0:Int))):=by
 have hVb:=F7 hv;rw[hvl] at hVb;have hP:=Nh<|k+2
 have eW:AL (u.drop j)=u.getD j 0+BT*AL (u.drop<|j+1):=by rw[OK A4,N1]
 have hj0:=HW hu j;have hW0:0<=AL (u.drop j):=(F7<|Tx hu j).1;have auS:AL (u.drop j)<BT*AL v:=AK;have hzero:AL ((u.drop j).drop<|k+3)=0:=xX (Tx hu j) (by rw[Ja];omega) (by
  rw[K3];have:BT*AL v<BT*BP (k+2):=by unfold BT;omega
  omega)
 have eWw:AL (u.drop j)=AL ((u.drop j).take<|k+3):=by have:=S3 (u.drop j) (k+3) (by rw[Ja];omega);rw[hzero] at this;omega
 have hz:∀m,j+(k+3)<=m->u.getD m 0=0:=λm hm=>by have:=aev (l:=u.drop j) hzero (Tx hu j) (m:=m-j) A4;rwa [X4,show j+(m-j)=m by omega] at this
 have awV:AL ((u.drop j).take<|k+3)=AL ((u.drop j).take<|k+2)+BP (k+2)*u.getD (j+(k+2)) 0:=by rw[IY,X4]
 refine Au (ajE (k:=k) (j:=j) hu hv hvl hj A4 XH rfl (by rw[<-eWw];exact auS)) ?_;rintro t ⟨⟨ht0,ht1⟩,G0,hup⟩;rw[<-eWw] at G0 hup;refine ahi (j:=j) (n:=k+2) hu hv hvl A4 A4 ⟨ht0,ht1⟩ ?_;intro u2 b g1 g2 g3 g4 g5 g6;dsimp;have en:((j:Int)+(v.length:Int))=((j+(k+2):Nat):Int):=A4;rw[en];have gt:u2.getD (j+(k+2)) 0=u.getD (j+(k+2)) 0:=g4 _<|BQ _
 have hb2:=HW hu<|j+(k+2)
 have i2:AB u2 ((j+(k+2):Nat):Int)=some (u.getD (j+(k+2)) 0):=by rw[<-gt];exact Bm A4
 have hS:=F7<|MQ (Tx g1 j)<|k+2
 rw[EK,Ja,EZ A4] at hS;refine A5 BH (A5 BH (A5 i2 (A5 i2 (A5 (EL ⟨by unfold BT at*;omega,by unfold BT at*;omega⟩)<|A5 i2<|A5 i2<|A5 BH ?_))));rw[Ci];have i3:AB (u2.set (j+(k+2))<|u.getD (j+(k+2)) 0-b) ((j+(k+2):Nat):Int)=some (u.getD (j+(k+2)) 0-b):=by rw[Bm (by rw[LP];omega),J7 A4]
 refine A5 i3<|A5 i3 ?_
 have eD:AL (u.drop j)-t*AL v=AL ((u2.drop j).take<|k+2)+BP (k+2)*(u.getD (j+(k+2)) 0-b):=AK;rw[ZR,JA] at G0;rw[IB,JA] at hup
 generalize u.getD (j+(k+2)) 0-b=y at*
 have hy1: -1<=y:=by
  rcases(show -1<=y\/y<= -2 by omega) with h|h
  .exact h
  .have:=F0 h (EY hP);omega
 have hy2:y<=0:=by
  rcases(show y<=0\/1<=y by omega) with h|h
  .exact h
  .have:=F0 h (EY hP);omega
 have fin:∀(l:A3 Int) (t':Int),l.length=u.length->l.take j=u.take j->(∀m,j+(k+2)<m->l.getD m 0=u.getD m 0)->(∀m,m≠j+(k+2)->0<=l.getD m 0/\l.getD m 0<BT)->0<=t'->t'<BT->AL ((l.drop j).take<|k+2)=AL (u.drop j)-t'*AL v->AL ((l.drop j).take<|k+2)<AL v->∀l2,l2=l.set (j+(k+2)) 0->Yd R (K (l2,t')):=by
  intro l t' q1 q2 q3 q4 q5 q6 q7 q8 l2 hl2;have ok2:Cg l2:=abb λm=>by
   by_cases e:m=j+(k+2)
   .grind
   .rw[hl2,getD_set_ne e];exact q4 m e
  have ev:AL (l2.drop j)=AL ((l.drop j).take<|k+2):=by
   have e1:=S3 (l2.drop j) (k+2) (by rw[Ja,hl2,LP];omega);have e2:(l2.drop j).take (k+2)=(l.drop j).take (k+2):=by rw[hl2,kT,HJ<|BQ _]
   have e3:AL ((l2.drop j).drop<|k+2)=0:=wx λm=>by
    rw[X4,X4,hl2];by_cases e:m=0
    .grind
    .rw[<-LM,getD_set_ne A4,q3 _ A4];exact hz _ A4
   rw[e1,e2,e3];omega
  exact h l2 t' ok2 (by rw[hl2,LP];exact q1) (by rw[hl2,HJ A4];exact q2) q5 q6 (by rw[ev];exact q7) (by rw[ev];exact q8)
 refine DZ (λs:A3 Int×Int=>∃l:A3 Int,(l.length=u.length/\l.take j=u.take j/\(∀m,j+(k+2)<m->l.getD m 0=u.getD m 0)/\(∀m,m≠j+(k+2)->0<=l.getD m 0/\l.getD m 0<BT))/\(0<=s.2/\s.2<BT)/\AL ((l.drop j).take<|k+2)=AL (u.drop j)-s.2*AL v/\AL ((l.drop j).take<|k+2)<AL v/\s.1=l.set (j+(k+2)) 0) ?_ ?_
 .grind
 intro X9 hk;refine Ab (λhc=>?_)<|λhc=>?_
 .have hc:=As hc;have hy:y= -1:=A4;subst hy;have ht2:1<=t:=AK;refine A5 (EL ⟨A4,by unfold BT at*;omega⟩) ?_;refine ago (j:=j) (n:=k+2) ?_ hv hvl (by rw[LP];omega) (by rw[LP];omega) ?_
  .intro m hm;rw[getD_set_ne hm];exact HW g1 m
  intro u4 c r1 r2 r3 r4 r5 r6;dsimp only;rw[LP] at r1;rw[HJ A4] at r2;have e6:((u2.set (j+(k+2))<| -1).drop j).take (k+2)=(u2.drop j).take (k+2):=by rw[kT,HJ<|BQ _]
  rw[e6] at r6;have r4':u4.getD (j+(k+2)) 0= -1:=AK;have i4:AB u4 ((j+(k+2):Nat):Int)=some (-1):=by rw[<-r4'];exact Bm A4
  have Hz:0<=AL ((u4.drop j).take<|k+2)/\AL ((u4.drop j).take<|k+2)<BP (k+2):=by
   have ok:Cg ((u4.drop j).take<|k+2):=abb λm=>by
    by_cases e:m<k+2
    .rw[ak0 e];exact r4 _ A4
    .grind
   have:=F7 ok;rwa [EK,Ja,EZ A4] at this
  have hc1:c=1:=AK;subst hc1;refine A5 BH (A5 BH (A5 i4 (A5 i4 (A5 BH (A5 i4 (A5 i4 (hk _ ⟨u4,⟨A4,by rw[r2,g3],?_,r4⟩,⟨by dsimp;omega,by dsimp;omega⟩,?_,?_,?_⟩)))))))
  .grind
  .grind
  .omega
  .grind
 .have hc:=Bh hc;have hy:y=0:=A4;subst hy;refine hk _ ⟨u2,⟨g2,g3,λm hm=>g4 m A4,λm _=>HW g1 m⟩,⟨ht0,ht1⟩,?_,?_,rfl⟩
  .dsimp;omega
  .omega
theorem abC(h:l.length<1099511627776):BN 8 ([]:A3 Int) l=some l:=by grind [BN]
theorem mQ(ha:GB a)(hb:GB b)(h0:b≠[])(hla:a.length<43980465)(hlb:b.length<43980465):Yd (λp=>(GB p.1/\GB p.2)/\AL p.1=AL a/AL b/\AL p.2=AL a%AL b) (VA a b):=by
 unfold VA;have hbp:=hb.pos h0;have ha0:=(F7 ha.1).1;refine Au (uN ha hb A4 A4) λc hcmp=>Ab (λhc=>?_)<|λhc=>Ab (λh1=>?_)<|λh1=>?_
 .have hc:=As hc;have hlt:AL a<AL b:=AK;exact AW ⟨⟨GB.nil,ha⟩,by rw[Int.ediv_eq_zero_of_lt ha0 hlt];rfl,(UJ ha0 hlt).symm⟩
 .have h1:=As h1;obtain⟨d,rfl⟩:∃d,b=[d]:=il.1 A4;have hd:AL [d]=d:=by simp[AL]
  rw[hd] at hbp⊢;have hd2:=hb.1 d AT;refine A5 (x:=d) rfl (Au (vt ha.1 ⟨hbp,by unfold BT at hd2;omega⟩ A4) ?_);rintro⟨w,r⟩ ⟨g1,g2,g3,g4⟩;dsimp only at g1 g2 g3⊢;have Kz:=Ly (AL a) (show d≠0 by omega);have hr1:=LQ (AL a) hbp;have okr:Cg [r]:=λx hx=>by rw[Cv] at hx;subst hx;omega
  refine Au (Tv okr AT) λz ⟨q1,q2,_⟩=>AW ⟨⟨g1,q1⟩,g2,?_⟩
  rw[q2,<-g3];simp[AL]
 .have h1:=Bh h1;have hc:=Bh hc;have hge:AL b<=AL a:=AK;have awU:0<b.length:=UN.2 h0;obtain⟨k,hk⟩:∃k,b.length=k+2:=⟨b.length-2,A4⟩;have hal:k+2<=a.length:=by
   rcases Hl a.length (k+2) with h|h
   .have:=eX ha.1 hb A4;omega
   .exact h
  have e1:((b.length:Int)-1)=((k+1:Nat):Int):=A4;rw[e1];have hbt:=HW hb.1<|k+1
  generalize hf:1000000000/(b.getD (k+1) 0+1)=f
  have hdv:Gv 1000000000 (b.getD (k+1) 0+1)=some f:=by rw[<-hf];exact div_pos A4 A4 A4
  have hf0:0<=f/\f<=1000000000:=by rw[<-hf];exact⟨LO A4 A4,Sb _ A4⟩
  refine A5 BH (A5 (Bm A4) (A5 (EL ⟨A4,by unfold BT at*;omega⟩)<|A5 hdv ?_));have hf1:1<=f/\f<=500000000:=by
   have hb1:b.getD (k+1) 0≠0:=λe=>by have l1:=To hb.1 h0 hb.2;have l2:=VK (l:=b) (n:=k+1) A4;rw[D6 A4,e] at l2;have l3:=(F7<|MQ hb.1<|k+1).2;rw[EK,EZ A4] at l3;rw[hk,show k+2-1=k+1 by omega] at l1;omega
   have:=aBk (t:=b.getD (k+1) 0) A4 (by unfold BT at hbt;omega) hf.symm;exact⟨this.1,this.2.1⟩
  have okf:Cg [f]:=λx hx=>by rw[Cv] at hx;subst hx;unfold BT;omega
  have vf:AL [f]=f:=by simp[AL]
  refine Au (mP hb.1 okf A4 AT) λv ⟨v1,v2,v3⟩=>?_
  rw[vf] at v2;let⟨n1,n2,n3,_,_⟩:=ap4 hb hk hf.symm v1 v2;refine Au (mP ha.1 okf A4 AT) λu0 ⟨w1,w2,w3⟩=>?_
  rw[vf] at w2;rw[Fw] at w3;refine A5 (abC A4)<|amn w1.1 w3 A4 ?_
  intro u hu hul huv;rw[w2] at huv;obtain⟨m,hm⟩:∃m,m+1+(k+2)=a.length+1:=⟨a.length-(k+2),A4⟩;have em:((u.length:Int)-(v.length:Int))=((m+1:Nat):Int):=A4;rw[em];refine A5 BH<|A5 (Py A4 A4 A4)<|A5 BH<|A5 BH ?_
  rw[Ci];have hAp:AL a<BP a.length:=(F7 ha.1).2;have KS:=top_lt hu hul hm huv hAp hf1.1 n3;refine ET (λs:A3 Int×A3 Int×Int=>Cg s.1/\s.1.length=u.length/\Cg s.2.1/\s.2.1.length=m+1/\ -1<=s.2.2/\s.2.2<(m+1:Nat)/\AL (s.1.drop (s.2.2+1).toNat)<AL v/\
    AL u=AL s.1+AL v*(BP (s.2.2+1).toNat*AL (s.2.1.drop (s.2.2+1).toNat))) (λs=>(s.2.2+1).toNat) ?_ _ _
   ⟨hu,rfl,mR _,AT,BS,BS,?_,?_⟩ BS
  rotate_left
  .grind
  .dsimp only;have e:(((m+1:Nat):Int)-1+1).toNat=m+1:=A4;rw[e,NG AT];simp[AL]
  rintro next ⟨u',q,z⟩ ⟨s1,s2,s3,s4,s5,s6,s7,s8⟩ hn
  dsimp only at s1 s2 s3 s4 s5 s6 s7 s8 hn⊢;refine Ab (λhz=>?_)<|λhz=>?_
  .have hz:=As hz;obtain⟨j,rfl⟩:=FA hz;have ej:(((j:Nat):Int)+1).toNat=j+1:=A4;rw[ej] at s7 s8;refine akO (k:=k) (j:=j) s1 v1.1 n1 A4 A4 n2 s7 ?_;intro l t r1 r2 r3 r4 r5 r6 r7;refine A5 (Bm A4) (A5 (Bm A4) (A5 BH (hn _ ⟨r1,BS,ZN s3 _ ⟨r4,r5⟩,by simpa using s4,BS,BS,?_,?_⟩ ?_)))
   .grind
   .dsimp only;have e:(((j:Nat):Int)-1+1).toNat=j:=A4;rw[e,Ci,dz A4,N1,s8,S3 u' j A4,S3 l j A4,r3,r6,K3];have x1:BP j*(AL (u'.drop j)-t*AL v)=BP j*AL (u'.drop j)-AL v*(BP j*t):=AK;have x2:AL v*(BP j*(t+BT*AL (q.drop<|j+1)))=AL v*(BP j*t)+AL v*(BT*BP j*AL (q.drop<|j+1)):=AK;rw[x1,x2];omega
   .dsimp only;omega
  .have hz:=Bh hz;have:z= -1:=A4;subst this;have s7:AL u'<AL v:=s7;have s8:AL u=AL u'+AL v*(BP 0*AL q):=s8;rw[Tw,JA] at s8;have u'0:=(F7 s1).1;have hVb:=(F7 v1.1).2;have htk:AL (u'.take v.length)=AL u':=by have:=S3 u' v.length A4;rw[xX s1 A4 A4] at this;omega
   refine A5 (EC A4 A4 A4) ?_;have et:((u'.take ((v.length:Nat):Int).toNat).drop (0:Int).toNat)=u'.take v.length:=AT;rw[et];refine Au (Tv (MQ s1 _) (by rw[EK];omega)) λy ⟨y1,y2,y3⟩=>A5 (x:=f) rfl ?_
   rw[EK] at y3;refine Au (vt y1.1 ⟨A4,A4⟩ A4) ?_;rintro⟨w,r⟩ ⟨g1,g2,g3,g4⟩;dsimp only at g1 g2 g3⊢;refine Au (Tv s3 A4) λx ⟨x1,x2,_⟩=>AW ⟨⟨x1,g1⟩,?_⟩
   dsimp only;rw[x2,g2,y2,htk];have hR:AL u'=f*(AL a-AL b*AL q):=AK;have hRd:AL u'/f=AL a-AL b*AL q:=by rw[hR,Int.mul_ediv_cancel_left _ A4]
   rw[hRd];have hR0:0<=AL a-AL b*AL q:=by rw[<-hRd];exact LO u'0 A4
   have hR1:AL a-AL b*AL q<AL b:=by refine ir (a:=f) ?_ A4;rw[<-hR,FM f];omega
   have:=YW (A:=AL a) (B:=AL b) (q:=AL q) (r:=AL a-AL b*AL q) (by rw[FM<|AL q];omega) hR0 hR1;exact this
def ZG:∀n:Nat,BP n=((10^(9*n):Nat):Int)
 |0=>rfl
 |n+1=>by rw[K3,ZG n,show 9*(n+1)=9*n+9 by omega,N7,Sa];unfold BT;omega
def acE(ha:Cg a)(hl:a.length<=10000000):Nat.log2 (AL a).toNat<1099511627776:=by
 have h:=F7 ha;rw[ZG] at h;have h1:=LR (show 0<10 by omega) (show 9*a.length<=90000000 by omega);have:D4 ((AL a).toNat:Int)=true:=OP (n:=90000000) (by
  rw[F9]
  generalize 10^(9*a.length)=P at*
  generalize 10^90000000=Q at*
  omega) A4
 have:=Dx this;rw[F9] at this;omega
def zh(hx:0<=x)(hy:0<y):Int.gcd y (x%y)=Int.gcd x y:=by
 obtain⟨m,rfl⟩:=FA hx;obtain⟨n,rfl⟩:=FA<|EY hy
 show Nat.gcd n (((m%n:Nat):Int)).natAbs=Nat.gcd m n;rw[F9,SX n,<-Nat.gcd_rec,SX]
theorem xL(ha:GB a)(hb:GB b)(hla:a.length<=10000000)(hlb:b.length<=10000000):Yd (λw=>GB w/\AL w=(Int.gcd (AL a) (AL b):Int)/\w.length<=10000000) (Xw a b):=by
 unfold Xw;refine ET (λs:A3 Int×A3 Int=>GB s.1/\GB s.2/\s.1.length<=10000000/\s.2.length<=10000000/\Int.gcd (AL s.1) (AL s.2)=Int.gcd (AL a) (AL b)) (λs=>muG (AL s.1).toNat (AL s.2).toNat) ?_ _ _ ⟨ha,hb,hla,hlb,rfl⟩<|rI (acE ha.1 hla)<|acE hb.1 hlb
 rintro next ⟨x,y⟩ ⟨h1,h2,h3,h4,h5⟩ hn
 dsimp only at h1 h2 h3 h4 h5 hn⊢;refine Ab (λhc=>?_)<|λhc=>?_
 .have hc:=As hc;have hy0:y≠[]:=AK;have hyp:=h2.pos hy0;have hx0:=(F7 h1.1).1;refine Au (mQ h1 h2 hy0 A4 A4) ?_;rintro⟨q,r⟩ ⟨⟨g1,g2⟩,g3,g4⟩;dsimp only at g1 g2 g3 g4⊢;have hr:=LQ (AL x) hyp;have hrl:r.length<=y.length:=g2.len (by rw[g4];have:=(F7 h2.1).2;omega);refine hn _ ⟨h2,g2,h4,BS,?_⟩ ?_
  .dsimp only;rw[g4,<-h5,zh hx0 hyp]
  .dsimp only;rw[g4];have e:(AL x%AL y).toNat=(AL x).toNat%(AL y).toNat:=AK;rw[e];exact pE A4
 .have hc:=Bh hc;have hy0:y=[]:=LU A4;subst hy0;refine AW ⟨h1,?_,h3⟩;have hx0:=(F7 h1.1).1;rw[<-h5];show AL x=((Int.gcd (AL x) 0:Nat):Int);rw[Int.gcd_zero_right];omega
def amo{a b:Int}(ha:0<=a/\a<=4000000000000000000)(hb:0<=b/\b<=4000000000000000000):YS a b=some (Int.gcd a b:Int):=by
 refine HG ?_;unfold YS;have XJ:∀x:Int,0<=x/\x<=4000000000000000000->Nat.log2 x.toNat<1099511627776:=λx hx=>by have:=OP (z:=x) (n:=19) DJ A4;have:=Dx this;rw[show x.natAbs=x.toNat by omega] at this;omega
 refine ET (λs:Int×Int=>(0<=s.1/\s.1<=4000000000000000000)/\(0<=s.2/\s.2<=4000000000000000000)/\Int.gcd s.1 s.2=Int.gcd a b) (λs=>muG s.1.toNat s.2.toNat) ?_ _ _ ⟨ha,hb,rfl⟩<|rI (XJ a ha)<|XJ b hb
 rintro next ⟨x,y⟩ ⟨h1,h2,h5⟩ hn
 dsimp only at h1 h2 h5 hn⊢;refine Ab (λhc=>?_)<|λhc=>?_
 .have hc:=As hc;have hr:=LQ x hc;have Kz:=Ly x (show y≠0 by omega);refine A5 (Qd h1.1 hc)<|hn _ ⟨h2,⟨Kz,BS⟩,?_⟩ ?_
  .dsimp only;rw[<-h5,zh h1.1 hc]
  .dsimp only;rw[Int.toNat_emod h1.1<|EY hc];exact pE A4
 .have hc:=Bh hc;have:y=0:=A4;subst this;refine AW ?_;rw[<-h5,Int.gcd_zero_right];omega
def Z2(n:Nat):0<(B5 n).length:=by
 by_cases h:n<10
 .rw[OO h];simp
 .rw[S9 h];simp
theorem qE{r:Nat}(h:k<=(B5 r).length):IK k r=B5 r:=by simp_all [B5,IK]
def ajK(h:0<m/10\/1<k):IK k m=IK (k-1) (m/10)++[UInt8.ofNat<|48+m%10]:=by
 by_cases hm:m<10
 .have hk:1<k:=A4;obtain⟨j,rfl⟩:∃j,k=j+2:=⟨k-2,A4⟩;unfold IK;rw[show m/10=0 by omega,OO hm,OO (show 0<10 by omega),show m%10=m by omega];simp only[Fw];rw[show j+2-1=j+1 by omega,show j+1-1=j by omega,List.replicate_succ'];rfl
 .unfold IK;rw[S9 hm,DS,Fw,show k-((B5<|m/10).length+1)=k-1-(B5<|m/10).length by omega,ID]
def aka(h1:m/10=0)(h2:k<=1):IK k m=[UInt8.ofNat<|48+m%10]:=by rw[qE (by have:=Z2 m;omega),OO A4,show m%10=m by omega]
def apr(h:d<10):(([48,49,50,51,52,53,54,55,56,57]:AA).take<|d+1).drop d=[UInt8.ofNat<|48+d]:=by match d,h with|0,_=>rfl|1,_=>rfl|2,_=>rfl|3,_=>rfl|4,_=>rfl|5,_=>rfl|6,_=>rfl|7,_=>rfl|8,_=>rfl|9,_=>rfl
theorem OQ{l m:AA}(h:l.length+m.length<=9223372036854775807):IJ l m=some (l++m):=by grind [IJ]
theorem nH(hn:n<=9000000000000000000)(hk:1<=k/\k<=20):NU (n:Int) (k:Int)=some (IK k n):=by
 refine HG ?_;unfold NU;refine ET (λs:Int×AA=>∃m:Nat,s.1=m/\m<=n/\m+s.2.length<=n+20/\IK k n=(if 0<m\/s.2.length<k then IK (k-s.2.length) m++s.2 else s.2)) (λs=>s.1.toNat+(k-s.2.length)) ?_ _ _ ⟨n,rfl,BQ _,AT,?_⟩ BS
 .rintro next ⟨z,s⟩ ⟨m,rfl,h0,h1,h2⟩ HR
  dsimp only at h1 h2 HR⊢;refine Ab (λhc=>?_)<|λhc=>?_
  .have hg:0<m\/s.length<k:=by rw[Qm,Hm,Hm] at hc;omega
   rw[if_pos hg] at h2;have hr:((m:Int)%10)=((m%10:Nat):Int):=A4;have hq:((m:Int)/10)=((m/10:Nat):Int):=A4;have hd:m%10<10:=OS _ A4;have acw:G9 (m:Int) 10=some ((m%10:Nat):Int):=by rw[Qd A4 A4,hr]
   have hdiv:Gv (m:Int) 10=some ((m/10:Nat):Int):=by rw[div_pos A4 A4 A4,hq]
   have BI:C5 ([48,49,50,51,52,53,54,55,56,57]:AA) ((m%10:Nat):Int) (((m%10:Nat):Int)+1)=some [UInt8.ofNat<|48+m%10]:=by rw[EC A4 A4 DJ,Ci,show(((m%10:Nat):Int)+1).toNat=m%10+1 by omega,apr hd]
   refine A5 acw<|A5 acw<|A5 BH<|A5 BI<|A5 (OQ DJ)<|A5 hdiv<|HR _ ⟨m/10,rfl,A4,?_,?_⟩ ?_
   .grind
   .dsimp only;simp only[List.singleton_append,E2];rw[h2];by_cases hg2:0<m/10\/s.length+1<k
    .rw[if_pos hg2,ajK A4,ID,show k-s.length-1=k-(s.length+1) by omega];rfl
    .rw[if_neg hg2,aka A4 A4];rfl
   .grind
  .have hg: ¬(0<m\/s.length<k):=by rw[Ki,Ih,Ih] at hc;omega
   rw[if_neg hg] at h2;exact AW h2.symm
 .grind
def akZ{r:Nat}(hk:0<k)(h:r<10^k):(IK k r).length=k:=by have:=MR k r hk h;unfold IK;rw[DS,Nv];omega
def pB(h:FE p z)(hl:p.2.length<=10000000):Tf p=some (C8 z):=by
 refine HG ?_;let⟨h1,h2,h3⟩:=h;let⟨neg,w⟩:=p;dsimp only at h1 h2 h3 hl;unfold Tf;dsimp only;refine Ab (λhc=>?_)<|λhc=>?_
 .have hc:=As hc;have hw:w=[]:=LU A4;subst hw;have hz:z=0:=by have:(0:Int)=(z.natAbs:Int):=h2;omega
  subst hz;exact AW rfl
 .have hc:=Bh hc;obtain⟨n,hn⟩:∃n,w.length=n+1:=⟨w.length-1,A4⟩;have hw0:w≠[]:=by intro e;subst e;simp at hn
  have e1:((w.length:Int)-1)=(n:Int):=A4;rw[e1];have ht:=HW h1.1 n;have XH:0<w.getD n 0:=by
   have l1:=To h1.1 hw0 h1.2;have l2:=VK (l:=w) (n:=n) A4;rw[D6 A4] at l2;have l3:=(F7<|MQ h1.1 n).2;rw[EK,EZ A4] at l3;rw[hn,Nat.add_sub_cancel] at l1;rcases(show 0<w.getD n 0\/w.getD n 0=0 by omega) with h|h
   .exact h
   .rw[h] at l2;omega
  let⟨t,htt⟩:=FA ht.1;have hdt:NU (w.getD n 0) 1=some (IK 1 t):=by rw[htt];exact nH (k:=1) (by unfold BT at*;omega) A4
  refine A5 BH<|A5 (Bm A4)<|A5 hdt<|A5 BH ?_
  rw[qE<|Z2 t];have KS:(B5 t).length<=9:=MR 9 t A4 (by unfold BT at*;omega);refine ET (λs:AA×Int=> -1<=s.2/\s.2<n/\s.1=B5 (AL<|w.drop (s.2+1).toNat).toNat/\0<AL (w.drop (s.2+1).toNat)/\s.1.length+9*(s.2+1).toNat<=100000000) (λs=>(s.2+1).toNat) ?_ _ _ ⟨BS,BS,?_,?_,?_⟩ BS
  .rintro next ⟨s,i⟩ ⟨g1,g2,g3,g4,g5⟩ hnx
   dsimp only at g1 g2 g3 g4 g5 hnx⊢;refine Ab (λhd=>?_)<|λhd=>?_
   .have hd:=As hd;obtain⟨j,rfl⟩:=FA hd;have ej:(((j:Nat):Int)+1).toNat=j+1:=A4;have ej':(((j:Nat):Int)-1+1).toNat=j:=A4;rw[ej] at g3 g4 g5;have hx:=HW h1.1 j;let⟨r,hr⟩:=FA hx.1;have hr9:r<1000000000:=by unfold BT at*;omega
    have hdr:NU (w.getD j 0) 9=some (IK 9 r):=by rw[hr];exact nH (k:=9) A4 A4
    have Js:(IK 9 r).length=9:=akZ A4 A4;have Kq:AL (w.drop j)=r+BT*AL (w.drop<|j+1):=by rw[OK A4,N1,hr]
    refine A5 (Bm A4)<|A5 hdr<|A5 (OQ A4)<|A5 BH<|hnx _ ⟨BS,BS,?_,?_,?_⟩ BS
    .dsimp only;rw[ej',g3,Kq];have e:(((r:Nat):Int)+BT*AL (w.drop<|j+1)).toNat=(AL<|w.drop<|j+1).toNat*10^9+r:=by unfold BT;omega
     rw[e,o8 9 _ r A4 A4 A4]
    .dsimp only;rw[ej',Kq];unfold BT;omega
    .dsimp only;rw[ej',List.length_append,Js];omega
   .have hd:=Bh hd;have:i= -1:=A4;subst this;have g3:s=B5 (AL w).toNat:=g3;have e2:(AL w).toNat=z.natAbs:=by rw[h2];omega
    rw[e2] at g3;have g5:s.length+0<=100000000:=g5;refine Ab (λIo=>?_)<|λIo=>?_
    .refine A5 (OQ (by simp only[Fw];omega)) (AW ?_);rw[Io] at h3;unfold C8;rw[<-h3,g3];rfl
    .rw[Io] at h3;refine AW ?_;unfold C8;rw[<-h3,g3];rfl
  .dsimp only;have e:(((w.length:Int)-2)+1).toNat=n:=A4;rw[e,OK A4,NG A4];simp only[AL,htt];simp
  .dsimp only;have e:(((w.length:Int)-2)+1).toNat=n:=A4;rw[e,OK A4,NG A4];simp only[AL];omega
  .dsimp only;omega
def acv{l:AA}{b:UInt8}(h:l[n]? =some b):AB l (n:Int)=some b:=h
theorem fS{b:UInt8}(h:Dz b=true):48<=b.toNat/\b.toNat<=57:=by simp_all [Dz]
def fI(hd:s.all Dz=true)(hl:s.length<=18):OH s=some (BU s:Int):=by
 refine HG ?_;unfold OH;refine ET (λt:Int×Int=>0<=t.2/\t.2<=s.length/\t.1=(BU (s.take t.2.toNat):Int)) (λt=>s.length-t.2.toNat) ?_ _ _ ⟨by dsimp;omega,by dsimp;omega,by simp[BU]⟩ (by dsimp;omega);rintro next ⟨v,i⟩ ⟨h1,h2,h3⟩ hn
 dsimp only at h1 h2 h3 hn⊢;obtain⟨n,rfl⟩:=FA h1;rw[Ci] at h3;refine Ab (λhc=>?_)<|λhc=>?_
 .have hc:=As hc;have hlt:n<s.length:=A4;have hdt:(s.take n).all Dz=true:=Dr.2 λx hx=>Dr.1 hd x<|Qp hx
  have hv:=Qb _ hdt;rw[EK,EZ A4] at hv;have hp:(10:Nat)^n<=10^17:=LR A4 A4;have hb:=fS<|Dr.1 hd _<|Lz hlt
  have hw:wr .i64 ((s[n].toNat:Nat):Int)=(s[n].toNat:Int):=by show IntKind.wrap .i64 _=_;rw[IntKind.wrap_i64];omega
  refine A5 BH (A5 (acv<|Gs hlt) (A5 (EL ⟨by rw[hw];omega,by rw[hw];omega⟩) (A5 (EL ⟨by rw[hw];omega,by rw[hw];omega⟩) (A5 BH (hn _ ⟨by dsimp;omega,by dsimp;omega,?_⟩ (by dsimp;omega))))));rw[hw,show(((n:Nat):Int)+1).toNat=n+1 by omega,List.take_succ,Gs hlt,YN,h3];have e:BU [s[n]]=s[n].toNat-48:=by simp[BU]
  simp[Option.toList_some,Fw,e];omega
 .have hc:=Bh hc;have:n=s.length:=A4;subst this;refine AW ?_;rw[h3,D6<|BQ _]
def oN{ds:AA}(neg:Bool)(hd:ds.all Dz=true)(h0:ds≠[])(hl:ds.length<=80000000):Yd (λp=>FE p (bif neg then -(BU ds:Int) else(BU ds:Int))/\p.2.length<=ds.length) (Ru (bif neg then 45::ds else ds)):=by
 unfold Ru;have core:Yd (λp=>FE p (bif neg then -(BU ds:Int) else(BU ds:Int))/\p.2.length<=ds.length)
  (lp 18446744073709551616 (λ(k9:(AA×A3 Int)->A9 _) (s8:AA×A3 Int)=>cond (decide<|(9:Int)<(s8.1.length:Int)) (bd (AG<|(s8.1.length:Int)-(9:Int)) λBC=>bd (C5 s8.1 BC (s8.1.length:Int)) λBz=>bd (OH Bz) λBo=>bd (BN 8 s8.2 ([Bo]:A3 Int)) λBl=>bd (AG<|(s8.1.length:Int)-(9:Int)) λBw=>bd (C5 s8.1 0 Bw) λCG=>k9 (CG,Bl)) (bd (OH s8.1) λCL=>bd (BN 8 s8.2 ([CL]:A3 Int)) λCq=>bd (LA neg Cq) λCx=>some Cx)) (ds,[])):=by
  refine ET (λt:AA×A3 Int=>t.1.all Dz=true/\t.1≠[]/\t.1.length<=80000000/\Cg t.2/\t.1.length+t.2.length<=ds.length/\(BU ds:Int)=BU t.1*BP t.2.length+AL t.2) (λt=>t.1.length) ?_ _ _ ⟨hd,h0,hl,gy,AT,by simp[Tw,AL]⟩ BS;rintro next ⟨s,w⟩ ⟨g1,g2,g3,g4,g5,g6⟩ hn
  dsimp only at g1 g2 g3 g4 g5 g6 hn⊢;have okv:∀x:AA,x.all Dz=true->x.length<=9->0<=(BU x:Int)/\(BU x:Int)<BT:=λx hx GZ=>by have h1:=Qb x hx;have h2:(10:Nat)^x.length<=10^9:=LR A4 GZ;unfold BT;omega
  have ext:∀v:Int,0<=v/\v<BT->Cg (w++[v]):=λv hv=>by rw[ek];exact⟨g4,λy hy=>by rw[Cv] at hy;subst hy;exact hv⟩
  refine Ab (λhc=>?_)<|λhc=>?_
  .have hc:=As hc;obtain⟨n,HR⟩:∃n,s.length=n+9:=⟨s.length-9,A4⟩;have e1:((s.length:Int)-9)=(n:Int):=A4;rw[e1];have hda:(s.take n).all Dz=true:=Dr.2 λx hx=>Dr.1 g1 x<|Qp hx
   have hdb:(s.drop n).all Dz=true:=Dr.2 λx hx=>Dr.1 g1 x<|UO hx
   have hlb:(s.drop n).length=9:=by rw[Ja];omega
   have es:C5 s (n:Int) (s.length:Int)=some (s.drop n):=by rw[EC A4 A4 A4];simp
   have et:C5 s 0 (n:Int)=some (s.take n):=by rw[EC A4 A4 A4];simp
   have hv:=okv _ hdb A4;refine A5 BH<|A5 es<|A5 (fI hdb A4)<|A5 (bJ A4)<|A5 BH<|A5 et<|hn _ ⟨hda,?_,?_,ext _ hv,?_,?_⟩ ?_
   .intro e;have:=congrArg List.length e;rw[List.length_take,UH] at this;omega
   .dsimp only;rw[List.length_take];omega
   .dsimp only;rw[List.length_take,List.length_append,List.length_singleton];omega
   .dsimp only;have hs:BU s=BU (s.take n)*10^9+BU (s.drop n):=by
     conv=>lhs;rw[<-Oi n s]
     rw[YN,hlb]
    rw[g6,hs,List.length_append,List.length_singleton,K3,Rz];have e:AL [(BU (s.drop n):Int)]=BU (s.drop n):=by simp[AL]
    rw[e,Int.natCast_add,Sa,IB,FW];have:((10^9:Nat):Int)=BT:=rfl;rw[this,FM (BU (s.drop n):Int)];omega
   .dsimp only;rw[List.length_take];omega
  .have hc:=Bh hc;have hv:=okv s g1 A4;have hs0:0<s.length:=UN.2 g2;refine A5 (fI g1 A4) (A5 (bJ A4) (Au (xI (ext _ hv) (by rw[List.length_append,List.length_singleton];omega)) λp ⟨p1,p2⟩=>AW ?_));have e:AL (w++[(BU s:Int)])=(BU ds:Int):=by
    rw[Rz,g6];have e:AL [(BU s:Int)]=BU s:=by simp[AL]
    rw[e,FM];omega
   rw[e] at p1;rw[List.length_append,List.length_singleton] at p2;exact⟨p1,A4⟩
 cases neg with
 |true=>
  simp only[BX] at core⊢;refine GR (λ_=>⟨45,rfl,?_⟩) (λh=>by simp[gd] at h);have hb:((decide<|(0:Int)<((45::ds).length:Int))&&(decide<|((45:UInt8).toNat:Int)=(45:Int)))=true:=by rw[B9 (by simp only[E2];omega)];rfl
  rw[hb];have es:C5 (45::ds) (1:Int) ((45::ds).length:Int)=some ds:=by rw[EC A4 (by simp only[E2];omega) A4,Ci,D6<|BQ _];rfl
  exact DZ (λs=>s=ds) (λs hs=>by subst hs;exact core) λk hk=>Ab (λ_=>A5 es<|hk _ rfl) (λh=>by cases h)
 |false=>
  obtain⟨d,r,rfl⟩:∃d r,ds=d::r:=by cases ds with|nil=>exact absurd rfl h0|cons d r=>exact⟨d,r,rfl⟩
  have hdd:=fS<|Dr.1 hd d AT
  simp only[B8] at core⊢;refine GR (λ_=>⟨d,rfl,?_⟩) (λh=>by simp[gd] at h);have hb:((decide<|(0:Int)<((d::r).length:Int))&&(decide<|(d.toNat:Int)=(45:Int)))=false:=by rw[CB (show¬(d.toNat:Int)=45 by omega),ZW]
  rw[hb];exact DZ (λs=>s=d::r) (λs hs=>by subst hs;exact core) λk hk=>Ab (λh=>by cases h)<|λ_=>hk _ rfl
theorem oL(hk:k<=s.length)(h1:∀i,i<k->s[i]? ≠some 47)(h2:k<s.length->s[k]? =some 47)(hl:s.length<1099511627776):Lh s=some (k:Int):=by
 refine HG ?_;unfold Lh;refine ET (λi:Int=>0<=i/\i<=k) (λi=>s.length-i.toNat) ?_ _ _ ⟨A4,A4⟩ A4;rintro next i ⟨g1,g2⟩ hn
 obtain⟨n,rfl⟩:=FA g1;refine Ab (λhc=>?_)<|λhc=>?_
 .have hc:=As hc;have hlt:n<s.length:=A4;have hg:=Gs hlt;refine A5 (acv hg)<|Ab (λhd=>?_)<|λhd=>?_
  .have hd:=As hd;refine AW ?_;have hb:s[n]=47:=iL.1 (by show _=47;omega);rcases Hl n k with h|h
   .grind
   .omega
  .have hd:=Bh hd;rcases Hl n k with h|h
   .exact A5 BH<|hn _ ⟨A4,A4⟩ A4
   .have e:n=k:=A4;subst e;have:=h2 hlt;rw[hg] at this;have:=Ez this;rw[this] at hd;exact absurd rfl hd
 .have hc:=Bh hc;exact AW A4
def Av(q:Rat):AA:=C8 q.num++(bif decide (q.den=1) then [] else 47::B5 q.den)
def N4(n:Nat):(B5 n).all Dz=true/\BU (B5 n)=n:=by
 induction n using Nat.strongRecOn with
 |ind n ih=>
  have one:∀d,d<10->Dz (UInt8.ofNat<|48+d)=true/\BU [UInt8.ofNat<|48+d]=d:=by
   intro d hd
   match d,hd with|0,_=>decide|1,_=>decide|2,_=>decide|3,_=>decide|4,_=>decide|5,_=>decide|6,_=>decide|7,_=>decide|8,_=>decide|9,_=>decide
  by_cases h:n<10
  .rw[OO h];have:=one n h;exact⟨by rw[OU,this.1];rfl,this.2⟩
  .rw[S9 h];let⟨i1,i2⟩:=ih (n/10) A4;have:=one (n%10) A4;refine⟨by rw[iM,i1,OU,this.1];rfl,?_⟩;rw[YN,i2,this.2,Fw];omega
def ab1(n:Nat):B5 n≠[]:=λe=>by have:=Z2 n;rw[e] at this;simp at this
def jC(h:(B5 n).length<=k):n<10^k:=by have:=Qb _ (N4 n).1;rw[(N4 n).2] at this;have h2:(10:Nat)^(B5 n).length<=10^k:=LR A4 h;omega
def ak7(z:Int):C8 z=bif decide (z<0) then 45::B5 z.natAbs else B5 z.natAbs:=rfl
def nX(z:Int):∀x∈C8 z,x≠47:=by
 intro x hx e;subst e;have hd:(47:UInt8)∉B5 z.natAbs:=λh=>by have:=Dr.1 (N4 z.natAbs).1 _ h;simp[Dz] at this
 unfold C8 at hx;cases hc:decide (z<0) with
 |true=>
  rw[hc] at hx;have hx:(47:UInt8)∈45::B5 z.natAbs:=hx;rcases Am.1 hx with h|h
  .cases h
  .exact hd h
 |false=>rw[hc] at hx;exact hd hx
def fg{t:AA}(hu:∀x∈u,x≠47)(hl:(u++47::t).length<1099511627776):Lh (u++47::t)=some (u.length:Int):=by refine oL AT (λi hi=>?_) (λ_=>by simp) hl;rw[Mh hi,Gs hi];intro e;exact hu _ (Lz hi)<|Ez e
def ow(hu:∀x∈u,x≠47)(hl:u.length<1099511627776):Lh u=some (u.length:Int):=by refine oL (BQ _) (λi hi=>?_) (λh=>absurd h<|Nat.lt_irrefl _) hl;rw[Gs hi];intro e;exact hu _ (Lz hi)<|Ez e
theorem Vn(z:Int):(C8 z).length<=(B5 z.natAbs).length+1:=by grind [C8,B5]
theorem oS(hl:(B5 z.natAbs).length<=80000000):Yd (λp=>FE p z/\p.2.length<=80000000) (Ru<|C8 z):=by
 have h:=oN (decide<|z<0) (N4 z.natAbs).1 (ab1 _) hl;rw[(N4 _).2] at h;rw[<-ak7] at h;refine h.imp λp hp=>⟨?_,A4⟩
 have e:(bif decide (z<0) then -(z.natAbs:Int) else(z.natAbs:Int))=z:=AK;rw[e] at hp;exact hp.1
def ajJ(hl:(B5 n).length<=80000000):Yd (λp=>FE p (n:Int)/\p.2.length<=80000000) (Ru<|B5 n):=by
 have h:=oS (z:=(n:Int)) (by simpa using hl);have e:C8 (n:Int)=B5 n:=by unfold C8;rw[CB A4];simp
 rwa [e] at h
def aiU:Rs 1=some (false,[1]):=A6
def ajD(h1:(B5 q.num.natAbs).length<=80000000)(h2:(B5 q.den).length<=80000000):Yd (λp=>(FE p.1 q.num/\FE p.2 (q.den:Int))/\p.1.2.length<=80000000/\p.2.2.length<=80000000) (NY<|Av q):=by
 have hlen:=Vn q.num;unfold NY Av;cases hd:decide (q.den=1) with
 |true=>
  have hd:=As hd;simp[BX,K9];refine A5 (ow (nX _) A4)<|Ab (λ_=>?_)<|λh=>absurd rfl<|Bh h
  refine Au (oS h1) λp hp=>A5 aiU<|AW ⟨⟨hp.1,?_⟩,hp.2,AT⟩
  rw[hd];refine⟨⟨λx hx=>?_,AT⟩,rfl,rfl⟩;rw[Cv] at hx;subst hx;unfold BT;omega
 |false=>
  have hd:=Bh hd;simp only[B8];have hlt:(C8 q.num++47::B5 q.den).length=(C8 q.num).length+1+(B5 q.den).length:=by simp;omega
  refine A5 (fg (nX _) A4) (Ab (λh=>by have:=As h;omega)<|λ_=>?_);have es:C5 (C8 q.num++47::B5 q.den) 0 ((C8 q.num).length:Int)=some (C8 q.num):=by rw[EC A4 A4 A4];simp
  have et:C5 (C8 q.num++47::B5 q.den) (((C8 q.num).length:Int)+1) ((C8 q.num++47::B5 q.den).length:Int)=some (B5 q.den):=by rw[EC A4 A4 A4,Ci,D6<|BQ _,show(((C8 q.num).length:Int)+1).toNat=(C8 q.num).length+1 by omega,<-Fe];simp
  refine A5 es<|Au (oS h1) λp hp=>A5 BH<|A5 et<|Au (ajJ h2) λr hr=>AW ⟨⟨hp.1,hr.1⟩,hp.2,hr.2⟩
def FE.len{p:Bool×A3 Int}{z:Int}(h:FE p z){n:Nat}(hz:(z.natAbs:Int)<BP n):p.2.length<=n:=h.1.len (by rw[h.2.1];exact hz)
def FE.lt(h:FE p z):(z.natAbs:Int)<BP p.2.length:=by rw[<-h.2.1];exact(F7 h.1.1).2
def QQ{b:Bool}(hw:Cg w)(hl:w.length<=400000000)(hz:(bif b then -AL w else AL w)=z):Yd (λp=>FE p z/\p.2.length<=w.length) (LA b w):=by rw[<-hz];exact xI hw A4
theorem ZC(h:FE p z):(bif p.1 then -AL p.2 else AL p.2)=z:=by grind [FE,AL]
theorem y9(h:FE p z)(hl:p.2.length<=400000000):Yd (λq=>FE q (-z)/\q.2.length<=p.2.length) (Y5 p):=by
 unfold Y5;refine Au (QQ (z:= -z) h.1.1 hl ?_) λq hq=>AW hq
 have:=ZC h;cases hp:p.1
 .grind
 .grind
def Yh{q:Bool×A3 Int}(hp:FE p x)(hq:FE q y)(hl:p.2.length<=100000000)(hm:q.2.length<=100000000):Yd (λr=>FE r (x*y)/\r.2.length<=p.2.length+q.2.length) (Rt p q):=by
 unfold Rt;refine Au (mP hp.1.1 hq.1.1 A4 A4) λw ⟨w1,w2,w3⟩=>Au (QQ (z:=x*y) w1.1 A4 ?_) λr hr=>AW ⟨hr.1,A4⟩
 rw[w2,<-ZC hp,<-ZC hq]
 generalize AL p.2=a
 generalize AL q.2=b
 cases p.1<;>cases q.1<;>simp[Int.neg_mul,Int.mul_neg]
theorem akP{q:Bool×A3 Int}(hp:FE p x)(hq:FE q y)(hl:p.2.length<=100000000)(hm:q.2.length<=100000000):Yd (λr=>FE r (x+y)/\r.2.length<=p.2.length+q.2.length+1) (eJ p q):=by
 unfold eJ;have sp:=ZC hp;have sq:=ZC hq;have a0:=(F7 hp.1.1).1;have b0:=(F7 hq.1.1).1;have acF:∀{a b:A3 Int},GB a->GB b->AL a<=AL b->a.length<=b.length:=λha hb h=>by
  rcases Hl (List.length _) (List.length _) with h'|h'
  .have:=eX hb.1 ha h';omega
  .exact h'
 refine Ab (λhc=>?_)<|λhc=>?_
 .have hc:p.1=q.1:=by simpa using hc
  refine Au (afb hp.1.1 hq.1.1 A4 A4) λw ⟨w1,w2,w3⟩=>Au (QQ (z:=x+y) w1 A4 ?_) λr hr=>AW ⟨hr.1,A4⟩
  rw[w2,<-sp,<-sq,<-hc];cases p.1
  .rfl
  .grind
 .have hc:p.1= !q.1:=by cases h1:p.1<;>cases h2:q.1<;>rw[h1,h2] at hc<;>first|rfl|cases hc
  refine Au (uN hp.1 hq.1 A4 A4) λc hcmp=>Ab (λhd=>?_)<|λhd=>?_
  .have hd:=As hd;have hge:AL q.2<=AL p.2:=AK;refine Au (vQ hp.1.1 hq.1.1 (acF hq.1 hp.1 hge) A4 hge) λw ⟨w1,w2,w3⟩=>Au (QQ (z:=x+y) w1.1 A4 ?_) λr hr=>AW ⟨hr.1,A4⟩
   rw[w2,<-sp,<-sq,hc];cases q.1
   .grind
   .grind
  .have hd:=Bh hd;have hge:AL p.2<=AL q.2:=AK;refine Au (vQ hq.1.1 hp.1.1 (acF hp.1 hq.1 hge) A4 hge) λw ⟨w1,w2,w3⟩=>Au (QQ (z:=x+y) w1.1 A4 ?_) λr hr=>AW ⟨hr.1,A4⟩
   rw[w2,<-sp,<-sq,hc];cases q.1
   .grind
   .grind
def zX(h:GB w):(decide ((w.length:Int)=1)=true/\w.getD 0 0=1)↔AL w=1:=by
 constructor
 .rintro⟨h1,h2⟩;have h1:=As h1;obtain⟨d,rfl⟩:∃d,w=[d]:=il.1 A4;have h2:d=1:=by simpa using h2
  subst h2;simp[AL]
 .intro hv;have hl:w.length<=1:=h.len (by rw[hv,K3,Tw];unfold BT;omega);have hl0:w≠[]:=by intro e;subst e;simp[AL] at hv
  have:0<w.length:=UN.2 hl0;obtain⟨d,rfl⟩:∃d,w=[d]:=il.1 A4;have:d=1:=by simpa[AL] using hv
  subst this;exact⟨rfl,rfl⟩
def alk{g:Int}(hg:0<g)(hd:g∣x):(bif decide (x<0) then -((x.natAbs:Int)/g) else(x.natAbs:Int)/g)=x/g:=by
 cases hc:decide (x<0) with
 |true=>have:=As hc;have e:(x.natAbs:Int)= -x:=A4;rw[e,Int.neg_ediv_of_dvd hd];simp
 |false=>have:=Bh hc;have e:(x.natAbs:Int)=x:=A4;rw[e];rfl
theorem eE{q:Bool×A3 Int}(hp:FE p x)(hq:FE q y)(h0:y≠0)(hl:p.2.length<=8000000)(hm:q.2.length<=8000000):Rl p q=some (Av<|(x:Rat)/(y:Rat)):=by
 refine HG ?_;unfold Rl;have en:((x:Rat)/(y:Rat)).num=(y.sign*x)/(Int.gcd y x:Int):=by rw[<-OY,iI]
 have ed:(((x:Rat)/(y:Rat)).den:Int)=(y.natAbs:Int)/(Int.gcd y x:Int):=by rw[<-OY,iH,if_neg h0];rfl
 have hg0:0<Int.gcd y x:=j7 _ h0;refine DZ (λt:(Bool×A3 Int)×(Bool×A3 Int)=>FE t.1 (y.sign*x)/\FE t.2 (y.natAbs:Int)/\t.1.2.length<=8000000/\t.2.2.length<=8000000) ?_<|λk hk=>Ab (λhd=>?_)<|λhd=>?_
 .rintro⟨a,b⟩ ⟨ha,hb,la,lb⟩;dsimp only at ha hb la lb⊢;have hX:(y.sign*x).natAbs=x.natAbs:=AK;have hg:Int.gcd (y.sign*x) (y.natAbs:Int)=Int.gcd y x:=by rw[Int.gcd_comm];unfold Int.gcd;rw[hX,F9]
  refine Au (xL ha.1 hb.1 A4 A4) λg ⟨g1,g2,g3⟩=>?_
  have hgv:AL g=(Int.gcd y x:Int):=by rw[g2,ha.2.1,hb.2.1,<-hg];unfold Int.gcd;simp
  have gne:g≠[]:=by intro e;subst e;have:(0:Int)=(Int.gcd y x:Int):=hgv;omega
  refine Au (mQ ha.1 g1 gne A4 A4) ?_;rintro⟨q1,r1⟩ ⟨⟨a1,_⟩,a2,_⟩;refine Au (mQ hb.1 g1 gne A4 A4) ?_;rintro⟨q2,r2⟩ ⟨⟨b1,_⟩,b2,_⟩;dsimp only at a1 a2 b1 b2⊢;rw[hgv,ha.2.1] at a2;rw[hgv,hb.2.1,F9] at b2;have avh:(0:Int)<(Int.gcd y x:Int):=A4;have dvX:(Int.gcd y x:Int)∣y.sign*x:=Int.dvd_trans (Int.gcd_dvd_right _ _)<|Int.dvd_mul_left _ _
  have awK:q1.length<=8000000:=Ch (a1.len (n:=a.2.length) (by rw[a2];have:=Sb (b:=(Int.gcd y x:Int)) (a:=((y.sign*x).natAbs:Int)) A4;have:=ha.lt;omega)) la
  have awJ:q2.length<=8000000:=Ch (b1.len (n:=b.2.length) (by rw[b2];have:=Sb (b:=(Int.gcd y x:Int)) (a:=(y.natAbs:Int)) A4;have:=hb.lt;rw[F9] at this;omega)) lb
  have v1:(bif a.1 then -AL q1 else AL q1)=((x:Rat)/(y:Rat)).num:=by rw[en,a2,ha.2.2];exact alk avh dvX
  refine Au (QQ a1.1 A4 v1) λs ⟨s1,s2⟩=>A5 (pB s1 A4) ?_
  have v2:AL q2=(((x:Rat)/(y:Rat)).den:Int):=by rw[ed,b2]
  have bD:=zX b1;have hnl:(C8 ((x:Rat)/(y:Rat)).num).length<=80000000:=by
   have h1:=Vn ((x:Rat)/(y:Rat)).num;have h2:=s1.lt;rw[ZG] at h2;by_cases hs0:s.2.length=0
   .rw[hs0] at h2;have:((x:Rat)/(y:Rat)).num.natAbs<10:=AK;have:=MR 1 _ A4 (show _<10^1 by omega);omega
   .have:=MR (9*s.2.length) ((x:Rat)/(y:Rat)).num.natAbs A4 A4;omega
  have hdl:(B5 ((x:Rat)/(y:Rat)).den).length<=80000000:=by
   have h2:=(F7 b1.1).2;rw[v2,ZG] at h2;by_cases hs0:q2.length=0
   .rw[hs0] at h2;have hp:=((x:Rat)/(y:Rat)).den_pos;have:(10:Nat)^(9*0)=1:=rfl;omega
   .have:=MR (9*q2.length) ((x:Rat)/(y:Rat)).den A4 A4;omega
  have avk:((x:Rat)/(y:Rat)).den=1->C8 ((x:Rat)/(y:Rat)).num=Av ((x:Rat)/(y:Rat)):=λh=>by unfold Av;rw[B9 h];simp
  have two:((x:Rat)/(y:Rat)).den≠1->Yd (λr=>r=Av ((x:Rat)/(y:Rat))) (bd (IJ (C8 ((x:Rat)/(y:Rat)).num) ([47]:AA)) λCG=>bd (LA false q2) λCL=>bd (Tf CL) λCq=>bd (IJ CG Cq) λCx=>some Cx):=λh=>by
   refine A5 (OQ DJ)<|Au (QQ (b:=false) b1.1 A4 v2) λt ⟨t1,t2⟩=>A5 (pB t1 A4) ?_
   have e:C8 (((x:Rat)/(y:Rat)).den:Int)=B5 ((x:Rat)/(y:Rat)).den:=by unfold C8;rw[CB A4];simp
   rw[e];refine A5 (OQ DJ)<|AW ?_
   unfold Av;rw[CB h];simp
  by_cases hlen:(q2.length:Int)=1
  .have hd:=B9 hlen;have g1':gd (decide<|(q2.length:Int)=1) true=true:=by rw[hd];rfl
   rw[Cb g1'];refine A5 (Bm (n:=0) A4)<|Ab (λhc=>?_)<|λhc=>?_
   .rw[C9] at hc;have h1:=bD.1 ⟨hc.1,As hc.2⟩;exact AW<|avk A4
   .grind
  .have hd:=CB hlen;have g1':gd (decide<|(q2.length:Int)=1) true=false:=by rw[hd];rfl
   rw[Dy g1'];refine Ab (λhc=>by rw[hd,Pe] at hc;cases hc)<|λhc=>two λe=>?_
   have h1:=bD.2 (by rw[v2,e];rfl);exact hlen<|As h1.1
 .have hn:y<0:=by rw[hq.2.2] at hd;exact As hd
  refine Au (y9 hp A4) λa ⟨ha,la⟩=>Au (y9 hq A4) λb ⟨hb,lb⟩=>hk _ ⟨?_,?_,by dsimp;omega,by dsimp;omega⟩
  .grind
  .grind
 .have hn: ¬y<0:=by rw[hq.2.2] at hd;exact Bh hd
  refine hk _ ⟨?_,?_,hl,hm⟩
  .grind
  .grind
def bq(q:Rat)(n:Nat):Prop:=q.num.natAbs<10^n/\q.den<10^n
theorem Ue(h0:y≠0):((x:Rat)/(y:Rat)).num.natAbs<=x.natAbs/\((x:Rat)/(y:Rat)).den<=y.natAbs:=by
 have en:((x:Rat)/(y:Rat)).num=(y.sign*x)/(Int.gcd y x:Int):=by rw[<-OY,iI]
 have ed:((x:Rat)/(y:Rat)).den=y.natAbs/(Int.gcd y x):=by rw[<-OY,iH,if_neg h0]
 have hg0:0<Int.gcd y x:=j7 _ h0;refine⟨?_,by rw[ed];exact Nat.div_le_self _ _⟩;rw[en];have hX:(y.sign*x).natAbs=x.natAbs:=AK;have dvX:(Int.gcd y x:Int)∣y.sign*x:=Int.dvd_trans (Int.gcd_dvd_right _ _)<|Int.dvd_mul_left _ _
 rw[Int.natAbs_ediv_of_dvd dvX,hX,F9];exact Nat.div_le_self _ _
theorem aqb{x:Rat}(h:bq x n):bq (-x) n:=by simp_all [bq]
def re(h:bq q n)(hn:0<n):(B5 q.num.natAbs).length<=n/\(B5 q.den).length<=n:=⟨MR n _ hn h.1,MR n _ hn h.2⟩
def FE.bl(h:FE p z)(hz:z.natAbs<10^n):p.2.length<=n:=by refine h.len ?_;rw[ZG];have:=LR (show 0<10 by omega) (show n<=9*n by omega);omega
def SD(h:bq q n)(hn:0<n)(hm:n<=1900000):Yd (λp=>(FE p.1 q.num/\FE p.2 (q.den:Int))/\p.1.2.length<=n/\p.2.2.length<=n) (NY<|Av q):=by have hl:=re h hn;refine(ajD A4 A4).imp λp ⟨⟨p1,p2⟩,_,_⟩=>⟨⟨p1,p2⟩,p1.bl h.1,p2.bl (by rw[F9];exact h.2)⟩
def wz(z:Int)(t:AA):∃c r,C8 z++t=c::r/\((c.toNat:Int)=45↔z<0)/\(c=45->r=B5 z.natAbs++t)/\(z<0->r=B5 z.natAbs++t):=by
 unfold C8;cases hc:decide (z<0) with
 |true=>have:=As hc;exact⟨45,B5 z.natAbs++t,rfl,⟨λ_=>this,λ_=>rfl⟩,λ_=>rfl,λ_=>rfl⟩
 |false=>
  have hz:=Bh hc;have hd:=(N4 z.natAbs).1;obtain⟨d,l,e⟩:∃d l,B5 z.natAbs=d::l:=by cases h:B5 z.natAbs with|nil=>exact absurd h<|ab1 _|cons d l=>exact⟨d,l,rfl⟩
  have hb:=fS (Dr.1 hd d (by rw[e];simp));refine⟨d,l++t,by show B5 z.natAbs++t=_;rw[e];rfl,⟨λh=>by omega,λh=>absurd h hz⟩,λh=>?_,λh=>absurd h hz⟩;subst h;exact absurd hb.1 L9
def fU(n:Nat):∀x∈B5 n,x≠47:=λx hx e=>by subst e;have:=Dr.1 (N4 n).1 _ hx;simp[Dz] at this
def E3(q:Rat):AA:=bif decide (q.den=1) then [] else 47::B5 q.den
theorem fJ(h:bq q n)(hn:0<n)(hm:n<=1900000):Yd (λr=>r.2.2=false\/(r=(q.num,(q.den:Int),true)/\q.num.natAbs<1000000000/\q.den<1000000000)) (Tb<|Av q):=by
 have hl:=re h hn;let⟨c,r,e,J3,hr,L0⟩:=wz q.num<|E3 q
 have et:Av q=c::r:=e;have hlr:r.length<=3800002:=by
  have h1:=congrArg List.length e;have h2:=Vn q.num;have h3:(E3 q).length<=n+1:=by
   unfold E3;cases decide (q.den=1)
   .simp;omega
   .simp
  simp[DS,E2] at h1;omega
 unfold Tb;rw[et];refine Ab (λ_=>AW<| .inl rfl)<|λ_=>?_
 have g1:gd (decide<|(0:Int)<((c::r).length:Int)) true=true:=by rw[B9 (by simp only[E2];omega)];rfl
 rw[Cb g1];refine A5 (x:=c) rfl ?_;have hb:((decide<|(0:Int)<((c::r).length:Int))&&(decide<|(c.toNat:Int)=(45:Int)))=decide (q.num<0):=AK;rw[hb];refine DZ (λs=>s=B5 q.num.natAbs++E3 q) ?_<|λk hk=>Ab (λhc=>?_)<|λhc=>?_
 .rintro s rfl;have hsl:Lh (B5 q.num.natAbs++E3 q)=some ((B5 q.num.natAbs).length:Int):=by
   unfold E3;cases hd:decide (q.den=1)
   .exact fg (fU _) DJ
   .rw[BX,K9];exact ow (fU _) A4
  have hlen:(B5 q.num.natAbs++E3 q).length=(B5 q.num.natAbs).length+(E3 q).length:=AT;have KS:(E3 q).length<=n+1:=by
   unfold E3;cases decide (q.den=1)
   .simp;omega
   .simp
  refine A5 hsl ?_;have rest:(B5 q.num.natAbs).length<=9->(E3 q).length<=10->Yd (λr=>r.2.2=false\/(r=(q.num,(q.den:Int),true)/\q.num.natAbs<1000000000/\q.den<1000000000))
   (bd (C5 (B5 q.num.natAbs++E3 q) 0 ((B5 q.num.natAbs).length:Int)) λBk=>bd (OH Bk) λBW=>jn (λ(DU:Int)=>jn (λ(Dn:Int)=>some (Dn,DU,true)) λKt=>cond (decide<|q.num<0) (bd (AG<|(0:Int)-BW) λEO=>Kt EO) (Kt BW)) λMt=>cond (decide<|((B5 q.num.natAbs).length:Int)<((B5 q.num.natAbs++E3 q).length:Int)) (bd (AG<|((B5 q.num.natAbs).length:Int)+(1:Int)) λCG=>bd (C5 (B5 q.num.natAbs++E3 q) CG ((B5 q.num.natAbs++E3 q).length:Int)) λCL=>bd (OH CL) λCq=>Mt Cq) (Mt (1:Int))):=by
   intro h9 Be;have hN:q.num.natAbs<1000000000:=jC h9;have es:C5 (B5 q.num.natAbs++E3 q) 0 ((B5 q.num.natAbs).length:Int)=some (B5 q.num.natAbs):=by rw[EC A4 A4 A4];simp
   have hv:=fI (N4 q.num.natAbs).1 A4;rw[(N4 _).2] at hv;refine A5 es<|A5 hv ?_
   refine DZ (λd=>d=(q.den:Int)/\q.den<1000000000) ?_<|λk hk=>Ab (λhc=>?_)<|λhc=>?_
   .rintro d ⟨rfl,hD⟩;refine DZ (λz=>z=q.num) (λz hz=>by subst hz;exact AW<| .inr ⟨rfl,hN,hD⟩)<|λk hk=>Ab (λhc=>?_)<|λhc=>?_
    .have hc:=As hc;exact A5 BH<|hk _ A4
    .grind
   .have hc:=As hc;have hd:decide (q.den=1)=false:=by
     cases hd:decide (q.den=1) with
     |false=>rfl
     |true=>unfold E3 at hlen hc;rw[hd] at hlen hc;simp at hc
    have etl:E3 q=47::B5 q.den:=by unfold E3;rw[hd];rfl
    rw[etl,E2] at Be;have eu:C5 (B5 q.num.natAbs++E3 q) (((B5 q.num.natAbs).length:Int)+1) ((B5 q.num.natAbs++E3 q).length:Int)=some (B5 q.den):=by rw[EC A4 A4 A4,Ci,D6<|BQ _,show(((B5 q.num.natAbs).length:Int)+1).toNat=(B5 q.num.natAbs).length+1 by omega,<-Fe,etl];simp
    have hw:=fI (N4 q.den).1 A4;rw[(N4 _).2] at hw;exact A5 BH<|A5 eu<|A5 hw<|hk _ ⟨rfl,jC (k:=9) A4⟩
   .have hc:=Bh hc;have hd:q.den=1:=by
     cases hd:decide (q.den=1) with
     |true=>exact As hd
     |false=>unfold E3 at hlen hc;rw[hd] at hlen hc;simp at hc;omega
    exact hk _ ⟨by rw[hd];rfl,A4⟩
  by_cases hx:(9:Int)<((B5 q.num.natAbs).length:Int)
  .have hd:=B9 hx;have g2:gd (decide<|(9:Int)<((B5 q.num.natAbs).length:Int)) false=false:=by rw[hd];rfl
   rw[Dy g2];exact Ab (λ_=>AW<| .inl rfl) (λh=>by rw[hd,ZU] at h;cases h)
  .have hd:=CB hx;have g2:gd (decide<|(9:Int)<((B5 q.num.natAbs).length:Int)) false=true:=by rw[hd];rfl
   rw[Cb g2];refine A5 BH<|Ab (λ_=>AW<| .inl rfl)<|λh=>?_
   rw[hd,WI] at h;have h:=Bh h;exact rest A4 A4
 .have hc:=As hc;have es:C5 (c::r) (1:Int) ((c::r).length:Int)=some r:=by rw[EC A4 (by simp[E2];omega) A4,Ci,D6<|BQ _];rfl
  exact A5 es<|hk _<|L0 hc
 .have hc:=Bh hc;refine hk _ ?_;rw[<-e];unfold C8;rw[CB hc];rfl
theorem rG(z:Int):mx_ z (0-z)=(z.natAbs:Int):=by grind [mx_]
def aay{g:Int}(hg:0<g)(hd:g∣x)(hx: -9000000000000000000<=x/\x<=9000000000000000000):Gv x g=some (x/g):=by
 unfold Gv;rw[CB A4,Int.tdiv_eq_ediv_of_dvd hd];obtain⟨k,rfl⟩:=hd;rw[Int.mul_ediv_cancel_left _ A4];refine EL ⟨?_,?_⟩
 .rcases(show 0<=k\/k<0 by omega) with h|h
  .omega
  .have:g*k<=1*k:=Int.mul_le_mul_of_nonpos_right A4 A4;omega
 .rcases(show 0<=k\/k<0 by omega) with h|h
  .have:1*k<=g*k:=NH A4 h;omega
  .omega
def adC(h:n<=9000000000000000000):NU (n:Int) 1=some (B5 n):=by have:=nH (k:=1) h A4;rw[qE<|Z2 _] at this;exact this
theorem abV{a b:Int}(ha: -4000000000000000000<=a/\a<=4000000000000000000)(hb:0<b/\b<=4000000000000000000):Yb a b=some (Av<|(a:Rat)/(b:Rat)):=by
 refine HG ?_;unfold Yb;have h0:b≠0:=A4;have en:((a:Rat)/(b:Rat)).num=a/(Int.gcd b a:Int):=by rw[<-OY,iI,Wa hb.1,JA]
 have ed:(((a:Rat)/(b:Rat)).den:Int)=b/(Int.gcd b a:Int):=by
  rw[<-OY,iH,if_neg h0];have:(b.natAbs:Int)=b:=A4
  conv=>rhs;rw[<-this]
  rfl
 have hg0:0<Int.gcd b a:=j7 _ h0;refine Ab (λhc=>?_)<|λ_=>?_
 .grind
 refine DZ (λs:Int×Int=>s=(a,b)) ?_ (λk hk=>Ab (λhc=>by have:=As hc;omega)<|λ_=>hk _ rfl);rintro s rfl;have atc:YS (mx_ a<|0-a) b=some (Int.gcd b a:Int):=by
  rw[rG,amo ⟨A4,A4⟩ ⟨A4,hb.2⟩]
  congr 2
  unfold Int.gcd;rw[F9,SX]
 have d1:(Int.gcd b a:Int)∣a:=Int.gcd_dvd_right _ _;have d2:(Int.gcd b a:Int)∣b:=Int.gcd_dvd_left _ _;refine A5 BH<|A5 atc<|A5 (aay A4 d1 A4)<|A5 (aay A4 d2 A4) ?_
 rw[<-en,<-ed];have hle:=Ue (x:=a) (y:=b) h0
 generalize hz:((a:Rat)/(b:Rat))=q at*
 have hN:q.num.natAbs<=4000000000000000000:=A4;have hD:q.den<=4000000000000000000:=A4;have hD0:=q.den_pos;have ad6:NU (mx_ q.num<|0-q.num) 1=some (B5 q.num.natAbs):=by rw[rG,adC A4]
 have arj:NU (q.den:Int) 1=some (B5 q.den):=by exact adC A4
 have hl1:=MR 19 q.num.natAbs A4 A4;have hl2:=MR 19 q.den A4 A4;refine DZ (λs:AA=>s=bif decide (q.num<0) then [45] else []) ?_ (λk hk=>Ab (λhc=>hk _ (by rw[hc];rfl)) (λhc=>hk _ (by rw[hc];rfl)));intro s hs;have hsl:s.length<=1:=AK;have est:s++B5 q.num.natAbs=C8 q.num:=by rw[hs];unfold C8;cases decide (q.num<0)<;>rfl
 refine A5 BH<|A5 ad6<|A5 (OQ A4) ?_
 rw[est];have KS:=Vn q.num;refine DZ (λs=>s=Av q) (λs hs=>by subst hs;exact AW rfl)<|λk hk=>Ab (λhc=>?_)<|λhc=>?_
 .have hc:=As hc;refine A5 (OQ DJ)<|A5 arj<|A5 (OQ DJ)<|hk _ ?_
  unfold Av;rw[CB (show¬q.den=1 by omega)];simp
 .have hc:=Bh hc;refine hk _ ?_;unfold Av;rw[B9 (show q.den=1 by omega)];simp
theorem aCx{x y:Rat}(hx:bq x m)(hy:bq y n)(hm:0<m/\m<=1900000)(hn:0<n/\n<=1900000):I5 (Av x) (Av y)=some (Av<|x*y):=by
 refine HG ?_;unfold I5;refine Au (fJ hx hm.1 hm.2) λr hr=>Au (fJ hy hn.1 hn.2) λs hs=>Ab (λhc=>?_)<|λ_=>?_
 .let⟨c1,c2⟩:=EG hc;obtain⟨rfl,a1,a2⟩:r=(x.num,(x.den:Int),true)/\_/\_:=by rcases hr with h|h;rw[h] at c1;cases c1;exact h
  obtain⟨rfl,b1,b2⟩:s=(y.num,(y.den:Int),true)/\_/\_:=by rcases hs with h|h;rw[h] at c2;cases c2;exact h
  dsimp;have p1:(x.num*y.num).natAbs<=999999999*999999999:=by rw[K8];exact GL A4 A4
  have p2:x.den*y.den<=999999999*999999999:=GL A4 A4;have p3:0<x.den*y.den:=Nat.mul_pos x.den_pos y.den_pos;have e:((x.den:Int)*(y.den:Int))=((x.den*y.den:Nat):Int):=AK;have hOf:=abV (a:=x.num*y.num) (b:=(x.den:Int)*(y.den:Int)) A4 (by rw[e];omega);rw[ZE] at hOf;exact A5 BH (A5 (EL ⟨by rw[e];omega,by rw[e];omega⟩)<|A5 hOf<|AW rfl)
 .refine Au (SD hx hm.1 hm.2) ?_;rintro⟨p1,p2⟩ ⟨⟨a1,a2⟩,a3,a4⟩;refine Au (SD hy hn.1 hn.2) ?_;rintro⟨q1,q2⟩ ⟨⟨b1,b2⟩,b3,b4⟩;dsimp only at*;refine Au (Yh a1 b1 A4 A4) λu ⟨u1,u2⟩=>Au (Yh a2 b2 A4 A4) λv ⟨v1,v2⟩=>?_
  have hf:=eE u1 v1 (SZ (LX x)<|LX y) A4 A4;rw[ZE] at hf;exact A5 hf<|AW rfl
theorem aCy{x y:Rat}(hx:bq x m)(hy:bq y n)(hm:0<m/\m<=1900000)(hn:0<n/\n<=1900000):Lj (Av x) (Av y)=some (Av<|x+y):=by
 refine HG ?_;unfold Lj;refine Au (fJ hx hm.1 hm.2) λr hr=>Au (fJ hy hn.1 hn.2) λs hs=>Ab (λhc=>?_)<|λ_=>?_
 .let⟨c1,c2⟩:=EG hc;obtain⟨rfl,a1,a2⟩:r=(x.num,(x.den:Int),true)/\_/\_:=by rcases hr with h|h;rw[h] at c1;cases c1;exact h
  obtain⟨rfl,b1,b2⟩:s=(y.num,(y.den:Int),true)/\_/\_:=by rcases hs with h|h;rw[h] at c2;cases c2;exact h
  dsimp;have p1:(x.num*y.den).natAbs<=999999999*999999999:=by rw[K8,F9];exact GL A4 A4
  have p1':(y.num*x.den).natAbs<=999999999*999999999:=by rw[K8,F9];exact GL A4 A4
  have p2:x.den*y.den<=999999999*999999999:=GL A4 A4;have p3:0<x.den*y.den:=Nat.mul_pos x.den_pos y.den_pos;have e:((x.den:Int)*(y.den:Int))=((x.den*y.den:Nat):Int):=AK;have hOf:=abV (a:=x.num*y.den+y.num*x.den) (b:=(x.den:Int)*(y.den:Int)) A4 (by rw[e];omega);rw[ZF] at hOf;exact A5 BH (A5 BH (A5 BH (A5 (EL ⟨by rw[e];omega,by rw[e];omega⟩)<|A5 hOf<|AW rfl)))
 .refine Au (SD hx hm.1 hm.2) ?_;rintro⟨p1,p2⟩ ⟨⟨a1,a2⟩,a3,a4⟩;refine Au (SD hy hn.1 hn.2) ?_;rintro⟨q1,q2⟩ ⟨⟨b1,b2⟩,b3,b4⟩;dsimp only at*;refine Au (Yh a1 b2 A4 A4) λu ⟨u1,u2⟩=>Au (Yh b1 a2 A4 A4) λv ⟨v1,v2⟩=>Au (akP u1 v1 A4 A4) λw ⟨w1,w2⟩=>Au (Yh a2 b2 A4 A4) λt ⟨t1,t2⟩=>?_
  have hf:=eE w1 t1 (SZ (LX x)<|LX y) A4 A4;rw[ZF] at hf;exact A5 hf<|AW rfl
def wy:Av 0=[48]:=A6
def Yf(q:Rat)(hl:(Av q).length<100000000):(Av q==([48]:AA))=decide (q=0):=by
 by_cases h:q=0
 .subst h;rw[wy];rfl
 .rw[CB h];rw[iX];intro e;apply h;have hn:=nX q.num;unfold Av at e;cases hd:decide (q.den=1) with
  |true=>
   rw[hd] at e;have e:C8 q.num=[48]:=by simpa using e
   unfold C8 at e;cases hc:decide (q.num<0) with
   |true=>rw[hc] at e;have e:45::B5 q.num.natAbs=[48]:=e;cases e
   |false=>
    rw[hc] at e;have e:B5 q.num.natAbs=[48]:=e;have hv:=(N4 q.num.natAbs).2;rw[e] at hv;have:q.num=0:=by have:BU [48]=0:=rfl;omega
    exact N8.1 this
  |false=>rw[hd] at e;have e:C8 q.num++47::B5 q.den=[48]:=e;have:=congrArg List.length e;simp at this;have h2:=Z2 q.den;omega
theorem z6(hl:(Av q).length<100000000):K1 (Av q)=some (bif decide (q=0) then 0 else bif decide (q.num<0) then -1 else 1):=by
 let⟨c,r,e,J3,_,_⟩:=wz q.num<|E3 q
 have et:Av q=c::r:=e;unfold K1;rw[Yf q hl];cases hz:decide (q=0) with
 |true=>rfl
 |false=>
  show Ax _ _ _ _=_;rw[et];have g1:gd (decide<|(0:Int)<((c::r).length:Int)) true=true:=by rw[B9 (by simp only[E2];omega)];rfl
  rw[Cb g1];show cond ((decide<|(0:Int)<((c::r).length:Int))&&(decide<|(c.toNat:Int)=(45:Int))) _ _=_;have hb:((decide<|(0:Int)<((c::r).length:Int))&&(decide<|(c.toNat:Int)=(45:Int)))=decide (q.num<0):=AK;rw[hb];cases decide (q.num<0)<;>rfl
def xr(h:bq q n)(hn:0<n):(Av q).length<=2*n+2:=by
 have hl:=re h hn;have h2:=Vn q.num;unfold Av;cases decide (q.den=1)
 .simp;omega
 .simp;omega
def ams(h:bq q n)(hn:0<n/\n<=1900000):Th (Av q)=some (Av<| -q):=by
 have hlen:=xr h hn.1;have hs:=z6 (q:=q) A4;unfold Th;rw[hs];have ed:(-q).den=q.den:=Rat.neg_den q;have en:(-q).num= -q.num:=Rat.neg_num q;cases hz:decide (q=0) with
 |true=>
  have hz:=As hz;subst hz
  rfl
 |false=>
  have hz:=Bh hz;have hnz:q.num≠0:=λe=>hz<|N8.1 e
  cases hc:decide (q.num<0) with
  |true=>
   have FR:=As hc;have et:Av q=45::(B5 q.num.natAbs++E3 q):=by show C8 q.num++E3 q=_;unfold C8;rw[hc];rfl
   have e2:Av (-q)=B5 q.num.natAbs++E3 q:=by show C8 (-q).num++(bif decide ((-q).den=1) then [] else 47::B5 (-q).den)=_;rw[en,ed];unfold C8;rw[CB A4,iG];rfl
   show bd (C5 (Av q) 1 ((Av q).length:Int)) (λx4=>some x4)=_;rw[e2,et,EC A4 (by simp[E2];omega) A4,Ci,D6<|BQ _];rfl
  |false=>
   have FR:=Bh hc;have et:Av q=B5 q.num.natAbs++E3 q:=by show C8 q.num++E3 q=_;unfold C8;rw[hc];rfl
   have e2:Av (-q)=45::(B5 q.num.natAbs++E3 q):=by show C8 (-q).num++(bif decide ((-q).den=1) then [] else 47::B5 (-q).den)=_;rw[en,ed];unfold C8;rw[B9 (show -q.num<0 by omega),iG];rfl
   show bd (IJ ([45]:AA)<|Av q) (λx9=>some x9)=_;rw[OQ DJ,e2,et];rfl
def amp{x y:Rat}(hx:bq x m)(hy:bq y n)(hm:0<m/\m<=1900000)(hn:0<n/\n<=1900000):ML (Av x) (Av y)=some (Av<|x-y):=by unfold ML;rw[ams hy hn];show bd (Lj (Av x)<|Av<| -y) (λx3=>some x3)=_;rw[aCy hx (aqb hy) hm hn,iU];rfl
def gW(x:Rat):((x.den:Int):Rat)/(x.num:Rat)=x⁻¹ :=by rw[Rat.inv_def,OY]
theorem aqc{x:Rat}(h:bq x n)(h0:x≠0):bq x⁻¹ n:=by(simp_all [bq]<;>grind)
theorem zy{l:AA}{e:Bool}(hl:l.length<1099511627776):lp 18446744073709551616 (λ(k2:Int->A9 Bool) (s1:Int)=>cond (decide<|s1<(l.length:Int)) (bd (AB l s1) λx4=>Ax (gd (decide<|(x4.toNat:Int)<(48:Int)) false) (0) (AB l s1) λx6=>cond (((decide<|(x4.toNat:Int)<(48:Int))||(decide<|(57:Int)<(x6.toNat:Int)))) (some false) (bd (AG<|s1+(1:Int)) λx9=>k2 x9)) (some e)) (0:Int)=some (l.all Dz&&e):=by
 have key:Yd (λr=>r=(l.all Dz&&e)) (lp 18446744073709551616 (λ(k2:Int->A9 Bool) (s1:Int)=>cond (decide<|s1<(l.length:Int)) (bd (AB l s1) λx4=>Ax (gd (decide<|(x4.toNat:Int)<(48:Int)) false) (0) (AB l s1) λx6=>cond (((decide<|(x4.toNat:Int)<(48:Int))||(decide<|(57:Int)<(x6.toNat:Int)))) (some false) (bd (AG<|s1+(1:Int)) λx9=>k2 x9)) (some e)) (0:Int)):=by
  refine ET (λi:Int=>0<=i/\i<=l.length/\(l.take i.toNat).all Dz=true) (λi=>l.length-i.toNat) ?_ _ _ ⟨A4,A4,AT⟩ A4;rintro next i ⟨g1,g2,g3⟩ hn
  obtain⟨n,rfl⟩:=FA g1;rw[Ci] at g3;refine Ab (λhc=>?_)<|λhc=>?_
  .have hc:=As hc;have hlt:n<l.length:=A4;have hg:AB l (n:Int)=some l[n]:=Gs hlt;refine A5 hg ?_;have bad:Dz l[n]=false->(l.all Dz&&e)=false:=λh=>by have:l.all Dz=false:=AK;rw[this];rfl
   by_cases KY:(l[n].toNat:Int)<48
   .have hd:=B9 KY;have g:gd (decide<|(l[n].toNat:Int)<48) false=false:=by rw[hd];rfl
    rw[Dy g];refine Ab (λ_=>AW ?_) (λh=>by rw[hd,ZU] at h;cases h);rw[bad];unfold Dz;rw[show Nat.ble 48 l[n].toNat=false from by cases hb:Nat.ble 48 l[n].toNat with|false=>rfl|true=>have:=Dx hb;omega];rfl
   .have hd:=CB KY;have g:gd (decide<|(l[n].toNat:Int)<48) false=true:=by rw[hd];rfl
    rw[Cb g];refine A5 hg<|Ab (λh=>?_)<|λh=>?_
    .rw[hd,WI] at h;have h:=As h;refine AW ?_;rw[bad];unfold Dz;rw[show Nat.ble l[n].toNat 57=false from by cases hb:Nat.ble l[n].toNat 57 with|false=>rfl|true=>have:=Dx hb;omega,ZW]
    .rw[hd,WI] at h;have h:=Bh h;refine A5 BH<|hn _ ⟨A4,A4,?_⟩ A4
     rw[show(((n:Nat):Int)+1).toNat=n+1 by omega,List.take_succ,Gs hlt,iM,g3];simp only[Option.toList_some,OU,List.all_nil,iE,Kg];unfold Dz;rw[Ig A4,Ig A4];rfl
  .have hc:=Bh hc;have:n=l.length:=A4;subst this;rw[D6<|BQ _] at g3;refine AW ?_;rw[g3];rfl
 obtain⟨r,e,rfl⟩:=key;exact e
def Gt(l:AA):Bool:=l.all Dz&&(!(l==[])&&(l==[48]|| !(l.head?==some 48)))
theorem uf{l:AA}(hl:l.length<1099511627776):XV l=some (Gt l):=by
 have hd:dI l=some (l.all Dz):=by unfold dI;rw[zy hl,iE]
 unfold XV;rw[hd]
 match l,hl with
 |[],_=>rfl
 |[x],_=>
  show some ([x].all Dz)=_;unfold Gt;by_cases h:x=48
  .subst h;rfl
  .have e1:([x]==([]:AA))=false:=rfl;have e2:([x].head?==some (48:UInt8))=false:=by simpa using h
   rw[e1,e2];simp
 |x::y::r,hl=>
  have g:(gd (decide<|((x::y::r).length:Int)=(0:Int)) false&&gd (decide<|(1:Int)<((x::y::r).length:Int)) true)=true:=by rw[CB (by simp only[E2];omega),B9 (by simp only[E2];omega)];rfl
  rw[Cb g];show cond ((decide<|((x::y::r).length:Int)=(0:Int))||((decide<|(1:Int)<((x::y::r).length:Int))&&(decide<|(x.toNat:Int)=(48:Int)))) _ _=_;rw[CB (show¬((x::y::r).length:Int)=0 by simp only[E2];omega),B9 (show(1:Int)<((x::y::r).length:Int) by simp only[E2];omega),WI,Kg];unfold Gt;have e1:((x::y::r)==([]:AA))=false:=rfl;have e3:((x::y::r)==([48]:AA))=false:=AK;have e2:((x::y::r).head?==some (48:UInt8))=decide ((x.toNat:Int)=48):=by
   show(some x==some (48:UInt8))=_;by_cases h:x=48
   .subst h;rfl
   .rw[CB (λh'=>h (iL.1 (by show _=48;omega)))];rw[iX];intro e;exact h<|Ez e
  rw[e1,e2,e3];cases decide ((x.toNat:Int)=48)
  .show some _=some _;simp
  .grind
def wM{l:AA}(hl:l.length<1099511627776):TY l=some (Gt l):=by
 have hd:dF l=some (l.all Dz&& !(l==[])):=by unfold dF;rw[zy hl]
 unfold TY;rw[hd];show Ax _ _ _ _=_;unfold Gt
 match l with
 |[]=>rfl
 |x::r=>
  have e1:((x::r)==([]:AA))=false:=rfl;have e2:((x::r).head?==some (48:UInt8))=decide ((x.toNat:Int)=48):=by
   show(some x==some (48:UInt8))=_;by_cases h:x=48
   .subst h;rfl
   .rw[CB (λh'=>h (iL.1 (by show _=48;omega)))];rw[iX];intro e;exact h<|Ez e
  rw[e1,e2];have i0:AB (x::r) (0:Int)=some x:=rfl;rw[i0];cases(x::r).all Dz
  .rfl
  .cases((x::r)==([48]:AA))<;>rfl
theorem pK:∀(n:Nat) (l:AA),l.length=n->Gt l=true->l=B5 (BU l)
 |0,l,hl,h=>by have:l=[]:=LU hl;subst this;cases h
 |n+1,l,hl,h=>by
  have hne:l≠[]:=AK;let⟨h1,h2⟩:=EG h;let⟨h3,h4⟩:=EG h2;have hx:=List.dropLast_concat_getLast hne
  generalize hi:l.dropLast=i at hx
  generalize l.getLast hne=d at hx
  subst hx;rw[iM] at h1;let⟨hi1,hd1⟩:=EG h1;have hd:Dz d=true:=by simpa using hd1
  have hdr:=fS hd;have ed:UInt8.ofNat (48+(d.toNat-48))=d:=by rw[show 48+(d.toNat-48)=d.toNat by omega];simp
  have ev:BU [d]=d.toNat-48:=by simp[BU]
  rw[YN,ev,Fw,Nat.pow_one];by_cases h0:i=[]
  .subst h0;rw[show BU ([]:AA)=0 from rfl,iC,Pd,OO A4,ed];rfl
  .have acy: ¬(i.head?=some 48):=λe=>by have e2:(i++[d]).head?=some 48:=AK;rw[e2] at h4;have e3:((i++[d])==[48])=false:=AK;rw[e3] at h4;cases h4
   have hid:Gt i=true:=by unfold Gt;rw[hi1];have e1:(i==([]:AA))=false:=AK;have e2:(i.head?==some (48:UInt8))=false:=AK;rw[e1,e2];simp
   have hln:i.length=n:=by simpa using hl
   have ih:=pK n i hln hid;have hpos:0<BU i:=by
    rcases M1 (BU i) with e|e
    .rw[e] at ih;rw[ih] at acy;exact absurd rfl acy
    .exact e
   rw[S9 A4,show(BU i*10+(d.toNat-48))/10=BU i by omega,show(BU i*10+(d.toNat-48))%10=d.toNat-48 by omega,<-ih,ed]
def sp:AA->AA×AA×Bool
 |[]=>([],[],false)|b::l=>bif b==47 then([],l,true) else(b::(sp l).1,(sp l).2.1,(sp l).2.2)
def pL:∀(s pre:AA),cutAt 47 pre s=(pre.reverse++(sp s).1,(sp s).2.1,(sp s).2.2)
 |[],pre=>by simp[cutAt,sp]
 |b::l,pre=>by
  unfold cutAt sp;cases h:b==47
  .rw[B8,B8,pL l];simp
  .simp
theorem jg:∀(s:AA),s=(sp s).1++(bif (sp s).2.2 then 47::(sp s).2.1 else [])/\(∀x∈(sp s).1,x≠47)/\((sp s).2.2=false->(sp s).2.1=[])
 |[]=>⟨rfl,by simp[sp],λ_=>rfl⟩
 |b::l=>by
  let⟨h1,h2,h3⟩:=jg l;unfold sp;cases h:b==47
  .grind
  .grind
def Hs(neg:Bool)(u t:AA)(fd:Bool):Int:=
 bif ((!Gt u)||(neg&&(u==([48]:AA))))||(fd&&(((!Gt t)||(t==([48]:AA)))||(t==([49]:AA)))) then 1
 else bif fd&& !decide (Nat.gcd (BU u) (BU t)=1) then 1 else 0
theorem Vs{l:AA}(h:Gt l=true):l.all Dz=true/\l≠[]:=by grind [Gt,Dz]
def fZ{l:AA}(h:l.all Dz=true)(hl:l.length<1000000):Jg l=some (BU l:Int):=by
 unfold Jg;split
 .rename_i ds;have:=Dr.1 h 45 AT;cases this
 .rw[h,show Nat.blt l.length 1000000=true from Ig hl];rfl
def ajx{l:AA}(h:l.all Dz=true)(hl:l.length<1000000):Jg (45::l)=some (-(BU l:Int)):=by show ES (l.all Dz&&Nat.blt l.length 1000000) (-(BU l:Int))=_;rw[h,show Nat.blt l.length 1000000=true from Ig hl];rfl
def xv(h:z.natAbs<10^14):D4 z=true:=OP h A4
def aA2(hl:core.length<=1000):jj (bif neg then 45::core else core) [47]=some ((bif neg then 45::(sp core).1 else(sp core).1),(sp core).2.1,(sp core).2.2):=by
 cases neg
 .show ES (Nat.blt core.length 4294967281) (cutAt 47 [] core)=_;rw[show Nat.blt core.length 4294967281=true from Ig A4,pL];rfl
 .show ES (Nat.blt (45::core).length 4294967281) (cutAt 47 [] (45::core))=_;rw[show Nat.blt (45::core).length 4294967281=true from Ig (by simp[E2];omega),pL];rfl
def wU:OF (45::u) [45]=some true:=by
 have e:C5 (45::u) 0 (([45]:AA).length:Int)=some [45]:=by rw[EC A4 AT DJ];rfl
 have hd:decide ((([45]:AA).length:Int)<=((45::u).length:Int))=true:=B9 DJ;have g:gd (decide<|(([45]:AA).length:Int)<=((45::u).length:Int)) true=true:=by rw[hd];rfl
 unfold OF;rw[Cb g,e];show some (_&&_)=_;rw[hd];rfl
def aho:Rh (45::u) [45]=some (u,true):=by
 have e2:C5 (45::u) (([45]:AA).length:Int) ((45::u).length:Int)=some u:=by rw[EC AT DJ A4];simp
 unfold Rh bU;rw[wU];show bd (bd (C5 (45::u) (([45]:AA).length:Int) ((45::u).length:Int)) _) _=_;rw[e2];rfl
theorem xM(h:u.head?≠some 45):OF u [45]=some false:=by
 unfold OF
 match u,h with
 |[],_=>rfl
 |x::r,h=>
  have e:C5 (x::r) 0 (([45]:AA).length:Int)=some [x]:=by rw[EC A4 AT DJ];rfl
  have hd:decide ((([45]:AA).length:Int)<=((x::r).length:Int))=true:=B9 DJ;have g:gd (decide<|(([45]:AA).length:Int)<=((x::r).length:Int)) true=true:=by rw[hd];rfl
  rw[Cb g,e];show some (_&&_)=_;have:([x]==([45]:AA))=false:=AK;rw[this,ZW]
def ahn(h:u.head?≠some 45):Rh u [45]=some (u,false):=by unfold Rh bU;rw[xM h];rfl
def Cp(x:α)(K:α->A9 ρ):bd (some x) K=K x:=rfl
theorem agf(hl:core.length<=14)(J3:neg=false->core.head?≠some 45):TZ (bif neg then 45::core else core)=some (Hs neg (sp core).1 (sp core).2.1 (sp core).2.2):=by
 let⟨q1,q2,q3⟩:=jg core;have hlen:=congrArg List.length q1;rw[DS] at hlen;unfold TZ;rw[aA2 A4]
 generalize hu:(sp core).1=u at*
 generalize ht:(sp core).2.1=t at*
 generalize hf:(sp core).2.2=fd at*
 have hul:u.length<=14:=A4;have KS:t.length<=14:=AK;have hp:Rh (bif neg then 45::u else u) [45]=some (u,neg):=by
  cases neg
  .refine ahn ?_;have J3:=J3 rfl;intro e;have e:u.head?=some 45:=e;apply J3;rw[q1,List.head?_append,e];rfl
  .exact aho
 show bd (Rh (bif neg then 45::u else u) [45]) _=_;rw[hp];show bd (TY u) _=_;rw[wM (l:=u) A4];show Ax _ _ (TY t) _=_;rw[wM (l:=t) A4];have tail:∀te:Bool,te=(fd&&(((!Gt t)||(t==([48]:AA)))||(t==([49]:AA))))->((!Gt u)||(neg&&(u==([48]:AA))))=false->te=false->(cond (((decide<|(600:Int)<(u.length:Int))||(decide<|(600:Int)<(t.length:Int)))) (some (4:Int)) (jn (λ(Hw:Unit)=>some (0:Int)) λJL=>cond (fd) (bd (Jg u) λBk=>bd (Jg t) λBW=>bd (Q8 Bk BW) λC4=>bd (R9 C4) λBx=>cond (((!Bx.2)||(!decide (Bx.1=(1:Int))))) (some (1:Int)) (JL ())) (JL ())))=some (Hs neg u t fd):=by
  intro te e1 e2 e3;rw[CB A4,CB A4];unfold Hs;rw[e2,<-e1,e3];cases fd
  .rfl
  .have du:Gt u=true:=by cases h:Gt u with|true=>rfl|false=>rw[h] at e2;cases e2
   have dt:Gt t=true:=AK;have au:=Vs du;have at':=Vs dt;have lu:=Qb u au.1;have lt:=Qb t at'.1;have p1:=LR (show 0<10 by omega) hul;have p2:=LR (show 0<10 by omega) KS;have hg:Q8 (BU u:Int) (BU t:Int)=some (Nat.gcd (BU u) (BU t):Int):=by unfold Q8;rw[xv DJ,xv DJ];rfl
   have awR:Nat.gcd (BU u) (BU t)<10^14:=by
    rcases M1 (BU u) with e|e
    .grind
    .have:=Nat.le_of_dvd e (Nat.gcd_dvd_left (BU u)<|BU t);omega
   have hs:R9 (Nat.gcd (BU u) (BU t):Int)=some ((Nat.gcd (BU u) (BU t):Int),true):=by unfold R9 IL;rw[CB A4,B9 A4,B9 A4];rfl
   show bd (Jg u) _=_;rw[fZ au.1 A4];show bd (Jg t) _=_;rw[fZ at'.1 A4];show bd (Q8 _ _) _=_;rw[hg];rw[Cp];rw[hs];show cond (false|| !decide (((Nat.gcd (BU u) (BU t):Nat):Int)=1)) (some 1) (some 0)=some (bif false then 1 else bif true&& !decide (Nat.gcd (BU u) (BU t)=1) then 1 else 0);have e:decide (((Nat.gcd (BU u) (BU t):Nat):Int)=1)=decide (Nat.gcd (BU u) (BU t)=1):=Gr.2 A4;rw[e];cases decide (Nat.gcd (BU u) (BU t)=1)<;>rfl
 cases hb1:((!Gt u)||(neg&&(u==([48]:AA)))) with
 |true=>show Ax (gd true false&&gd fd true) false _ _=_;rw[Dy F6];show cond (true||_) _ _=_;rw[ZU,BX];unfold Hs;rw[hb1];rfl
 |false=>
  cases fd with
  |false=>show Ax (gd false false&&gd false true) false _ _=_;rw[Dy F6];exact tail false rfl hb1 rfl
  |true=>
   show Ax (gd false false&&gd true true) false _ _=_;rw[Cb F6];show cond (false||(true&&_)) _ _=_;cases hb2:(((!Gt t)||(t==([48]:AA)))||(t==([49]:AA))) with
   |true=>show some 1=_;unfold Hs;rw[hb1,hb2];rfl
   |false=>exact tail false (by rw[hb2];rfl) hb1 rfl
def ah1{t:AA}(hu:Gt u=true)(ht:Gt t=true)(J2:∀x∈u,x≠47)(lu:u.length<=1000)(lt:t.length<=1000):Yd (λp=>FE p.1 (BU u:Int)/\FE p.2 (BU t:Int)/\p.1.2.length<=u.length/\p.2.2.length<=t.length) (NY (u++47::t)):=by
 have au:=Vs hu;have at':=Vs ht;have hlt:(u++47::t).length=u.length+1+t.length:=by simp;omega
 unfold NY;refine A5 (fg J2 A4) (Ab (λh=>by have:=As h;omega)<|λ_=>?_);have es:C5 (u++47::t) 0 (u.length:Int)=some u:=by rw[EC A4 A4 A4];simp
 have et:C5 (u++47::t) ((u.length:Int)+1) ((u++47::t).length:Int)=some t:=by rw[EC A4 A4 A4,Ci,D6<|BQ _,show((u.length:Int)+1).toNat=u.length+1 by omega,<-Fe];simp
 refine A5 es<|Au (oN false au.1 au.2 A4) λp hp=>A5 BH<|A5 et<|Au (oN false at'.1 at'.2 A4) λr hr=>AW ⟨hp.1,hr.1,hp.2,hr.2⟩
theorem ajF(hl:core.length<=14)(J3:neg=false->core.head?≠some 45):Rv (bif neg then 45::core else core)=some (Hs neg (sp core).1 (sp core).2.1 (sp core).2.2):=by
 have key:Yd (λr=>r=Hs neg (sp core).1 (sp core).2.1 (sp core).2.2) (Rv (bif neg then 45::core else core)):=by
  let⟨q1,q2,q3⟩:=jg core;have hlen:=congrArg List.length q1;rw[DS] at hlen;by_cases hF0:(bif neg then 45::core else core)=[]
  .have hn:neg=false:=by cases neg;rfl;cases hF0
   subst hn;have hc:core=[]:=hF0;subst hc;exact AW rfl
  obtain⟨c,r,e⟩:∃c r,(bif neg then 45::core else core)=c::r:=by cases h:(bif neg then 45::core else core) with|nil=>exact absurd h hF0|cons c r=>exact⟨c,r,rfl⟩
  have hc:decide ((c.toNat:Int)=45)=neg:=by
   cases neg with
   |true=>
    have:c=45:=by cases e;rfl
    subst this;rfl
   |false=>
    have e:core=c::r:=e;refine CB λh=>J3 rfl ?_
    have:c=45:=iL.1 (by show _=45;omega);rw[e,this];rfl
  have hs1:neg=true->r=core:=AK;have hs0:neg=false->c::r=core:=AK
  generalize hu:(sp core).1=u at*
  generalize ht:(sp core).2.1=t at*
  generalize hf:(sp core).2.2=fd at*
  have hul:u.length<=14:=A4;have KS:t.length<=14:=AK;unfold Rv;rw[e];have g1:gd (decide<|(0:Int)<((c::r).length:Int)) true=true:=by rw[B9 (by simp only[E2];omega)];rfl
  rw[Cb g1];refine A5 (x:=c) rfl ?_;have hb:((decide<|(0:Int)<((c::r).length:Int))&&(decide<|(c.toNat:Int)=(45:Int)))=neg:=AK;rw[hb];refine DZ (λs=>s=core) ?_<|λk hk=>Ab (λhn=>?_)<|λhn=>?_
  rotate_left
  .have es:C5 (c::r) (1:Int) ((c::r).length:Int)=some core:=by rw[EC A4 (by simp[E2];omega) A4,<-hs1 hn];simp
   exact A5 es<|hk _ rfl
  .grind
  .intro s hs;rw[hs];clear hs s;have hsl:Lh core=some (u.length:Int):=by
    rw[q1];cases fd
    .rw[B8,K9];exact ow q2 A4
    .rw[BX];exact fg q2 DJ
   have hsu:C5 core 0 (u.length:Int)=some u:=by rw[EC A4 A4 A4,q1];simp
   have hlt:decide ((u.length:Int)<(core.length:Int))=fd:=AK;refine A5 hsl<|A5 hsu<|A5 (uf (l:=u) A4) ?_
   rw[hlt];cases hdu:Gt u with
   |false=>rw[Dy F6,Dy F6];refine AW ?_;unfold Hs;rw[hdu];rfl
   |true=>
    rw[Cb F6];refine A5 (x:=c) rfl ?_;rw[hc];have atE:∀K:AA->A9 Int,((neg&&(u==([48]:AA)))=true->Yd (λr=>r=Hs neg u t fd) (K u))->((neg&&(u==([48]:AA)))=false->∀w,(neg&&(w==([48]:AA)))=false->Yd (λr=>r=Hs neg u t fd) (K w))->Yd (λr=>r=Hs neg u t fd) (Ax (gd (!true) false&&gd neg true) ([]) (C5 core 0 (u.length:Int)) K):=by
     intro K h1 h2;cases neg with
     |false=>rw[Dy F6];exact h2 rfl _ rfl
     |true=>rw[Cb F6];refine A5 hsu ?_;cases hb:(true&&(u==([48]:AA))) with|true=>exact h1 hb|false=>exact h2 hb _ hb
    refine atE _ (λhb1=>?_)<|λhb1 w hw=>?_
    .rw[hb1];refine AW ?_;unfold Hs;rw[hb1,hdu];rfl
    .rw[hw];refine Ab (λh=>by cases h)<|λ_=>?_
     have small:∀K:Int->Int->A9 Int,Yd (λr=>r=Hs neg u t fd) (K ((core.length:Int)-(u.length:Int))<|(core.length:Int)-(u.length:Int)-1)->Yd (λr=>r=Hs neg u t fd) (Ax (gd (decide<|(600:Int)<(u.length:Int)) false) (0) (AG<|(core.length:Int)-(u.length:Int)) λGi=>Ax (gd (decide<|(600:Int)<(u.length:Int)) false) (0) (AG<|Gi-(1:Int)) λEk=>K Gi Ek):=by intro K h;rw[CB (show¬(600:Int)<(u.length:Int) by omega),Cb F6];refine A5 BH ?_;rw[Cb F6];exact A5 BH h
     cases fd with
     |false=>
      rw[Dy F6,Dy F6,Dy F6,Dy F6,Dy F6,Dy F6,Dy F6];refine Ab (λh=>by cases h)<|λ_=>?_
      refine small (λGi Ek=>_) ?_;rw[CB (show¬(600:Int)<(u.length:Int) by omega),CB (show¬(600:Int)<((core.length:Int)-(u.length:Int)-1) by omega)];refine AW ?_;unfold Hs;rw[hdu,hb1];rfl
     |true=>
      rw[BX] at q1 hlen;rw[E2] at hlen;have f1:AG ((u.length:Int)+1)=some ((u.length:Int)+1):=EL ⟨A4,A4⟩;have et:C5 core ((u.length:Int)+1) (core.length:Int)=some t:=by rw[EC A4 A4 A4,Ci,D6<|BQ _,show((u.length:Int)+1).toNat=u.length+1 by omega,q1,<-Fe];simp
      rw[Cb F6];refine A5 f1 ?_;rw[Cb F6];refine A5 et ?_;rw[Cb F6];refine A5 (uf (l:=t) A4) ?_;cases hdt:Gt t with
      |false=>rw[Dy F6,Dy F6,Dy F6,Dy F6];refine AW ?_;unfold Hs;rw[hdu,hb1,hdt];rfl
      |true=>
       rw[Cb F6];refine A5 f1 ?_;rw[Cb F6];refine A5 et ?_;cases h0:(t==([48]:AA)) with
       |true=>rw[Dy F6,Dy F6];refine AW ?_;unfold Hs;rw[hdu,hb1,hdt,h0];rfl
       |false=>
        rw[Cb F6];refine A5 f1 ?_;rw[Cb F6];refine A5 et ?_;cases h1:(t==([49]:AA)) with
        |true=>refine AW ?_;unfold Hs;rw[hdu,hb1,hdt,h0,h1];rfl
        |false=>
         refine Ab (λh=>by cases h)<|λ_=>?_
         refine small (λGi Ek=>_) ?_;rw[CB (show¬(600:Int)<(u.length:Int) by omega),CB (show¬(600:Int)<((core.length:Int)-(u.length:Int)-1) by omega)];refine Ab (λh=>by cases h)<|λ_=>?_
         refine DZ (λ_=>Nat.gcd (BU u) (BU t)=1) (λ_ h=>AW ?_) (λk hk=>Ab (λ_=>?_) (λh=>by cases h))
         .unfold Hs;rw[hdu,hb1,hdt,h0,h1,B9 h];rfl
         .have pp:=ah1 hdu hdt q2 A4 A4;rw[<-q1] at pp;refine Au pp λp ⟨p1,p2,p3,p4⟩=>Au (xL p1.1 p2.1 A4 A4) λw ⟨w1,w2,w3⟩=>?_
          have hv:AL w=(Nat.gcd (BU u) (BU t):Int):=by rw[w2,p1.2.1,p2.2.1];simp[Int.gcd]
          have bD:=zX w1;rw[hv] at bD;have bad:Nat.gcd (BU u) (BU t)≠1->Yd (λr=>r=Hs neg u t true) (some (1:Int)):=λh=>AW (by unfold Hs;rw[hdu,hb1,hdt,h0,h1,CB h];rfl)
          refine GR (λhg=>?_)<|λhg=>?_
          .have hlw:decide ((w.length:Int)=1)=true:=by cases h:decide ((w.length:Int)=1) with|true=>rfl|false=>rw[h] at hg;cases hg
           obtain⟨d,rfl⟩:∃d,w=[d]:=il.1 (by have:=As hlw;omega);refine⟨d,rfl,?_⟩;refine Ab (λh=>?_)<|λh=>?_
           .grind
           .grind
          .have hlw:decide ((w.length:Int)=1)=false:=by cases h:decide ((w.length:Int)=1) with|false=>rfl|true=>rw[h] at hg;cases hg
           rw[hlw];refine bad λh'=>?_
           have:=(bD.2 A4).1;rw[hlw] at this;cases this
 let⟨r,h1,h2⟩:=key;rw[h1,h2]
def isNum(s:AA)(q:Rat):Prop:=s=Av q/\bq q 14/\PN s=some q
def abp:B5 0=[48]:=A6
def abo:B5 1=[49]:=A6
def ap6{a:Int}(h0:d≠0)(hg:Nat.gcd a.natAbs d=1):∃q,mkq a (d:Int)=some q/\q.num=a/\q.den=d:=by
 obtain⟨k,rfl⟩:=Nat.exists_eq_succ_of_ne_zero h0;have h:mkq a ((k+1:Nat):Int)=some (mkRat a<|k+1):=by show ES (Nat.beq (Nat.gcd a.natAbs<|k+1) 1) (mkRat a<|k+1)=_;rw[show Nat.beq (Nat.gcd a.natAbs<|k+1) 1=true from by rw[hg];rfl];rfl
 let⟨h1,h2⟩:=zT h;exact⟨_,h,h1,A4⟩
def alv(hl:(bif neg then 45::core else core).length<=14)(hc:Hs neg (sp core).1 (sp core).2.1 (sp core).2.2=0):∃q,isNum (bif neg then 45::core else core) q:=by
 have hl:core.length<=14:=by cases neg<;>simp at hl<;>omega
 let⟨q1,q2,q3⟩:=jg core;have hlen:=congrArg List.length q1;rw[DS] at hlen;unfold isNum PN;rw[aA2 A4]
 generalize hu:(sp core).1=u at*
 generalize ht:(sp core).2.1=t at*
 generalize hf:(sp core).2.2=fd at*
 have hul:u.length<=14:=A4;unfold Hs at hc;cases tR:((!Gt u)||(neg&&(u==([48]:AA))))||(fd&&(((!Gt t)||(t==([48]:AA)))||(t==([49]:AA)))) with
 |true=>rw[tR] at hc;cases hc
 |false=>
 rw[tR,B8] at hc;let⟨b1,b2⟩:=Ki.1 tR;let⟨b3,b4⟩:=Ki.1 b1;have du:Gt u=true:=by simpa using b3
 have au:=Vs du;have lu:=Qb u au.1;have p1:=LR (show 0<10 by omega) hul;have eu:=pK _ u rfl du;obtain⟨z,hz,hzn,hzr⟩:∃z:Int,(bif neg then 45::u else u)=C8 z/\z.natAbs=BU u/\Jg (bif neg then 45::u else u)=some z:=by
  cases neg with
  |false=>refine⟨(BU u:Int),?_,AT,fZ (l:=u) au.1 A4⟩;unfold C8;rw[CB A4];simp[<-eu]
  |true=>
   have h0:BU u≠0:=λh=>by rw[h,abp] at eu;rw[eu] at b4;cases b4
   refine⟨-(BU u:Int),?_,AT,ajx (l:=u) au.1 A4⟩;unfold C8;rw[B9 A4];simp[<-eu]
 cases fd with
 |false=>
  rw[B8,K9] at q1;refine⟨(z:Rat),?_,⟨by rw[UG];omega,by rw[WM];omega⟩,?_⟩
  .rw[q1,hz];unfold Av;rw[UG,WM];simp
  .show bd (Jg (bif neg then 45::u else u)) _=_;rw[hzr];rfl
 |true=>
  rw[BX] at q1 hlen;rw[E2] at hlen;rw[Kg] at b2 hc;let⟨c1,c2⟩:=Ki.1 b2;let⟨c3,c4⟩:=Ki.1 c1;have dt:Gt t=true:=by simpa using c3
  have at':=Vs dt;have lt:=Qb t at'.1;have p2:=LR (show 0<10 by omega) (show t.length<=14 by omega);have et:=pK _ t rfl dt;have h0:BU t≠0:=λh=>by rw[h,abp] at et;rw[et] at c4;cases c4
  have h1:BU t≠1:=λh=>by rw[h,abo] at et;rw[et] at c2;cases c2
  have hg:Nat.gcd (BU u) (BU t)=1:=by cases h:decide (Nat.gcd (BU u) (BU t)=1) with|true=>exact As h|false=>rw[h] at hc;cases hc
  let⟨q,m1,m2,m3⟩:=ap6 (a:=z) h0 (by rw[hzn];exact hg);refine⟨q,?_,⟨A4,A4⟩,?_⟩
  .unfold Av;rw[m2,m3,CB h1,B8,<-hz,<-et,q1];cases neg<;>rfl
  .show bd (Jg (bif neg then 45::u else u)) _=_;rw[hzr];show bd (Jg t) _=_;rw[fZ at'.1 A4];show bd (mkq z (BU t:Int)) _=_;rw[m1];rfl
def xh(hl:s.length<=14):∃c,TZ s=some c/\Rv s=some c/\(c=0->∃q,isNum s q):=by
 obtain⟨neg,core,rfl,J3⟩:∃(neg:Bool) (core:AA),s=(bif neg then 45::core else core)/\(neg=false->core.head?≠some 45):=by
  match s with
  |[]=>exact⟨false,[],rfl,λ_ h=>by cases h⟩
  |x::r=>
   by_cases hx:x=45
   .exact⟨true,r,by rw[hx];rfl,λh=>by cases h⟩
   .exact⟨false,x::r,rfl,λ_ h=>hx<|Ez h⟩
 have hlc:core.length<=14:=by cases neg<;>simp at hl<;>omega
 exact⟨_,agf hlc J3,ajF hlc J3,alv hl⟩
def short(v:AA×AA×AA):Prop:=v.1.length<=14/\v.2.1.length<=14/\v.2.2.length<=14
def f3(a b c:Int):Int:=bif !decide (a=0) then a else bif !decide (b=0) then b else c
def bc(q:Rat)(c n:Nat):Prop:=q.num.natAbs<=c*10^n/\q.den<=10^n
def as5(h:bq q n):bc q 1 n:=⟨by rw[Lt];exact WH h.1,WH h.2⟩
theorem rH(c d m n:Nat):(c*10^m)*(d*10^n)=(c*d)*10^(m+n):=by rw[N7];grind
def Mj{x y:Rat}(hx:bc x c m)(hy:bc y d n):bc (x*y) (c*d) (m+n):=by
 have h:=Ue (x:=x.num*y.num) (y:=(x.den:Int)*(y.den:Int))<|SZ (LX x)<|LX y
 rw[ZE] at h;rw[K8,K8,F9,F9] at h;refine⟨Ch h.1 ?_,Ch h.2 ?_⟩
 .rw[<-rH];exact GL hx.1 hy.1
 .rw[N7];exact GL hx.2 hy.2
theorem Sm{x y:Rat}(hx:bc x c m)(hy:bc y d n):bc (x+y) (c+d) (m+n):=by
 have h:=Ue (x:=x.num*y.den+y.num*x.den) (y:=(x.den:Int)*(y.den:Int))<|SZ (LX x)<|LX y
 rw[ZF] at h;rw[K8,F9,F9] at h;have a1:=GL hx.1 hy.2;have a2:=GL hy.1 hx.2;have t:=qW (x.num*y.den)<|y.num*x.den
 rw[K8,K8,F9,F9] at t;have e1:=rH c 1 m n;have e2:=rH d 1 n m;rw[Lt,Nat.mul_one] at e1 e2;rw[Pc n m] at e2;refine⟨?_,Ch h.2 ?_⟩
 .grind
 .rw[N7];exact GL hx.2 hy.2
def aby{x:Rat}(h:bc x c n):bc (-x) c n:=by
 refine⟨?_,?_⟩
 .rw[Rat.neg_num,iG];exact h.1
 .rw[Rat.neg_den];exact h.2
def rf{x y:Rat}(hx:bc x c m)(hy:bc y d n):bc (x-y) (c+d) (m+n):=by rw[iU];exact Sm hx<|aby hy
abbrev T3:=AA×AA×AA
def vc(v:Q3)(c n:Nat):Prop:=bc v.1 c n/\bc v.2.1 c n/\bc v.2.2 c n
def Ak(v:Q3):T3:=(Av v.1,Av v.2.1,Av v.2.2)
def fR(h1:q.num.natAbs<10^600)(h2:q.den<10^600):Rn q=some (Av q):=by
 have s1:Pk q.num=some (C8 q.num):=by unfold Pk;rw[OP h1 A4];rfl
 have s2:Pk (q.den:Int)=some (B5 q.den):=by unfold Pk;rw[OP (z:=(q.den:Int)) (by rw[F9];exact h2) A4];show some (C8 (q.den:Int))=_;unfold C8;rw[CB A4];simp
 have l1:=Vn q.num;have l2:=MR 600 _ A4 h1;have l3:=MR 600 _ A4 h2;unfold Rn Lm Av;rw[Cp,s1,s2];cases decide (q.den=1)
 .rw[B8,Cp,OQ DJ,Cp,Cp,OQ DJ];simp[Trn.bd]
 .rw[BX,BX,Cp,K9]
def kP(v:Q3):Bool:=decide (v.1=0)&&(decide (v.2.1=0)&&decide (v.2.2=0))
def sign_zero(x:Rat):decide (x.num.sign=0)=decide (x=0):=by refine Gr.2 ⟨λh=>N8.1<|Int.sign_eq_zero_iff_zero.1 h,λh=>by subst h;rfl⟩
def Zx(h:bc q c m)(hc:c<=d)(hm:m<=n):bc q d n:=by have hp:=LR (show 0<10 by omega) hm;exact⟨Ch h.1<|GL hc hp,Ch h.2 hp⟩
def ri{x:Rat}{e:Nat}(hx:bc x c n)(h0:x≠0)(he:c<=10^e):bc x⁻¹ 1 (n+e):=by
 have hn:x.num≠0:=λe=>h0<|N8.1 e
 have e1:=(gW x).symm;have h:=Ue (x:=(x.den:Int)) (y:=x.num) hn;rw[<-e1] at h;rw[F9] at h;refine⟨?_,?_⟩
 .rw[Lt,N7];exact Ch h.1<|Ch hx.2<|Nat.le_mul_of_pos_right _<|ZQ A4
 .rw[N7,MV];exact Ch h.2<|Ch hx.1<|LS _ he
def bc3(p:Q3)(c n:Nat):Prop:=bc p.1 c n/\bc p.2.1 c n/\bc p.2.2 c n
def fX{a b:Q3}(ha:bc3 a c m)(hb:bc3 b d n):bc3 (AY a b) (2*(c*d)) (2*(m+n)):=by
 let⟨a1,a2,a3⟩:=ha;let⟨b1,b2,b3⟩:=hb
 have k:∀{w x y z:Rat},bc w c m->bc x d n->bc y c m->bc z d n->bc (w*x-y*z) (2*(c*d)) (2*(m+n)):=λh1 h2 h3 h4=>by
  have:=rf (Mj h1 h2)<|Mj h3 h4
  rwa [<-Nat.two_mul,<-Nat.two_mul] at this
 exact⟨k a2 b3 a3 b2,k a3 b1 a1 b3,k a1 b2 a2 b1⟩
def aqd{a b:Q3}(ha:bc3 a c m)(hb:bc3 b d n):bc (AI a b) (3*(c*d)) (3*(m+n)):=by
 let⟨a1,a2,a3⟩:=ha;let⟨b1,b2,b3⟩:=hb
 have:=Sm (Sm (Mj a1 b1)<|Mj a2 b2)<|Mj a3 b3
 exact Zx this A4 A4
def ab8{a b:Q3}(ha:bc3 a c m)(hb:bc3 b d n):bc3 (Bn a b) (c+d) (m+n):=⟨Sm ha.1 hb.1,Sm ha.2.1 hb.2.1,Sm ha.2.2 hb.2.2⟩
def ja{a:Q3}{t:Rat}(ha:bc3 a c m)(ht:bc t d n):bc3 (B7 a t) (c*d) (m+n):=⟨Mj ha.1 ht,Mj ha.2.1 ht,Mj ha.2.2 ht⟩
def aoU{M:A3 H3}{p:Q3}(hM:∀h∈M,bc3 h.1 1 k/\bc h.2 1 k)(hv:Bi M p):bc3 p 6 (35*k+1):=by
 obtain⟨_,a,ma,b,mb,c,mc,hd,rfl⟩:=Vu.1 hv;let⟨a1,a2⟩:=hM a ma;let⟨b1,b2⟩:=hM b mb;let⟨c1,c2⟩:=hM c mc
 have d:=ri (e:=1) (aqd (fX a1 b1) c1) hd A4;have s:=ab8 (ab8 (ja (fX b1 c1) a2)<|ja (fX c1 a1) b2)<|ja (fX a1 b1) c2
 have r:=ja s d;exact⟨Zx r.1 A4 A4,Zx r.2.1 A4 A4,Zx r.2.2 A4 A4⟩
def lv(n:Nat)(q:Rat):Prop:=bc q 1 n
def Ba(n:Nat)(p:Q3):Prop:=lv n p.1/\lv n p.2.1/\lv n p.2.2
def DP(h:lv m q)(hm:m<=n):lv n q:=Zx h A4 hm
def St(h:bc q c m)(hc:c<=10)(hm:m+1<=n):lv n q:=by
 refine⟨?_,Ch h.2<|LR A4 A4⟩;rw[Lt];refine Ch h.1<|Ch (LS _ hc) ?_
 rw[MV,<-SV];exact LR A4 hm
def Lw(h:lv n q)(hn:n<=10000000000):FH q=true:=by
 have one:∀k:Nat,k<=10^n->Nat.blt (Nat.log2 k) 68719476736=true:=by
  intro k hk;refine Ig ?_;rcases M1 k with h0|h0
  .rw[h0];exact Dx rfl
  .have h1:(10:Nat)^n<=(2^4)^n:=qZ A4 n;rw[<-Nat.pow_mul] at h1;have h2:(2:Nat)^(4*n)<2^(4*n+1):=Nat.pow_lt_pow_right A4 A4;have:Nat.log2 k<4*n+1:=(Pb A4).2 A4;omega
 unfold FH;have h1:=h.1;rw[Lt] at h1;rw[one _ h1,one _ h.2];rfl
end
section
variable{x y:Rat}{n:Nat}(hx:lv n x)(hy:lv n y)(h1:1<=n)(hn:n<=10000000000)
include hx hy h1 hn
theorem Ib:GS x y=some (x*y)/\lv (4*n) (x*y):=⟨by unfold GS;rw[Lw hx hn,Lw hy hn];rfl,St (Mj hx hy) A4 A4⟩
theorem Uf:M8 x y=some (x+y)/\lv (4*n) (x+y):=⟨by unfold M8;rw[Lw hx hn,Lw hy hn];rfl,St (Sm hx hy) A4 A4⟩
theorem Sk:O7 x y=some (x-y)/\lv (4*n) (x-y):=⟨by unfold O7;rw[Lw hx hn,Lw hy hn];rfl,St (rf hx hy) A4 A4⟩
theorem rO(h0:y≠0):TC x y=some (x/y)/\lv (4*n) (x/y):=
 ⟨by unfold TC;rw[Lw hx hn,Lw hy hn,CB h0];rfl,by rw[OT];exact St (Mj hx<|ri (e:=0) hy h0 A4) A4 A4⟩
end
section
variable{a b:Q3}{n:Nat}(ha:Ba n a)(hb:Ba n b)(h1:1<=n)(hn:n<=10000000000)
include ha hb h1 hn
theorem pX:Mx a b=some (Af a b)/\Ba (4*n) (Af a b):=by let⟨e1,k1⟩:=Sk ha.1 hb.1 h1 hn;let⟨e2,k2⟩:=Sk ha.2.1 hb.2.1 h1 hn;let⟨e3,k3⟩:=Sk ha.2.2 hb.2.2 h1 hn;exact⟨by unfold Mx;rw[e1,e2,e3];rfl,k1,k2,k3⟩
theorem Z8:MF a b=some (Bn a b)/\Ba (4*n) (Bn a b):=by let⟨e1,k1⟩:=Uf ha.1 hb.1 h1 hn;let⟨e2,k2⟩:=Uf ha.2.1 hb.2.1 h1 hn;let⟨e3,k3⟩:=Uf ha.2.2 hb.2.2 h1 hn;exact⟨by unfold MF;rw[e1,e2,e3];rfl,k1,k2,k3⟩
end
section
variable{n:Nat}{α:Type}{a:Q3}{ρ:Type}
def oD{t:Rat}(ha:Ba n a)(ht:lv n t)(h1:1<=n)(hn:n<=10000000000):P6 a t=some (B7 a t)/\Ba (4*n) (B7 a t):=by let⟨e1,k1⟩:=Ib ha.1 ht h1 hn;let⟨e2,k2⟩:=Ib ha.2.1 ht h1 hn;let⟨e3,k3⟩:=Ib ha.2.2 ht h1 hn;exact⟨by unfold P6;rw[e1,e2,e3];rfl,k1,k2,k3⟩
def pY{b:Q3}(ha:Ba n a)(hb:Ba n b)(h1:1<=n)(hn:n<=100000000):TX a b=some (AI a b)/\lv (64*n) (AI a b):=by let⟨e1,k1⟩:=Ib ha.1 hb.1 h1 A4;let⟨e2,k2⟩:=Ib ha.2.1 hb.2.1 h1 A4;let⟨e3,k3⟩:=Ib ha.2.2 hb.2.2 h1 A4;let⟨e4,k4⟩:=Uf k1 k2 A4 A4;let⟨e5,k5⟩:=Uf k4 (DP k3 (show 4*n<=4*(4*n) by omega)) A4 A4;refine⟨?_,DP k5 A4⟩;unfold TX;rw[e1,e2];simp only[bd];rw[e4];simp only[bd];rw[e3];simp only[bd];rw[e5];rfl
def xq{b:Q3}(ha:Ba n a)(hb:Ba n b)(h1:1<=n)(hn:n<=100000000):TV a b=some (AY a b)/\Ba (16*n) (AY a b):=by let⟨e1,k1⟩:=Ib ha.2.1 hb.2.2 h1 A4;let⟨e2,k2⟩:=Ib ha.2.2 hb.2.1 h1 A4;let⟨e3,k3⟩:=Sk k1 k2 A4 A4;let⟨e4,k4⟩:=Ib ha.2.2 hb.1 h1 A4;let⟨e5,k5⟩:=Ib ha.1 hb.2.2 h1 A4;let⟨e6,k6⟩:=Sk k4 k5 A4 A4;let⟨e7,k7⟩:=Ib ha.1 hb.2.1 h1 A4;let⟨e8,k8⟩:=Ib ha.2.1 hb.1 h1 A4;let⟨e9,k9⟩:=Sk k7 k8 A4 A4;refine⟨?_,DP k3 A4,DP k6 A4,DP k9 A4⟩;unfold TV;rw[e1,e2];simp only[bd];rw[e3];simp only[bd];rw[e4,e5];simp only[bd];rw[e6];simp only[bd];rw[e7,e8];simp only[bd];rw[e9];rfl
def fD{h:H3}{p:Q3}(hh:Ba n h.1/\lv n h.2)(hp:Ba n p)(h1:1<=n)(hn:n<=100000000):QC h p=some (val h p)/\lv (256*n) (val h p):=by let⟨e1,k1⟩:=pY hh.1 hp h1 hn;let⟨e2,k2⟩:=Sk k1 (DP hh.2 (show n<=64*n by omega)) A4 A4;refine⟨?_,DP k2 A4⟩;unfold QC;rw[e1];simp only[bd];rw[e2];rfl
def eM:∀l:A3 Q3,SN l=E7 l
 |[]=>rfl
 |a::l=>by
  have go:∀(f a:Q3) (l:A3 Q3),(a::l).zip (l++[f])=I8 f (a::l):=by
   intro f a l
   induction l generalizing a with|nil=>rfl|cons b l ih=>simp[Se,List.zip_cons_cons,I8];rw[ih]
  exact go a a l
def pG{α β ρ:Type}{K:A3 β->A9 ρ}{B:(A3 β->A9 ρ)->α->A3 β->A9 ρ}(f:α->A3 β)(w:Nat):∀(L:A3 α) (s:A3 β),(∀x∈L,(f x).length<=w/\∀(s:A3 β) (next:A3 β->A9 ρ),s.length<=100000000->B next x s=next (s++f x))->s.length+w*L.length<=100000000->JS L B s K=K (s++L.flatMap f)
 |[],s,_,_=>by simp[JS]
 |x::L,s,h,hl=>by let⟨h1,h2⟩:=h x Cz;rw[E2,Nat.mul_add] at hl;unfold JS;rw[h2 s _ A4,pG f w L _ (λy hy=>h y<|Br _ hy) (by rw[DS];omega),OX,ID]
def abz{b:Nat}{s:A3 α}{x:α}(hb:b<=1000)(hs:s.length<=1000000001):BN b s [x]=some (s++[x]):=by unfold BN;have h1:(s.length+[x].length)*b<=140737488355328:=Ch (GL (show s.length+[x].length<=1000000002 by simp;omega) hb) A4;rw[B9 h1,B9 (show s.length+[x].length<=9223372036854775807 by simp;omega)];rfl
def app_1{b:Nat}{s:A3 α}{x:α}(hb:b<=1000)(hs:s.length<=1000000000):BN b s [x]=some (s++[x]):=abz hb A4
def gK{x:Rat}:x.num<0↔x<0:=by rw[<-Int.not_le,Rat.num_nonneg,Rat.not_le]
theorem Yx{x:Rat}:0<x.num↔0<x:=by
 constructor
 .intro h;have h1:0<=x:=Rat.num_nonneg.1 A4;have h2:x≠0:=λe=>by rw[N8.2 e] at h;omega
  grind
 .intro h;have h1:0<=x.num:=Rat.num_nonneg.2 AK;have h2:x.num≠0:=λe=>by rw[N8.1 e] at h;grind
  omega
def aCt(x:Rat):decide (x.num.sign<=0)=decide (x<=0):=by rw[Gr,<-Int.not_lt,<-Rat.not_lt,Int.sign_pos_iff,Yx]
theorem akG(x y:Rat):decide (x.num.sign*y.num.sign<0)=Gl x y:=by
 rw[ZX,Kc,Hm];have hx:x.num.sign=1/\0<x\/x.num.sign=0/\x=0\/x.num.sign= -1/\x<0:=by
  rcases WS x.num 0 with h|h|h
  .exact .inr<| .inr ⟨j5 h,gK.1 h⟩
  .exact .inr (.inl ⟨by rw[h];rfl,N8.1 h⟩)
  .exact .inl ⟨Wa h,Yx.1 h⟩
 have hy:y.num.sign=1/\0<y\/y.num.sign=0/\y=0\/y.num.sign= -1/\y<0:=by
  rcases WS y.num 0 with h|h|h
  .exact .inr<| .inr ⟨j5 h,gK.1 h⟩
  .exact .inr (.inl ⟨by rw[h];rfl,N8.1 h⟩)
  .exact .inl ⟨Wa h,Yx.1 h⟩
 rcases hx with⟨e,h⟩|⟨e,h⟩|⟨e,h⟩<;>rcases hy with⟨e',h'⟩|⟨e',h'⟩|⟨e',h'⟩<;>rw[e,e']<;>constructor<;>intro k<;>first|(exfalso;revert k;decide)|grind
def ald(x y:Rat):AG (x.num.sign*y.num.sign)=some (x.num.sign*y.num.sign):=by
 have h:∀z:Int,z.sign=1\/z.sign=0\/z.sign= -1:=λz=>by
  rcases WS z 0 with h|h|h
  .exact .inr<| .inr<|j5 h
  .exact .inr (.inl (by rw[h];rfl))
  .exact .inl<|Wa h
 rcases h x.num with e|e|e<;>rcases h y.num with e'|e'|e'<;>rw[e,e']<;>rfl
theorem ajp{l:A3 Q3}{h:H3}(hl:l.length<=1000000)(hh:Ba n h.1/\lv n h.2)(hp:∀p∈l,Ba n p)(h1:1<=n)(hn:n<=10000):XT l h=some (Fh h l):=by
 unfold XT Y3;have e:Vv l=some (E7 l):=by unfold Vv;rw[Ig (show l.length+1<=1000000000 by omega)|>(λh=>(h:Nat.blt l.length 1000000000=true)),eM];rfl
 rw[e];simp[bd];have hs:(E7 l).length=l.length:=by rw[<-eM,fM]
 have hm:∀x∈E7 l,x.1∈l/\x.2∈l:=λx hx=>by rw[<-eM] at hx;let⟨i,hi⟩:=WY.1 hx;let⟨a,b,_⟩:=zD hi;exact⟨KC a,KC b⟩
 refine pG (M3 h) 2 (E7 l) [] (λx hx=>⟨?_,λs next hs=>?_⟩) (by simp[hs];omega)
 .unfold M3;cases decide (val h x.1<=0)<;>cases Gl (val h x.1) (val h x.2)<;>simp
 .let⟨m1,m2⟩:=hm x hx;let⟨v1,w1⟩:=fD hh (hp _ m1) h1 A4;let⟨v2,w2⟩:=fD hh (hp _ m2) h1 A4;have tail:∀s:A3 Q3,s.length<=100000001->(bd (JE<|val h x.1) λBx=>bd (JE<|val h x.2) λDa=>bd (AG<|Bx*Da) λDi=>cond (decide<|Di<0) (bd (O7 (val h x.1)<|val h x.2) λCx=>bd (TC (val h x.1) Cx) λFF=>bd (Mx x.2 x.1) λF3=>bd (P6 F3 FF) λFG=>bd (MF x.1 FG) λF4=>bd (BN 192 s ([F4]:A3 V3)) λEj=>next Ej)<|next s)=next (s++(bif Gl (val h x.1) (val h x.2) then [Fy h x.1 x.2] else [])):=by
   intro s hs;unfold JE;simp[bd];rw[ald];simp[bd];rw[akG];cases ho:Gl (val h x.1) (val h x.2)
   .simp
   .have h0:val h x.1-val h x.2≠0:=by have:=Kc.1 ho;grind
    let⟨a1,b1⟩:=Sk w1 w2 A4 A4;let⟨a2,b2⟩:=rO (DP w1 (show 256*n<=4*(256*n) by omega)) b1 A4 A4 h0;let⟨a3,b3⟩:=pX (hp _ m2) (hp _ m1) h1 A4;let⟨a4,b4⟩:=oD (n:=4096*n) ⟨DP b3.1 A4,DP b3.2.1 A4,DP b3.2.2 A4⟩ (DP b2 A4) A4 A4;let⟨a5,b5⟩:=Z8 (n:=4*(4096*n)) ⟨DP (hp _ m1).1 A4,DP (hp _ m1).2.1 A4,DP (hp _ m1).2.2 A4⟩ b4 A4 A4;simp[BX];rw[a1];simp[bd];rw[a2];simp[bd];rw[a3];simp[bd];rw[a4];simp[bd];rw[a5];simp[bd];have:BN 192 s [Bn x.1<|B7 (Af x.2 x.1)<|val h x.1/(val h x.1-val h x.2)]=some (s++[Bn x.1<|B7 (Af x.2 x.1)<|val h x.1/(val h x.1-val h x.2)]):=abz A4 A4;rw[this];rfl
  show bd (QC h x.1) _=_;rw[v1];simp[bd];rw[v2];simp[bd];unfold jn;unfold M3;cases hc:decide (val h x.1<=0)
  .have hd:decide ((val h x.1).num.sign<=0)=false:=by rw[aCt];exact hc
   simp only[JE,hd,B8,Ie];exact tail s A4
  .have hd:decide ((val h x.1).num.sign<=0)=true:=by rw[aCt];exact hc
   simp only[JE,hd,BX];rw[app_1 A4 A4];rw[<-ID];exact tail (s++[x.1]) DJ
def Qv{σ S:Type}{R:ρ->Prop}(L:A3 α)(e:σ->Int->S)(P:A3 α->σ->Prop){B:(S->A9 ρ)->S->A9 ρ}{N:Nat}
 (hs:∀(A:A3 α) (x:α) (C:A3 α) (s:σ) (k:S->A9 ρ),L=A++x::C->P A s->(∀s',P (A++[x]) s'->Yd R (k<|e s' ((A.length+1:Nat):Int)))->Yd R (B k<|e s (A.length:Int)))
 (he:∀(s:σ) (k:S->A9 ρ),P L s->Yd R (B k<|e s (L.length:Int)))(A0 C0:A3 α){s0:σ}(hA:L=A0++C0)(h0:P A0 s0)(hl:L.length<N):Yd R (Trn.lp N B<|e s0 (A0.length:Int)):=by
 have main:∀(C A:A3 α) (F:Nat) (s:σ),L=A++C->P A s->C.length<F->Yd R (Trn.lp F B<|e s (A.length:Int)):=by
  intro C
  induction C with
  |nil=>intro A F s hL hp hF;obtain⟨F,rfl⟩:∃G,F=G+1:=⟨F-1,A4⟩;rw[K9] at hL;subst hL;exact he s _ hp
  |cons x C ih=>
   intro A F s hL hp hF;obtain⟨F,rfl⟩:∃G,F=G+1:=⟨F-1,A4⟩;rw[E2] at hF;refine hs A x C s _ hL hp λs' hp'=>?_
   have:=ih (A++[x]) F s' (by rw[hL,ID];rfl) hp' A4;rwa [DS] at this
 exact main C0 A0 N s0 hA h0 (by rw[hA] at hl;simp at hl;omega)
def Ce{σ S:Type}{R:ρ->Prop}(L:A3 α)(e:σ->Int->S)(P:A3 α->σ->Prop){B:(S->A9 ρ)->S->A9 ρ}{N:Nat}
 (hs:∀(A:A3 α) (x:α) (C:A3 α) (s:σ) (k:S->A9 ρ),L=A++x::C->P A s->(∀s',P (A++[x]) s'->Yd R (k<|e s' ((A.length+1:Nat):Int)))->Yd R (B k<|e s (A.length:Int)))
 (he:∀(s:σ) (k:S->A9 ρ),P L s->Yd R (B k<|e s (L.length:Int))){s0:σ}(h0:P [] s0)(hl:L.length<N):Yd R (Trn.lp N B<|e s0 0):=Qv L e P hs he [] L rfl h0 hl
end
section
variable{α:Type}{L A C:List α}{x:α}(h:L=A++x::C)
include h
theorem CU:decide ((A.length:Int)<(L.length:Int))=true:=by rw[h];simp<;>omega
theorem CC:AB L (A.length:Int)=some x:=by rw[Jj,h];simp
theorem at_mem:x∈L:=by rw[h];simp
theorem D7:A.length+1<=L.length:=by rw[h];simp<;>omega
theorem CE(hl:L.length<=1000000000):AG ((A.length:Int)+1)=some ((A.length+1:Nat):Int):=by have:=D7 h;rw[EL ⟨A4,A4⟩];rfl
end
section
variable{n:Nat}{x:Rat}{k:Nat}{L:A3 H3}{y:Rat}{l:A3 Q3}{m:Nat}{a:Rat}{M:A3 H3}{f:H3}{S:A3 Bq}
def CT{α:Type}(L:A3 α):decide ((L.length:Int)<(L.length:Int))=false:=CB A4
def jh(hx:lv n x)(hy:lv n y)(hn:n<=10000000000):O8 x y=some (bif decide (x<y) then -1 else bif decide (y<x) then 1 else 0):=by unfold O8;rw[Lw hx hn,Lw hy hn];rfl
def or3(a b c:Int):VZ [a,b,c]=some (bif !decide (a=0) then a else bif !decide (b=0) then b else c):=by
 obtain⟨F,hF⟩:∃F,18446744073709551616=F+4:=⟨18446744073709551612,rfl⟩;unfold VZ;rw[hF];show cond (!decide (a=0)) (some a) (cond (!decide (b=0)) (some b)<|cond (!decide (c=0)) (some c)<|some 0)=_;cases ha:decide (a=0)
 .rfl
 .cases hb:decide (b=0)
  .rfl
  .cases hc:decide (c=0)
   .rfl
   .rw[As hc];rfl
theorem pZ{a b:Q3}(ha:Ba n a)(hb:Ba n b)(hn:n<=10000000000):∃v,TR a b=some v/\(v<0↔En a b)/\(v=0↔a=b):=by
 unfold TR;rw[jh ha.1 hb.1 hn,jh ha.2.1 hb.2.1 hn,jh ha.2.2 hb.2.2 hn];simp[bd];rw[or3];refine⟨_,rfl,?_⟩;let⟨a1,a2,a3⟩:=a;let⟨b1,b2,b3⟩:=b;have tri:∀x y:Rat,(x<y/\ ¬y<x/\x≠y)\/(¬x<y/\ ¬y<x/\x=y)\/(¬x<y/\y<x/\x≠y):=λx y=>by grind
 unfold En;simp[LH];rcases tri a1 b1 with⟨h1,h2,h3⟩|⟨h1,h2,h3⟩|⟨h1,h2,h3⟩<;>rcases tri a2 b2 with⟨g1,g2,g3⟩|⟨g1,g2,g3⟩|⟨g1,g2,g3⟩<;>rcases tri a3 b3 with⟨k1,k2,k3⟩|⟨k1,k2,k3⟩|⟨k1,k2,k3⟩<;>simp[h1,h2,h3,g1,g2,g3,k1,k2,k3]
def aiR(hl:l.length<=100000000):bT [] (some l)=some l:=by
 have fl:l.flatMap (λx=>[x])=l:=by
  clear hl
  induction l with|nil=>rfl|cons a l ih=>rw[OX,ih];rfl
 unfold bT;show JS l _ [] _=_;refine(pG (λx=>[x]) 1 l [] (λx _=>⟨AT,λs next hs=>by rw[app_1 A4 A4];rfl⟩) DJ).trans ?_;rw[fl];rfl
def ahM(hp:∀p∈l,Ba n p)(hn:n<=10000000000)(hl:l.length<=100000000):∃r,VE l=some r/\r.Pairwise En/\∀z,z∈r↔z∈l:=by
 have hO:Ms (λx:Q3×Q3=>TR x.1 x.2) En l:=alH λx mx y my=>by let⟨v,h1,h2,_⟩:=pZ (hp x mx) (hp y my) hn;exact⟨v,h1,h2⟩
 let⟨s,s1,s2,s3⟩:=aBn hO A4;have hs:∀p∈s,Ba n p:=λp mp=>hp p<|s2.mem_iff.1 mp
 let⟨r,r1,r2,r3⟩:=ai7 (e:=λx:Q3×Q3=>QH x.1 x.2) (λa ma b mb=>by
  let⟨v,h1,_,h2⟩:=pZ (hs a ma) (hs b mb) hn;show bd (TR a b) _=_;rw[h1];show some (decide<|v=0)=_
  congr 1
  exact Gr.2 h2) s3<|hO.perm s2
 refine⟨r,?_,r2,λz=>by rw[r3,s2.mem_iff]⟩;unfold VE bV kd kg;have e:Vo l=some l:=by unfold Vo;rw[show Nat.blt l.length 4000000000=true from Ig A4];rfl
 rw[e];simp[bd];rw[aiR hl];simp[bd];rw[s1];simp only;rw[r1]
def jT{a b:Q3}(h:En a b):a≠b:=λe=>Qg a (by rw[<-e] at h;exact h)
theorem agm(hf:f.1≠o3)(hl:∀p∈l,Bi L p/\val f p=0/\Ba n p)(hn:Ba n f.1)(h1:1<=n)(IW:n<=10000)(hlen:l.length<=100000000)(tE:∀r:A3 Q3,(∀z∈l,z∈r)->2<=r.length):∃p s,QM l f.1=some (p::s)/\FT f.1 (p::s)/\(∀z,z∈p::s↔z∈l)/\(∀x∈s,En p x)/\s.Pairwise λx y=>0<Bp f.1 p x y:=by
 let⟨d,d1,d2,d3⟩:=ahM (λp mp=>(hl p mp).2.2) A4 hlen;have h2:=tE d λz mz=>(d3 z).2 mz
 cases d with
 |nil=>simp at h2
 |cons p t=>
  let⟨g1,g2⟩:=Hb.1 d2;let⟨vp,tp,np⟩:=hl p<|(d3 p).1 Cz
  have ht:0<t.length:=by rw[E2] at h2;omega
  have hlt:t.length<4611686018427387904:=by
   have:=Kb (l:=p::t) (T:=l) (d2.imp λh=>jT h) λx mx=>(d3 x).1 mx
   rw[E2] at this;omega
  have hO:Ms (λx:Q3×Q3=>VH x.1 x.2 f.1 p) (λx y=>0<Bp f.1 p x y) t:=am8 hf vp tp (λx mx=>by
   let⟨a,b,_⟩:=hl x<|(d3 x).1<|Br _ mx
   exact⟨a,b,g1 x mx⟩) λx mx y my=>by
   let⟨_,_,nx⟩:=hl x<|(d3 x).1<|Br _ mx
   let⟨_,_,ny⟩:=hl y<|(d3 y).1<|Br _ my
   let⟨e1,k1⟩:=pX ny np h1 A4;let⟨e2,k2⟩:=pX nx np h1 A4;let⟨e3,k3⟩:=xq k1 k2 A4 A4;let⟨e4,k4⟩:=pY (n:=16*(4*n)) ⟨DP hn.1 A4,DP hn.2.1 A4,DP hn.2.2 A4⟩ k3 A4 A4;refine⟨_,by show VH x y f.1 p=_;unfold VH;rw[e1];simp[bd];rw[e2];simp[bd];rw[e3];simp[bd];rw[e4];simp[bd,JE];rfl,?_⟩;rw[iQ,gK];have:Bp f.1 p x y= -AI f.1 (AY (Af y p)<|Af x p):=by unfold Bp AI AY Af;grind
   rw[this];grind
  let⟨s,s1,s2,s3⟩:=aBn hO hlt;have hm:∀z,z∈p::s↔z∈l:=λz=>by rw[<-d3,Am,Am,s2.mem_iff]
  have hn:s.Nodup:=s2.nodup_iff.2<|g2.imp λh=>jT h
  have pw:s.Pairwise λx y=>0<Bp f.1 p x y:=Sg (λ{a b} ma mb h=>h.1.resolve_left h.2)<|s3.and hn
  refine⟨p,s,?_,y8 hf (L:=L) (λx mx=>⟨(hl x<|(hm x).1 mx).1,(hl x<|(hm x).1 mx).2.1⟩) pw,hm,λx mx=>g1 x<|s2.mem_iff.1 mx,pw⟩
  .unfold QM;rw[d1];have e1:((t.length+1:Nat):Int)-1=(t.length:Int):=A4;simp only[bd,AB,List.getElem?_cons_zero,E2,e1,Ci,List.take_length,List.drop_succ_cons,Pg,show((1:Int)).toNat=1 from rfl];rw[show decide ((0:Nat)<=1)=true from rfl,B9 (show(1:Int)<((t.length+1:Nat):Int) by omega),B9 (show((t.length+1:Nat):Int)<=((t.length+1:Nat):Int) by omega)];simp[Bool.and_self,gC];rw[s1];dsimp;have l1:s.length=t.length:=s2.length_eq;rw[show Nat.blt 0 t.length=true from Ig ht,show Nat.ble (1+t.length) (t.length+1)=true from Ig A4,show Nat.beq s.length t.length=true from by rw[l1];exact Nat.beq_refl _];simp[Pc]
def yx(hf:f.1≠o3)(hl:∀p∈l,Bi L p/\val f p=0/\Ba n p)(hn:Ba n f.1)(h1:1<=n)(IW:n<=10000)(hlen:l.length<=100000000)(tE:∀r:A3 Q3,(∀z∈l,z∈r)->2<=r.length):∃r,QM l f.1=some r/\FT f.1 r/\∀z,z∈r↔z∈l:=by let⟨p,s,h1,h2,h3,_⟩:=agm hf hl hn h1 IW hlen tE;exact⟨_,h1,h2,h3⟩
def KJ(k:Nat)(L:A3 H3):Prop:=∀g∈L,Ba k g.1/\lv k g.2
def jA(h:KJ k M){p:Q3}(hp:Bi M p):Ba (35*k+2) p:=by have b:=aoU (k:=k) (λg mg=>h g mg) hp;exact⟨St b.1 A4 A4,St b.2.1 A4 A4,St b.2.2 A4 A4⟩
def Fq{v:Q3}(h:Ba m v)(hm:m<=n):Ba n v:=⟨DP h.1 hm,DP h.2.1 hm,DP h.2.2 hm⟩
def ajq(h:H3)(l:A3 Q3):(Fh h l).length<=2*l.length:=by
 have:∀s:A3 (Q3×Q3),(s.flatMap<|M3 h).length<=2*s.length:=λs=>by
  induction s with
  |nil=>simp
  |cons x s ih=>
   have hx:(M3 h x).length<=2:=by unfold M3;cases decide (val h x.1<=0)<;>cases Gl (val h x.1) (val h x.2)<;>simp
   rw[OX,DS,E2];omega
 have k:=this<|E7 l
 have e:(E7 l).length=l.length:=by rw[<-eM,fM]
 unfold Fh;omega
def sign_neg(x:Rat):decide (x.num.sign<0)=decide (x<0):=Gr.2 (by rw[iQ,gK])
def Vw(x:Rat):decide (0<x.num.sign)=decide (0<x):=Gr.2 (by rw[Int.sign_pos_iff,Yx])
def wC(h:H3)(A:A3 Bq)(f:Bq):O1 h (A++[f])=O1 h A++(bif decide (2<(Fh h f.2).length) then [(f.1,Fh h f.2)] else []):=by unfold O1;rw[List.filterMap_append];cases hd:decide (2<(Fh h f.2).length)<;>simp[hd]
def ali(I:CF S M)(hl:M.length<=60){f:Bq}(mf:f∈S):f.2.length<=216000:=by
 let⟨_,g2,g3,g4⟩:=I.DT f mf;have:=pW (g2.nodup g3) λp mp=>((g4 p).1 mp).1
 have:=GL hl<|GL hl hl
 omega
theorem Yd.xF{h:H3}(I:CF S M)(hM:KJ k (h::M))(hk:k<=280)(hlen:M.length<=60)(hz:h.1≠o3)(hn:∀a∈h::M,∀b∈h::M,RO a b->a=b):Yd (λr:A3 Bq×Bool=>(r.2=true/\CF r.1 (h::M))\/(r=([],false)/\ ¬ ∃o,∀k∈h::M,val k o<0)) (Ri S h):=by
 have hM':KJ k M:=λg mg=>hM g<|Br _ mg
 have np:∀f∈S,∀p∈f.2,Ba (35*k+2) p:=λf mf p mp=>jA hM' (((I.DT f mf).2.2.2 p).1 mp).1
 have nc:∀f∈S,∀p∈Fh h f.2,Ba (35*k+2) p:=λf mf p mp=>jA hM ((I.WA h f mf p).1 mp).1
 have hh:Ba (35*k+2) h.1/\lv (35*k+2) h.2:=⟨Fq (hM h Cz).1 A4,DP (hM h Cz).2 A4⟩;have hS:=I.len;have fl:∀f∈S,f.2.length<=216000:=λf mf=>ali I hlen mf
 unfold Ri;refine Ce S (λ(s:Bool×Bool) i=>(s.1,s.2,i)) (λA s=>(s.1=true↔∃f∈A,∃p∈f.2,val h p<0)/\(s.2=true↔∃f∈A,∃p∈f.2,0<val h p)) (λA f C s k1 hL hP next=>?_) (λs k1 hP=>?_) (s0:=(false,false)) AT A4
 .dsimp;rw[CU hL,BX];refine A5 (CC hL) ?_;have mf:=at_mem hL;refine Ce f.2 (λ(s:Bool×Bool) i=>(s.1,s.2,i)) (λB t=>(t.1=true↔(∃f∈A,∃p∈f.2,val h p<0)\/∃p∈B,val h p<0)/\(t.2=true↔(∃f∈A,∃p∈f.2,0<val h p)\/∃p∈B,0<val h p)) (λB p D t k2 hL' hP' next'=>?_) (λt k2 hP'=>?_) (s0:=s) (by simpa using hP) (by have:=fl f mf;omega)
  .dsimp;rw[CU hL',BX];refine DZ (λt:Bool×Bool=>(t.1=true↔(∃f∈A,∃p∈f.2,val h p<0)\/∃q∈B++[p],val h q<0)/\(t.2=true↔(∃f∈A,∃p∈f.2,0<val h p)\/∃q∈B++[p],0<val h q)) (λt ht=>A5 (CE hL' (by have:=fl f mf;omega))<|next' t ht) λk3 hk3=>?_
   refine A5 (CC hL')<|A5 (fD hh (np f mf p<|at_mem hL') A4 A4).1<|A5 (x:=(val h p).num.sign) rfl ?_
   rw[sign_neg,Vw];simp only[CJ,Cv,ZS,exists_or,exists_eq_left] at hk3;refine Ab (λhc=>hk3 _ ?_) λhc=>Ab (λHH=>hk3 _ ?_) λHH=>hk3 _ ?_
   .have hc:=As hc;have FJ: ¬0<val h p:=AK;simp only[hc,FJ,or_true,or_false,true_iff];exact⟨trivial,hP'.2⟩
   .have hc:=Bh hc;have HH:=As HH;simp only[hc,HH,or_true,or_false];exact⟨hP'.1,AT⟩
   .have hc:=Bh hc;have HH:=Bh HH;simp only[hc,HH,or_false];exact hP'
  .dsimp;rw[CT,B8];refine A5 (CE hL A4)<|next t ?_
   simpa[CJ,ZS,exists_or] using hP'
 .dsimp;rw[CT,B8];refine Ab (λhc=>AW<| .inr ⟨rfl,I.empty λf mf p mp=>?_⟩) λhc=>Ab (λHH=>AW<| .inl ⟨rfl,I.out hz hn λf mf p mp=>?_⟩) λHH=>?_
  .grind
  .grind
  .let⟨f0,m0,p0,q0,h0⟩:=hP.1.1 (by simpa using hc);let⟨f1,m1,p1,q1,h1⟩:=hP.2.1 (by simpa using HH);let⟨_,c1,c2⟩:=I.cut hz m0 q0 h0 m1 q1 h1;refine Ce S (λ(s:A3 Q3×A3 Bq) i=>(s.1,s.2,i)) (λA s=>s.2=O1 h A/\(∀p,p∈s.1↔(∃f∈A,p∈Fh h f.2)/\val h p=0)/\s.1.length<=A.length*432000) (λA f C s k1 hL hP next=>?_) (λs k1 hP=>?_) (s0:=([],[])) (by simp[O1]) A4
   .dsimp;have mf:=at_mem hL;have cl:=ajq h f.2;have fl':=fl f mf;have al:=D7 hL;have fal:(O1 h A).length<=A.length:=List.length_filterMap_le _ _;rw[CU hL,BX];refine DZ (λt:A3 Q3×A3 Bq=>t.2=O1 h (A++[f])/\(∀p,p∈t.1↔(∃g∈A++[f],p∈Fh h g.2)/\val h p=0)/\t.1.length<=(A++[f]).length*432000) (λt ht=>A5 (CE hL A4)<|next t ht) λk3 hk3=>?_
    refine A5 (CC hL)<|A5 (ajp A4 hh (np f mf) A4 A4) ?_
    have mc:=nc f mf;refine Ce (Fh h f.2) (λ(t:A3 Q3) i=>(t,i)) (λB t=>(∀p,p∈t↔((∃f∈A,p∈Fh h f.2)\/p∈B)/\val h p=0)/\t.length<=A.length*432000+B.length) (λB p D t k2 hL' hP' next'=>?_) (λt k2 hP'=>?_) (s0:=s.1) (by simpa using hP.2) A4
    .dsimp;have bl:=D7 hL';rw[CU hL',BX];refine DZ (λt:A3 Q3=>(∀q,q∈t↔((∃f∈A,q∈Fh h f.2)\/q∈B++[p])/\val h q=0)/\t.length<=A.length*432000+(B++[p]).length) (λt ht=>A5 (CE hL' A4)<|next' t ht) λk4 hk4=>?_
     refine A5 (CC hL')<|A5 (fD hh (mc p<|at_mem hL') A4 A4).1<|A5 (x:=(val h p).num.sign) rfl ?_
     rw[sign_zero];refine Ab (λhc=>A5 (app_1 A4 A4) (hk4 _ ⟨λq=>?_,by have:=hP'.2;simp;omega⟩)) λhc=>hk4 _ ⟨λq=>?_,by have:=hP'.2;simp;omega⟩
     .grind
     .grind
    .dsimp;rw[CT,B8];have g1:∀p,p∈t↔(∃g∈A++[f],p∈Fh h g.2)/\val h p=0:=λp=>by rw[hP'.1];simp[CJ,ZS,exists_or]
     have g2:t.length<=(A++[f]).length*432000:=AK;have hd:decide (2<((Fh h f.2).length:Int))=decide (2<(Fh h f.2).length):=Gr.2 A4;rw[hd];refine Ab (λhc=>?_) λhc=>hk3 _ ⟨?_,g1,g2⟩
     .rw[hP.1];exact A5 (app_1 A4 A4) (hk3 _ ⟨by rw[wC,hc];rfl,g1,g2⟩)
     .rw[wC,hc,hP.1];simp
   .dsimp;rw[CT,B8];let⟨r,r1,r2,r3⟩:=yx (L:=h::M) hz (l:=s.1) (n:=35*k+2) (λp mp=>by
     let⟨⟨f,mf,mp'⟩,hv⟩:=(hP.2.1 p).1 mp;exact⟨((I.WA h f mf p).1 mp').1,hv,nc f mf p mp'⟩) hh.1 A4 A4 (by have:=hP.2.2;omega) λl hl=>by
      have:=c2 l λp vp tp=>hl p<|(hP.2.1 p).2<|(c1 p).2 ⟨vp,tp⟩
      omega
    have fsl:(O1 h S).length<=S.length:=List.length_filterMap_le _ _;rw[hP.1];refine A5 r1<|A5 (app_1 A4 A4)<|AW<| .inl ⟨rfl,?_⟩
    exact I.clip hz hn m0 q0 h0 m1 q1 h1 r2 λp=>by rw[r3,hP.2.1]
theorem Yd.vO(I:CF S M)(hM:KJ k (L++M))(hk:k<=280)(hlen:L.length+M.length<=60)(hz:∀h∈L,h.1≠o3)(hn:∀a∈L++M,∀b∈L++M,RO a b->a=b):Yd (λr:A3 Bq×Bool=>(r.2=true/\∃N,(∀h,h∈N↔h∈L\/h∈M)/\N.length=L.length+M.length/\CF r.1 N)\/(r.2=false/\ ¬ ∃o,∀k∈L++M,val k o<0)) (Rg S L):=by
 unfold Rg;refine Ce L (λ(s:A3 Bq) i=>(s,i)) (λA s=>∃N,(∀h,h∈N↔h∈A\/h∈M)/\N.length=A.length+M.length/\CF s N) (λA h C s k1 hL hP next=>?_) (λs k1 hP=>?_) (s0:=S) ⟨M,AT,AT,I⟩ A4
 .let⟨N,n1,n2,n3⟩:=hP;have al:=D7 hL;rw[CU hL,BX];refine A5 (CC hL) ?_;have sub:∀g∈h::N,g∈L++M:=λg mg=>by
   rcases Am.1 mg with e|mg
   .grind
   .grind
  refine Au (Yd.xF (k:=k) n3 (λg mg=>hM g<|sub g mg) hk A4 (hz h<|at_mem hL) λa ma b mb=>hn a (sub a ma) b<|sub b mb) λr hr=>?_
  rcases hr with⟨e,hr⟩|⟨e,hr⟩
  .rw[e,iD,B8];refine A5 (CE hL A4)<|next _ ⟨h::N,λg=>?_,DJ,hr⟩
   rw[Am,n1];simp[CJ,Cv];constructor
   .grind
   .grind
  .rw[e,Bool.not_false,BX];exact AW<| .inr ⟨rfl,λ⟨o,ho⟩=>hr ⟨o,λg mg=>ho g<|sub g mg⟩⟩
 .dsimp;rw[CT,B8];exact AW<| .inl ⟨rfl,hP⟩
def Nr{d:Int}(h:d=1\/d= -1):qF d=some (d:Rat):=by rcases h with rfl|rfl<;>rfl
def Kf{d:Int}(h:d=1\/d= -1)(n:Nat):lv n (d:Rat):=by have e:(10:Nat)^0<=10^n:=LR A4 A4;have:1<=10^n:=e;rcases h with rfl|rfl<;>exact⟨by show 1<=1*10^n;omega,by show 1<=10^n;omega⟩
def kO:Nc 0 0 0=some ((0:Rat),(0:Rat),(0:Rat)):=A6
def Vt(ha:0<a)(hk:KJ k (Dd a))(hk2:k<=280){N:Q3}(hN:(N,a)∈Dd a)(hz:N≠o3){f:Rat->Rat->Q3}
 (hf:∀p,(∃x y,(x=a\/x= -a)/\(y=a\/y= -a)/\p=f x y)↔Bi (Dd a) p/\val (N,a) p=0)(hne:f a a≠f (-a) (-a))(hl:l=O6 a f):∃r,QM l N=some r/\FT N r/\∀p,p∈r↔Bi (Dd a) p/\val (N,a) p=0:=by
 subst hl;have hm:∀p,p∈O6 a f↔Bi (Dd a) p/\val (N,a) p=0:=λp=>by rw[z7,hf]
 let⟨r,r1,r2,r3⟩:=yx (L:=Dd a) (f:=(N,a)) hz (l:=O6 a f) (n:=35*k+2) (λp mp=>⟨((hm p).1 mp).1,((hm p).1 mp).2,jA hk ((hm p).1 mp).1⟩) (Fq (hk _ hN).1 A4) A4 A4 (by unfold O6;simp) λr hr=>by
  have:=Kb (l:=[f a a,f (-a)<| -a]) (T:=r) (by simp[hne]) (by
   intro x mx;refine hr x<|z7.2 ?_
   rcases Am.1 mx with e|mx
   .exact⟨a,a,.inl rfl,.inl rfl,e⟩
   .exact⟨-a,-a,.inr rfl,.inr rfl,Cv.1 mx⟩)
  exact this
 exact⟨r,r1,r2,λp=>by rw[r3,hm]⟩
def cpt(a:Rat)(m:Nat)(s:Int)(d:Int×Int):Q3:=match m with|0=>((s:Rat)*a,(d.1:Rat)*a,(d.2:Rat)*a)|1=>((d.2:Rat)*a,(s:Rat)*a,(d.1:Rat)*a)|_=>((d.1:Rat)*a,(d.2:Rat)*a,(s:Rat)*a)
abbrev four:A3 (Int×Int):=[((-1),(-1)),((-1),1),(1,(-1)),(1,1)]
theorem aoE{d:Int×Int}(h:d∈four):(d.1=1\/d.1= -1)/\(d.2=1\/d.2= -1):=by grind
theorem Wq(a:Rat):((1:Int):Rat)*a=a:=by grind
theorem Wp(a:Rat):((-1:Int):Rat)*a= -a:=by grind
theorem aoH(ha:0<a)(h1:1<=k)(hk:lv k a)(hk2:k<=280):Yd (λS=>CF S<|Dd a) (YK a):=by
 have Jz:KJ k (Dd a):=by have o:=Kf (.inl rfl:(1:Int)=1\/(1:Int)= -1) k;have m:=Kf (.inr rfl:(-1:Int)=1\/(-1:Int)= -1) k;have z:lv k (0:Rat):=⟨FV _,o.2⟩;exact MS.2 ⟨⟨⟨m,z,z⟩,hk⟩,⟨⟨o,z,z⟩,hk⟩,⟨⟨z,m,z⟩,hk⟩,⟨⟨z,o,z⟩,hk⟩,⟨⟨z,z,m⟩,hk⟩,⟨z,z,o⟩,hk⟩
 unfold YK;refine Ce ([0,1,2]:A3 Nat) (λ(s:A3 Bq) i=>(s,i)) (λA s=>s.map Prod.fst=(Dd a).take (2*A.length)/\∀f∈s,FT f.1.1 f.2/\∀p,p∈f.2↔Bi (Dd a) p/\val f.1 p=0) (λA i C s k1 hL hP next=>?_) (λs k1 hP=>?_) (s0:=[]) ⟨rfl,AT⟩ AT
 .have hm:=D7 hL;rw[show([0,1,2]:A3 Nat).length=3 from rfl] at hm;rw[DS] at next
  generalize A.length=m at*
  clear hL;rw[B9 (show(m:Int)<3 by omega),BX];refine Ce ([(-1),1]:A3 Int) (λ(t:A3 Bq) j=>(t,j)) (λB t=>t.map Prod.fst=(Dd a).take (2*m+B.length)/\∀f∈t,FT f.1.1 f.2/\∀p,p∈f.2↔Bi (Dd a) p/\val f.1 p=0) (λB sg C t k2 hL hP FN=>?_) (λt k2 hP=>?_) (s0:=s) (by simpa using hP) AT
  .dsimp only;rw[CU hL,BX];have hsg:sg=1\/sg= -1:=by have:=at_mem hL;simp at this;omega
   have hb:=D7 hL;rw[show([(-1),1]:A3 Int).length=2 from rfl] at hb;have hbs:sg=2*(B.length:Int)-1:=by
    rcases B with _|⟨b0,_|⟨b1,B⟩⟩
    .grind
    .grind
    .simp at hb
   have tl:t.length<=6:=by rw[<-C2 Prod.fst,hP.1];simp[Dd];omega
   refine A5 (CC hL)<|A5 kO<|A5 (Nr hsg) ?_
   have fin:∀(N:Q3) (l:A3 Q3),(∃r,QM l N=some r/\FT N r/\∀p,p∈r↔Bi (Dd a) p/\val (N,a) p=0)->(Dd a)[2*m+B.length]? =some (N,a)->Yd (λS=>CF S<|Dd a) (bd (QM l N) λGj=>bd (BN 280 t ([((N,a),Gj)]:A3 Bq)) λHv=>bd (AG<|(B.length:Int)+1) λJo=>k2 (Hv,Jo)):=by
    rintro N l ⟨r,r1,r2,r3⟩ hix;refine A5 r1<|A5 (app_1 A4 A4)<|A5 (CE hL AT)<|FN _ ⟨?_,λf mf=>?_⟩
    .rw[Ic,hP.1,DS,<-LM];show _=List.take (2*m+B.length+1) _;rw[List.take_add_one,hix];rfl
    .grind
   have hm:m=0\/m=1\/m=2:=A4;refine A5 (x:=(0:Rat)) (by rcases hm with rfl|rfl|rfl<;>rfl) ?_;refine Ce four (λ(u:A3 Q3) j=>(u,j)) (λD u=>u=D.map (cpt a m sg)) (λD d E u k3 hL3 hP3 Nz=>?_) (λu k3 hP3=>?_) (s0:=[]) rfl (by simp[four])
   .dsimp only;rw[CU hL3,BX];let⟨d1,d2⟩:=aoE<|at_mem hL3
    have ul:u.length<=100000000:=by rw[hP3,C2];have:=D7 hL3;simp at this;omega
    rcases hm with rfl|rfl|rfl
    .exact A5 (CC hL3) (A5 (kO) (A5 ((rfl)) (A5 ((rfl)) (A5 ((rfl)) (A5 ((rfl)) (A5 (Nr hsg) (A5 ((Ib (Kf hsg k) hk h1 A4).1) (A5 (Nr d1) (A5 ((Ib (Kf d1 k) hk h1 A4).1) (A5 (Nr d2) (A5 ((Ib (Kf d2 k) hk h1 A4).1) (A5 ((rfl)) (A5 ((rfl)) (A5 ((rfl)) (A5 (app_1 A4 A4) (A5 (CE hL3 AT) (Nz _ (by rw[hP3,Ic];rfl))))))))))))))))))
    .exact A5 (CC hL3) (A5 (kO) (A5 ((rfl)) (A5 ((rfl)) (A5 ((rfl)) (A5 ((rfl)) (A5 (Nr hsg) (A5 ((Ib (Kf hsg k) hk h1 A4).1) (A5 (Nr d1) (A5 ((Ib (Kf d1 k) hk h1 A4).1) (A5 (Nr d2) (A5 ((Ib (Kf d2 k) hk h1 A4).1) (A5 ((rfl)) (A5 ((rfl)) (A5 ((rfl)) (A5 (app_1 A4 A4) (A5 (CE hL3 AT) (Nz _ (by rw[hP3,Ic];rfl))))))))))))))))))
    .exact A5 (CC hL3) (A5 (kO) (A5 ((rfl)) (A5 ((rfl)) (A5 ((rfl)) (A5 ((rfl)) (A5 (Nr hsg) (A5 ((Ib (Kf hsg k) hk h1 A4).1) (A5 (Nr d1) (A5 ((Ib (Kf d1 k) hk h1 A4).1) (A5 (Nr d2) (A5 ((Ib (Kf d2 k) hk h1 A4).1) (A5 ((rfl)) (A5 ((rfl)) (A5 ((rfl)) (A5 (app_1 A4 A4) (A5 (CE hL3 AT) (Nz _ (by rw[hP3,Ic];rfl))))))))))))))))))
   .dsimp only;rw[CT,B8,hP3];have ne:a≠ -a:=AK;rcases hm with rfl|rfl|rfl<;>rcases hsg with rfl|rfl
    .exact fin _ _ (Vt (N:=(1,0,0)) (f:=λx y=>(a,x,y)) ha Jz hk2 (by simp[Dd]) (λe=>by simp only[o3,LH] at e;grind) (λp=>by rw[Ts ha,Of];exact⟨λ⟨x,y,hx,hy,e⟩=>by subst e;grind,λh=>⟨p.2.1,p.2.2,AK,AK,Prod.ext (by dsimp<;>grind) (Prod.ext (by dsimp<;>grind) (by dsimp<;>grind))⟩⟩) (λe=>by simp[Prod.ext_iff] at e;grind) (by simp[cpt,O6,Wq,Wp]<;>grind)) (by rw[show B.length=1 by omega];rfl)
    .exact fin _ _ (Vt (N:=(-1,0,0)) (f:=λx y=>(-a,x,y)) ha Jz hk2 (by simp[Dd]) (λe=>by simp[o3,LH] at e;grind) (λp=>by rw[Ts ha,Og];exact⟨λ⟨x,y,hx,hy,e⟩=>by subst e;grind,λh=>⟨p.2.1,p.2.2,AK,AK,Prod.ext (by dsimp<;>grind) (Prod.ext (by dsimp<;>grind) (by dsimp<;>grind))⟩⟩) (λe=>by simp[Prod.ext_iff] at e;grind) (by simp[cpt,O6,Wq,Wp]<;>grind)) (by rw[show B.length=0 by omega];rfl)
    .exact fin _ _ (Vt (N:=(0,1,0)) (f:=λx y=>(y,a,x)) ha Jz hk2 (by simp[Dd]) (λe=>by simp only[o3,LH] at e;grind) (λp=>by rw[Ts ha,Od];exact⟨λ⟨x,y,hx,hy,e⟩=>by subst e;grind,λh=>⟨p.2.2,p.1,AK,AK,Prod.ext (by dsimp<;>grind) (Prod.ext (by dsimp<;>grind) (by dsimp<;>grind))⟩⟩) (λe=>by simp[Prod.ext_iff] at e;grind) (by simp[cpt,O6,Wq,Wp]<;>grind)) (by rw[show B.length=1 by omega];rfl)
    .exact fin _ _ (Vt (N:=(0,-1,0)) (f:=λx y=>(y,-a,x)) ha Jz hk2 (by simp[Dd]) (λe=>by simp[o3,LH] at e;grind) (λp=>by rw[Ts ha,Oe];exact⟨λ⟨x,y,hx,hy,e⟩=>by subst e;grind,λh=>⟨p.2.2,p.1,AK,AK,Prod.ext (by dsimp<;>grind) (Prod.ext (by dsimp<;>grind) (by dsimp<;>grind))⟩⟩) (λe=>by simp[Prod.ext_iff] at e;grind) (by simp[cpt,O6,Wq,Wp]<;>grind)) (by rw[show B.length=0 by omega];rfl)
    .exact fin _ _ (Vt (N:=(0,0,1)) (f:=λx y=>(x,y,a)) ha Jz hk2 (by simp[Dd]) (λe=>by simp only[o3,LH] at e;grind) (λp=>by rw[Ts ha,Ob];exact⟨λ⟨x,y,hx,hy,e⟩=>by subst e;grind,λh=>⟨p.1,p.2.1,AK,AK,Prod.ext (by dsimp<;>grind) (Prod.ext (by dsimp<;>grind) (by dsimp<;>grind))⟩⟩) (λe=>by simp[Prod.ext_iff] at e;grind) (by simp[cpt,O6,Wq,Wp]<;>grind)) (by rw[show B.length=1 by omega];rfl)
    .exact fin _ _ (Vt (N:=(0,0,-1)) (f:=λx y=>(x,y,-a)) ha Jz hk2 (by simp[Dd]) (λe=>by simp[o3,LH] at e;grind) (λp=>by rw[Ts ha,Oc];exact⟨λ⟨x,y,hx,hy,e⟩=>by subst e;grind,λh=>⟨p.1,p.2.1,AK,AK,Prod.ext (by dsimp<;>grind) (Prod.ext (by dsimp<;>grind) (by dsimp<;>grind))⟩⟩) (λe=>by simp[Prod.ext_iff] at e;grind) (by simp[cpt,O6,Wq,Wp]<;>grind)) (by rw[show B.length=0 by omega];rfl)
  .dsimp only;rw[CT,B8];refine A5 (x:=((m+1:Nat):Int)) (by rw[EL ⟨A4,A4⟩];rfl)<|next t ?_
   have:2*(m+[i].length)=2*m+([(-1),1]:A3 Int).length:=by simp;omega
   rw[this];exact hP
 .dsimp only;rw[show decide (((([0,1,2]:A3 Nat).length:Nat):Int)<3)=false from rfl,B8];exact AW<|ajm ha hP.1 hP.2
def JH(n:Q3):Prop:=∃x y z:Int,n=((x:Rat),(y:Rat),(z:Rat))/\Nat.gcd (Nat.gcd x.natAbs y.natAbs) z.natAbs=1
def JH.J0{n:Q3}:JH n->OA n|⟨x,y,z,h,_⟩=>by rw[h];exact⟨⟨x,rfl⟩,⟨y,rfl⟩,⟨z,rfl⟩⟩
theorem rZ{x:Int}(h:(x:Rat)=0):x=0:=by simp_all
def JH.nz{n:Q3}(p:JH n):n≠o3:=λe=>by let⟨x,y,z,h,g⟩:=p;rw[h] at e;simp only[o3,LH] at e;rw[rZ e.1,rZ e.2.1,rZ e.2.2] at g;cases g
def ql{s:Rat}{x y:Int}(h:(x:Rat)*s=(y:Rat)):s.den∣x.natAbs/\s.num.natAbs∣y.natAbs:=by
 have e:x*s.num=y*(s.den:Int):=by
  have hd:(s.den:Rat)≠0:=by have:=s.den_nz;intro c;exact this<|Rat.natCast_eq_zero_iff.1 c
  have h2:(x:Rat)*(s.num:Rat)=(y:Rat)*(s.den:Rat):=by
   have h3:(s.num:Rat)=s*(s.den:Rat):=by have:=Rat.num_divInt_den s;rw[OY,Rat.intCast_natCast] at this;have t:=Nu (a:=(s.num:Rat)) hd;rw[this] at t;exact t.symm
   rw[h3,<-h,Rat.mul_assoc]
  have h4:((x*s.num:Int):Rat)=((y*(s.den:Int):Int):Rat):=by rw[Rat.intCast_mul,Rat.intCast_mul];exact h2
  exact iK.1 h4
 have n:=congrArg Int.natAbs e;rw[K8,K8,F9] at n;have c:=s.reduced;exact⟨(Nat.Coprime.dvd_of_dvd_mul_right c.symm ⟨y.natAbs,by rw[n,MV]⟩),(Nat.Coprime.dvd_of_dvd_mul_right c ⟨x.natAbs,by rw[<-n,MV]⟩)⟩
theorem fL{h k:H3}(a:JH h.1)(b:JH k.1):RO h k->h=k:=λ⟨s,s0,e⟩=>by
 let⟨x,y,z,e1,g1⟩:=a;let⟨x',y',z',e2,g2⟩:=b;have e3:B7 h.1 s=k.1:=by rw[e]
 rw[e1,e2] at e3;simp[B7,LH] at e3;let⟨c1,c2⟩:=ql e3.1;let⟨d1,d2⟩:=ql e3.2.1;let⟨f1,f2⟩:=ql e3.2.2;have u:=Nat.dvd_gcd (Nat.dvd_gcd c1 d1) f1;have v:=Nat.dvd_gcd (Nat.dvd_gcd c2 d2) f2;rw[g1] at u;rw[g2] at v;have u:=Nat.dvd_one.1 u;have v:=Nat.dvd_one.1 v;have:0<s.num:=Yx.2 s0;have s1:s=1:=Rat.ext (by show s.num=1;omega) (by show s.den=1;omega);rw[e,s1];exact Prod.ext (FQ) (by simp only;grind)
def ajo:∀h∈Dd a,JH h.1:=MS.2 ⟨⟨-1,0,0,A6,rfl⟩,⟨1,0,0,A6,rfl⟩,⟨0,-1,0,A6,rfl⟩,⟨0,1,0,A6,rfl⟩,⟨0,0,-1,A6,rfl⟩,⟨0,0,1,A6,rfl⟩⟩
def P2(x:Rat):Rat:=bif decide (x<0) then -x else x
theorem jF{m:Rat}(h:P2 x<=m):wi x m:=by grind [P2,wi]
def jG(h:lv n x):lv n (P2 x):=by
 unfold P2;cases decide (x<0)
 .exact h
 .exact aby h
def aCf(x:Rat):YH x=some (P2 x):=by unfold YH JE P2 TB;rw[Cp,sign_neg];cases decide (x<0)<;>rfl
theorem ap7{L:A3 Rat}(hL:∀x∈L,lv n x)(hn:n<=10000000000)(h0:L≠[])(hl:L.length<=10000001):Yd (λr=>r∈L/\∀x∈L,x<=r) (bR L λx=>O8 x.1 x.2):=by
 unfold bR;cases L with
 |nil=>exact absurd rfl h0
 |cons y T=>
  rw[CB (show¬(((y::T).length:Nat):Int)<1 by simp;omega),B8];refine A5 (x:=y) rfl ?_;refine Qv (y::T) (λ(m:Rat) i=>(m,i)) (λA m=>m∈y::T/\∀x∈A,x<=m) (λA x C m k hA hP next=>?_) (λm k hP=>?_) [y] T (s0:=y) rfl ⟨AT,by simp[G5]⟩ A4
  .dsimp only;rw[CU hA,BX];have mx:=at_mem hA;refine DZ (λm':Rat=>m'∈y::T/\∀z∈A++[x],z<=m') (λm' KV=>A5 (CE hA A4)<|next m' KV) λk8 h8=>?_
   refine A5 (CC hA)<|A5 (jh (hL x mx) (hL m hP.1) hn)<|Ab (λhc=>A5 (CC hA)<|h8 x ⟨mx,λz mz=>?_⟩) λhc=>h8 m ⟨hP.1,λz mz=>?_⟩
   .have hm:m<=x:=by
     refine Ck λg=>?_
     rw[B9 (show x<m by grind)] at hc;cases hc
    rcases CJ.1 mz with mz|mz
    .grind
    .grind
   .have hm:x<=m:=by
     refine Ck λg=>?_
     rw[CB (show¬x<m by grind),B9 (show m<x by grind)] at hc;cases hc
    rcases CJ.1 mz with mz|mz
    .exact hP.2 z mz
    .grind
  .dsimp only;rw[CT,B8];exact AW hP
def we{l:A3 Rat}(h:∀x∈l,lv n x)(hn:n<=10000000000)(hl:l.length<=10000000):Yd (λr=>1<=r/\lv n r/\∀x∈l,x<=r) (Xe l):=by
 have hL:∀x∈l++[1],lv n x:=λx mx=>by
  rcases CJ.1 mx with m|m
  .exact h x m
  .rw[Cv.1 m];exact Kf (d:=1) (.inl rfl) n
 unfold Xe;refine A5 (Nr<| .inl rfl)<|A5 (app_1 A4 A4) ?_
 exact Au (ap7 hL hn AT DJ) λr ⟨mr,hr⟩=>AW ⟨hr 1 AT,hL r mr,λx mx=>hr x (by simp[mx])⟩
def aAQ(hk:lv k a):KJ k (Dd a):=by have o:=Kf (.inl rfl:(1:Int)=1\/(1:Int)= -1) k;have m:=Kf (.inr rfl:(-1:Int)=1\/(-1:Int)= -1) k;have z:lv k (0:Rat):=⟨FV _,o.2⟩;exact MS.2 ⟨⟨⟨m,z,z⟩,hk⟩,⟨⟨o,z,z⟩,hk⟩,⟨⟨z,m,z⟩,hk⟩,⟨⟨z,o,z⟩,hk⟩,⟨⟨z,z,m⟩,hk⟩,⟨z,z,o⟩,hk⟩
def qS(hx:lv m x)(hy:lv n y)(hm:m<=1000)(hn:n<=1000):GS x y=some (x*y):=by unfold GS;rw[Lw hx A4,Lw hy A4];rfl
def Uq(L:A3 H3)(k:Nat)(r:A3 Bq×Bool):Prop:=
 ∃a m D:Rat,a=7*(m*m*D)/\0<m/\0<D/\lv (3*k+1) a/\(∀h∈L,wi3 h.1 m/\wi h.2 D)/\
  ((r.2=true/\∃N,(∀h,h∈N↔h∈L\/h∈Dd a)/\CF r.1 N)\/(r.2=false/\ ¬ ∃o,∀k∈L++Dd a,val k o<0))
theorem aAm(hL:KJ k L)(h1:1<=k)(hk:k<=90)(hlen:L.length<=50)(hp:∀h∈L,JH h.1):Yd (Uq L k) (Ta L):=by
 unfold Ta;refine Ce L (λ(s:A3 Rat×A3 Rat) i=>(s.1,s.2,i)) (λA s=>((∀x∈s.1,lv k x)/\∀x∈s.2,lv k x)/\(∀h∈A,P2 h.1.1∈s.1/\P2 h.1.2.1∈s.1/\P2 h.1.2.2∈s.1/\P2 h.2∈s.2)/\s.1.length=3*A.length/\s.2.length=A.length) (λA h C s k1 hA hP next=>?_) (λs k1 hP=>?_) (s0:=([],[])) AT A4
 .dsimp;rw[CU hA,BX];refine A5 (CC hA) ?_;let⟨g1,g2⟩:=hL h<|at_mem hA
  have al:=D7 hA;refine Ce [h.1.1,h.1.2.1,h.1.2.2] (λ(t:A3 Rat) i=>(t,i)) (λB t=>t=s.1++B.map P2) (λB x D t k2 hB hQ FN=>?_) (λt k2 hQ=>?_) (s0:=s.1) AT AT
  .dsimp;have bl:=D7 hB;rw[show [h.1.1,h.1.2.1,h.1.2.2].length=3 from rfl] at bl;rw[B9 (show(B.length:Int)<3 by omega),BX];refine A5 (CC hB) (A5 (aCf x) (A5 (app_1 A4 (by rw[hQ];simp;omega))<|A5 (CE hB AT)<|FN _ ?_));rw[hQ,Ic,ID];rfl
  .dsimp only;rw[show decide ((([h.1.1,h.1.2.1,h.1.2.2].length:Nat):Int)<3)=false from rfl,B8];refine A5 (aCf h.2)<|A5 (app_1 A4 A4)<|A5 (CE hA A4)<|next (_,_) ⟨⟨?_,?_⟩,?_,?_,?_⟩
   .intro x mx;rw[hQ] at mx;simp[MW,ZV,CJ,Am,Ze,or_false] at mx;rcases mx with m|rfl|rfl|rfl
    .exact hP.1.1 x m
    .exact jG g1.1
    .exact jG g1.2.1
    .exact jG g1.2.2
   .intro x mx;rcases CJ.1 mx with m|m
    .exact hP.1.2 x m
    .rw[Cv.1 m];exact jG g2
   .grind
   .grind
   .simp;omega
 .dsimp;rw[CT,B8];let⟨⟨p1,p2⟩,p3,p4,p5⟩:=hP;refine Au (we p1 A4 A4) λm ⟨m1,m2,m3⟩=>?_
  have s7:lv 1 (7:Rat):=⟨Dx A6,Dx A6⟩;have a1:=Mj s7 m2;have a2:=Mj a1 m2;refine A5 (x:=(7:Rat)) A6<|A5 (qS s7 m2 A4 A4)<|A5 (qS a1 m2 A4 A4) ?_
  refine Au (we p2 A4 A4) λD ⟨D1,D2,D3⟩=>?_
  have a3:lv (3*k+1) (7*m*m*D):=DP (Mj a2 D2) A4;have e:7*m*m*D=7*(m*m*D):=AK;have m0:0<m:=AK;have D0:0<D:=AK;have pos:0<7*m*m*D:=by have:=Ft (Ft m0 m0) D0;rw[e];grind
  refine A5 (qS a2 D2 A4 A4)<|Au (aoH pos A4 a3 A4) λS IS=>?_
  have pr:∀g∈L++Dd (7*m*m*D),JH g.1:=λg mg=>(CJ.1 mg).elim (hp g)<|ajo g
  have fw:KJ (3*k+1) (L++Dd (7*m*m*D)):=λg mg=>(CJ.1 mg).elim (λh=>⟨Fq (hL g h).1 A4,DP (hL g h).2 A4⟩)<|aAQ a3 g
  refine Au (Yd.vO IS fw A4 (by simp[Dd];omega) (λh mh=>(hp h mh).nz) λa ma b mb=>fL (pr a ma)<|pr b mb) λr hr=>AW ⟨_,m,D,e,m0,D0,a3,λh mh=>?_,?_⟩
  .let⟨a,b,c,d⟩:=p3 h mh;exact⟨⟨jF<|m3 _ a,jF<|m3 _ b,jF<|m3 _ c⟩,jF<|D3 _ d⟩
  .rcases hr with⟨e1,N,n1,_,n3⟩|⟨e1,n⟩
   .grind
   .exact .inr ⟨e1,n⟩
def Uq.tZ(hp:∀h∈L,JH h.1)(hb:EV L){m D:Rat}(e:a=7*(m*m*D))(m0:0<m)(D0:0<D)(hw:∀h∈L,wi3 h.1 m/\wi h.2 D){p:Q3}(mp:Mem L p):∀h∈Dd a,val h p<0:=by rw[e];exact anz hb m0 D0 (λh mh=>⟨(hp h mh).J0,hw h mh⟩) mp
def Uq.Mq{r:A3 Bq×Bool}(h:Uq L k r)(hp:∀h∈L,JH h.1)(hb:EV L):(r.2=true/\CF r.1 L)\/(r.2=false/\ ¬ ∃o,∀k∈L,val k o<0):=by
 let⟨a,m,D,e,m0,D0,_,hw,hr⟩:=h;rcases hr with⟨e1,N,n1,n2⟩|⟨e1,n⟩
 .exact .inl ⟨e1,(n2.drop n1 hb λp mp=>Uq.tZ hp hb e m0 D0 hw mp).1⟩
 .refine .inr ⟨e1,λ⟨o,ho⟩=>n ⟨o,λg mg=>?_⟩⟩;rcases CJ.1 mg with mg|mg
  .exact ho g mg
  .exact Uq.tZ hp hb e m0 D0 hw (λg mg=>Fu<|ho g mg) g mg
def alL{g:H3->A9 Bool}{p:H3->Bool}(hg:∀x∈L,g x=some (p x))(hl:L.length<=100000000):bP L g=some (L.any p):=by
 have key:Yd (λi=>decide (0<=i)=L.any p) (bQ L g):=by
  unfold bQ;refine Ce L (λ(_:Unit) i=>i) (λA _=>A.any p=false) (λA x C s k hA hP next=>?_) (λs k hP=>?_) (s0:=()) rfl A4
  .rw[CU hA,BX];refine A5 (CC hA)<|A5 (hg x<|at_mem hA)<|Ab (λhc=>AW ?_) λhc=>A5 (CE hA A4)<|next () ?_
   .rw[B9 A4,hA,WL,List.any_cons,hc];simp
   .rw[WL,hP,List.any_cons,hc];rfl
  .rw[CT,B8];exact AW (by rw[hP];rfl)
 let⟨r,r1,r2⟩:=key;unfold bP;rw[r1,<-r2];rfl
def aix{x:H3}(hx:Ba n x.1/\lv n x.2)(hf:Ba n f.1/\lv n f.2)(hn:n<=10000000000):XY x (f,l)=some (decide<|x=f):=by
 let⟨v,v1,_,v2⟩:=pZ hx.1 hf.1 hn;have s:QH x.1 f.1=some (decide<|x.1=f.1):=by
  unfold QH;rw[v1];show some (decide<|v=0)=_
  congr 1;exact Gr.2 v2
 have q:Ss x.2 f.2=some (decide<|x.2=f.2):=by unfold Ss;rw[Lw hx.2 hn,Lw hf.2 hn];rfl
 have e:decide (x=f)=(decide (x.1=f.1)&&decide (x.2=f.2)):=by rw[ZX];simp[Qo]
 unfold XY;rw[s,Cp,e];cases decide (x.1=f.1)
 .rfl
 .show bd (Ss x.2 f.2) _=_;rw[q];rfl
theorem aiP(hL:KJ k L)(h1:1<=k)(hk:k<=90)(hlen:L.length<=50)(hp:∀h∈L,JH h.1):Yd (λb=>b=true↔EV L) (cq L):=by
 unfold cq;refine Ce L (λ(s:A3 H3) i=>(s,i)) (λA s=>s=A.map λh=>(h.1,(1:Rat))) (λA h C s k1 hA hP next=>?_) (λs k1 hP=>?_) (s0:=[]) rfl A4
 .dsimp;rw[CU hA,BX];have al:=D7 hA;refine A5 (CC hA) (A5 (Nr<| .inl rfl) (A5 (app_1 A4 (by rw[hP];simp;omega))<|A5 (CE hA A4)<|next _ ?_));rw[hP,Ic];rfl
 .dsimp;rw[CT,B8];have hO:∀h∈s,∃g∈L,h=(g.1,(1:Rat)):=λh mh=>by rw[hP] at mh;let⟨g,mg,e⟩:=BM.1 mh;exact⟨g,mg,e.symm⟩
  have hI:∀g∈L,(g.1,(1:Rat))∈s:=λg mg=>by rw[hP];exact BM.2 ⟨g,mg,rfl⟩
  have sl:s.length=L.length:=by rw[hP,C2]
  have sp:∀h∈s,JH h.1:=λh mh=>by let⟨g,mg,e⟩:=hO h mh;rw[e];exact hp g mg
  have sf:KJ k s:=λh mh=>by let⟨g,mg,e⟩:=hO h mh;rw[e];exact⟨(hL g mg).1,Kf (d:=1) (.inl rfl) k⟩
  have sb:EV s↔EV L:=by
   constructor
   .intro hb d hd;let⟨h,mh,k⟩:=hb d hd;let⟨g,mg,e⟩:=hO h mh;rw[e] at k;exact⟨g,mg,k⟩
   .intro hb d hd;let⟨g,mg,k⟩:=hb d hd;exact⟨_,hI g mg,k⟩
  refine Au (aAm sf h1 hk A4 sp) λr hr=>?_
  let⟨a,m,D,e,m0,D0,la,hw,hr⟩:=hr;have a0:0<a:=by rw[e];have:=Ft (Ft m0 m0) D0;grind
  have s1:∀h∈s,0<h.2:=λh mh=>by let⟨g,mg,e⟩:=hO h mh;rw[e];show(0:Rat)<1;grind
  rcases hr with⟨e1,N,n1,n2⟩|⟨e1,n⟩
  .have nf:KJ (3*k+1) N:=λg mg=>(n1 g).1 mg|>.elim (λh=>⟨Fq (sf g h).1 A4,DP (sf g h).2 A4⟩) (aAQ la g)
   have bf:=aly n2 n1 a0 s1 λhb p mp=>Uq.tZ sp hb e m0 D0 hw mp
   rw[<-sb,bf]
   generalize r.1=S at*
   have SL:S.length<=100000000:=by
    have:=Kb (l:=S.map (·.1)) (T:=s++Dd a) (M0.2<|n2.P0.imp λh=>h) λx mx=>by obtain⟨f,mf,rfl⟩:=BM.1 mx;exact CJ.2<|(n1 _).1 (n2.DT f mf).1
    simp[Dd] at this;omega
   refine Ce S (λ(_:Unit) i=>i) (λA _=>∀f∈A,f.1∈s) (λA f C u k2 hA hQ next=>?_) (λu k2 hQ=>?_) (s0:=()) AT A4
   .rw[CU hA,BX];have mf:=at_mem hA;have ff:=nf f.1 (n2.DT f mf).1;refine A5 (CC hA) (A5 (alL (p:=λx=>decide<|x=f.1) (λx mx=>aix (l:=f.2) ⟨Fq (sf x mx).1 (show k<=3*k+1 by omega),DP (sf x mx).2 A4⟩ ff A4) A4) ?_);refine Ab (λhc=>AW ?_) λhc=>A5 (CE hA A4)<|next () λg mg=>?_
    .constructor
     .intro c;cases c
     .intro c;have:=c f mf;rw[GM,Zg] at hc;exact absurd (B9 rfl)<|hc f.1 this
    .rcases CJ.1 mg with m|m
     .exact hQ g m
     .rw[Cv.1 m];rw[WV,iR] at hc;let⟨x,mx,e⟩:=hc;rw[<-As e];exact mx
   .rw[CT,B8];exact AW ⟨λ_=>hQ,λ_=>rfl⟩
  .refine absurd ⟨o3,λg mg=>?_⟩ n;have v:val g o3= -g.2:=by unfold val;rw[Uo];grind
   rw[v];rcases CJ.1 mg with mg|mg
   .have:=s1 g mg;grind
   .have ca:∀h∈Dd a,h.2=a:=by rw[MS];exact⟨rfl,rfl,rfl,rfl,rfl,rfl⟩
    rw[ca g mg];grind
def amx(hx:bq x m)(hy:bq y n)(h0:y≠0)(hm:0<m/\m<=1900000)(hn:0<n/\n<=1900000):YT (Av x) (Av y)=some (Av<|x/y):=by
 have key:QB (Av y)=some (Av y⁻¹):=by
  have:Yd (λr=>r=Av y⁻¹) (QB<|Av y):=by unfold QB;refine Au (SD hy hn.1 hn.2) ?_;rintro⟨q1,q2⟩ ⟨⟨b1,b2⟩,b3,b4⟩;dsimp only at*;have hf:=eE b2 b1 (λe=>h0<|N8.1 e) A4 A4;rw[gW] at hf;exact A5 hf<|AW rfl
  obtain⟨r,e,rfl⟩:=this;exact e
 unfold YT;rw[key];show bd (I5 (Av x)<|Av y⁻¹) (λx3=>some x3)=_;rw[aCx hx (aqc hy h0) hm hn,OT];rfl
abbrev Q12:=Q3×Q3×Q3×Q3
def fc(f:Q12):Prop:=vc f.1 1 14/\vc f.2.1 1 14/\vc f.2.2.1 1 14/\vc f.2.2.2 1 14
def aid(hx:bq x n)(hy:bq y n)(h0:0<n)(hn:n<=1900000)(h:Av x=Av y):x=y:=by
 let⟨p,e1,⟨p1,p2⟩,_⟩:=SD hx h0 hn;let⟨r,e2,⟨r1,r2⟩,_⟩:=SD hy h0 hn;rw[h,e2] at e1;have e:=Ez e1;subst e;have key:∀{q:Bool×A3 Int} {a b:Int},FE q a->FE q b->a=b:=by rintro q a b ⟨_,h2,h3⟩ ⟨_,k2,k3⟩;rw[h2] at k2;rw[h3] at k3;have:=Gr.1 k3;omega
 have d:=key r2 p2;exact(Rat.ext (key r1 p1) A4).symm
def c4(a b c d e:Int):Int:=bif !decide (a=0) then a else bif !decide (b=0) then b else bif !decide (c=0) then c else bif !decide (d=0) then d else e
def NM(h:lv n x):bq x (n+1):=by have h1:=h.1;rw[Lt] at h1;have e:(10:Nat)^n<10^(n+1):=Nat.pow_lt_pow_right A4 A4;exact⟨A4,by have:=h.2;omega⟩
def JR(hx:lv m x)(hy:lv n y):lv (m+n) (x*y):=Mj hx hy
def abd(h:bc x (1+1) n):lv (n+1) x:=St h A4 A4
def lva(hx:lv m x)(hy:lv n y):lv (m+n+1) (x+y):=abd<|Sm hx hy
def lvs(hx:lv m x)(hy:lv n y):lv (m+n+1) (x-y):=abd<|rf hx hy
def lvi(hx:lv n x)(h0:x≠0):lv n x⁻¹ :=ri (e:=0) hx h0 A4
end
section
variable{m n:Nat}{x y:Rat}(hx:lv m x)(hy:lv n y)(hm:m<=1800000)(hn:n<=1800000)
include hx hy hm hn
theorem Q1:I5 (Av x) (Av y)=some (Av<|x*y):=aCx (NM hx) (NM hy) ⟨A4,A4⟩ ⟨A4,A4⟩
theorem RL:Lj (Av x) (Av y)=some (Av<|x+y):=aCy (NM hx) (NM hy) ⟨A4,A4⟩ ⟨A4,A4⟩
theorem Sx:ML (Av x) (Av y)=some (Av<|x-y):=amp (NM hx) (NM hy) ⟨A4,A4⟩ ⟨A4,A4⟩
theorem art(h0:y≠0):YT (Av x) (Av y)=some (Av<|x/y):=amx (NM hx) (NM hy) h0 ⟨A4,A4⟩ ⟨A4,A4⟩
end
section
variable{n:Nat}{x:Rat}
def R3(h:lv n x)(hn:n<=1800000):(Av x).length<100000000:=by have:=xr (NM h) A4;omega
def R6(h:lv n x)(hn:n<=1800000):K1 (Av x)=some x.num.sign:=by
 rw[z6<|R3 h hn]
 congr 1
 by_cases h0:x=0
 .subst h0;rfl
 .rw[CB h0,B8];have hn:x.num≠0:=λe=>h0<|N8.1 e
  by_cases h1:x.num<0
  .rw[B9 h1,BX,j5 h1]
  .rw[CB h1,B8,Wa A4]
def sH{m:Nat}{y:Rat}(hx:lv m x)(hy:lv n y)(hm:m<=1800000)(hn:n<=1800000)(h:Av x=Av y):x=y:=aid (NM<|DP hx hm) (NM<|DP hy hn) A4 A4 h
end
section
variable{m n:Nat}{v w:Q3}(hv:Ba m v)(hw:Ba n w)
include hv hw
theorem Pa:Ba (m+n+1) (Af v w):=⟨lvs hv.1 hw.1,lvs hv.2.1 hw.2.1,lvs hv.2.2 hw.2.2⟩
theorem MT:Ba (m+n+1) (Bn v w):=⟨lva hv.1 hw.1,lva hv.2.1 hw.2.1,lva hv.2.2 hw.2.2⟩
theorem Ll:Ba (2*(m+n)+1) (AY v w):=by
 have k:∀{a b c d:Rat},lv m a->lv n b->lv m c->lv n d->lv (2*(m+n)+1) (a*b-c*d):=λh1 h2 h3 h4=>DP (lvs (JR h1 h2)<|JR h3 h4) A4
 exact⟨k hv.2.1 hw.2.2 hv.2.2 hw.2.1,k hv.2.2 hw.1 hv.1 hw.2.2,k hv.1 hw.2.1 hv.2.1 hw.1⟩
theorem R4:lv (3*(m+n)+2) (AI v w):=DP (lva (lva (JR hv.1 hw.1)<|JR hv.2.1 hw.2.1)<|JR hv.2.2 hw.2.2) A4
theorem Pt(h:m+n<=1800000):Mw (Ak v) (Ak w)=some (Ak<|Af v w):=by unfold Mw Ak;dsimp only;rw[Sx hv.1 hw.1 A4 A4,Cp,Sx hv.2.1 hw.2.1 A4 A4,Cp,Sx hv.2.2 hw.2.2 A4 A4];rfl
theorem R7(h:m+n<=1800000):NX (Ak v) (Ak w)=some (Ak<|Bn v w):=by unfold NX Ak;dsimp only;rw[RL hv.1 hw.1 A4 A4,Cp,RL hv.2.1 hw.2.1 A4 A4,Cp,RL hv.2.2 hw.2.2 A4 A4];rfl
theorem Un(h:2*(m+n)+1<=1800000):PJ (Ak v) (Ak w)=some (Av<|AI v w):=by unfold PJ Ak;dsimp only;rw[Q1 hv.1 hw.1 A4 A4,Cp,Q1 hv.2.1 hw.2.1 A4 A4,Cp,RL (JR hv.1 hw.1) (JR hv.2.1 hw.2.1) A4 A4,Cp,Q1 hv.2.2 hw.2.2 A4 A4,Cp,RL (lva (JR hv.1 hw.1)<|JR hv.2.1 hw.2.1) (JR hv.2.2 hw.2.2) A4 A4];rfl
theorem Qt(h:m+n<=1800000):MH (Ak v) (Ak w)=some (Ak<|AY v w):=by
 have k:∀{a b c d:Rat},lv m a->lv n b->lv m c->lv n d->∀{ρ:Type} (K:AA->A9 ρ),(bd (I5 (Av a)<|Av b) λx=>bd (I5 (Av c)<|Av d) λy=>bd (ML x y) K)=K (Av<|a*b-c*d):=λh1 h2 h3 h4 ρ K=>by rw[Q1 h1 h2 A4 A4,Cp,Q1 h3 h4 A4 A4,Cp,Sx (JR h1 h2) (JR h3 h4) A4 A4,Cp]
 unfold MH Ak;dsimp only;rw[k hv.2.1 hw.2.2 hv.2.2 hw.2.1,k hv.2.2 hw.1 hv.1 hw.2.2,k hv.1 hw.2.1 hv.2.1 hw.1];rfl
end
section
variable{m:Nat}{h:C1}{d n m' d':Nat}{v:Q3}{l:A3 C1}{a:Q3}
def Me{a:Rat}(hv:Ba m v)(ha:lv n a):Ba (m+n) (B7 v a):=⟨JR hv.1 ha,JR hv.2.1 ha,JR hv.2.2 ha⟩
def Pj{a:Rat}(hv:Ba m v)(ha:lv n a)(h:m+n<=1800000):MG (Av a) (Ak v)=some (Ak<|B7 v a):=by unfold MG Ak;dsimp only;rw[Q1 ha hv.1 A4 A4,Cp,Q1 ha hv.2.1 A4 A4,Cp,Q1 ha hv.2.2 A4 A4,Rat.mul_comm a,Rat.mul_comm a,Rat.mul_comm a];rfl
def apo{w:Q3}(hv:Ba m v)(hw:Ba n w)(hm:m<=1800000)(hn:m+n<=1800000)(h:Ak v=Ak w):v=w:=by have a:=congrArg (·.1) h;have b:=congrArg (·.2.1) h;have c:=congrArg (·.2.2) h;exact K5 (sH hv.1 hw.1 A4 A4 a) (sH hv.2.1 hw.2.1 A4 A4 b)<|sH hv.2.2 hw.2.2 A4 A4 c
theorem alK:kP v=true↔v=o3:=by grind [kP,o3]
def rV(h:Ba n v)(hn:n<=1800000):Xi (Ak v)=some (decide<|v=o3):=by
 have t1:=Yf v.1<|R3 h.1 hn
 have t2:=Yf v.2.1<|R3 h.2.1 hn
 have t3:=Yf v.2.2<|R3 h.2.2 hn
 have e:decide (v=o3)=kP v:=by rw[ZX,alK,Hm]
 show some (decide<|Ak v=(([48]:AA),([48]:AA),([48]:AA)))=_;rw[e];unfold kP;rw[<-t1,<-t2,<-t3]
 congr 1
 rw[ZX];unfold Ak;simp[Qo]
abbrev N3:=Int×Int×Int
def rq(s:AA):Rat:=(PN s).getD 0
def rn(n:N3):Q3:=((n.1:Rat),(n.2.1:Rat),(n.2.2:Rat))
def rh(h:C1):H3:=(rn h.1,rq h.2)
def IP(n:N3):Nat:=Nat.gcd (Nat.gcd n.1.natAbs n.2.1.natAbs) n.2.2.natAbs
def Fi(x:Int):Bool:=decide (999999999<x)||decide (x< -999999999)
structure Cl(h:C1):Prop where
 num:isNum h.2 (rq h.2)
 x:Fi h.1.1=false
 y:Fi h.1.2.1=false
 z:Fi h.1.2.2=false
 g:IP h.1=1
theorem UX{x:Int}(h:Fi x=false): -999999999<=x/\x<=999999999:=by grind [Fi]
def Cl.kN(o:Cl h):JH (rh h).1:=⟨_,_,_,rfl,o.g⟩
def rN{x:Int}(h:Fi x=false)(hn:9<=n):lv n (x:Rat):=by
 have:=UX h;have e:(10:Nat)^9<=10^n:=LR A4 hn;refine⟨?_,?_⟩
 .rw[UG];omega
 .rw[WM];omega
def Cl.lvn(o:Cl h)(hn:9<=n):Ba n (rh h).1:=⟨rN o.x hn,rN o.y hn,rN o.z hn⟩
def Cl.Ky(o:Cl h):lv 14 (rh h).2:=as5 o.num.2.1
def Cl.Jz{L:A3 C1}(o:∀h∈L,Cl h):KJ 14 (L.map rh):=λg mg=>by obtain⟨h,mh,rfl⟩:=BM.1 mg;exact⟨(o h mh).lvn A4,(o h mh).Ky⟩
def Cl.Wy{L:A3 C1}(o:∀h∈L,Cl h):∀g∈L.map rh,JH g.1:=λg mg=>by obtain⟨h,mh,rfl⟩:=BM.1 mg;exact(o h mh).kN
def Cl.txt(o:Cl h):h.2=Av (rh h).2:=o.num.1
def Qy{k:C1}(a:Cl h)(b:Cl k)(e:rh h=rh k):h=k:=by have e1:=congrArg (·.1.1) e;have e2:=congrArg (·.1.2.1) e;have e3:=congrArg (·.1.2.2) e;have e4:=congrArg (·.2) e;exact Prod.ext (Prod.ext (iK.1 e1)<|Prod.ext (iK.1 e2)<|iK.1 e3) (by rw[a.txt,b.txt,e])
def ah(n:N3)(c:Int):Int:=bif decide (IP n=0) then 6 else bif Fi n.1||(Fi n.2.1||Fi n.2.2) then 3 else bif !decide (IP n=1) then 1 else c
def pT(b:Bool)(n:Int):YG b n=some (bif b then n else 0):=by cases b<;>rfl
theorem apk(a b c d:Int):dh [a,b,c,d]=some (bif !decide (a=0) then a else bif !decide (b=0) then b else bif !decide (c=0) then c else d):=by
 obtain⟨F,hF⟩:∃F,18446744073709551616=F+5:=⟨18446744073709551611,rfl⟩;unfold dh;rw[hF];show cond (!decide (a=0)) (some a) (cond (!decide (b=0)) (some b)<|cond (!decide (c=0)) (some c)<|cond (!decide (d=0)) (some d)<|some 0)=_;cases ha:decide (a=0)
 .rfl
 .grind
def aBl{z:Int}(h:z.natAbs<=9223372036854775808):D4 z=true:=OP (n:=20) A4 A4
def in3(n:N3):Prop:=DW n.1/\DW n.2.1/\DW n.2.2
theorem aeV(hi:in3 h.1){c:Int}(hc:TZ h.2=some c):P5 h=some (ah h.1 c):=by
 refine HG ?_;unfold P5;refine A5 (x:=0) rfl ?_;refine Ce [h.1.1,h.1.2.1,h.1.2.2] (λ(s:Int×Bool) i=>(s.1,s.2,i)) (λA s=>s.1=((A.foldl (λg x=>Nat.gcd g x.natAbs) 0:Nat):Int)/\s.2=A.any Fi) (λA x C s k hA hP next=>?_) (λs k hP=>?_) (s0:=(0,false)) ⟨rfl,rfl⟩ AT
 .dsimp;have al:=D7 hA;rw[show [h.1.1,h.1.2.1,h.1.2.2].length=3 from rfl] at al;rw[B9 (show(A.length:Int)<3 by omega),BX];have ix:DW x:=by have:=at_mem hA;simp at this;rcases this with rfl|rfl|rfl;exact hi.1;exact hi.2.1;exact hi.2.2
  have gl:(A.foldl (λg x=>Nat.gcd g x.natAbs) 0)<=9223372036854775808:=by
   have hA':∀y∈A,y.natAbs<=9223372036854775808:=λy my=>by
    have:y∈[h.1.1,h.1.2.1,h.1.2.2]:=by rw[hA];simp[my]
    have b1:=hi.1;have b2:=hi.2.1;have b3:=hi.2.2;unfold DW at b1 b2 b3;simp at this;omega
   have:∀(l:A3 Int) (g:Nat),g<=9223372036854775808->(∀y∈l,y.natAbs<=9223372036854775808)->l.foldl (λg x=>Nat.gcd g x.natAbs) g<=9223372036854775808:=by
    intro l
    induction l with
    |nil=>intro g hg _;exact hg
    |cons y l ih=>
     intro g hg hl;refine ih _ ?_ λz mz=>hl z<|Br _ mz
     have:=hl y Cz;rcases M1 g with e|e
     .grind
     .exact Ch (Nat.gcd_le_left _ e) hg
   exact this A 0 A4 hA'
  unfold DW at ix;refine A5 (CC hA)<|A5 (EL ix)<|A5 (x:=(x.natAbs:Int)) rfl<|A5 (x:=((Nat.gcd (A.foldl (λg x=>Nat.gcd g x.natAbs) 0) x.natAbs:Nat):Int)) ?_<|A5 (CE hA AT)<|next (_,_) ⟨?_,?_⟩
  .unfold Q8;rw[hP.1,aBl (by rw[F9];exact gl),aBl (by rw[F9];omega)];rfl
  .grind
  .rw[WL,hP.2];show((A.any Fi||_)||_)=(_||(Fi x||false));rw[iF,Bool.or_assoc];rfl
 .dsimp only;rw[show decide ((([h.1.1,h.1.2.1,h.1.2.2].length:Nat):Int)<3)=false from rfl,B8];have e1:s.1=((IP h.1:Nat):Int):=by rw[hP.1];show((Nat.gcd (Nat.gcd (Nat.gcd 0 _) _) _:Nat):Int)=_;rw[Nat.gcd_zero_left];rfl
  have e2:s.2=(Fi h.1.1||(Fi h.1.2.1||Fi h.1.2.2)):=AK;rw[e1,e2];have sm:R9 ((IP h.1:Nat):Int)=some (bif IL ((IP h.1:Nat):Int) then(((IP h.1:Nat):Int),true) else(((IP h.1:Nat):Int).sign,false)):=by unfold R9;rw[CB A4];rfl
  refine A5 sm<|A5 (x:=((IP h.1:Nat):Int).sign) rfl<|A5 (pT _ _)<|A5 (pT _ _)<|A5 (pT _ _)<|A5 hc<|A5 (apk _ _ _ _)<|AW ?_
  unfold ah
  generalize (Fi h.1.1||(Fi h.1.2.1||Fi h.1.2.2))=f at*
  have hs:decide (((IP h.1:Nat):Int).sign=0)=decide (IP h.1=0):=Gr.2 (by rw[Int.sign_eq_zero_iff_zero];omega);rw[hs];cases h0:decide (IP h.1=0)
  .cases f
   .by_cases hb:IL ((IP h.1:Nat):Int)=true
    .grind
    .rw[Bool.not_eq_true] at hb;have h1:decide (IP h.1=1)=false:=by
      refine CB λe=>?_
      rw[e] at hb;cases hb
     rw[hb,h1];rfl
   .rfl
  .rfl
def xJ{a b:Int}(ha: -999999999<=a/\a<=999999999)(hb: -999999999<=b/\b<=999999999):Xv a b=some ((Nat.gcd a.natAbs b.natAbs:Nat):Int):=by
 refine HG ?_;unfold Xv;refine ET (λs:Int×Int=>Nat.gcd s.1.natAbs s.2.natAbs=Nat.gcd a.natAbs b.natAbs/\(-999999999<=s.1/\s.1<=999999999)/\(-999999999<=s.2/\s.2<=999999999)) (λs=>s.2.natAbs) (λnext s hs hn=>?_) _ _ ⟨rfl,ha,hb⟩ (by show b.natAbs<_;omega);let⟨h1,h2,h3⟩:=hs;refine Ab (λhc=>?_) λhc=>?_
 .have h0:s.2≠0:=by simpa using hc
  have t:=Int.natAbs_tmod s.1 s.2;have lt:=OS s.1.natAbs (show 0<s.2.natAbs by omega);refine A5 (x:=s.1.tmod s.2) (by unfold G9;rw[CB h0];rfl) (hn (_,_) ⟨?_,h3,by dsimp;omega⟩ (by dsimp;omega));rw[t,SX,<-Nat.gcd_rec,SX,h1]
 .have h0:s.2=0:=by simpa using hc
  refine A5 (x:=0-s.1) BH<|AW ?_
  rw[rG,<-h1,h0];simp
theorem afc{c:Int}(hc:Rv h.2=some c):Rk h=some (ah h.1 c):=by
 refine HG ?_;unfold Rk ah;have z:decide (h.1=((0:Int),(0:Int),(0:Int)))=decide (IP h.1=0):=Gr.2 (by unfold IP;rw[Nat.gcd_eq_zero_iff,Nat.gcd_eq_zero_iff,Qo,Qo];simp[Int.natAbs_eq_zero,and_assoc])
 rw[z];refine Ab (λhz=>by rw[hz];exact AW rfl) λhz=>?_
 rw[hz,B8];refine Ce [h.1.1,h.1.2.1,h.1.2.2] (λ(_:Unit) i=>i) (λA _=>A.any Fi=false) (λA x C s k hA hP next=>?_) (λs k hP=>?_) (s0:=()) rfl AT
 .have al:=D7 hA;rw[show [h.1.1,h.1.2.1,h.1.2.2].length=3 from rfl] at al;rw[B9 (show(A.length:Int)<3 by omega),BX];refine A5 (CC hA) ?_;have fin:∀y,y=x\/decide (x< -999999999)=true->Yd (λr=>r=(bif Fi h.1.1||(Fi h.1.2.1||Fi h.1.2.2) then 3 else bif !decide (IP h.1=1) then 1 else c)) (cond (decide (x< -999999999)||decide (999999999<y)) (some 3)<|bd (AG<|(A.length:Int)+1) k):=by
   intro y hy;have e:(decide (x< -999999999)||decide (999999999<y))=Fi x:=by
    unfold Fi;rcases hy with rfl|hy
    .rw[Bool.or_comm]
    .rw[hy];simp
   rw[e];refine Ab (λhf=>AW ?_) λhf=>A5 (CE hA AT)<|next () ?_
   .have:(Fi h.1.1||(Fi h.1.2.1||Fi h.1.2.2))=true:=by have:=at_mem hA;simp at this;rcases this with rfl|rfl|rfl<;>rw[hf]<;>simp
    rw[this];rfl
   .grind
  cases hx:decide (x< -999999999)
  .rw[hx] at fin;exact A5 (CC hA)<|fin x<| .inl rfl
  .rw[hx] at fin;exact fin 0<| .inr rfl
 .rw[show decide ((([h.1.1,h.1.2.1,h.1.2.2].length:Nat):Int)<3)=false from rfl,B8];simp[List.any_cons,List.any_nil,iF,Ki] at hP;let⟨p1,p2,p3⟩:=hP;have b1:=UX p1;have b2:=UX p2;have b3:=UX p3;have g0:IP h.1≠0:=Bh hz;have gl:Nat.gcd h.1.1.natAbs h.1.2.1.natAbs<=999999999:=by
   rcases M1 h.1.1.natAbs with e|e
   .grind
   .exact Ch (Nat.gcd_le_left _ e) A4
  refine A5 (xJ b1 b2)<|A5 (xJ (b:=h.1.2.2) ⟨A4,A4⟩ b3) ?_
  rw[F9,p1,p2,p3];have e:decide ((((Nat.gcd (Nat.gcd h.1.1.natAbs h.1.2.1.natAbs) h.1.2.2.natAbs:Nat)):Int)=1)=decide (IP h.1=1):=Gr.2 (by unfold IP;omega);rw[e];refine Ab (λh1=>by rw[h1];exact AW rfl) λh1=>by rw[h1];exact A5 hc<|AW rfl
def uz(hi:in3 h.1)(hl:h.2.length<=14):∃c,P5 h=some c/\Rk h=some c/\(c=0->Cl h):=by
 let⟨c,c1,c2,c3⟩:=xh hl;refine⟨_,aeV hi c1,afc c2,λe=>?_⟩;unfold ah at e;cases h0:decide (IP h.1=0) with
 |true=>rw[h0] at e;cases e
 |false=>
  rw[h0,B8] at e;cases hf:Fi h.1.1||(Fi h.1.2.1||Fi h.1.2.2) with
  |true=>rw[hf] at e;cases e
  |false=>
   rw[hf,B8] at e;cases h1:decide (IP h.1=1) with
   |false=>rw[h1] at e;cases e
   |true=>rw[h1] at e;let⟨q,hq⟩:=c3 e;rw[Ki,Ki] at hf;refine⟨?_,hf.1,hf.2.1,hf.2.2,As h1⟩;unfold rq;rw[hq.2.2];exact hq
theorem aeF(hl:∀h∈l,in3 h.1/\h.2.length<=14)(hn:l.length<=100000000):∃c,XU l=some c/\bb l=some c/\(c=0->∀h∈l,Cl h):=by
 let f:C1->Int:=λh=>(P5 h).getD 0
 have hf:∀h∈l,P5 h=some (f h)/\Rk h=some (f h)/\(f h=0->Cl h):=λh mh=>by let⟨c,c1,c2,c3⟩:=uz (hl h mh).1 (hl h mh).2;have:f h=c:=AK;rw[this];exact⟨c1,c2,c3⟩
 let g:A3 C1->Int:=λl=>((l.map f).find? λc=> !decide (c=0)).getD 0
 have one:∀(chk:C1->A9 Int),(∀h∈l,chk h=some (f h))->Yd (λr=>r=g l) (BE (λk2 (s1:Int)=>cond (decide<|s1<(l.length:Int)) (bd (AB l s1) λx4=>bd (chk x4) λx6=>cond (!decide (x6=0)) (some x6)<|bd (AG<|s1+1) λx9=>k2 x9)<|some 0) 0):=by
  intro chk auQ;refine Ce l (λ(_:Unit) i=>i) (λA _=>∀h∈A,f h=0) (λA x C s k hA hP next=>?_) (λs k hP=>?_) (s0:=()) AT A4
  .rw[CU hA,BX];refine A5 (CC hA)<|A5 (auQ x<|at_mem hA)<|Ab (λhc=>AW ?_) λhc=>A5 (CE hA A4)<|next () λh mh=>?_
   .grind
   .grind
  .rw[CT,B8];refine AW ?_;show _=((l.map f).find? _).getD 0;rw[List.find?_eq_none.2 (λc mc=>by obtain⟨h,mh,rfl⟩:=BM.1 mc;rw[hP h mh];simp)];rfl
 obtain⟨r,r1,rfl⟩:=one P5 λh mh=>(hf h mh).1
 obtain⟨r,r2,rfl⟩:=one Rk λh mh=>(hf h mh).2.1
 refine⟨g l,r1,r2,λe h mh=>(hf h mh).2.2 ?_⟩;refine Ck λhne=>?_
 have:((l.map f).find? λc=> !decide (c=0)).getD 0=0:=e;cases hF:(l.map f).find? λc=> !decide (c=0) with
 |none=>exact List.find?_eq_none.1 hF (f h) (BM.2 ⟨h,mh,rfl⟩) (by simpa using hne)
 |some c=>rw[hF] at this;have c0:c=0:=this;have:=List.find?_some hF;rw[c0] at this;cases this
def nd(q:Rat)(m d:Nat):Prop:=q.num.natAbs<=m/\q.den<=d
def Nt{x y:Rat}(hx:nd x m d)(hy:nd y m' d'):nd (x*y) (m*m') (d*d'):=by
 have h:=Ue (x:=x.num*y.num) (y:=(x.den:Int)*(y.den:Int))<|SZ (LX x)<|LX y
 rw[ZE,K8,K8,F9,F9] at h;exact⟨Ch h.1<|GL hx.1 hy.1,Ch h.2<|GL hx.2 hy.2⟩
def Wn{x y:Rat}(hx:nd x m d)(hy:nd y m' d'):nd (x+y) (m*d'+m'*d) (d*d'):=by
 have h:=Ue (x:=x.num*y.den+y.num*x.den) (y:=(x.den:Int)*(y.den:Int))<|SZ (LX x)<|LX y
 rw[ZF,K8,F9,F9] at h;have t:=qW (x.num*y.den)<|y.num*x.den
 rw[K8,K8,F9,F9] at t;exact⟨Ch h.1<|Ch t<|Nat.add_le_add (GL hx.1 hy.2)<|GL hy.1 hx.2,Ch h.2<|GL hx.2 hy.2⟩
def rF{x y:Rat}(hx:nd x m d)(hy:nd y m' d'):nd (x-y) (m*d'+m'*d) (d*d'):=by rw[iU];exact Wn hx ⟨by rw[Rat.neg_num,iG];exact hy.1,by rw[Rat.neg_den];exact hy.2⟩
def ap5{x:Rat}(hx:nd x m d)(h0:x≠0):nd x⁻¹ d m:=by
 have hn:x.num≠0:=λe=>h0<|N8.1 e
 have h:=Ue (x:=(x.den:Int)) (y:=x.num) hn;rw[gW,F9] at h;exact⟨Ch h.1 hx.2,Ch h.2 hx.1⟩
def nd3(p:Q3)(m d:Nat):Prop:=nd p.1 m d/\nd p.2.1 m d/\nd p.2.2 m d
def oW{b:Q3}(ha:nd3 a m d)(hb:nd3 b m' d'):nd3 (AY a b) (m*m'*(d*d')+m*m'*(d*d')) (d*d'*(d*d')):=⟨rF (Nt ha.2.1 hb.2.2)<|Nt ha.2.2 hb.2.1,rF (Nt ha.2.2 hb.1)<|Nt ha.1 hb.2.2,rF (Nt ha.1 hb.2.1)<|Nt ha.2.1 hb.1⟩
def jQ{t:Rat}(ha:nd3 a m d)(ht:nd t m' d'):nd3 (B7 a t) (m*m') (d*d'):=⟨Nt ha.1 ht,Nt ha.2.1 ht,Nt ha.2.2 ht⟩
def aaO{b:Q3}(ha:nd3 a m d)(hb:nd3 b m' d'):nd3 (Bn a b) (m*d'+m'*d) (d*d'):=⟨Wn ha.1 hb.1,Wn ha.2.1 hb.2.1,Wn ha.2.2 hb.2.2⟩
def ry{q:Rat}(h:nd q m d)(hm:Nat.ble m (10^n)=true)(hd:Nat.ble d (10^n)=true):lv n q:=⟨by rw[Lt];exact Ch h.1<|Dx hm,Ch h.2<|Dx hd⟩
def Cl.nd{h:C1}(o:Cl h):nd3 (rh h).1 1000000000 1:=by
 have k:∀{x:Int},Fi x=false->Trn.nd (x:Rat) 1000000000 1:=λ{x} hx=>by have:=UX hx;exact⟨by rw[UG];omega,by rw[WM];omega⟩
 exact⟨k o.x,k o.y,k o.z⟩
def qw(o:∀h∈l,Cl h){p:Q3}(hv:Bi (l.map rh) p):Ba 70 p:=by
 obtain⟨_,a,ma,b,mb,c,mc,hd,rfl⟩:=Vu.1 hv;obtain⟨a,ka,rfl⟩:=BM.1 ma;obtain⟨b,kb,rfl⟩:=BM.1 mb;obtain⟨c,kc,rfl⟩:=BM.1 mc;have d14:∀{h:C1},Cl h->Trn.nd (rh h).2 100000000000000 100000000000000:=λo=>⟨by have:=o.Ky.1;rwa [Lt] at this,o.Ky.2⟩
 have a1:=(o a ka).nd;have b1:=(o b kb).nd;have c1:=(o c kc).nd;have ab:=oW a1 b1;have d:=ap5 (Wn (Wn (Nt ab.1 c1.1)<|Nt ab.2.1 c1.2.1)<|Nt ab.2.2 c1.2.2) hd;have s:=aaO (aaO (jQ (oW b1 c1)<|d14<|o a ka)<|jQ (oW c1 a1)<|d14<|o b kb)<|jQ ab<|d14<|o c kc
 have r:=jQ s d;exact⟨ry r.1 A6 A6,ry r.2.1 A6 A6,ry r.2.2 A6 A6⟩
def rA{x:Int}(h:Fi x=false):qF x=some (x:Rat):=by have:=UX h;unfold qF;rw[EL ⟨A4,A4⟩];rfl
def Cl.from(o:Cl h):VM h=some (rh h):=by unfold VM Nc;rw[rA o.x,rA o.y,rA o.z,o.num.2.2];rfl
def amy(o:∀h∈l,Cl h)(hl:l.length<=100000000):YI l=some (l.map rh):=by
 refine HG ?_;unfold YI;refine Ce l (λ(s:A3 H3) i=>(s,i)) (λA s=>s=A.map rh) (λA x C s k hA hP next=>?_) (λs k hP=>?_) (s0:=[]) rfl A4
 .dsimp;rw[CU hA,BX];have al:=D7 hA;exact A5 (CC hA) (A5 (o x<|at_mem hA).from (A5 (app_1 A4 (by rw[hP,C2];omega)) (A5 (CE hA A4) (next _ (by rw[hP,Ic];rfl)))))
 .dsimp;rw[CT,B8];exact AW hP
def JU(a b:N3):Prop:=a.1<b.1\/a.1=b.1/\(a.2.1<b.2.1\/a.2.1=b.2.1/\a.2.2<b.2.2)
instance(a b:N3):Decidable (JU a b):=by unfold JU;exact inferInstance
theorem nR(a b:Int):VB a b=some (bif decide (a<b) then -1 else bif decide (b<a) then 1 else 0):=by
 unfold VB Xm;rw[B9 rfl,B9 rfl];simp[bd,iD,B8];cases decide (a<b)
 .grind
 .rfl
def aju(a b:N3):∃v,VN a b=some v/\(v<0↔JU a b):=by
 unfold VN;rw[nR,nR,nR];simp[bd];rw[or3];refine⟨_,rfl,?_⟩;let⟨a1,a2,a3⟩:=a;let⟨b1,b2,b3⟩:=b;unfold JU;simp only;have tri:∀x y:Int,(x<y/\ ¬y<x/\x≠y)\/(¬x<y/\ ¬y<x/\x=y)\/(¬x<y/\y<x/\x≠y):=λx y=>by omega
 rcases tri a1 b1 with⟨h1,h2,h3⟩|⟨h1,h2,h3⟩|⟨h1,h2,h3⟩<;>rcases tri a2 b2 with⟨g1,g2,g3⟩|⟨g1,g2,g3⟩|⟨g1,g2,g3⟩<;>rcases tri a3 b3 with⟨k1,k2,k3⟩|⟨k1,k2,k3⟩|⟨k1,k2,k3⟩<;>simp[h1,h2,h3,g1,g2,g3,k1,k2,k3]
theorem ni(a b:N3):VP a b=some (decide<|JU a b):=by
 refine HG ?_;unfold VP;refine Ce [(a.1,b.1),(a.2.1,b.2.1),(a.2.2,b.2.2)] (λ(_:Unit) i=>i) (λA _=>∀p∈A,p.1=p.2) (λA x C s k hA hP next=>?_) (λs k hP=>?_) (s0:=()) AT AT
 .have al:=D7 hA;rw[show [(a.1,b.1),(a.2.1,b.2.1),(a.2.2,b.2.2)].length=3 from rfl] at al;rw[B9 (show(A.length:Int)<3 by omega),BX];have ix:=CC hA;have i1:AB [a.1,a.2.1,a.2.2] (A.length:Int)=some x.1:=by rw[Jj] at ix⊢;have:=congrArg (Option.map (·.1)) ix;rwa [<-HL] at this
  have i2:AB [b.1,b.2.1,b.2.2] (A.length:Int)=some x.2:=by rw[Jj] at ix⊢;have:=congrArg (Option.map (·.2)) ix;rwa [<-HL] at this
  refine A5 i1<|A5 i2<|Ab (λhc=>A5 i1<|A5 i2<|AW<|Gr.2 ?_) λhc=>A5 (CE hA AT)<|next () λp mp=>?_
  .have hne:x.1≠x.2:=by simpa using hc
   unfold JU;rcases A with _|⟨a0,_|⟨a1,_|⟨a2,A⟩⟩⟩
   .grind
   .grind
   .grind
   .simp at al
  .grind
 .rw[show decide ((([(a.1,b.1),(a.2.1,b.2.1),(a.2.2,b.2.2)].length:Nat):Int)<3)=false from rfl,B8];refine AW (CB ?_).symm;have h0:=hP _ (by simp:(a.1,b.1)∈_);have h1:=hP _ (by simp:(a.2.1,b.2.1)∈_);have h2:=hP _ (by simp:(a.2.2,b.2.2)∈_);dsimp only at h0 h1 h2;unfold JU;omega
def jE(a:N3): ¬JU a a:=by unfold JU;omega
def abx{a b c:N3}:JU a b->JU b c->JU a c:=by unfold JU;omega
def ab7(a b:N3):a=b\/JU a b\/JU b a:=by let⟨a1,a2,a3⟩:=a;let⟨b1,b2,b3⟩:=b;unfold JU;simp[LH];omega
abbrev Jk(a b:C1):Prop:=JU a.1 b.1
theorem ajl{S:A3 Bq}{L:A3 H3}(I:CF S L){f g:Bq}(mf:f∈S)(mg:g∈S)(e:f.1.1=g.1.1):f.1=g.1:=by
 have le:∀{f g:Bq},f∈S->g∈S->f.1.1=g.1.1->f.1.2<=g.1.2:=λ{f g} mf mg e=>by let⟨f1,_,f3,f4⟩:=I.DT f mf;let⟨p,mp⟩:=List.exists_mem_of_ne_nil f.2 (λe=>by rw[e] at f3;simp at f3);let⟨vp,tp⟩:=(f4 p).1 mp;have:=vp.1 g.1 (I.DT g mg).1;unfold val at this tp;rw[e] at tp;grind
 exact Prod.ext e<|Rat.le_antisymm (le mf mg e)<|le mg mf e.symm
def M5(L:A3 H3):Prop:=∃o,∀k∈L,val k o<0
def aaR(o:∀h∈l,Cl h)(hl:l.length<=50):Yd (λr=>(r.2=13/\ ¬EV (l.map rh))\/(r.2=12/\EV (l.map rh)/\ ¬M5 (l.map rh))\/(r.2=0/\CF r.1 (l.map rh))) (YJ l):=by
 have Jz:=Cl.Jz o;have pr:=Cl.Wy o;have ll:(l.map rh).length=l.length:=C2 _;unfold YJ;refine A5 (amy o A4)<|Au (aiP Jz A4 A4 A4 pr) λb hb=>?_
 refine Ab (λhc=>AW<| .inl ⟨rfl,λc=>?_⟩) λhc=>?_
 .rw[hb.2 c] at hc;cases hc
 .have hB:EV (l.map rh):=hb.1 (by simpa using hc);refine Au (aAm Jz A4 A4 A4 pr) λr hr=>?_
  rcases hr.Mq pr hB with⟨e,h⟩|⟨e,h⟩
  .rw[e];exact AW<| .inr<| .inr ⟨rfl,h⟩
  .rw[e];exact AW<| .inr<| .inl ⟨rfl,hB,h⟩
def Asc(l:A3 C1):Prop:=∀A x y C,l=A++x::y::C->Jk x y
def ab9{A:A3 C1}{x y:C1}{C:A3 C1}(e:l=A++x::y::C)(h:Asc (A++[x]))(b:Jk x y):Asc (A++[x]++[y]):=by
 intro A' x' y' C' e';rcases Zl C' with rfl|⟨D,z,rfl⟩
 .have e2:A++[x]++[y]=(A'++[x'])++[y']:=by rw[e'];simp
  let⟨e3,e4⟩:=ZZ e2 rfl;let⟨_,e5⟩:=ZZ e3 rfl;cases e4;cases e5;exact b
 .have e2:A++[x]++[y]=(A'++x'::y'::D)++[z]:=by rw[e'];simp
  let⟨e3,_⟩:=ZZ e2 rfl;exact h A' x' y' D e3
end
end Trn
