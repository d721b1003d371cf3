/- Part of SolidPlaces. -/
import Derived.Test.YtmjkpiakobnkgaaGreatDoorHa
set_option maxRecDepth 100000
set_option maxHeartbeats 20000000
set_option linter.all false
open Go Go.RowKit Go.Proofs Go.Proofs.Tryz
namespace Trn
section
variable{t x:Rat}{α:Type}{y:Rat}
abbrev Q3:=Rat×Rat×Rat
abbrev H3:=Q3×Rat
def AI(v w:Q3):Rat:=v.1*w.1+v.2.1*w.2.1+v.2.2*w.2.2
def Ae(v w:Q3):Q3:=(v.1-w.1,v.2.1-w.2.1,v.2.2-w.2.2)
def AZ(v w:Q3):Q3:=(v.2.1*w.2.2-v.2.2*w.2.1,v.2.2*w.1-v.1*w.2.2,v.1*w.2.1-v.2.1*w.1)
def BK(v w:Q3):Q3:=(v.1+w.1,v.2.1+w.2.1,v.2.2+w.2.2)
def BG(v:Q3)(a:Rat):Q3:=(v.1*a,v.2.1*a,v.2.2*a)
def o3:Q3:=(0,0,0)
def val(h:H3)(p:Q3):Rat:=AI h.1 p-h.2
def Mem(L:A3 H3)(p:Q3):Prop:=∀h∈L,val h p<=0
def Dp(L:A3 H3):Prop:=∀d:Q3,d≠o3->∃h∈L,0<AI h.1 d
def BW(L:A3 H3)(p:Q3):Prop:=Mem L p/\∀d:Q3,(∀h∈L,val h p=0->AI h.1 d=0)->d=o3
def Hi{v w:Q3}(g:v.1=w.1)(h:v.2.1=w.2.1)(i:v.2.2=w.2.2):v=w:=by let⟨a,b,c⟩:=v;let⟨d,e,f⟩:=w;simp only at g h i;rw[g,h,i]
theorem LD(n p d:Q3):AI n (BK p d)=AI n p+AI n d:=by unfold AI BK;grind
theorem Ux(n p d:Q3):AI n (Ae p d)=AI n p-AI n d:=by unfold AI Ae;grind
theorem Ef(n d:Q3)(a:Rat):AI n (BG d a)=a*AI n d:=by unfold AI BG;grind
theorem L6(n d:Q3):AI n d=AI d n:=by unfold AI;grind
theorem J3(n d:Q3)(a:Rat):AI (BG d a) n=a*AI d n:=by unfold AI BG;grind
theorem Ql(n:Q3):AI n o3=0:=by unfold AI o3;grind
theorem JW(h:H3)(p d:Q3)(r:Rat):val h (BK p<|BG d r)=val h p+r*AI h.1 d:=by unfold val;rw[LD,Ef];grind
theorem ZC(x:Rat):0<=x*x:=by
 rcases Xz (a:=0) (b:=x) with h|h
 .exact Cr h h
 .have:=Cr (a:= -x) (b:= -x) AK AK;grind
def og(h:x*x<=0):x=0:=by rcases Fx.1 (Rat.le_antisymm h<|ZC x) with h|h<;>exact h
theorem wj{d:Q3}(h:AI d d<=0):d=o3:=by unfold AI at h;have a:=ZC d.1;have b:=ZC d.2.1;have c:=ZC d.2.2;exact Hi (og AK) (og AK)<|og AK
theorem Jk{d:Q3}(h:d≠o3):0<AI d d:=by
 by_cases a:0<AI d d
 .exact a
 .exact absurd (wj AK) h
def least{α:Type}(P:α->Prop)(f:α->Rat):∀L:A3 α,(∃h∈L,P h)->∃h∈L,P h/\∀k∈L,P k->f h<=f k
 |[],⟨h,m,_⟩=>by cases m
 |x::L,hx=>by
  by_cases i:∃h∈L,P h
  .let⟨h,m,ph,hm⟩:=least P f L i;by_cases j:P x
   .rcases Xz (a:=f x) (b:=f h) with c|c
    .refine⟨x,Ca,j,λk d g=>?_⟩;rcases Ak.1 d with e|d
     .rw[e];exact El
     .exact Xy c<|hm k d g
    .refine⟨h,Bg _ m,ph,λk d g=>?_⟩;rcases Ak.1 d with e|d
     .rw[e];exact c
     .exact hm k d g
   .refine⟨h,Bg _ m,ph,λk d g=>?_⟩;rcases Ak.1 d with e|d
    .rw[e] at g;exact absurd g j
    .exact hm k d g
  .let⟨h,m,ph⟩:=hx;rcases Ak.1 m with e|m
   .subst e;refine⟨h,Ca,ph,λk d g=>?_⟩;rcases Ak.1 d with e|d
    .rw[e];exact El
    .exact absurd ⟨k,d,g⟩ i
   .exact absurd ⟨h,m,ph⟩ i
def filter_lt{α:Type}{p q:α->Bool}:∀{L:A3 α} {x:α},(∀y∈L,q y=true->p y=true)->x∈L->p x=true->q x=false->(L.filter q).length<(L.filter p).length
 |y::L,x,h,m,hp,hq=>by
  have c:∀M:A3 α,(∀y∈M,q y=true->p y=true)->(M.filter q).length<=(M.filter p).length:=by
   intro M
   induction M with
   |nil=>intro _;exact BJ _
   |cons z M ih=>
    intro d;have:=ih λy b=>d y<|Bg _ b
    have f:=d z Ca;rw[SH,SH];cases a:q z
    .cases p z<;>simp<;>omega
    .rw[f a];simp;omega
  rw[SH,SH];rcases Ak.1 m with e|m
  .subst e;rw[hp,hq];have:=c L λy b=>h y<|Bg _ b
   simp;omega
  .have:=filter_lt (λy b=>h y<|Bg _ b) m hp hq;have g:=h y Ca;cases a:q y
   .cases p y<;>simp<;>omega
   .rw[g a];simp;omega
theorem am6{L:A3 H3}(n:Dp L){p:Q3}(i:Mem L p)(c:Q3){d:Q3}(o:d≠o3)(s:0<=AI c d)(j:∀h∈L,val h p=0->AI h.1 d=0):∃q,Mem L q/\AI c p<=AI c q/\(∀h∈L,val h p=0->val h q=0)/\∃h∈L,val h p≠0/\val h q=0:=by
 let⟨h,f,l,u⟩:=least (λh:H3=>0<AI h.1 d) (λh=> -val h p/AI h.1 d) L<|n d o
 have w:=i h f;have m:0<= -val h p/AI h.1 d:=by rw[N6];exact Cr AK<|EF<|QB.2 l
 have key:∀k:H3,0<AI k.1 d-> -val k p/AI k.1 d*AI k.1 d= -val k p:=λk a=>LK AK
 generalize v: -val h p/AI h.1 d=r at*
 refine⟨BK p<|BG d r,λk b=>?_,?_,λk b a=>?_,h,f,λe=>?_,?_⟩
 .rw[JW];have a:=i k b;by_cases g:0<AI k.1 d
  .have h1:=u k b g;have z:=key k g;have A:=YJ h1<|EF g
   grind
  .have:=Cr m (show 0<= -AI k.1 d by grind)
   grind
 .rw[LD,Ef];have:=Cr m s
  grind
 .rw[JW,j k b a,a];grind
 .have:=j h f e
  grind
 .rw[JW];have:=key h l;rw[v] at this
  grind
theorem aoB{L:A3 H3}(r:Dp L)(c:Q3):∀(n:Nat) (p:Q3),(L.filter λh=> !decide (val h p=0)).length<=n->Mem L p->∃v,BW L v/\AI c p<=AI c v/\∀h∈L,val h p=0->val h v=0:=by
 intro n
 induction n with
 |zero=>
  intro p l g;refine⟨p,⟨g,λd o=>?_⟩,El,λ_ _ h=>h⟩;have A:(L.filter λh=> !decide (val h p=0))=[]:=Hk A4;by_cases f:d=o3
  .exact f
  .let⟨h,i,hh⟩:=r d f;have:val h p=0:=by
    by_cases e:val h p=0
    .exact e
    .have:h∈(L.filter λh=> !decide (val h p=0)):=EG.2 ⟨i,by simp[e]⟩;rw[A] at this;cases this
   have:=o h i this
   grind
 |succ n ih=>
  intro p l g;by_cases s:BW L p
  .exact⟨p,s,El,λ_ _ h=>h⟩
  .have:∃d:Q3,(∀h∈L,val h p=0->AI h.1 d=0)/\d≠o3:=by
    refine CB λl=>s ⟨g,λd o=>?_⟩
    exact CB λf=>l ⟨d,o,f⟩
   let⟨d,j,f⟩:=this;have u:∀d:Q3,(∀h∈L,val h p=0->AI h.1 d=0)->d≠o3->0<=AI c d->∃v,BW L v/\AI c p<=AI c v/\∀h∈L,val h p=0->val h v=0:=by
    intro d j f k;let⟨q,q1,B,w,h,i,C,D⟩:=am6 r g c f k j;have:=filter_lt (L:=L) (p:=λh=> !decide (val h p=0)) (q:=λh=> !decide (val h q=0)) (x:=h) (λy E z=>by simp at z⊢;exact λe=>z<|w y E e) i (by simp[C]) (by simp[D])
    let⟨v,v1,F,v3⟩:=ih q A4 q1;exact⟨v,v1,Xy B F,λh m e=>v3 h m<|w h m e⟩
   rcases Xz (a:=0) (b:=AI c d) with k|k
   .exact u d j f k
   .have hs:∀n:Q3,AI n (BG d<| -1)= -AI n d:=λn=>by rw[Ef];grind
    refine u (BG d<| -1) (λh m e=>by rw[hs,j h m e];grind) (λe=>f ?_) (by rw[hs];grind);have G:=congrArg Prod.fst e;have H:=congrArg (λx=>x.2.1) e;have I:=congrArg (λx=>x.2.2) e;simp only[BG,o3] at G H I;exact Hi (by simp only[o3];grind) (by simp only[o3];grind) (by simp only[o3];grind)
def MC{L:A3 H3}(a:Dp L){p:Q3}(b:Mem L p)(c:Q3):∃v,BW L v/\AI c p<=AI c v/\∀h∈L,val h p=0->val h v=0:=aoB a c _ p (BJ _) b
def BZ(n a b c:Q3):Rat:=AI n<|AZ (Ae b a)<|Ae c a
def D8(a b:Q3)(t:Rat):Q3:=BK a<|BG (Ae b a) t
theorem F9{v w:Q3}(h:v.1=w.1/\v.2.1=w.2.1/\v.2.2=w.2.2:=by simp only[D8,BK,Ae,BG,AZ,o3];grind):v=w:=Hi h.1 h.2.1 h.2.2
theorem Q5(n a b c:Q3):BZ n a b c=BZ n b c a:=by unfold BZ AI AZ Ae;grind
theorem dF(n a b:Q3):BZ n a a b=0:=by unfold BZ AI AZ Ae;grind
theorem dD(n a b:Q3):BZ n a b a=0:=by unfold BZ AI AZ Ae;grind
theorem Lz(n a b:Q3):BZ n b a a=0:=by unfold BZ AI AZ Ae;grind
theorem bn(n p q a b:Q3)(t:Rat):BZ n p q (D8 a b t)=(1-t)*BZ n p q a+t*BZ n p q b:=by unfold BZ D8 AI AZ Ae BK BG;grind
theorem ajc(n p r a b:Q3)(t:Rat):BZ n p (D8 a b t) r=(1-t)*BZ n p a r+t*BZ n p b r:=by unfold BZ D8 AI AZ Ae BK BG;grind
theorem ajd(n q r a b:Q3)(t:Rat):BZ n (D8 a b t) q r=(1-t)*BZ n a q r+t*BZ n b q r:=by unfold BZ D8 AI AZ Ae BK BG;grind
theorem Ek(h:H3)(a b:Q3)(t:Rat):val h (D8 a b t)=(1-t)*val h a+t*val h b:=by unfold val D8 AI Ae BK BG;grind
theorem iD(c:0<=t)(f:t<=1)(d:0<=x)(e:0<=y):0<=(1-t)*x+t*y:=by
 have a:=Cr (show 0<=1-t by grind) d;have b:=Cr c e
 grind
def Wk(n:Q3)(l:A3 Q3):Prop:=∀a b c,[a,b,c].Sublist l->0<=BZ n a b c
def DO(n:Q3)(l:A3 Q3):Prop:=∀a b c,[a,b,c].Sublist l->0<BZ n a b c
def Wk.sub{n:Q3}{l m:A3 Q3}(h:Wk n l)(s:m.Sublist l):Wk n m:=λa b c k=>h a b c<|k.trans s
def DO.sub{n:Q3}{l m:A3 Q3}(h:DO n l)(s:m.Sublist l):DO n m:=λa b c k=>h a b c<|k.trans s
def DO.wk{n:Q3}{l:A3 Q3}(h:DO n l):Wk n l:=λa b c k=>EF<|h a b c k
def Qu{x:α}{l:A3 α}(h:x∈l):[x].Sublist l:=List.singleton_sublist.2 h
def anK{n:Q3}{A B:A3 Q3}{a b:Q3}(f:0<=t)(i:t<=1)(h:Wk n (A++a::b::B)):Wk n (A++a::D8 a b t::b::B):=by
 intro p q r s;have e:A++a::D8 a b t::b::B=(A++[a])++(D8 a b t::b::B):=AO;have m:A++a::b::B=(A++[a])++(b::B):=AO;rw[m] at h;rw[e] at s;let⟨s1,s2,es,k1,c⟩:=Ut.1 s;have j:∀x∈A++[a],x=a\/[x,a].Sublist (A++[a]):=λx k=>by
  rcases Bi.1 k with g|g
  .exact .inr<|(Qu g).append<|YA [a]
  .exact .inl<|CW.1 g
 have Dg:∀x∈b::B,x=b\/[b,x].Sublist (b::B):=λx k=>by
  rcases Ak.1 k with g|g
  .exact .inl g
  .exact .inr<|(Qu g).cons_cons b
 have o:[a].Sublist (A++[a]):=Qu AO;have u:[b].Sublist (b::B):=Qu AO;cases c with
 |cons _ c=>exact h p q r (by rw[es];exact k1.append c)
 |cons_cons _ c=>
  rename_i s3
  match s1,es with
  |[],es=>simp at es;obtain⟨rfl,rfl⟩:=es;have v:q∈b::B:=c.subset AO;rw[ajd];refine iD f i (h _ _ _<|o.append c) ?_;cases c with|cons _ c=>exact h _ _ _<|(c.cons_cons b).trans<|YH _ _|cons_cons _ c=>rw[dF];exact El
  |[x],es=>
   simp at es;obtain⟨rfl,rfl,rfl⟩:=es;have C:p∈A++[a]:=k1.subset AO;have D:r∈b::B:=c.subset AO;rw[ajc];refine iD f i ?_ ?_
   .rcases j p C with g|g
    .rw[g,dF];exact El
    .exact h _ _ _<|g.append c
   .rcases Dg r D with g|g
    .rw[g,Lz];exact El
    .exact h _ _ _<|k1.append g
  |[x,y],es=>
   simp at es;obtain⟨rfl,rfl,rfl,rfl⟩:=es;have v:q∈A++[a]:=k1.subset AO;rw[bn];refine iD f i ?_<|h _ _ _<|k1.append u
   let⟨E,G,d,F,l⟩:=Ut.1 k1
   match E,d with
   |[],d=>simp at d;subst d;have:=l.length_le;simp at this
   |[x],d=>
    simp at d;obtain⟨rfl,rfl⟩:=d;have:q=a:=by simpa using l
    rw[this,Lz];exact El
   |[x,y],d=>simp at d;obtain⟨rfl,rfl,rfl⟩:=d;exact h _ _ _<|(F.append<|YA [a]).trans AO
   |x::y::z::w,d=>simp at d
  |x::y::z::w,es=>simp at es
def anL{n:Q3}{A:A3 Q3}{a f:Q3}(d:0<=t)(g:t<=1)(c:(A++[a]).head?=some f)(h:Wk n (A++[a])):Wk n (A++[a,D8 a f t]):=by
 intro p q r s;have e:A++[a,D8 a f t]=(A++[a])++[D8 a f t]:=AO;rw[e] at s;let⟨s1,s2,es,k1,b⟩:=Ut.1 s;cases b with
 |cons _ b=>
  have:s2=[]:=by simpa using b
  subst this;rw[HB] at es;exact h p q r (by rw[es];exact k1)
 |cons_cons _ b=>
  rename_i s3;have:s3=[]:=by simpa using b
  subst this
  match s1,es with
  |[],es=>simp at es|[x],es=>simp at es
  |[x,y],es=>
   simp at es;obtain⟨rfl,rfl,rfl⟩:=es;rw[bn];refine iD d g ?_ ?_
   .let⟨t1,t2,et,j1,j2⟩:=Ut.1 k1
    match t1,et with
    |[],et=>simp at et;subst et;have:=j2.length_le;simp at this
    |[x],et=>
     simp at et;obtain⟨rfl,rfl⟩:=et;have:q=a:=by simpa using j2
     rw[this,Lz];exact El
    |[x,y],et=>simp at et;obtain⟨rfl,rfl,rfl⟩:=et;exact h _ _ _<|j1.append<|YA [a]
    |x::y::z::w,et=>simp at et
   .rw[Q5,Q5]
    match hA:A++[a],c with
    |x::M,c=>
     have:x=f:=by simpa using c
     subst this;rw[hA] at k1 h;cases k1 with|cons _ k1=>exact h _ _ _<|k1.cons_cons x|cons_cons _ k1=>rw[dF];exact El
  |x::y::z::w,es=>simp at es
theorem NQ{a b:Q3}(h:Ae b a=o3):a=b:=by have c:=congrArg Prod.fst h;have d:=congrArg (λx=>x.2.1) h;have e:=congrArg (λx=>x.2.2) h;simp[Ae,o3] at c d e;exact Hi AK AK AK
def VT{d:Q3}(a:d.1=0)(b:d.2.1=0)(c:d.2.2=0):d=o3:=Hi a b c
theorem par{u w:Q3}(a:u≠o3)(h:AZ u w=o3):w=BG u (AI u w/AI u u):=by
 have f:=Jk a;have b:=congrArg Prod.fst h;have c:=congrArg (λx=>x.2.1) h;have d:=congrArg (λx=>x.2.2) h;simp[AZ,o3] at b c d;have key:AI u w/AI u u*AI u u=AI u w:=LK AK
 generalize AI u w/AI u u=s at key⊢
 have z:∀x:Rat,AI u u*x=0->x=0:=λx e=>by
  rcases Fx.1 e with g|g
  .grind
  .exact g
 have i:w.1-u.1*s=0:=z _ (by unfold AI at*;grind);have j:w.2.1-u.2.1*s=0:=z _ (by unfold AI at*;grind);have k:w.2.2-u.2.2*s=0:=z _ (by unfold AI at*;grind);exact F9
def Sc{u:Q3}:AZ u u=o3:=F9
theorem mF(u w:Q3):AI u (AZ u w)=0:=by unfold AI AZ;grind
theorem X5(u w:Q3):AI w (AZ u w)=0:=by unfold AI AZ;grind
def along{u w d:Q3}(h:AZ u w≠o3)(a:AI u d=0)(b:AI w d=0):∃s,d=BG (AZ u w) s:=by refine⟨_,par h ?_⟩;unfold AI at a b;exact F9
theorem flat{n x y:Q3}(a:n≠o3)(b:AI n x=0)(c:AI n y=0)(h:AI n (AZ x y)=0):AZ x y=o3:=by
 have f:=Jk a;have e:AI (AZ x y) (AZ x y)*AI n n=AI n (AZ x y)*AI n (AZ x y)+AI (AZ (AZ x y) n) (AZ (AZ x y) n):=by unfold AI AZ;grind
 have d:AZ (AZ x y) n=o3:=by
  have:AZ (AZ x y) n=Ae (BG y<|AI n x) (BG x<|AI n y):=by unfold AZ Ae BG AI;refine Hi ?_ ?_ ?_<;>dsimp<;>grind
  rw[this,b,c];unfold Ae BG o3;refine Hi ?_ ?_ ?_<;>dsimp<;>grind
 rw[h,d,Ql] at e;refine wj ?_;rcases Fx.1 (show AI (AZ x y) (AZ x y)*AI n n=0 by grind) with g|g<;>grind
theorem ym{L:A3 H3}{p:Q3}(b:Mem L p){f g h:H3}(c:f∈L)(i:g∈L)(j:h∈L)(k:val f p=0)(l:val g p=0)(m:val h p=0)(n:AI h.1 (AZ f.1 g.1)≠0):BW L p:=by
 refine⟨b,λd a=>?_⟩;have o:AZ f.1 g.1≠o3:=λe=>n (by rw[e,Ql])
 obtain⟨s,rfl⟩:=along o (a f c k)<|a g i l
 have:=a h j m;rw[Ef] at this;rcases Fx.1 this with e|e
 .rw[e];exact F9
 .grind
theorem val_sub(h:H3)(a b:Q3):AI h.1 (Ae b a)=val h b-val h a:=by unfold val;rw[Ux];grind
theorem c8{L:A3 H3}{v a b:Q3}(d:BW L v)(f:Mem L a)(i:Mem L b)(l:0<t)(m:t<1)(e:v=D8 a b t):a=b:=by
 refine NQ<|d.2 _ λh c j=>?_
 rw[e,Ek] at j;have x:=Cr (show 0<=1-t by grind) (show 0<= -val h a by have:=f h c;grind);have y:=Cr (show 0<=t by grind) (show 0<= -val h b by have:=i h c;grind);have k:(1-t)*val h a=0:=AK;have n:t*val h b=0:=AK;rw[val_sub];rcases Fx.1 k with g|g
 .grind
 .grind
theorem XK{L:A3 H3}{a b c:Q3}(j:BW L a)(k:BW L b)(l:BW L c)(o:a≠b)(d:a≠c)(f:b≠c):AZ (Ae b a) (Ae c a)≠o3:=by
 intro h;have p:Ae b a≠o3:=λe=>o<|NQ e
 have e:=par p h
 generalize AI (Ae b a) (Ae c a)/AI (Ae b a) (Ae b a)=s at e
 have q:=congrArg Prod.fst e;have r:=congrArg (λx=>x.2.1) e;have u:=congrArg (λx=>x.2.2) e;simp[Ae,BG] at q r u;have m:s≠0:=λg=>d (by subst g;exact Hi AK AK AK)
 have v:s≠1:=λg=>f (by subst g;exact Hi AK AK AK)
 by_cases A:1<s
 ·
  have w:=dr s m;have i:0<s⁻¹ :=QB.2 AK;have n:s⁻¹ <1:=by have:=Ed i (show 0<s-1 by grind);grind
  refine d<|c8 k j.1 l.1 i n ?_
  exact F9
 .by_cases h2:0<s
  .refine o (c8 l j.1 k.1 h2 AK ?_);exact F9
  ·
   have z:0<1-s:=AK;have w:=dr (1-s) AK;have i:0<(1-s)⁻¹ :=QB.2 z;have n:(1-s)⁻¹ <1:=by have:=Ed i (show 0< -s by grind);grind
   refine f<|c8 j k.1 l.1 (t:=(1-s)⁻¹) i n ?_
   exact F9
theorem oJ{L:A3 H3}{f:H3}(i:f.1≠o3){a b c:Q3}(j:BW L a)(k:BW L b)(l:BW L c)(h:val f a=0)(m:val f b=0)(n:val f c=0)(o:a≠b)(d:a≠c)(g:b≠c):BZ f.1 a b c≠0:=λe=>XK j k l o d g (flat i (by rw[val_sub,h,m];grind) (by rw[val_sub,h,n];grind) e)
theorem room{L:A3 H3}{q w:Q3}:Mem L q->(∀h∈L,val h q=0->AI h.1 w<=0)->∃e:Rat,0<e/\∀t,0<=t->t<=e->Mem L (BK q<|BG w t):=by
 induction L with
 |nil=>exact λ_ _=>⟨1,IK,λ_ _ _ h m=>by cases m⟩
 |cons h L ih=>
  intro i j;let⟨e,l,f⟩:=ih (λk m=>i k<|Bg _ m)<|λk m=>j k<|Bg _ m
  have o:=i h Ca;by_cases g:0<AI h.1 w
  .have hne:val h q≠0:=λz=>by have:=j h Ca z;grind
   have n:0< -val h q/AI h.1 w:=by rw[N6];exact Ed AK<|QB.2 g
   have p: -val h q/AI h.1 w*AI h.1 w= -val h q:=LK AK
   generalize -val h q/AI h.1 w=r at*
   have one:∀t,0<=t->t<=r->val h (BK q<|BG w t)<=0:=λt t0 d=>by
    rw[JW];have:=YJ d<|EF g
    grind
   rcases Xz (a:=e) (b:=r) with c|c
   .refine⟨e,l,λt t0 d k m=>?_⟩;rcases Ak.1 m with z|m
    .grind
    .exact f t t0 d k m
   .refine⟨r,n,λt t0 d k m=>?_⟩;rcases Ak.1 m with z|m
    .grind
    .exact f t t0 (Xy d c) k m
  .refine⟨e,l,λt t0 d k m=>?_⟩;rcases Ak.1 m with z|m
   .rw[z,JW];have:=Cr t0 (show 0<= -AI h.1 w by grind)
    grind
   .exact f t t0 d k m
theorem Tw(n:Q3):∃d:Q3,d≠o3/\AI n d=0:=by
 by_cases h:n.1=0
 .exact⟨(1,0,0),λe=>by have:=congrArg Prod.fst e;simp only[o3] at this;grind,by unfold AI;grind⟩
 .exact⟨(-n.2.1,n.1,0),λe=>h (by have:=congrArg (λx=>x.2.1) e;simp[o3] at this;exact this),by unfold AI;grind⟩
theorem U8(u w:Q3):AZ w u=BG (AZ u w) (-1):=by unfold AZ BG;refine Hi ?_ ?_ ?_<;>dsimp<;>grind
theorem two{N:A3 Q3}(h:∀u∈N,∀w∈N,AZ u w=o3)(m:Q3):∃d:Q3,d≠o3/\(∀u∈N,AI u d=0)/\AI m d=0:=by
 by_cases c:∀u∈N,u=o3
 .let⟨d,d0,d1⟩:=Tw m;exact⟨d,d0,λu b=>by rw[c u b,L6,Ql],d1⟩
 .let⟨n,hn⟩:=Classical.not_forall.1 c;let⟨g,e⟩:=Classical.not_imp.1 hn;have a:∀d,AI n d=0->∀u∈N,AI u d=0:=λd i u b=>by rw[par e<|h n g u b,J3,i];grind
  by_cases f:AZ n m=o3
  .let⟨d,d0,d1⟩:=Tw n;exact⟨d,d0,a d d1,by rw[par e f,J3,d1];grind⟩
  .exact⟨_,f,a _<|mF _ _,X5 _ _⟩
theorem asE{L:A3 H3}(w:Dp L){q:Q3}(l:Mem L q)(A: ¬BW L q){f g:H3}(m:f∈L)(n:g∈L)(a:val f q=0)(b:val g q=0)(k:AZ f.1 g.1≠o3):∃u v t,BW L u/\BW L v/\0<t/\t<1/\q=D8 u v t/\(∀h∈L,val h q=0->val h u=0/\val h v=0)/\u≠v:=by
 have:∃d:Q3,(∀h∈L,val h q=0->AI h.1 d=0)/\d≠o3:=by
  refine CB λH=>A ⟨l,λd I=>?_⟩
  exact CB λo=>H ⟨d,I,o⟩
 let⟨d,B,o⟩:=this;let⟨v,v1,T,v3⟩:=MC w l d;let⟨u,C,J,p⟩:=MC w l<|BG d<| -1
 rw[J3,J3] at J;let⟨s0,r⟩:=along k (B f m a)<|B g n b
 let⟨s1,i⟩:=along k (d:=Ae u q) (by rw[val_sub,p f m a,a];grind) (by rw[val_sub,p g n b,b];grind);let⟨s2,j⟩:=along k (d:=Ae v q) (by rw[val_sub,v3 f m a,a];grind) (by rw[val_sub,v3 g n b,b];grind)
 generalize AZ f.1 g.1=e at*
 have D:=Jk k;have nz:∀{x:Q3} {s:Rat},BW L x->Ae x q=BG e s->s≠0:=λ{x s} K h z=>by
  rw[z] at h;have:q=x:=NQ<|h.trans<|F9
  exact A<|this▸K
 have U:=nz C i;have V:=nz v1 j;have W:s0≠0:=λz=>o (by rw[r,z];exact(F9))
 have M:0<=AI d (Ae v q):=by rw[Ux];grind
 have N:AI d (Ae u q)<=0:=by rw[Ux];grind
 rw[r,j,Ef,J3] at M;rw[r,i,Ef,J3] at N;have X:0<=s0*s2:=CB λc=>by have:=Ed (show 0< -(s0*s2) by grind) D;grind
 have q1:s0*s1<=0:=CB λc=>by have:=Ed (show 0<s0*s1 by grind) D;grind
 have r2:0<s0*s2:=by
  have:s0*s2≠0:=λc=>by rcases Fx.1 c with g|g<;>contradiction
  grind
 have r1:s0*s1<0:=by
  have:s0*s1≠0:=λc=>by rcases Fx.1 c with g|g<;>contradiction
  grind
 have O:s0*(s1-s2)<0:=AK;have n3:s1-s2≠0:=λc=>by rw[c] at O;grind
 have E:s1/(s1-s2)*(s1-s2)=s1:=LK n3
 generalize s1/(s1-s2)=t at E
 have Y:s0*(t*(s1-s2))=s0*s1:=by rw[E]
 have t0:0<t:=CB λc=>by
  have:=Cr (show 0<= -t by grind) (show 0<= -(s0*(s1-s2)) by grind)
  grind
 have P:t<1:=CB λc=>by
  have:=Cr (show 0<=t-1 by grind) (show 0<= -(s0*(s1-s2)) by grind)
  grind
 have k1:=congrArg Prod.fst i;have Q:=congrArg (λx=>x.2.1) i;have k3:=congrArg (λx=>x.2.2) i;have l1:=congrArg Prod.fst j;have R:=congrArg (λx=>x.2.1) j;have S:=congrArg (λx=>x.2.2) j;simp[Ae,BG] at k1 Q k3 l1 R S;refine⟨u,v,t,C,v1,t0,P,?_,λh F G=>⟨p h F G,v3 h F G⟩,λc=>n3 ?_⟩
 .exact F9
 .grind
def Fl(f:Q3):A3 Q3->A3 (Q3×Q3)
 |[]=>[]|[a]=>[(a,f)]|a::b::l=>(a,b)::Fl f (b::l)
def D5:A3 Q3->A3 (Q3×Q3)
 |[]=>[]|a::l=>Fl a (a::l)
def FK(x y:Rat):Bool:=(decide (x<0)&&decide (0<y))||(decide (0<x)&&decide (y<0))
def Er(h:H3)(a b:Q3):Q3:=D8 a b<|val h a/(val h a-val h b)
def Jc(h:H3)(s:Q3×Q3):A3 Q3:=(bif decide (val h s.1<=0) then [s.1] else [])++(bif FK (val h s.1) (val h s.2) then [Er h s.1 s.2] else [])
def Eh(h:H3)(l:A3 Q3):A3 Q3:=(D5 l).flatMap<|Jc h
def gk(h:H3)(s:Q3×Q3):A3 Q3:=s.1::(bif FK (val h s.1) (val h s.2) then [Er h s.1 s.2] else [])
def IV:FK x y=true↔(x<0/\0<y)\/(0<x/\y<0):=by unfold FK;simp
theorem NS(h:FK x y=true):0<x/(x-y)/\x/(x-y)<1/\(1-x/(x-y))*x+x/(x-y)*y=0:=by
 have h:=IV.1 h;have d:x-y≠0:=AK;have e:x/(x-y)*(x-y)=x:=LK d
 generalize x/(x-y)=t at e
 have t0:0<t:=CB λc=>by
  rcases h with⟨a,b⟩|⟨a,b⟩
  .have:=Cr (show 0<= -t by grind) (show 0<=y-x by grind);grind
  .have:=Cr (show 0<= -t by grind) (show 0<=x-y by grind);grind
 have f:t<1:=CB λc=>by
  rcases h with⟨a,b⟩|⟨a,b⟩
  .have:=Cr (show 0<=t-1 by grind) (show 0<=y-x by grind);grind
  .have:=Cr (show 0<=t-1 by grind) (show 0<=x-y by grind);grind
 exact⟨t0,f,AK⟩
def Xf{h:H3}{a b:Q3}(c:FK (val h a) (val h b)=true):val h (Er h a b)=0:=by unfold Er;rw[Ek];exact(NS c).2.2
def aA2{n:Q3}{h:H3}{f:Q3}:∀(l A:A3 Q3),l≠[]->(A++l).head?=some f->Wk n (A++l)->Wk n (A++(Fl f l).flatMap (gk h))
 |[],_,h0,_,_=>absurd rfl h0
 |[a],A,_,hf,hw=>by
  unfold Fl;rw[M7,List.flatMap_nil,HB];unfold gk;cases c:FK (val h a) (val h f) with
  |false=>rw[Av];exact hw
  |true=>have t:=NS c;rw[BF];exact anL (EF t.1) (EF t.2.1) hf hw
 |a::b::l,A,_,hf,hw=>by
  unfold Fl;rw[M7,<-Fz];refine aA2 (b::l) _ AO ?_ ?_
  .cases A with|nil=>exact hf|cons x A=>exact hf
  .unfold gk;cases c:FK (val h a) (val h b) with
   |false=>rw[Av];simpa using hw
   |true=>have t:=NS c;rw[BF];have:=anK (EF t.1) (EF t.2.1) hw;simpa[Er] using this
def yI{α β:Type}{f g:α->A3 β}:∀{l:A3 α},(∀x∈l,(f x).Sublist<|g x)->(l.flatMap f).Sublist (l.flatMap g)
 |[],_=>YA _
 |x::l,h=>by rw[M7,M7];exact(h x Ca).append<|yI λy m=>h y<|Bg _ m
theorem anA{n:Q3}{h:H3}{l:A3 Q3}(b:Wk n l):Wk n (Eh h l):=by
 cases l with
 |nil=>exact b
 |cons a l=>
  have:=aA2 (h:=h) (a::l) [] AO rfl b;refine Wk.sub this<|yI λs _=>?_
  unfold Jc gk;cases decide (val h s.1<=0)
  .grind
  .grind
theorem uT{f:Q3}{s:Q3×Q3}:∀{l A:A3 Q3},(A++l).head?=some f->s∈Fl f l->(∃B C,A++l=B++s.1::s.2::C)\/(∃B,A++l=B++[s.1]/\s.2=f)
 |[],A,_,h=>by cases h
 |[a],A,_,h=>by
  have:s=(a,f):=by simpa[Fl] using h
  subst this;exact .inr ⟨A,rfl,rfl⟩
 |a::b::l,A,hf,h=>by
  unfold Fl at h;rcases Ak.1 h with e|h
  .grind
  .have:=uT (l:=b::l) (A:=A++[a]) (by simpa using hf) h;simpa using this
def lO{f a b:Q3}{C:A3 Q3}:∀{B:A3 Q3},(a,b)∈Fl f (B++a::b::C)
 |[]=>by simp[Fl]|[x]=>by simp[Fl]
 |x::y::B=>by have:=lO (f:=f) (a:=a) (b:=b) (C:=C) (B:=y::B);show(a,b)∈(x,y)::Fl f (y::(B++a::b::C));exact Bg _ this
def tt{f a:Q3}:∀{B:A3 Q3},(a,f)∈Fl f (B++[a])
 |[]=>by simp[Fl]|[x]=>by simp[Fl]
 |x::y::B=>by have:=tt (f:=f) (a:=a) (B:=y::B);show(a,f)∈(x,y)::Fl f (y::(B++[a]));exact Bg _ this
def uU{f:Q3}:∀l:A3 Q3,(Fl f l).map Prod.fst=l
 |[]=>rfl|[a]=>rfl|a::b::l=>by unfold Fl;rw[JT,uU (b::l)]
def UB(l:A3 Q3):(D5 l).map Prod.fst=l:=by cases l with|nil=>rfl|cons a l=>exact uU _
theorem DO.ne{n:Q3}{l:A3 Q3}(h:DO n l){a b c:Q3}(s:[a,b,c].Sublist l):a≠b/\a≠c/\b≠c:=by
 have:=h a b c s;refine⟨λe=>?_,λe=>?_,λe=>?_⟩
 .rw[e,dF] at this;grind
 .rw[e,dD] at this;grind
 .rw[e,Lz] at this;grind
def DO.nodup{n:Q3}{l:A3 Q3}(h:DO n l)(d:3<=l.length):l.Nodup:=by
 refine List.pairwise_iff_forall_sublist.2 λ{a b} s e=>?_
 subst e;obtain⟨c,f⟩:∃c,[c,a,a].Sublist l\/[a,c,a].Sublist l\/[a,a,c].Sublist l:=by
  clear h
  induction l with
  |nil=>cases s
  |cons x l ih=>
   cases s with
   |cons _ s=>exact⟨x,.inl<|s.cons_cons x⟩
   |cons_cons _ s=>
    match l,d,s with
    |y::z::l,_,s=>cases s with|cons _ s=>exact⟨y,.inr<| .inl<|(s.cons_cons y).cons_cons a⟩|cons_cons _ s=>exact⟨z,.inr<| .inr<|((Qu AO).cons_cons a).cons_cons a⟩
 rcases f with s|s|s
 .exact(h.ne s).2.2 rfl
 .exact(h.ne s).2.1 rfl
 .exact(h.ne s).1 rfl
theorem xf(n a b c:Q3):BZ n b a c= -BZ n a b c:=by unfold BZ AI AZ Ae;grind
theorem Jo{n:Q3}{l:A3 Q3}(d:DO n l)(g:3<=l.length){s:Q3×Q3}(h:s∈D5 l):s.1∈l/\s.2∈l/\s.1≠s.2/\∀c∈l,c≠s.1->c≠s.2->0<BZ n s.1 s.2 c:=by
 have o:=d.nodup g;let⟨a,b⟩:=s
 match l,g,h with
 |f::l,g,h=>
  rcases uT (A:=[]) Dn h with⟨B,C,e⟩|⟨B,e,e2⟩
  .rw[Fy] at e;rw[e] at o d⊢;refine⟨AO,AO,?_,λc i j k=>?_⟩
   .grind
   .rcases Bi.1 i with m|m
    .rw[<-Q5];exact d _ _ _<|(Qu m).append<|((OI C).cons_cons b).cons_cons a
    .have m:c∈C:=by simpa[j,k] using m
     exact d _ _ _<|((Qu m).cons_cons b|>.cons_cons a).trans<|YH _ _
  .rw[Fy] at e;dsimp only at e e2;subst e2
   match B,e with
   |[],e=>rw[e] at g;simp at g
   |x::B,e=>
    have:b=x:=AK;subst this;rw[e] at o d⊢;refine⟨AO,AO,?_,λc i j k=>?_⟩
    .grind
    .have m:c∈B:=by simpa[j,k] using i
     rw[Q5];exact d _ _ _<|((Qu m).append<|YA [a]).cons_cons b
theorem aaY{l:A3 Q3}(d:l.Nodup)(f:3<=l.length)(a b:Q3):∃c∈l,c≠a/\c≠b:=by
 match l,f,d with
 |x::y::z::l,_,d=>
  simp at d;by_cases g:x≠a/\x≠b
  .exact⟨x,AO,g⟩
  .by_cases h2:y≠a/\y≠b
   .exact⟨y,AO,h2⟩
   .refine⟨z,AO,λe=>?_,λe=>?_⟩<;>subst e<;>grind
theorem mR{n:Q3}{l:A3 Q3}(e:DO n l)(d:3<=l.length){a b:Q3}(i:(a,b)∈D5 l)(j:(b,a)∈D5 l):False:=by
 let⟨c,f,g,h⟩:=aaY (e.nodup d) d a b;have p:=(Jo e d i).2.2.2 c f g h;have q:=(Jo e d j).2.2.2 c f h g;dsimp only at p q;rw[xf] at q
 grind
theorem ag1{n:Q3}{l:A3 Q3}(i:DO n l)(j:3<=l.length){s r:Q3×Q3}(o:s∈D5 l)(p:r∈D5 l)(k:s.1≠r.1){u:Rat}(t0:0<=t)(G:t<1)(u0:0<=u)(H:u<1):D8 s.1 s.2 t≠D8 r.1 r.2 u:=by
 intro e;let⟨a,b⟩:=s;let⟨c,d⟩:=r;let⟨s1,s2,s3,q⟩:=Jo i j o;let⟨r1,r2,v,I⟩:=Jo i j p;dsimp only at*;have z:BZ n a b (D8 a b t)=0:=by rw[bn,dD,Lz];grind
 rw[e,bn] at z;have w:0<=BZ n a b d:=by
  by_cases A:d=a
  .rw[A,dD];exact El
  .by_cases h2:d=b
   .rw[h2,Lz];exact El
   .grind
 by_cases f:c=b
 .subst f;rw[Lz] at z;have m:d≠a:=λg=>mR i j o<|g▸p
  have J:=q d r2 m<|Ne.symm v
  have:u=0:=AK;subst this;refine s3 ?_;have B:=congrArg Prod.fst e;have C:=congrArg (λx=>x.2.1) e;have D:=congrArg (λx=>x.2.2) e;simp[D8,BK,BG,Ae] at B C D;have q1:(1-t)*(a.1-c.1)=0:=AK;have E:(1-t)*(a.2.1-c.2.1)=0:=AK;have F:(1-t)*(a.2.2-c.2.2)=0:=AK;have z:∀x:Rat,(1-t)*x=0->x=0:=λx h=>by
   rcases Fx.1 h with g|g
   .grind
   .exact g
  have:=z _ q1;have:=z _ E;have:=z _ F;exact Hi AK AK AK
 .have cp:=q c r1 (Ne.symm k) f;have:=Ed (show 0<1-u by grind) cp;have:=Cr u0 w
  grind
def apR(a b:Q3):D8 a b 0=a:=F9
theorem xJ{h:H3}{s:Q3×Q3}{x:Q3}(a:x∈Jc h s):(x=s.1/\val h x<=0)\/(FK (val h s.1) (val h s.2)=true/\x=Er h s.1 s.2):=by
 unfold Jc at a;rcases Bi.1 a with m|m
 .grind
 .grind
theorem agl{n:Q3}{h:H3}{l:A3 Q3}(c:DO n l)(d:3<=l.length):(Eh h l).Nodup:=by
 unfold Eh List.Nodup;have a:∀s x,x∈Jc h s->∃t:Rat,0<=t/\t<1/\x=D8 s.1 s.2 t:=λs x f=>by
  rcases xJ f with⟨e,_⟩|⟨ho,e⟩
  .exact⟨0,El,IK,by rw[apR];exact e⟩
  .have t:=NS ho;exact⟨_,EF t.1,t.2.1,e⟩
 have i:((D5 l).map Prod.fst).Nodup:=by rw[UB];exact c.nodup d
 have i:=J7.1 i;refine eL.2 ⟨λs j=>?_,?_⟩
 .unfold Jc;cases decide (val h s.1<=0)
  .cases FK (val h s.1) (val h s.2)<;>simp
  .cases ho:FK (val h s.1) (val h s.2)
   .simp
   .have t0:=(NS ho).1;have b:=(Jo c d j).2.2.1;simp[BF,OJ,Fy,Fh,CW,forall_eq,QL,List.Pairwise.nil,and_true,false_implies,implies_true];intro e;refine b<|NQ ?_
    unfold Er at e
    generalize val h s.1/(val h s.1-val h s.2)=t at e t0
    have k:=congrArg Prod.fst e;have m:=congrArg (λx=>x.2.1) e;have o:=congrArg (λx=>x.2.2) e;simp[D8,BK,BG,Ae] at k m o;have z:∀x:Rat,x*t=0->x=0:=λx h=>by
     rcases Fx.1 h with g|g
     .exact g
     .grind
    exact VT (z _ (by simp[Ae];grind)) (z _ (by simp[Ae];grind)) (z _ (by simp[Ae];grind))
 .refine QO ?_ i;intro s r j p b x f y q e;let⟨t,t0,v,w⟩:=a s x f;let⟨u,u0,A,B⟩:=a r y q;exact ag1 c d j p b t0 v u0 A (by rw[<-w,<-B,e])
theorem adj{n:Q3}{l:A3 Q3}(b:DO n l){u v:Q3}(f:u∈l)(g:v∈l)(i:u≠v)(h:∀x∈l,∀y∈l,BZ n u v x<0->0<BZ n u v y->False):(u,v)∈D5 l\/(v,u)∈D5 l:=by
 have key:∀{u v:Q3} {A D:A3 Q3},l=A++u::D->v∈D->(∀x∈l,∀y∈l,BZ n u v x<0->0<BZ n u v y->False)->(u,v)∈D5 l\/(v,u)∈D5 l:=by
  intro u v A D e j h;obtain⟨B,C,rfl⟩:=YB j;cases B with
  |nil=>
   left;rw[e]
   match A with|[]=>exact lO (B:=[])|x::A=>exact lO (B:=x::A)
  |cons x B=>
   have d:BZ n u v x<0:=by
    have:=b u x v (by
     rw[e];refine((List.Sublist.cons_cons u ?_)).trans<|YH _ _
     exact((OI B).append (OI C|>.cons_cons v)).cons_cons x)
    have k:BZ n u v x= -BZ n u x v:=by unfold BZ AI AZ Ae;grind
    rw[k];grind
   have a:x∈l:=by rw[e];simp
   match A,C with
   |[],[]=>right;rw[e];exact tt (B:=u::x::B)
   |y::A,_=>refine(h x a y (by rw[e];simp) d ?_).elim;rw[<-Q5];refine b y u v ?_;rw[e];exact List.Sublist.cons_cons y<|(List.Sublist.cons_cons u<|(OI (x::B)).append (OI _|>.cons_cons v)).trans<|YH _ _
   |[],y::C=>refine(h x a y (by rw[e];simp) d ?_).elim;refine b u v y ?_;rw[e];exact List.Sublist.cons_cons u<|(OI (x::B)).append<|(OI C|>.cons_cons y).cons_cons v
 let⟨A,D,e⟩:=YB f;have c:v∈A++u::D:=e▸g;rcases Bi.1 c with m|m
 .obtain⟨A1,A2,rfl⟩:=YB m;refine(key (u:=v) (v:=u) (A:=A1) (D:=A2++u::D) (by rw[e];simp) AO λx a y o p q=>?_).symm;rw[xf] at p q;exact h y o x a AK AK
 .grind
abbrev BY:=H3×A3 Q3
def Oo(h k:H3):Prop:=∃s:Rat,0<s/\k=(BG h.1 s,h.2*s)
structure By(S:A3 BY)(M:A3 H3):Prop where
 HZ:Dp M
 int:∃o,∀h∈M,val h o<0
 nz:∀h∈M,h.1≠o3
 norm:∀h∈M,∀k∈M,Oo h k->h=k
 Ck:∀f∈S,f.1∈M/\DO f.1.1 f.2/\3<=f.2.length/\∀p,p∈f.2↔BW M p/\val f.1 p=0
 Ld:S.Pairwise λf g=>f.1≠g.1
 cover:∀p,Mem M p->(∃h∈M,val h p=0)->∃f∈S,val f.1 p=0
theorem aDc{h:H3}{p:Q3}(e:val h p=0):h.2=AI h.1 p:=by unfold val at e;grind
theorem qA{M:A3 H3}{o:Q3}(hi:∀h∈M,val h o<0)(j:∀h∈M,h.1≠o3)(l:∀h∈M,∀k∈M,Oo h k->h=k){h k:H3}(d:h∈M)(f:k∈M)(m:AZ h.1 k.1=o3){p:Q3}(n:val h p=0)(q:val k p=0):h=k:=by
 have e:=par (j h d) m
 generalize AI h.1 k.1/AI h.1 h.1=s at e
 have i:k.2=h.2*s:=by rw[aDc q,aDc n,e,J3];grind
 refine l h d k f ⟨s,?_,Prod.ext e i⟩;have a:=hi h d;have b:=hi k f;have c:val k o=s*val h o:=by unfold val;rw[i,e,J3];grind
 refine CB λg=>?_
 have:=Cr (show 0<= -s by grind) (show 0<= -val h o by grind)
 grind
def indep{f g k:Q3}(a:f≠o3)(h:AZ g k≠o3):AZ f g≠o3\/AZ f k≠o3:=by
 by_cases b:AZ f g=o3
 .by_cases h2:AZ f k=o3
  .refine absurd ?_ h;rw[par a b,par a h2];exact F9
  .exact .inr h2
 .exact .inl b
theorem od{f k:Q3}(a:f≠o3)(h:AZ f k=o3){w:Q3}(b:AI f w=0):AI k w=0:=by rw[par a h,J3,b];grind
theorem mQ{L:A3 H3}(D:Dp L){f:H3}(E:f∈L)(m:f.1≠o3){l:A3 Q3}(F:DO f.1 l)(G:3<=l.length)(i:∀p,p∈l↔BW L p/\val f p=0){s:Q3×Q3}(H:s∈D5 l):∃g∈L,val g s.1=0/\val g s.2=0/\AZ f.1 g.1≠o3:=by
 let⟨u,v⟩:=s;let⟨I,J,j,K⟩:=Jo F G H;dsimp only at*;let⟨n,o⟩:=(i u).1 I;let⟨q,r⟩:=(i v).1 J;refine CB λM=>?_
 have tight:∀g∈L,val g (D8 u v<|1/2)=0->val g u=0/\val g v=0:=λg d h=>by
  rw[Ek] at h;have:=n.1 g d;have:=q.1 g d
  grind
 have k:∀g∈L,val g (D8 u v<|1/2)=0->AZ f.1 g.1=o3:=λg d h=>by let⟨a,b⟩:=tight g d h;exact CB λc=>M ⟨g,d,a,b,c⟩
 have z:AI f.1 (AZ (Ae v u) f.1)=0:=X5 _ _;have N:AZ (Ae v u) f.1≠o3:=λe=>by
  have O:Ae v u≠o3:=λe=>j<|NQ e
  have A:AI f.1 (Ae v u)=0:=by rw[val_sub,o,r];grind
  have:=par O e;rw[L6] at A;rw[A] at this;refine m (this.trans<|VT ?_ ?_ ?_)<;>simp[BG]<;>grind
 have P:Mem L (D8 u v<|1/2):=λg d=>by
  rw[Ek];have:=n.1 g d;have:=q.1 g d
  grind
 let⟨e,B,Q⟩:=room P (w:=AZ (Ae v u) f.1) λg d h=>by rw[od m (k g d h) z];exact El
 have R:=Q e (EF B) El;let⟨p,S,T,U⟩:=MC D R<|AZ (Ae v u) f.1
 have V:=U f E (by rw[JW,z,Ek,o,r];grind);have X:=(i p).2 ⟨S,V⟩;have Y:0<=BZ f.1 u v p:=by
  by_cases W:p=u
  .rw[W,dD];exact El
  .by_cases h2:p=v
   .rw[h2,Lz];exact El
   .grind
 have C:=Ed B<|Jk N
 have Z:AI (AZ (Ae v u) f.1) p-AI (AZ (Ae v u) f.1) (D8 u v<|1/2)= -BZ f.1 u v p:=by unfold BZ D8 AI AZ Ae BK BG;grind
 rw[LD,Ef] at T
 grind
theorem three{L:A3 H3}(z:Dp L){q:Q3}(A:Mem L q){f:H3}(B:f∈L)(C:val f q=0)(D:f.1≠o3)(E:∀g∈L,val g q=0->AZ f.1 g.1=o3){l:A3 Q3}(F:∀p,BW L p->val f p=0->p∈l):3<=l.length:=by
 have key:∀w,w≠o3->AI f.1 w=0->∃p∈l,AI w q<AI w p:=λw n i=>by
  let⟨e,s,G⟩:=room A (w:=w) λg H I=>by rw[od D (E g H I) i];exact El
  let⟨p,J,K,M⟩:=MC z (G e (EF s) El) w;refine⟨p,F p J (M f B (by rw[JW,i,C];grind)),?_⟩;rw[LD,Ef] at K;have:=Ed s<|Jk n
  grind
 have o:∀w:Q3,w≠o3->BG w (-1)≠o3:=λw h e=>h (by have O:=congrArg Prod.fst e;have P:=congrArg (λx=>x.2.1) e;have Q:=congrArg (λx=>x.2.2) e;simp[BG,o3] at O P Q;exact VT AK AK AK)
 have both:∀w,w≠o3->AI f.1 w=0->∃p∈l,∃r∈l,AI w p≠AI w r:=λw n i=>by let⟨p,c,V⟩:=key w n i;let⟨r,j,R⟩:=key (BG w<| -1) (o w n) (by rw[Ef,i];grind);rw[J3,J3] at R;exact⟨p,c,r,j,AK⟩
 match l,both with
 |[],both=>let⟨d,k,m⟩:=Tw f.1;let⟨p,c,_⟩:=both d k m;cases c
 |[a],both=>let⟨d,k,m⟩:=Tw f.1;let⟨p,c,r,j,h⟩:=both d k m;rw[CW.1 c,CW.1 j] at h;exact absurd rfl h
 |[a,b],both=>
  let⟨d,k,m,S⟩:=two (N:=[f.1]) (λu T w U=>by rw[CW.1 T,CW.1 U];exact Sc)<|Ae b a
  let⟨p,c,r,j,h⟩:=both d k<|m _ AO
  rw[L6,Ux] at S;have:∀x∈[a,b],AI d x=AI d a:=λx v=>by
   rcases Ak.1 v with e|v
   .rw[e]
   .grind
  rw[this p c,this r j] at h;exact absurd rfl h
 |_::_::_::_,_=>simp
def bU{M:A3 H3}{h:H3}{p:Q3}(b:BW M p)(c:val h p<=0):BW (h::M) p:=⟨λk a=>(Ak.1 a).elim (λe=>by rw[e];exact c)<|b.1 k,λd f=>b.2 d λk a=>f k<|Bg _ a⟩
theorem zR{h:H3}{u v:Q3}(a:val h (D8 u v t)=0)(b:FK (val h u) (val h v)=true):D8 u v t=Er h u v:=by
 have d:=IV.1 b;have c:val h u-val h v≠0:=AK;have e:val h u/(val h u-val h v)*(val h u-val h v)=val h u:=LK c;unfold Er;rw[Ek] at a
 congr 1
 generalize val h u/(val h u-val h v)=r at*
 have:(t-r)*(val h u-val h v)=0:=AK;rcases Fx.1 this with g|g
 .grind
 .grind
theorem ajp(u v:Q3)(t:Rat):D8 u v t=D8 v u (1-t):=by unfold D8 BK BG Ae;refine Hi ?_ ?_ ?_<;>dsimp<;>grind
theorem xg(x y:Rat):FK x y=FK y x:=by rw[SE,IV,IV];grind
theorem nN{M:A3 H3}(C:Dp M){h:H3}{p:Q3}(l:BW (h::M) p):BW M p\/(val h p=0/\∃u v,BW M u/\BW M v/\FK (val h u) (val h v)=true/\p=Er h u v/\(∀k∈M,val k p=0->val k u=0/\val k v=0)/\∃f∈M,∃g∈M,val f p=0/\val g p=0/\AZ f.1 g.1≠o3):=by
 by_cases o:BW M p
 .exact .inl o
 right;have z:Mem M p:=λk a=>l.1 k<|Bg _ a
 have q:val h p=0:=CB λc=>o ⟨z,λd D=>l.2 d λk a r=>by
  rcases Ak.1 a with e|a
  .grind
  .exact D k a r⟩
 have:∃f∈M,∃g∈M,val f p=0/\val g p=0/\AZ f.1 g.1≠o3:=by
  refine CB λE=>?_
  let⟨d,F,P,G⟩:=two (N:=(M.filter λk=>decide<|val k p=0).map Prod.fst) (λu H w I=>by obtain⟨f,b,rfl⟩:=B4.1 H;obtain⟨g,i,rfl⟩:=B4.1 I;let⟨b,m⟩:=EG.1 b;let⟨i,n⟩:=EG.1 i;exact CB λc=>E ⟨f,b,g,i,Aq m,Aq n,c⟩) h.1
  refine F<|l.2 d λk a r=>?_
  rcases Ak.1 a with e|a
  .subst e;exact G
  .grind
 refine⟨q,?_⟩;let⟨f,b,g,i,m,n,A⟩:=this;let⟨u,v,t,J,K,t0,Q,e,L,s⟩:=asE C z o b i m n A;have j:=q;rw[e,Ek] at j;have both:val h u≠0\/val h v≠0:=by
  refine CB λc=>s<|NQ<|l.2 _ λk a r=>?_
  rw[val_sub];rcases Ak.1 a with e|a
  .subst e;grind
  .grind
 have B:FK (val h u) (val h v)=true:=by
  rw[IV];have R:val h u≠0:=λc=>by rcases Fx.1 (show t*val h v=0 by rw[c] at j;grind) with g|g<;>grind
  by_cases O:val h u<0
  .left;refine⟨O,CB λc=>?_⟩;have:=Cr (show 0<=t by grind) (show 0<= -val h v by grind);have:=Ed (show 0<1-t by grind) (show 0< -val h u by grind)
   grind
  .right;refine⟨AK,CB λc=>?_⟩;have:=Cr (show 0<=t by grind) (show 0<=val h v by grind);have:=Ed (show 0<1-t by grind) (show 0<val h u by grind)
   grind
 exact⟨u,v,J,K,B,by rw[e];exact zR (by rw[<-e];exact q) B,L,f,b,g,i,m,n,A⟩
def yS{h:H3}{u v:Q3}(a:FK (val h u) (val h v)=true):Er h u v=Er h v u:=by have:val h (Er h u v)=0:=Xf a;unfold Er at this⊢;rw[ajp] at this⊢;exact zR this (by rw[xg];exact a)
theorem US{M:A3 H3}(L:Dp M){f:H3}(E:f∈M)(N:f.1≠o3){l:A3 Q3}(F:DO f.1 l)(O:3<=l.length)(i:∀p,p∈l↔BW M p/\val f p=0)(h:H3)(p:Q3):p∈Eh h l↔BW (h::M) p/\val f p=0:=by
 unfold Eh;rw[JZ];constructor
 .rintro⟨s,m,q⟩;let⟨P,U,a3,a4⟩:=Jo F O m;rcases xJ q with⟨e,hle⟩|⟨j,e⟩
  .let⟨G,b2⟩:=(i s.1).1 P;rw[e] at hle⊢;exact⟨bU G hle,b2⟩
  .let⟨g,n,g1,g2,w⟩:=mQ L E N F O i m;let⟨G,b2⟩:=(i s.1).1 P;let⟨V,W⟩:=(i s.2).1 U;have t:=NS j;have H:=Xf j;have I:∀k:H3,val k p=(1-val h s.1/(val h s.1-val h s.2))*val k s.1+val h s.1/(val h s.1-val h s.2)*val k s.2:=λk=>by rw[e];exact Ek _ _ _ _
   rw[<-e] at H
   generalize val h s.1/(val h s.1-val h s.2)=r at*
   have A:val f p=0:=AK;have C:val g p=0:=AK;refine⟨ym (f:=f) (g:=g) (h:=h) (λk B=>?_) (Bg _ E) (Bg _ n) Ca A C H λX=>?_,A⟩
   .rcases Ak.1 B with e|B
    .grind
    .rw[I];have:=Cr (show 0<=1-r by grind) (show 0<= -val k s.1 by have:=G.1 k B;grind);have:=Cr (show 0<=r by grind) (show 0<= -val k s.2 by have:=V.1 k B;grind)
     grind
   .let⟨x,q⟩:=along w (d:=Ae s.2 s.1) (by rw[val_sub,b2,W];grind) (by rw[val_sub,g1,g2];grind);have:=val_sub h s.1 s.2;rw[q,Ef,X] at this;have:=IV.1 j
    grind
 .rintro⟨hp,A⟩;rcases nN L hp with o|⟨H,u,v,Y,Z,j,e,Q,g,n,k,B,C,tk,w⟩
  .have hm:=(i p).2 ⟨o,A⟩;rw[<-UB l] at hm;let⟨s,m,e⟩:=B4.1 hm;refine⟨s,m,?_⟩;unfold Jc;rw[e,B1<|hp.1 h Ca];simp
  .obtain⟨g,n,C,w⟩:∃g∈M,val g p=0/\AZ f.1 g.1≠o3:=by
    rcases indep N w with x|x
    .grind
    .grind
   let⟨J,R⟩:=Q f E A;let⟨S,gv⟩:=Q g n C;have mu:=(i u).2 ⟨Y,J⟩;have mv:=(i v).2 ⟨Z,R⟩;have K:u≠v:=λc=>by rw[c] at j;have:=IV.1 j;grind
   let⟨x,q⟩:=along w (d:=Ae v u) (by rw[val_sub,J,R];grind) (by rw[val_sub,S,gv];grind);have T:∀y,val f y=0->BZ f.1 u v y= -(x*AI f.1 f.1*val g y):=λy ty=>by
    have o:=val_sub f u y;have D:=val_sub g u y;rw[J,ty] at o;rw[S] at D;unfold BZ;rw[q];have e1:AI f.1 (AZ (BG (AZ f.1 g.1) x)<|Ae y u)=x*(AI f.1 g.1*AI f.1 (Ae y u)-AI f.1 f.1*AI g.1 (Ae y u)):=by unfold AI AZ BG;grind
    rw[e1,o,D];grind
   rcases adj F mu mv K (λy my z mz o D=>by
    let⟨vy,ty⟩:=(i y).1 my;let⟨vz,tz⟩:=(i z).1 mz;rw[T y ty] at o;rw[T z tz] at D;have a:=vy.1 g n;have b:=vz.1 g n;by_cases c:0<=x*AI f.1 f.1
    .have:=Cr c (show 0<= -val g y by grind)
     grind
    .have:=Cr (show 0<= -(x*AI f.1 f.1) by grind) (show 0<= -val g z by grind)
     grind) with m|m
   .refine⟨_,m,?_⟩;unfold Jc;rw[j,e];simp
   .refine⟨_,m,?_⟩;unfold Jc;rw[xg,j,e,yS j];simp
theorem aoh{L:A3 H3}{f:H3}(j:f.1≠o3){l:A3 Q3}(k:Wk f.1 l)(m:l.Nodup)(e:∀p∈l,BW L p/\val f p=0):DO f.1 l:=λa b c s=>by
 have n:=k a b c s;have d:=List.Pairwise.sublist s m;simp at d;have g:=e a<|s.subset AO
 have h:=e b<|s.subset AO
 have i:=e c<|s.subset AO
 have:=oJ j g.1 h.1 i.1 g.2 h.2 i.2 d.1.1 d.1.2 d.2
 grind
theorem Xg:((1,0,0):Q3)≠o3:=by grind [o3]
def b9{M:A3 H3}{v:Q3}(a:BW M v){h:Q3}(b:h≠o3):∃k∈M,val k v=0/\AZ h k.1≠o3:=by
 refine CB λe=>?_
 let⟨d,f,g⟩:=Tw h;refine f<|a.2 d λk i j=>od b ?_ g
 exact CB λc=>e ⟨k,i,j,c⟩
def nE{S:A3 BY}{M:A3 H3}(I:By S M){v:Q3}(a:BW M v):∃f∈S,v∈f.2:=by let⟨k,c,d,_⟩:=b9 a Xg;let⟨f,b,e⟩:=I.cover v a.1 ⟨k,c,d⟩;exact⟨f,b,((I.Ck f b).2.2.2 v).2 ⟨a,e⟩⟩
theorem alz{S:A3 BY}{M:A3 H3}(I:By S M){h:H3}(a:∀f∈S,∀p∈f.2,0<=val h p){q:Q3}(b:Mem M q):0<=val h q:=by
 let⟨v,v1,c,_⟩:=MC I.HZ b<|BG h.1<| -1
 let⟨f,d,e⟩:=nE I v1;have:=a f d v e;rw[J3,J3] at c;unfold val at*;grind
theorem xm{S:A3 BY}{M:A3 H3}(I:By S M){h:H3}(a:∀f∈S,∀p∈f.2,val h p<=0){q:Q3}(b:Mem M q):val h q<=0:=by let⟨v,v1,e,_⟩:=MC I.HZ b h.1;let⟨f,c,d⟩:=nE I v1;have:=a f c v d;unfold val at*;grind
theorem wO{M:A3 H3}{h:H3}(b:h.1≠o3)(c:∀q,Mem M q->val h q<=0){p:Q3}(d:Mem M p)(f:val h p=0):∃k∈M,val k p=0:=by
 refine CB λg=>?_
 let⟨e,a,i⟩:=room d (w:=h.1) λk j l=>absurd ⟨k,j,l⟩ g
 have m:=c _<|i e (EF a) El
 have:=Ed a<|Jk b
 rw[JW,f] at m
 grind
theorem yl{M:A3 H3}(d:Dp M){h:H3}(b:∀q,Mem M q->val h q<=0)(p:Q3):BW (h::M) p↔BW M p:=by
 constructor
 .intro a;rcases nN d a with e|⟨_,u,v,f,g,c,_⟩
  .exact e
  .have:=b u f.1;have:=b v g.1;have:=IV.1 c
   grind
 .exact λa=>bU a<|b p a.1
theorem By.out{S:A3 BY}{M:A3 H3}(I:By S M){h:H3}(j:h.1≠o3)(r:∀a∈h::M,∀b∈h::M,Oo a b->a=b)(s:∀f∈S,∀p∈f.2,val h p<=0):By S (h::M):=by
 have i:∀q,Mem M q->val h q<=0:=λq=>xm I s
 have l:∀q,Mem (h::M) q->Mem M q:=λq u k g=>u k<|Bg _ g
 obtain⟨o,hi⟩:=I.int;refine⟨λd v=>?_,⟨o,λk g=>?_⟩,λk g=>?_,r,λf w=>?_,I.Ld,λp m z=>?_⟩
 .obtain⟨k,g,hk⟩:=I.HZ d v;exact⟨k,Bg _ g,hk⟩
 .rcases Ak.1 g with e|g
  .subst e;have C:=i o λk g=>EF<|hi k g
   refine CB λc=>?_
   obtain⟨A,n,B⟩:=wO j i (p:=o) (λk g=>EF<|hi k g) AK;have:=hi A n
   grind
  .exact hi k g
 .rcases Ak.1 g with e|g
  .subst e;exact j
  .exact I.nz k g
 .obtain⟨f1,f2,f3,f4⟩:=I.Ck f w;exact⟨Bg _ f1,f2,f3,λp=>by rw[yl I.HZ i];exact f4 p⟩
 .obtain⟨k,g,tk⟩:=z;rcases Ak.1 g with e|g
  .subst e;exact I.cover p (l p m)<|wO j i (l p m) tk
  .exact I.cover p (l p m) ⟨k,g,tk⟩
theorem toward{a b:Rat}(d:a<0):∃t:Rat,0<t/\t<1/\(1-t)*a+t*b<0:=by
 by_cases f:b<=0
 .exact⟨1/2,AK,AK,AK⟩
 .have hn:b-a≠0:=AK;have e: -a/(b-a)*(b-a)= -a:=LK hn;have g:0< -a/(b-a):=by rw[N6];exact Ed AK<|QB.2 AK
  generalize -a/(b-a)=r at*
  have h:r<1:=CB λc=>by
   have:=Cr (show 0<=r-1 by grind) (show 0<=b-a by grind)
   grind
  exact⟨r*(1/2),AK,AK,AK⟩
theorem rB{M:A3 H3}{o p:Q3}(hi:∀k∈M,val k o<0)(d:Mem M p){h:H3}(e:val h p<0):∃q,(∀k∈M,val k q<0)/\val h q<0:=by
 let⟨t,t0,g,f⟩:=toward (b:=val h o) e;refine⟨D8 p o t,λk c=>?_,by rw[Ek];exact f⟩;rw[Ek];have a:=Cr (show 0<=1-t by grind) (show 0<= -val k p by have:=d k c;grind);have b:=Ed t0 (show 0< -val k o by have:=hi k c;grind)
 grind
theorem xE(h:H3)(p:Q3):val (BG h.1<| -1,-h.2) p= -val h p:=by unfold val;rw[J3];grind
theorem apQ{M:A3 H3}{o p:Q3}(hi:∀k∈M,val k o<0)(a:Mem M p){h:H3}(c:0<val h p):∃q,(∀k∈M,val k q<0)/\0<val h q:=by let⟨q,q1,b⟩:=rB hi a (h:=(BG h.1<| -1,-h.2)) (by rw[xE];grind);rw[xE] at b;exact⟨q,q1,AK⟩
theorem aaH{S:A3 BY}{M:A3 H3}(I:By S M){f:BY}(w:f∈S):∃z,Mem M z/\val f.1 z=0/\∀g∈M,val g z=0->AZ f.1.1 g.1=o3:=by
 let⟨F,A,f3,e⟩:=I.Ck f w
 match hl:f.2,f3 with
 |a::b::c::l,_=>
  have m:=A a b c (by rw[hl];exact((OI l).cons_cons c|>.cons_cons b).cons_cons a);let⟨n,h⟩:=(e a).1 (by rw[hl];simp);let⟨o,p⟩:=(e b).1 (by rw[hl];simp);let⟨vc,q⟩:=(e c).1 (by rw[hl];simp);refine⟨D8 (D8 a b<|1/2) c<|1/3,λk i=>?_,?_,λg j B=>?_⟩
  .rw[Ek,Ek];have:=n.1 k i;have:=o.1 k i;have:=vc.1 k i
   grind
  .rw[Ek,Ek,h,p,q];grind
  .rw[Ek,Ek] at B;have:=n.1 g j;have:=o.1 g j;have:=vc.1 g j;have u:val g a=0:=AK;have C:val g b=0:=AK;have gc:val g c=0:=AK;refine CB λv=>?_
   let⟨s,D⟩:=along v (d:=Ae b a) (by rw[val_sub,h,p];grind) (by rw[val_sub,u,C];grind);let⟨r,E⟩:=along v (d:=Ae c a) (by rw[val_sub,h,q];grind) (by rw[val_sub,u,gc];grind);unfold BZ at m;rw[D,E] at m;have:AI f.1.1 (AZ (BG (AZ f.1.1 g.1) s)<|BG (AZ f.1.1 g.1) r)=0:=by unfold AI AZ BG;grind
   grind
def LR(h:H3)(S:A3 BY):A3 BY:=S.filterMap λf=>bif decide (2<(Eh h f.2).length) then some (f.1,Eh h f.2) else none
def wx{h:H3}{S:A3 BY}{g:BY}(b:g∈LR h S):∃f∈S,2<(Eh h f.2).length/\g=(f.1,Eh h f.2):=by let⟨f,c,e⟩:=List.mem_filterMap.1 b;cases a:decide (2<(Eh h f.2).length) with|false=>rw[a] at e;cases e|true=>rw[a] at e;exact⟨f,c,Aq a,(E2 e).symm⟩
def akf{h:H3}{S:A3 BY}{f:BY}(a:f∈S)(b:2<(Eh h f.2).length):(f.1,Eh h f.2)∈LR h S:=List.mem_filterMap.2 ⟨f,a,by rw[B1 b];rfl⟩
def By.US{S:A3 BY}{M:A3 H3}(I:By S M)(h:H3):∀f∈S,∀p,p∈Eh h f.2↔BW (h::M) p/\val f.1 p=0:=λf b p=>by let⟨a,c,d,e⟩:=I.Ck f b;exact Trn.US I.HZ a (I.nz _ a) c d e h p
theorem By.cut{S:A3 BY}{M:A3 H3}(I:By S M){h:H3}(s:h.1≠o3){i j:BY}{m n:Q3}(z:i∈S)(A:m∈i.2)(B:val h m<0)(C:j∈S)(q1:n∈j.2)(D:0<val h n):(∃o,(∀k∈M,val k o<0)/\val h o<0)/\(∀p,((∃f∈S,p∈Eh h f.2)/\val h p=0)↔BW (h::M) p/\val h p=0)/\∀l:A3 Q3,(∀p,BW (h::M) p->val h p=0->p∈l)->3<=l.length:=by
 obtain⟨o,hi⟩:=I.int;have v0:=(((I.Ck i z).2.2.2 m).1 A).1;have v1:=(((I.Ck j C).2.2.2 n).1 q1).1;have E:∀q,Mem (h::M) q->Mem M q:=λq F k a=>F k<|Bg _ a
 have G:Dp (h::M):=λd H=>by obtain⟨k,a,J⟩:=I.HZ d H;exact⟨k,Bg _ a,J⟩
 obtain⟨b,u,v⟩:=rB hi v0.1 B;obtain⟨c,K,L⟩:=apQ hi v1.1 D;have cm:=I.US h;refine⟨⟨b,u,v⟩,λp=>?_,λl N=>?_⟩
 .constructor
  .rintro⟨⟨f,mf,mp⟩,tp⟩;exact⟨((cm f mf p).1 mp).1,tp⟩
  .rintro⟨vp,tp⟩;refine⟨?_,tp⟩;obtain⟨k,a,O,P⟩:=b9 vp s;rcases Ak.1 a with e|a
   .subst e;exact absurd Sc P
   .obtain⟨f,mf,tf⟩:=I.cover p (E p vp.1) ⟨k,a,O⟩;exact⟨f,mf,(cm f mf p).2 ⟨vp,tf⟩⟩
 .have ho:FK (val h b) (val h c)=true:=IV.2 (.inl ⟨v,L⟩);have t:=NS ho;have Q:=Xf ho;have R:∀k∈M,val k (Er h b c)<0:=λk a=>by
   unfold Er;rw[Ek]
   generalize val h b/(val h b-val h c)=r at t
   have:=Ed (show 0<1-r by grind) (show 0< -val k b by have:=u k a;grind);have:=Ed (show 0<r by grind) (show 0< -val k c by have:=K k a;grind)
   grind
  refine three G (q:=Er h b c) (λk a=>?_) (f:=h) Ca Q s (λg w T=>?_) N
  .grind
  .rcases Ak.1 w with e|w
   .subst e;exact Sc
   .grind
theorem By.clip{S:A3 BY}{M:A3 H3}(I:By S M){h:H3}(D:h.1≠o3)(L:∀a∈h::M,∀b∈h::M,Oo a b->a=b){E v:BY}{F w:Q3}(N:E∈S)(O:F∈E.2)(P:val h F<0)(G:v∈S)(q1:w∈v.2)(Q:0<val h w)
  {l:A3 Q3}(hl:DO h.1 l)(R:∀p,p∈l↔(∃f∈S,p∈Eh h f.2)/\val h p=0):By (LR h S++[(h,l)]) (h::M):=by
 obtain⟨⟨T,i1,n1⟩,U,V⟩:=I.cut D N O P G q1 Q;have v1:=(((I.Ck v G).2.2.2 w).1 q1).1;have W:h∉M:=λc=>by have:=v1.1 h c;grind
 have X:∀q,Mem (h::M) q->Mem M q:=λq A k i=>A k<|Bg _ i
 have n:Dp (h::M):=λd Y=>by obtain⟨k,i,Z⟩:=I.HZ d Y;exact⟨k,Bg _ i,Z⟩
 have cm:=I.US h;have lm:∀p,p∈l↔BW (h::M) p/\val h p=0:=λp=>by rw[R,U]
 have l3:3<=l.length:=V l λp vp B=>(lm p).2 ⟨vp,B⟩
 refine⟨n,⟨T,λk i=>?_⟩,λk i=>?_,L,λg m=>?_,?_,λp r ht=>?_⟩
 .grind
 .rcases Ak.1 i with e|i
  .subst e;exact D
  .exact I.nz k i
 .rcases Bi.1 m with m|m
  .obtain⟨f,mf,j,e⟩:=wx m;subst e;obtain⟨o,H,g3,g4⟩:=I.Ck f mf;exact⟨Bg _ o,aoh (I.nz _ o) (anA H.wk) (agl H g3) λp mp=>(cm f mf p).1 mp,j,cm f mf⟩
  .grind
 .refine G1.2 ⟨?_,SU _ _,λg m k i=>?_⟩
  .unfold LR;refine List.pairwise_filterMap.2<|I.Ld.imp λ{a b} oD x s y u=>?_
   cases J:decide (2<(Eh h a.2).length) with
   |false=>rw[J] at s;cases s
   |true=>
    cases n:decide (2<(Eh h b.2).length) with
    |false=>rw[n] at u;cases u
    |true=>rw[J] at s;rw[n] at u;rw[<-E2 s,<-E2 u];exact oD
  .obtain⟨f,mf,_,e⟩:=wx m;rw[e,CW.1 i];exact λc=>W (by have:=(I.Ck f mf).1;rwa [show f.1=h from c] at this)
 .by_cases B:val h p=0
  .exact⟨(h,l),AO,B⟩
  .obtain⟨k,i,tk⟩:=ht;rcases Ak.1 i with e|i
   .grind
   .obtain⟨f,mf,tf⟩:=I.cover p (X p r) ⟨k,i,tk⟩;by_cases j:2<(Eh h f.2).length
    .exact⟨_,Fq _<|akf mf j,tf⟩
    .exfalso;have C:val h p<0:=by have:=r h Ca;grind
     obtain⟨z,K,tz,hc⟩:=aaH I mf;obtain⟨t,t0,t1,A⟩:=toward (b:=val h z) C;have o:=(I.Ck f mf).1;refine j (three n (q:=D8 p z t) (λk i=>?_) (f:=f.1) (Bg _ o) (by rw[Ek,tf,tz];grind) (I.nz _ o) (λg m tg=>?_) λx vx tx=>(cm f mf x).2 ⟨vx,tx⟩)
     .rw[Ek];rcases Ak.1 i with e|i
      .subst e;exact EF A
      .have:=Cr (show 0<=1-t by grind) (show 0<= -val k p by have:=r k (Bg _ i);grind);have:=Cr (show 0<=t by grind) (show 0<= -val k z by have:=K k i;grind)
       grind
     .rw[Ek] at tg;rcases Ak.1 m with e|m
      .subst e;grind
      .refine hc g m ?_;have a:=Cr (show 0<=1-t by grind) (show 0<= -val g p by have:=r g (Bg _ m);grind);have b:=Cr (show 0<=t by grind) (show 0<= -val g z by have:=K g m;grind);have c:t*val g z=0:=AK;rcases Fx.1 c with x|x<;>grind
theorem By.empty{S:A3 BY}{M:A3 H3}(I:By S M){h:H3}(b:∀f∈S,∀p∈f.2,0<=val h p): ¬ ∃o,∀k∈h::M,val k o<0:=λ⟨o,a⟩=>by
 have:=alz I b (q:=o) λk c=>EF<|a k<|Bg _ c
 have:=a h Ca
 grind
theorem aad{w:Q3}{s:Rat}(h:w≠o3)(f:s≠0):BG w s≠o3:=λe=>h (by
 have a:=congrArg Prod.fst e;have b:=congrArg (λx=>x.2.1) e;have c:=congrArg (λx=>x.2.2) e;simp[BG,o3] at a b c;have z:∀x:Rat,x*s=0->x=0:=λx d=>by
  rcases Fx.1 d with g|g
  .exact g
  .grind
 exact VT (z _ a) (z _ b)<|z _ c)
def r9(s:Rat):BG o3 s=o3:=F9
def iG(w:Q3):BG w 0=o3:=F9
theorem akh{L:A3 H3}(O:∃f∈L,∃g∈L,AZ f.1 g.1≠o3)(C:∀f∈L,∀g∈L,AZ f.1 g.1≠o3->∃h∈L,0<AI h.1 (AZ f.1 g.1)):∀(n:Nat) (d:Q3),(L.filter λh=> !decide (AI h.1 d=0)).length<=n->d≠o3->(∀h∈L,AI h.1 d<=0)->False:=by
 intro n
 induction n with
 |zero=>
  intro d S D o;have F:(L.filter λh=> !decide (AI h.1 d=0))=[]:=Hk A4;have G:∀h∈L,AI h.1 d=0:=λh j=>CB λe=>by have:h∈(L.filter λh=> !decide (AI h.1 d=0)):=EG.2 ⟨j,by simp[e]⟩;rw[F] at this;cases this
  let⟨f,l,g,m,i⟩:=O;let⟨s,v⟩:=along i (G f l)<|G g m
  let⟨h,j,A⟩:=C f l g m i;have:=G h j;rw[v,Ef] at this;rcases Fx.1 this with e|e
  .subst e;exact D<|v.trans<|iG _
  .grind
 |succ n ih=>
  intro d S D o;by_cases P:∃f∈L,∃g∈L,AI f.1 d=0/\AI g.1 d=0/\AZ f.1 g.1≠o3
  .let⟨f,l,g,m,H,I,i⟩:=P;let⟨s,v⟩:=along i H I;have T:s≠0:=λe=>D (by rw[v,e];exact iG _)
   by_cases F:0<s
   .let⟨h,j,A⟩:=C f l g m i;have:=o h j;rw[v,Ef] at this;have:=Ed F A
    grind
   .let⟨h,j,A⟩:=C g m f l (by rw[U8];exact aad i AK);have:=o h j;rw[v,Ef] at this;rw[U8,Ef] at A;have:=Ed (show 0< -s by grind) A
    grind
  .let⟨e,J,e1,e2⟩:=two (N:=(L.filter λk=>decide<|AI k.1 d=0).map Prod.fst) (λu U w V=>by obtain⟨f,l,rfl⟩:=B4.1 U;obtain⟨g,m,rfl⟩:=B4.1 V;let⟨l,H⟩:=EG.1 l;let⟨m,I⟩:=EG.1 m;exact CB λc=>P ⟨f,l,g,m,Aq H,Aq I,c⟩) d
   have W:∀e:Q3,e≠o3->(∀k∈L,AI k.1 d=0->AI k.1 e=0)->AI d e=0->(∃k∈L,0<AI k.1 e)->False:=by
    intro e J E X Q;let⟨h,j,R,Y⟩:=least (λh:H3=>0<AI h.1 e) (λh=> -AI h.1 d/AI h.1 e) L Q;have key:∀k:H3,0<AI k.1 e-> -AI k.1 d/AI k.1 e*AI k.1 e= -AI k.1 d:=λk Q=>LK AK
    have K:AI h.1 d≠0:=λc=>by have:=E h j c;grind
    have Z:0<= -AI h.1 d/AI h.1 e:=by rw[N6];exact Cr (by have:=o h j;grind)<|EF<|QB.2 R
    have kh:=key h R
    generalize hR: -AI h.1 d/AI h.1 e=r at*
    have:=filter_lt (L:=L) (p:=λh=> !decide (AI h.1 d=0)) (q:=λh=> !decide (AI h.1 (BK d<|BG e r)=0)) (x:=h) (λy my B=>by
     simp at B⊢;exact λc=>B (by rw[LD,Ef,c,E y my c];grind)) j (by simp[K]) (by
     have:AI h.1 (BK d<|BG e r)=0:=by rw[LD,Ef];grind
     simp[this])
    refine ih (BK d<|BG e r) A4 (λc=>?_) λk z=>?_
    .have h1:AI d (BK d<|BG e r)=0:=by rw[c,Ql]
     rw[LD,Ef,X] at h1;have:=Jk D
     grind
    .rw[LD,Ef];by_cases g:0<AI k.1 e
     .have h1:=Y k z g;have h2:=key k g;have h3:=YJ h1<|EF g
      grind
     .have:=Cr Z (show 0<= -AI k.1 e by grind);have:=o k z
      grind
   have E:∀k∈L,AI k.1 d=0->AI k.1 e=0:=λk z M=>e1 _<|B4.2 ⟨k,EG.2 ⟨z,B1 M⟩,rfl⟩
   by_cases hx:∃k∈L,0<AI k.1 e
   .grind
   .by_cases B:∃k∈L,0<AI k.1 (BG e<| -1)
    .exact W _ (aad J AK) (λk z M=>by rw[Ef,E k z M];grind) (by rw[Ef,e2];grind) B
    .have hz:∀k∈L,AI k.1 e=0:=λk z=>by
      have a: ¬0<AI k.1 e:=λc=>hx ⟨k,z,c⟩
      have b: ¬0<AI k.1 (BG e<| -1):=λc=>B ⟨k,z,c⟩
      rw[Ef] at b
      grind
     let⟨f,l,g,m,i⟩:=O;let⟨s,v⟩:=along i (hz f l)<|hz g m
     let⟨h,j,A⟩:=C f l g m i;have:=hz h j;rw[v,Ef] at this;rcases Fx.1 this with c|c
     .subst c;exact J<|v.trans<|iG _
     .grind
theorem anC{L:A3 H3}:Dp L↔(∃f∈L,∃g∈L,AZ f.1 g.1≠o3)/\∀f∈L,∀g∈L,AZ f.1 g.1≠o3->∃h∈L,0<AI h.1 (AZ f.1 g.1):=by
 constructor
 .refine λi=>⟨CB λa=>?_,λf j g k b=>i _ b⟩
  let⟨d,l,m,_⟩:=two (N:=L.map Prod.fst) (λu n w o=>by obtain⟨f,j,rfl⟩:=B4.1 n;obtain⟨g,k,rfl⟩:=B4.1 o;exact CB λc=>a ⟨f,j,g,k,c⟩) o3
  let⟨h,e,p⟩:=i d l;have:=m _<|B4.2 ⟨h,e,rfl⟩
  grind
 .rintro⟨hp,hc⟩ d hd;refine CB λa=>akh hp hc _ d (BJ _) hd λh e=>?_
  exact CB λc=>a ⟨h,e,AK⟩
def Cq(a b c:Q3):Rat:=AI (AZ a b) c
def Gq(a b c:H3):Q3:=BG (BK (BK (BG (AZ b.1 c.1) a.2)<|BG (AZ c.1 a.1) b.2)<|BG (AZ a.1 b.1) c.2) (Cq a.1 b.1 c.1)⁻¹
theorem U4{a b c:H3}(d:Cq a.1 b.1 c.1≠0):val a (Gq a b c)=0/\val b (Gq a b c)=0/\val c (Gq a b c)=0:=by
 have hi:=dr _ d;unfold Gq
 generalize (Cq a.1 b.1 c.1)⁻¹ =i at hi
 unfold Cq at hi;refine⟨?_,?_,?_⟩
 .have:val a (BG (BK (BK (BG (AZ b.1 c.1) a.2)<|BG (AZ c.1 a.1) b.2)<|BG (AZ a.1 b.1) c.2) i)=a.2*(AI (AZ a.1 b.1) c.1*i)-a.2:=by unfold val AI BG BK AZ;grind
  rw[this,hi];grind
 .have:val b (BG (BK (BK (BG (AZ b.1 c.1) a.2)<|BG (AZ c.1 a.1) b.2)<|BG (AZ a.1 b.1) c.2) i)=b.2*(AI (AZ a.1 b.1) c.1*i)-b.2:=by unfold val AI BG BK AZ;grind
  rw[this,hi];grind
 .have:val c (BG (BK (BK (BG (AZ b.1 c.1) a.2)<|BG (AZ c.1 a.1) b.2)<|BG (AZ a.1 b.1) c.2) i)=c.2*(AI (AZ a.1 b.1) c.1*i)-c.2:=by unfold val AI BG BK AZ;grind
  rw[this,hi];grind
def XX{a b c d:Q3}(f:Cq a b c≠0)(h:AI a d=0)(i:AI b d=0)(g:AI c d=0):d=o3:=by
 have j:AZ a b≠o3:=λe=>f (by unfold Cq;rw[e,L6,Ql])
 obtain⟨s,rfl⟩:=along j h i;rw[Ef] at g;rcases Fx.1 g with e|e
 .subst e;exact iG _
 .exact absurd (by unfold Cq;rw[L6];exact e) f
theorem UH{L:A3 H3}{p:Q3}:BW L p↔Mem L p/\∃a∈L,∃b∈L,∃c∈L,Cq a.1 b.1 c.1≠0/\p=Gq a b c:=by
 constructor
 .intro hv;refine⟨hv.1,?_⟩;let⟨a,i,n,o⟩:=b9 hv Xg;have a0:a.1≠o3:=λe=>o (by rw[e];exact F9)
  let⟨b,j,q,r⟩:=b9 hv a0;have:∃c∈L,val c p=0/\Cq a.1 b.1 c.1≠0:=by
   refine CB λs=>r<|hv.2 _ λc f k=>?_
   refine CB λg=>s ⟨c,f,k,λe=>g ?_⟩
   rw[L6];exact e
  let⟨c,f,k,g⟩:=this;refine⟨a,i,b,j,c,f,g,?_⟩;let⟨l,m,t3⟩:=U4 (a:=a) (b:=b) (c:=c) g;refine NQ<|XX g ?_ ?_ ?_
  .rw[val_sub,n,l];grind
  .rw[val_sub,q,m];grind
  .rw[val_sub,k,t3];grind
 .rintro⟨hm,a,i,b,j,c,f,hd,rfl⟩;let⟨l,m,t3⟩:=U4 hd;refine⟨hm,λd h=>XX hd (h a i l) (h b j m)<|h c f t3⟩
theorem vU(a b c:Q3):Cq b a c= -Cq a b c:=by unfold Cq AI AZ;grind
theorem vT(a b c:Q3):Cq a c b= -Cq a b c:=by unfold Cq AI AZ;grind
theorem afO(a b c:H3)(h:Cq a.1 b.1 c.1≠0):Gq b a c=Gq a b c:=by
 have d:Cq b.1 a.1 c.1≠0:=by rw[vU];grind
 let⟨e,f,t3⟩:=U4 h;let⟨g,i,j⟩:=U4 d;exact NQ (XX h (by rw[val_sub,e,i];grind) (by rw[val_sub,f,g];grind) (by rw[val_sub,t3,j];grind))
theorem afN(a b c:H3)(h:Cq a.1 b.1 c.1≠0):Gq a c b=Gq a b c:=by
 have d:Cq a.1 c.1 b.1≠0:=by rw[vT];grind
 let⟨e,f,t3⟩:=U4 h;let⟨g,i,j⟩:=U4 d;exact NQ (XX h (by rw[val_sub,e,g];grind) (by rw[val_sub,f,j];grind) (by rw[val_sub,t3,i];grind))
theorem wM{L:A3 H3}(a:Dp L){n:Q3}{c:Rat}(h:∀p,BW L p->AI n p=c){q:Q3}(b:Mem L q):AI n q=c:=by
 let⟨v,v1,f,_⟩:=MC a b n;let⟨u,d,e,_⟩:=MC a b<|BG n<| -1
 rw[J3,J3] at e;have:=h v v1;have:=h u d
 grind
theorem afH{L:A3 H3}(b:Dp L){n:Q3}(i:n≠o3){c:Rat}(h:∀p,BW L p->AI n p=c): ¬ ∃o,∀k∈L,val k o<0:=λ⟨o,d⟩=>by
 have f:Mem L o:=λk a=>EF<|d k a
 let⟨e,g,j⟩:=room f (w:=n) λk a m=>by have:=d k a;grind
 have q:=wM b h f;have l:=wM b h<|j e (EF g) El
 have:=Ed g<|Jk i
 rw[LD,Ef] at l
 grind
theorem akC{L:A3 H3}(i:∀k∈L,k.1≠o3){a b c d:Q3}(j:Mem L a)(l:Mem L b)(m:Mem L c)(n:Mem L d)(h:Cq (Ae b a) (Ae c a) (Ae d a)≠0):∃o,∀k∈L,val k o<0:=by
 refine⟨D8 (D8 a b<|1/2) (D8 c d<|1/2)<|1/2,λk f=>?_⟩;have e:val k (D8 (D8 a b<|1/2) (D8 c d<|1/2)<|1/2)=(1/4)*(val k a+val k b+val k c+val k d):=by rw[Ek,Ek,Ek];grind
 have s:=j k f;have u:=l k f;have v:=m k f;have w:=n k f;refine CB λg=>i k f ?_
 have a0:val k a=0:=AK;have p:val k b=0:=AK;have q:val k c=0:=AK;have r:val k d=0:=AK;refine XX h ?_ ?_ ?_<;>rw[L6,val_sub]
 .rw[a0,p];grind
 .rw[a0,q];grind
 .rw[a0,r];grind
theorem akL{S:A3 BY}{M:A3 H3}(I:By S M){h:H3}(p:h∈M){a b c:Q3}(g:BW M a)(i:BW M b)(vc:BW M c)(j:val h a=0)(q:val h b=0)(u:val h c=0)(C:a≠b)(l:a≠c)(m:b≠c):∃f∈S,f.1=h:=by
 let⟨o,hi⟩:=I.int;have v:val h (D8 (D8 a b<|1/2) c<|1/3)=0:=by rw[Ek,Ek,j,q,u];grind
 let⟨f,w,z⟩:=I.cover (D8 (D8 a b<|1/2) c<|1/3) (λk n=>by
  rw[Ek,Ek];have:=g.1 k n;have:=i.1 k n;have:=vc.1 k n
  grind) ⟨h,p,v⟩
 have e:=(I.Ck f w).1;refine⟨f,w,qA hi I.nz I.norm e p (CB λA=>?_) z v⟩;rw[Ek,Ek] at z;have:=g.1 _ e;have:=i.1 _ e;have:=vc.1 _ e;have B:val f.1 a=0:=AK;have D:val f.1 b=0:=AK;have fc:val f.1 c=0:=AK;let⟨s,E⟩:=along A (d:=Ae b a) (by rw[val_sub,B,D];grind) (by rw[val_sub,j,q];grind);let⟨r,F⟩:=along A (d:=Ae c a) (by rw[val_sub,B,fc];grind) (by rw[val_sub,j,u];grind);refine XK g i vc C l m ?_;rw[E,F];exact F9
end
structure KH{α:Type}(c:α×α->A9 Int)(R:α->α->Prop)(l:A3 α):Prop where
 get:∀x∈l,∀y∈l,∃v,c (x,y)=some v/\(v<0↔R x y)
 irr:∀x∈l,¬R x x
 tr:∀x∈l,∀y∈l,∀z∈l,R x y->R y z->R x z
 tri:∀x∈l,∀y∈l,x=y\/R x y\/R y x
section
variable{α:Type}[DecidableEq α]{c:α×α->Option Int}{R:α->α->Prop}
variable{l:A3 α}
theorem KH.perm{m:A3 α}(h:KH c R l)(p:m.Perm l):KH c R m:=⟨λx a y b=>h.get x (p.mem_iff.1 a) y<|p.mem_iff.1 b,λx a=>h.irr x<|p.mem_iff.1 a,λx a y b z d=>h.tr x (p.mem_iff.1 a) y (p.mem_iff.1 b) z<|p.mem_iff.1 d,λx a y b=>h.tri x (p.mem_iff.1 a) y<|p.mem_iff.1 b⟩
theorem zj{x:α}:∀{s:A3 α},KH c R (x::s)->s.Pairwise (λa b=>a=b\/R b a)->∃r,Lc (λa b=>c (a,b)) x s=some r/\r.Perm (x::s)/\r.Pairwise (λa b=>a=b\/R b a)
 |[],_,_=>⟨[x],rfl,List.Perm.refl _,SU _ _⟩
 |y::s,h,hs=>by
  have m:x∈x::y::s:=Ca;have n:y∈x::y::s:=AO;let⟨v,w,g⟩:=h.get x m y n;let⟨o,A⟩:=Fh.1 hs;unfold Lc;rw[w];show ∃r,cond (decide<|v<0) _ _=some r/\_;by_cases j:v<0
  .let⟨r,r1,r2,r3⟩:=zj (x:=x) (s:=s) ⟨λa p b u=>h.get a AK b AK,λa p=>h.irr a AK,λa p b u d B=>h.tr a AK b AK d AK,λa p b u=>h.tri a AK b AK⟩ A;refine⟨y::r,by rw[B1 j,BF,r1];rfl,((r2.cons y).trans<|List.Perm.swap x y s),Fh.2 ⟨λz f=>?_,r3⟩⟩;rcases Ak.1 (r2.mem_iff.1 f) with e|f
   .rw[e];exact .inr<|g.1 j
   .exact o z f
  .refine⟨x::y::s,by rw[Bb j];rfl,List.Perm.refl _,Fh.2 ⟨λz f=>?_,hs⟩⟩;have q: ¬R x y:=λk=>j<|g.2 k
   have i:x=y\/R y x:=by
    rcases h.tri x m y n with e|e|e
    .exact .inl e
    .exact absurd e q
    .exact .inr e
   rcases Ak.1 f with e|f
   .rw[e];exact i
   .rcases i with e|e
    .rw[e];exact o z f
    .rcases o z f with e2|e2
     .rw[<-e2];exact .inr e
     .exact .inr (h.tr z (by simp[f]) y n x m e2 e)
theorem wX:∀(l s:A3 α),KH c R (s++l)->s.Pairwise (λa b=>a=b\/R b a)->∃r,HW l (λnext x s=>bd (Lc (λa b=>c (a,b)) x s) next) s (λs=>some s.reverse)=some r/\r.Perm (s++l)/\r.Pairwise (λa b=>a=b\/R a b)
 |[],s,h,hs=>⟨s.reverse,rfl,by rw[HB];exact List.reverse_perm s,by rw[List.pairwise_reverse];exact hs.imp λ{a b} k=>k.elim (λe=> .inl e.symm) .inr⟩
 |x::l,s,h,hs=>by let⟨r,r1,r2,i⟩:=zj (x:=x) (s:=s) ⟨λa f b g=>h.get a AK b AK,λa f=>h.irr a AK,λa f b g d n=>h.tr a AK b AK d AK,λa f b g=>h.tri a AK b AK⟩ hs;have p:(r++l).Perm (s++x::l):=(r2.append_right l).trans (by simpa using(@List.perm_middle _ x s l).symm);let⟨t,j,m,t3⟩:=wX l r (h.perm p) i;refine⟨t,?_,m.trans p,t3⟩;show bd (Lc (λa b=>c (a,b)) x s) _=_;rw[r1];exact j
theorem aCG{x:α}:∀{s:A3 α},KH c R (x::s)->(∀y∈s,x=y\/R x y)->Vh c x s=true
 |[],_,_=>rfl
 |y::s,h,hs=>by
  have f:x∈x::y::s:=Ca;have g:y∈x::y::s:=AO;unfold Vh;rw[aCG (x:=x) (s:=s) ⟨λa i b j=>h.get a AK b AK,λa i=>h.irr a AK,λa i b j d r=>h.tr a AK b AK d AK,λa i b j=>h.tri a AK b AK⟩ λz m=>hs z<|Bg _ m,dX];let⟨v,v1,o⟩:=h.get x f y g;let⟨u,p,q⟩:=h.get y g x f;rcases hs y Ca with e|e
  .rw[B1 e];rfl
  .rw[v1,p];cases decide (x=y)
   .have n: ¬R y x:=λk=>h.irr x f (h.tr x f y g x f e k)
    have a:=o.2 e;have b: ¬u<0:=λk=>n<|q.1 k
    show(decide (v<0)&&decide (0<=u))=true;rw[B1 a,B1 A4];rfl
   .rfl
theorem yh:∀{s:A3 α},KH c R s->s.Pairwise (λa b=>a=b\/R a b)->MS c s=true
 |[],_,_=>rfl
 |x::s,h,hs=>by
  let⟨g,i⟩:=Fh.1 hs;unfold MS;let⟨v,v1,j⟩:=h.get x Ca x Ca;have: ¬v<0:=λk=>h.irr x Ca<|j.1 k
  rw[v1,aCG h g,yh (s:=s) ⟨λa e b f=>h.get a AK b AK,λa e=>h.irr a AK,λa e b f d m=>h.tr a AK b AK d AK,λa e b f=>h.tri a AK b AK⟩ i];show(decide (0<=v)&&(true&&true))=true;rw[B1 A4];rfl
theorem yv(h:KH c R l)(d:l.length<4611686018427387904):∃s,Gk l c=some s/\s.Perm l/\s.Pairwise (λa b=>a=b\/R a b):=by
 let⟨s,s1,s2,s3⟩:=wX l [] h List.Pairwise.nil;refine⟨s,?_,s2,s3⟩;unfold Gk fz;rw[s1];have e:totB c l=true:=by unfold totB;rw[DC];intro x f;rw[DC];intro y g;let⟨v,v1,_⟩:=h.get x f y g;rw[v1];rfl
 show Dh _ s=_;rw[e,yh (h.perm s2) s3,show Nat.blt l.length 4611686018427387904=true from GR d];rfl
theorem yX{e:α×α->A9 Bool}:∀{x:α} {l:A3 α},(∀a∈x::l,∀b∈x::l,e (a,b)=some (decide<|a=b))->(x::l).Pairwise (λa b=>a=b\/R a b)->KH c R (x::l)->∃r,VW (λa b=>e (a,b)) x l=some r/\(x::r).Pairwise R/\∀z,z∈x::r↔z∈x::l
 |x,[],_,_,_=>⟨[],rfl,SU _ _,λz=>Iff.rfl⟩
 |x,y::l,he,hs,h=>by
  let⟨n,o⟩:=Fh.1 hs;let⟨r,r1,r2,j⟩:=yX (x:=y) (l:=l) (λa g b i=>he a (Bg _ g) b<|Bg _ i) o ⟨λa g b i=>h.get a AK b AK,λa g=>h.irr a AK,λa g b i d p=>h.tr a AK b AK d AK,λa g b i=>h.tri a AK b AK⟩;unfold VW;rw[he y AO x AO,r1];by_cases f:y=x
  .subst f;refine⟨r,by rw[B1 rfl];rfl,r2,λz=>?_⟩;rw[j];simp
  .refine⟨y::r,by rw[Bb f];rfl,Fh.2 ⟨λz m=>?_,r2⟩,λz=>?_⟩
   .have rxy:R x y:=(n y AO).elim (λe=>absurd e.symm f) id;rcases Ak.1 m with e|k
    .rw[e];exact rxy
    .have ryz:=(Fh.1 r2).1 z k;exact h.tr x AO y AO z (Bg _<|(j z).1 m) rxy ryz
   .rw[Ak,j];simp
theorem agh{e:α×α->A9 Bool}(d:∀a∈l,∀b∈l,e (a,b)=some (decide<|a=b))(f:l.Pairwise (λa b=>a=b\/R a b))(h:KH c R l):∃r,XF l e=some r/\r.Pairwise R/\∀z,z∈r↔z∈l:=by
 cases l with
 |nil=>exact⟨[],rfl,List.Pairwise.nil,λz=>Iff.rfl⟩
 |cons x l=>let⟨r,r1,r2,g⟩:=yX d f h;refine⟨x::r,?_,r2,g⟩;show bd (VW (λa b=>e (a,b)) x l) _=_;rw[r1];rfl
theorem w7{m:A3 α}(o:l.Pairwise R)(p:m.Pairwise R)(i:∀x∈l,∀y∈l,R x y-> ¬R y x)(h:∀z,z∈l↔z∈m):l=m:=by
 induction l generalizing m with
 |nil=>cases m with|nil=>rfl|cons y m=>exact absurd ((h y).2 Ca) AO
 |cons x l ih=>
  cases m with
  |nil=>exact absurd ((h x).1 Ca) AO
  |cons y m=>
   let⟨l1,q⟩:=Fh.1 o;let⟨n,r⟩:=Fh.1 p;have f:∀z∈x::l,¬R z z:=λz d k=>i z d z d k k
   have j:x=y:=by
    refine CB λg=>?_
    have a:x∈m:=by
     rcases Ak.1 ((h x).1 Ca) with e|e
     .exact absurd e g
     .exact e
    have b:y∈l:=by
     rcases Ak.1 ((h y).2 Ca) with e|e
     .exact absurd e.symm g
     .exact e
    exact i x Ca y (Bg _ b) (l1 y b)<|n x a
   subst j
   congr 1
   refine ih q r (λa s b u=>i a (Bg _ s) b<|Bg _ u) λz=>?_
   constructor
   .intro d;rcases Ak.1 ((h z).1<|Bg _ d) with e|e
    .rw[e] at d;exact absurd (l1 _ d)<|f _ Ca
    .exact e
   .intro d;rcases Ak.1 ((h z).2<|Bg _ d) with e|e
    .rw[e] at d;exact absurd (n _ d)<|f _ Ca
    .exact e
end
section
variable{p:Q3}{a:Rat}{L:A3 H3}{x y m:Rat}{M:A3 H3}{n v w b:Q3}{S:A3 BY}{k:Rat}{c:Q3}{l:A3 Q3}{u:Q3}{s:A3 Q3}
def Dv(a b:Q3):Prop:=a.1<b.1\/a.1=b.1/\(a.2.1<b.2.1\/a.2.1=b.2.1/\a.2.2<b.2.2)
theorem OD(a:Q3): ¬Dv a a:=by unfold Dv;grind
theorem qO{a:Q3}:Dv a b->Dv b c->Dv a c:=by unfold Dv;grind
theorem zV(a b:Q3):a=b\/Dv a b\/Dv b a:=by
 by_cases h:a=b
 .exact .inl h
 .right;have: ¬(a.1=b.1/\a.2.1=b.2.1/\a.2.2=b.2.2):=λk=>h<|Hi k.1 k.2.1 k.2.2
  unfold Dv;grind
def ajr{c:Q3×Q3->A9 Int}(h:∀x∈l,∀y∈l,∃v,c (x,y)=some v/\(v<0↔Dv x y)):KH c Dv l:=⟨h,λx _=>OD x,λx _ y _ z _=>qO,λx _ y _=>zV x y⟩
theorem wL(e:n≠o3)(f:AI n u=0)(h:AI n v=0)(i:AI n w=0):BG v (AI n<|AZ u w)=BK (BG u<|AI n<|AZ v w) (BG w<|AI n<|AZ u v):=by
 have j:=Jk e;have d:Cq u v w*AI n n=0:=by
  have:Cq u v w*AI n n=AI n (AZ v w)*AI n u-AI n (AZ u w)*AI n v+AI n (AZ u v)*AI n w:=by unfold Cq AI AZ;grind
  rw[this,f,h,i];grind
 have d:Cq u v w=0:=by
  rcases Fx.1 d with g|g
  .exact g
  .grind
 unfold Cq at d;refine Hi ?_ ?_ ?_<;>simp only[BG,BK]
 .have:u.1*AI n (AZ v w)+w.1*AI n (AZ u v)-v.1*AI n (AZ u w)=AI (AZ u v) w*n.1:=by unfold AI AZ;grind
  rw[d] at this;grind
 .have:u.2.1*AI n (AZ v w)+w.2.1*AI n (AZ u v)-v.2.1*AI n (AZ u w)=AI (AZ u v) w*n.2.1:=by unfold AI AZ;grind
  rw[d] at this;grind
 .have:u.2.2*AI n (AZ v w)+w.2.2*AI n (AZ u v)-v.2.2*AI n (AZ u w)=AI (AZ u v) w*n.2.2:=by unfold AI AZ;grind
  rw[d] at this;grind
def Oy(u:Q3):Prop:=0<u.1\/u.1=0/\(0<u.2.1\/u.2.1=0/\0<u.2.2)
theorem mY{a:Q3}(h:Dv a b):Oy (Ae b a):=by grind [Dv,Oy,Ae]
theorem alp{b:Rat}(g:Oy u)(i:Oy w)(d:0<a)(e:0<b):Oy (BK (BG u a)<|BG w b):=by
 have m:∀x c:Rat,0<c->(0<x->0<x*c)/\(x=0->x*c=0):=λx c f=>⟨λh=>Ed h f,λh=>by rw[h];grind⟩
 have j:=m u.1 a d;have o:=m u.2.1 a d;have a3:=m u.2.2 a d;have q:=m w.1 b e;have b2:=m w.2.1 b e;have b3:=m w.2.2 b e;unfold Oy at*;unfold BK BG;dsimp only
 grind
theorem ann(e:Oy v)(h:Oy (BG v a)):0<a:=by
 refine CB λc=>?_
 have m:∀x:Rat,0<=x->x*a<=0:=λx d=>by have:=Cr d (show 0<= -a by grind);grind
 have f:=m v.1;have i:=m v.2.1;have j:=m v.2.2;have z:∀x:Rat,0<x->x*a=0->a=0:=λx d h=>by
  rcases Fx.1 h with g|g
  .grind
  .exact g
 have o:=z v.1;have q:=z v.2.1;unfold Oy at*;unfold BG at h;dsimp only at h
 grind
theorem aaP{a:Q3}{d:Rat}(h:n≠o3)(e:val (n,d) p=0)(i:val (n,d) a=0)(j:val (n,d) b=0)(o:val (n,d) c=0)(q:Dv p a)(z:Dv p b)(A:Dv p c)(f:0<BZ n p a b)(g:0<BZ n p b c):0<BZ n p a c:=by have B:=val_sub (n,d) p a;have C:=val_sub (n,d) p b;have D:=val_sub (n,d) p c;rw[e,i] at B;rw[e,j] at C;rw[e,o] at D;have r:=wL h (u:=Ae a p) (v:=Ae b p) (w:=Ae c p) AK AK AK;unfold BZ at f g⊢;refine ann (mY z) (v:=Ae b p) ?_;rw[r];exact alp (mY q) (mY A) g f
theorem aku{f:H3}(o:f.1≠o3)(r:BW L p)(q:val f p=0)(d:∀x∈l,BW L x/\val f x=0/\Dv p x){c:Q3×Q3->A9 Int}(A:∀x∈l,∀y∈l,∃v,c (x,y)=some v/\(v<0↔0<BZ f.1 p x y)):KH c (λx y=>0<BZ f.1 p x y) l:=by
 refine⟨A,λx _ h=>?_,λx g y i z B C D=>?_,λx g y i=>?_⟩
 .rw[Lz] at h;grind
 .let⟨_,j,a3⟩:=d x g;let⟨_,b2,b3⟩:=d y i;let⟨_,E,F⟩:=d z B;exact aaP o q j b2 E a3 b3 F C D
 .by_cases e:x=y
  .exact .inl e
  .right;let⟨G,j,a3⟩:=d x g;let⟨H,b2,b3⟩:=d y i;have h:=oJ o r G H q j b2 (λe=>OD p (by rw[<-e] at a3;exact a3)) (λe=>OD p (by rw[<-e] at b3;exact b3)) e;have s:BZ f.1 p y x= -BZ f.1 p x y:=by unfold BZ AI AZ Ae;grind
   rw[s];grind
theorem bj{α:Type}{R:α->α->Prop}{l:A3 α}(h:l.Pairwise R){a b:α}(s:[a,b].Sublist l):R a b:=by grind
theorem wF{f:H3}(q:f.1≠o3)(d:∀x∈p::s,BW L x/\val f x=0)(e:s.Pairwise λx y=>0<BZ f.1 p x y):DO f.1 (p::s):=by
 intro a b c h;cases h with
 |cons_cons _ h=>exact bj e h
 |cons _ h=>
  have T:=bj e<|(((OI [c]).cons_cons b).cons_cons a).trans h
  have bc:=bj e<|((List.sublist_cons_self a [b,c])).trans h
  have A:=bj e<|(((List.sublist_cons_self b [c])).cons_cons a).trans h
  have g:∀x,x∈[a,b,c]->x∈p::s:=λx B=>Bg _<|h.subset B
  let⟨C,i⟩:=d p Ca;let⟨D,E⟩:=d a<|g a AO
  let⟨F,G⟩:=d b<|g b AO
  let⟨vc,H⟩:=d c<|g c AO
  refine CB λU=>?_
  have I:=val_sub f p a;have J:=val_sub f p b;have K:=val_sub f p c;rw[i,E] at I;rw[i,G] at J;rw[i,H] at K;have r:=wL q (u:=Ae a p) (v:=Ae b p) (w:=Ae c p) AK AK AK;have o:BZ f.1 a b c=BZ f.1 p b c-BZ f.1 p a c+BZ f.1 p a b:=by unfold BZ AI AZ Ae;grind
  have:a=c:=by
   refine NQ<|F.2 _ λh j N=>?_
   have k:=congrArg (AI h.1) r;rw[Ef,LD,Ef,Ef,val_sub,val_sub,val_sub,N] at k;change BZ f.1 p a c*(0-val h p)=BZ f.1 p b c*(val h a-val h p)+BZ f.1 p a b*(val h c-val h p) at k;have x:=C.1 h j;have y:=D.1 h j;have z:=vc.1 h j;have O:=Cr (show 0<= -BZ f.1 a b c by grind) (show 0<= -val h p by grind);have V:=Cr (show 0<=BZ f.1 p b c by grind) (show 0<= -val h a by grind);have W:=Cr (show 0<=BZ f.1 p a b by grind) (show 0<= -val h c by grind);rw[o] at O;have P:BZ f.1 p b c*val h a=0:=AK;have Q:BZ f.1 p a b*val h c=0:=AK;rw[val_sub];rcases Fx.1 P with g|g
   .grind
   .rcases Fx.1 Q with g'|g'
    .grind
    .rw[g,g'];grind
  rw[this,Lz] at A
  grind
def yQ(h:DO n (p::s)):s.Pairwise λx y=>0<BZ n p x y:=List.pairwise_iff_forall_sublist.2 λ{a b} k=>h p a b<|k.cons_cons p
theorem aok{r:A3 Q3}(d:DO n (p::s))(e:DO n (p::r))(h:∀z,z∈s↔z∈r):s=r:=by
 refine w7 (yQ d) (yQ e) (λx f y g a b=>?_) h;have:BZ n p y x= -BZ n p x y:=by unfold BZ AI AZ Ae;grind
 grind
def Cu(a:Rat):A3 H3:=[((-1,0,0),a),((1,0,0),a),((0,-1,0),a),((0,1,0),a),((0,0,-1),a),((0,0,1),a)]
theorem MI(a:Rat)(p:Q3):val ((-1,0,0),a) p= -p.1-a:=by unfold val AI;grind
theorem MH(a:Rat)(p:Q3):val ((1,0,0),a) p=p.1-a:=by unfold val AI;grind
theorem MG(a:Rat)(p:Q3):val ((0,-1,0),a) p= -p.2.1-a:=by unfold val AI;grind
theorem MF(a:Rat)(p:Q3):val ((0,1,0),a) p=p.2.1-a:=by unfold val AI;grind
theorem ME(a:Rat)(p:Q3):val ((0,0,-1),a) p= -p.2.2-a:=by unfold val AI;grind
theorem MD(a:Rat)(p:Q3):val ((0,0,1),a) p=p.2.2-a:=by unfold val AI;grind
def Ju{P:H3->Prop}:(∀h∈Cu a,P h)↔P ((-1,0,0),a)/\P ((1,0,0),a)/\P ((0,-1,0),a)/\P ((0,1,0),a)/\P ((0,0,-1),a)/\P ((0,0,1),a):=by unfold Cu;simp
def an0{P:H3->Prop}:(∃h∈Cu a,P h)↔P ((-1,0,0),a)\/P ((1,0,0),a)\/P ((0,-1,0),a)\/P ((0,1,0),a)\/P ((0,0,-1),a)\/P ((0,0,1),a):=by unfold Cu;simp
theorem ajq:Mem (Cu a) p↔(-a<=p.1/\p.1<=a)/\(-a<=p.2.1/\p.2.1<=a)/\ -a<=p.2.2/\p.2.2<=a:=by unfold Mem;rw[Ju,MI,MH,MG,MF,ME,MD];grind
theorem Rp(f:0<a):BW (Cu a) p↔(p.1=a\/p.1= -a)/\(p.2.1=a\/p.2.1= -a)/\(p.2.2=a\/p.2.2= -a):=by
 unfold BW;rw[ajq];constructor
 .rintro⟨h,k⟩;have g:∀x:Rat,AI (-1,0,0) (1,0,0)= -1:=λ_=>by unfold AI;grind
  refine⟨CB λc=>?_,CB λc=>?_,CB λc=>?_⟩
  .have:=k (1,0,0) (by rw[Ju,MI,MH,MG,MF,ME,MD];unfold AI;grind);exact Xg this
  .have:=k (0,1,0) (by rw[Ju,MI,MH,MG,MF,ME,MD];unfold AI;grind);have:=congrArg (λx:Q3=>x.2.1) this;simp only[o3] at this;grind
  .have:=k (0,0,1) (by rw[Ju,MI,MH,MG,MF,ME,MD];unfold AI;grind);have:=congrArg (λx:Q3=>x.2.2) this;simp only[o3] at this;grind
 .rintro⟨h1,h2,h3⟩;refine⟨AK,λd e=>?_⟩;rw[Ju,MI,MH,MG,MF,ME,MD] at e;unfold AI at e;dsimp only at e;exact VT AK AK AK
theorem yU(a:Rat):Dp (Cu a):=λd e=>by rw[an0];unfold AI;refine CB λc=>e (VT ?_ ?_ ?_)<;>grind
theorem Rq{a:Q3}(d:a∈l)(e:b∈l)(f:c∈l)(g:a≠b)(h:a≠c)(i:b≠c):3<=l.length:=by match l,d,e,f with|[x],d,e,f=>simp at d e f;exact absurd (d.trans e.symm) g|[x,y],d,e,f=>simp at d e f;grind|_::_::_::_,_,_,_=>simp
def LZ(a:Rat)(f:Rat->Rat->Q3):A3 Q3:=[f (-a)<| -a,f (-a) a,f a<| -a,f a a]
theorem xZ{f:Rat->Rat->Q3}:p∈LZ a f↔∃x y,(x=a\/x= -a)/\(y=a\/y= -a)/\p=f x y:=by(simp_all [LZ]<;>grind)
theorem aiY(A:0<a)(B:S.map Prod.fst=Cu a)(C:∀f∈S,DO f.1.1 f.2/\∀p,p∈f.2↔BW (Cu a) p/\val f.1 p=0):By S (Cu a):=by
 have q:∀f∈S,f.1∈Cu a:=λf o=>by rw[<-B];exact B4.2 ⟨f,o,rfl⟩
 have I:(Cu a).Pairwise (· ≠ ·):=by
  have:((Cu a).map Prod.fst).Pairwise (· ≠ ·):=by
   show List.Pairwise (· ≠ ·) ([(-1,0,0),(1,0,0),(0,-1,0),(0,1,0),(0,0,-1),(0,0,1)]:A3 Q3)
   decide
  exact(J7.1 this).imp λ{a b} h e=>h<|congrArg Prod.fst e
 have r:∀h∈Cu a,h.2=a:=by rw[Ju];exact⟨rfl,rfl,rfl,rfl,rfl,rfl⟩
 refine⟨yU a,⟨o3,?_⟩,?_,?_,λf o=>?_,?_,λp J K=>?_⟩
 .rw[Ju,MI,MH,MG,MF,ME,MD];unfold o3;dsimp;grind
 .rw[Ju];unfold o3;simp[ne_eq,Iv];grind
 .intro h mh k mk hk;let⟨s,s0,e⟩:=hk;have:=r h mh;have D:=r k mk;have N:k.2=h.2*s:=by rw[e]
  have:s=1:=by have:a*(s-1)=0:=AK;rcases Fx.1 this with g|g<;>grind
  subst this;rw[e];refine Prod.ext (Hi ?_ ?_ ?_) ?_<;>simp[BG]<;>grind
 .let⟨c1,c2⟩:=C f o;refine⟨q f o,c1,?_,c2⟩;have one:∀x y z:Rat,(x=a\/x= -a)->(y=a\/y= -a)->(z=a\/z= -a)->val f.1 (x,y,z)=0->(x,y,z)∈f.2:=λx y z E F G H=>(c2 _).2 ⟨(Rp A).2 ⟨E,F,G⟩,H⟩
  have d:a≠ -a:=AK;have o:=q f o;have i:a=a\/a= -a:= .inl rfl;have j: -a=a\/ -a= -a:= .inr rfl
  generalize f.1=h at*
  simp[Cu,Ak,QL,or_false] at o;rcases o with e|e|e|e|e|e<;>subst e
  .exact Rq (one (-a) a a j i i (by rw[MI];grind)) (one (-a) a (-a) j i j (by rw[MI];grind)) (one (-a) (-a) a j j i (by rw[MI];grind)) (by simp[d]) (by simp[d]) (by simp[d])
  .exact Rq (one a a a i i i (by rw[MH];grind)) (one a a (-a) i i j (by rw[MH];grind)) (one a (-a) a i j i (by rw[MH];grind)) (by simp[d]) (by simp[d]) (by simp[d])
  .exact Rq (one a (-a) a i j i (by rw[MG];grind)) (one a (-a) (-a) i j j (by rw[MG];grind)) (one (-a) (-a) a j j i (by rw[MG];grind)) (by simp[d]) (by simp[d]) (by simp[d])
  .exact Rq (one a a a i i i (by rw[MF];grind)) (one a a (-a) i i j (by rw[MF];grind)) (one (-a) a a j i i (by rw[MF];grind)) (by simp[d]) (by simp[d]) (by simp[d])
  .exact Rq (one a a (-a) i i j (by rw[ME];grind)) (one a (-a) (-a) i j j (by rw[ME];grind)) (one (-a) a (-a) j i j (by rw[ME];grind)) (by simp[d]) (by simp[d]) (by simp[d])
  .exact Rq (one a a a i i i (by rw[MD];grind)) (one a (-a) a i j i (by rw[MD];grind)) (one (-a) a a j i i (by rw[MD];grind)) (by simp[d]) (by simp[d]) (by simp[d])
 .grind
 .grind
def H4(x:Rat):Prop:=∃z:Int,x=(z:Rat)
def H4.mul:H4 x->H4 y->H4 (x*y)|⟨a,ha⟩,⟨b,hb⟩=>⟨a*b,by rw[ha,hb,Rat.intCast_mul]⟩
def H4.add:H4 x->H4 y->H4 (x+y)|⟨a,ha⟩,⟨b,hb⟩=>⟨a+b,by rw[ha,hb,Rat.intCast_add]⟩
def H4.sub:H4 x->H4 y->H4 (x-y)|⟨a,ha⟩,⟨b,hb⟩=>⟨a-b,by rw[ha,hb,Rat.intCast_sub]⟩
def Lb(v:Q3):Prop:=H4 v.1/\H4 v.2.1/\H4 v.2.2
def Lb.Yo(h:Lb v)(k:Lb w):Lb (AZ v w):=⟨(h.2.1.mul k.2.2).sub<|h.2.2.mul k.2.1,(h.2.2.mul k.1).sub<|h.1.mul k.2.2,(h.1.mul k.2.1).sub<|h.2.1.mul k.1⟩
def Lb.dot(h:Lb v)(k:Lb w):H4 (AI v w):=((h.1.mul k.1).add<|h.2.1.mul k.2.1).add<|h.2.2.mul k.2.2
def H4.one(h:H4 x)(d:x≠0):1<=x\/x<= -1:=by
 obtain⟨z,rfl⟩:=h;have:z≠0:=λe=>d (by rw[e];rfl)
 rcases Int.lt_or_gt_of_ne this with h|h
 .right;have:=Rat.intCast_le_intCast.2 (show z<= -1 by omega);simpa using this
 .left;have:=Rat.intCast_le_intCast.2 (show 1<=z by omega);simpa using this
def wi(x m:Rat):Prop:= -m<=x/\x<=m
theorem wi.mul(h:wi x m)(g:wi y k):wi (x*y) (m*k):=by let⟨a,b⟩:=h;let⟨c,d⟩:=g;have e:=Cr (show 0<=m-x by grind) (show 0<=k+y by grind);have f:=Cr (show 0<=m+x by grind) (show 0<=k-y by grind);have i:=Cr (show 0<=m-x by grind) (show 0<=k-y by grind);have j:=Cr (show 0<=m+x by grind) (show 0<=k+y by grind);constructor<;>grind
theorem wi.add(h:wi x m)(g:wi y k):wi (x+y) (m+k):=by unfold wi at*;grind
theorem wi.sub(h:wi x m)(g:wi y k):wi (x-y) (m+k):=by unfold wi at*;grind
def wi3(v:Q3)(m:Rat):Prop:=wi v.1 m/\wi v.2.1 m/\wi v.2.2 m
def wi3.Yo(h:wi3 v m)(g:wi3 w k):wi3 (AZ v w) (m*k+m*k):=⟨(h.2.1.mul g.2.2).sub<|h.2.2.mul g.2.1,(h.2.2.mul g.1).sub<|h.1.mul g.2.2,(h.1.mul g.2.1).sub<|h.2.1.mul g.1⟩
theorem aoI(h:1<=x\/x<= -1):wi x⁻¹ 1:=by
 have e:=dr x AK
 generalize x⁻¹ =i at e
 constructor
 .refine CB λc=>?_
  rcases h with g|g
  .have:=Cr (show 0<=x-1 by grind) (show 0<= -i by grind);grind
  .have:=Cr (show 0<= -1-x by grind) (show 0<= -i-1 by grind);grind
 .refine CB λc=>?_
  rcases h with g|g
  .have:=Cr (show 0<=x-1 by grind) (show 0<=i-1 by grind);grind
  .have:=Cr (show 0<= -1-x by grind) (show 0<=i by grind);grind
theorem am3{a b c:H3}{D:Rat}(q:Lb a.1)(r:Lb b.1)(A:Lb c.1)(e:wi3 a.1 m/\wi a.2 D)(f:wi3 b.1 m/\wi b.2 D)(g:wi3 c.1 m/\wi c.2 D)(B:Cq a.1 b.1 c.1≠0):wi3 (Gq a b c) (6*(m*m*D)):=by
 have hi:=aoI<|H4.one ((q.Yo r).dot A) B
 have h:=f.1.Yo g.1;have j:=g.1.Yo e.1;have o:=e.1.Yo f.1;unfold Gq Cq
 generalize (AI (AZ a.1 b.1) c.1)⁻¹ =i at hi
 have d:∀{x y z:Rat},wi x (m*m+m*m)->wi y (m*m+m*m)->wi z (m*m+m*m)->wi ((x*a.2+y*b.2+z*c.2)*i) (6*(m*m*D)):=λC E F=>by
  have:=(((C.mul e.2).add<|E.mul f.2).add<|F.mul g.2).mul hi;unfold wi at this⊢
  grind
 exact⟨d h.1 j.1 o.1,d h.2.1 j.2.1 o.2.1,d h.2.2 j.2.2 o.2.2⟩
theorem amR(q:Dp L){D:Rat}(f:0<m)(r:0<D)(e:∀k∈L,Lb k.1/\wi3 k.1 m/\wi k.2 D)(z:Mem L p):∀h∈Cu (7*(m*m*D)),val h p<0:=by
 have K:=Ed (Ed f f) r;have key:∀c:Q3,∃v,wi3 v (6*(m*m*D))/\AI c p<=AI c v:=λc=>by let⟨v,v1,g,_⟩:=MC q z c;obtain⟨_,a,A,b,B,d,C,E,rfl⟩:=UH.1 v1;let⟨F,G⟩:=e a A;let⟨H,I⟩:=e b B;let⟨id,J⟩:=e d C;exact⟨_,am3 F H id G I J E,g⟩
 unfold wi3 wi at key;rw[Ju,MI,MH,MG,MF,ME,MD];let⟨v1,k1⟩:=key (-1,0,0);let⟨g,i⟩:=key (1,0,0);let⟨v3,k3⟩:=key (0,-1,0);let⟨v4,j⟩:=key (0,1,0);let⟨v5,k5⟩:=key (0,0,-1);let⟨N,o⟩:=key (0,0,1);unfold AI at k1 i k3 j k5 o;dsimp only at k1 i k3 j k5 o
 grind
theorem By.drop{C:A3 H3}(I:By S M)(i:∀k,k∈M↔k∈L\/k∈C)(A:Dp L)(B:∀p,Mem L p->∀h∈C,val h p<0):By S L/\∀p,Mem L p↔Mem M p:=by
 have j:∀p,Mem L p↔Mem M p:=λp=>by
  constructor
  .intro h k g;rcases(i k).1 g with m|m
   .exact h k m
   .grind
  .exact λh k g=>h k<|(i k).2<| .inl g
 have D:∀p,BW M p↔BW L p:=λp=>by
  constructor
  .rintro⟨h1,h2⟩;refine⟨(j p).2 h1,λd z=>h2 d λk g q=>?_⟩;rcases(i k).1 g with m|m
   .exact z k m q
   .grind
  .rintro⟨h1,h2⟩;exact⟨(j p).1 h1,λd z=>h2 d λk g q=>z k ((i k).2<| .inl g) q⟩
 refine⟨⟨A,?_,λh r=>I.nz h<|(i h).2<| .inl r,λh r k g=>I.norm h ((i h).2<| .inl r) k<|(i k).2<| .inl g,λf E=>?_,I.Ld,λp F G=>?_⟩,j⟩
 .obtain⟨o,ho⟩:=I.int;exact⟨o,λh r=>ho h<|(i h).2<| .inl r⟩
 .obtain⟨f1,f2,f3,f4⟩:=I.Ck f E;refine⟨?_,f2,f3,λp=>by rw[f4,D]⟩;rcases(i _).1 f1 with m|m
  .exact m
  .obtain⟨p,mp⟩:=YG f.2 (λe=>by rw[e] at f3;simp at f3);obtain⟨H,J⟩:=(f4 p).1 mp;have:=B p ((j p).2 H.1) _ m
   grind
 .obtain⟨k,g,q⟩:=G;exact I.cover p ((j p).1 F) ⟨k,(i k).2<| .inl g,q⟩
theorem aki(I:By S M)(i:∀k,k∈M↔k∈L\/k∈Cu a)(D:0<a)(E:∀k∈L,0<k.2)(F:Dp L->∀p,Mem L p->∀h∈Cu a,val h p<0):Dp L↔∀f∈S,f.1∈L:=by
 constructor
 .intro hb f j;exact((I.drop i hb<|F hb).1.Ck f j).1
 .intro hf d hd;refine CB λG=>?_
  have o:∀k∈L,AI k.1 d<=0:=λk e=>CB λc=>G ⟨k,e,AK⟩
  let⟨h,A,B,H⟩:=least (λh:H3=>0<AI h.1 d) (λh=>a/AI h.1 d) (Cu a)<|yU a d hd
  have C:∀h∈Cu a,h.2=a:=by rw[Ju];exact⟨rfl,rfl,rfl,rfl,rfl,rfl⟩
  have key:∀k:H3,0<AI k.1 d->a/AI k.1 d*AI k.1 d=a:=λk J=>LK AK
  have K:0<a/AI h.1 d:=by rw[N6];exact Ed D<|QB.2 B
  have N:=key h B
  generalize a/AI h.1 d=r at*
  have q:∀k:H3,val k (BG d r)=r*AI k.1 d-k.2:=λk=>by unfold val;rw[Ef]
  have z:∀k∈L,val k (BG d r)<0:=λk e=>by
   rw[q];have:=Cr (show 0<=r by grind) (show 0<= -AI k.1 d by have:=o k e;grind);have:=E k e
   grind
  let⟨f,j,O⟩:=I.cover (BG d r) (λk e=>by
   rcases(i k).1 e with m|m
   .grind
   .rw[q,C k m];by_cases g:0<AI k.1 d
    .have h2:=H k m g;have P:=key k g;have:=YJ h2<|EF g
     grind
    .have:=Cr (show 0<=r by grind) (show 0<= -AI k.1 d by grind)
     grind) ⟨h,(i h).2<| .inr A,by rw[q,C h A];grind⟩
  have:=z f.1<|hf f j
  grind
structure K8(L M:A3 H3):Prop where
 sub:∀h∈M,h∈L
 le:∀h∈L,∃k∈M,k.1=h.1/\k.2<=h.2
theorem anO{h k:H3}(e:k.1=h.1)(l:k.2<=h.2)(p:Q3):val h p<=val k p:=by unfold val;rw[e];grind
def K8.mem(h:K8 L M)(p:Q3):Mem M p↔Mem L p:=⟨λd x f=>by obtain⟨k,g,e,l⟩:=h.le x f;exact Xy (anO e l p)<|d k g,λd x f=>d x<|h.sub x f⟩
theorem K8.tight(h:K8 L M)(g:Mem M p){x:H3}(i:x∈L)(j:val x p=0):x∈M:=by obtain⟨k,d,e,l⟩:=h.le x i;have f:=g k d;have:k=x:=Prod.ext e (by unfold val at f j;rw[e] at f;grind);rw[<-this];exact d
def K8.EB(h:K8 L M)(p:Q3):BW M p↔BW L p:=
 ⟨λe=>⟨(h.mem p).1 e.1,λd g=>e.2 d λx i f=>g x (h.sub x i) f⟩,λe=>⟨(h.mem p).2 e.1,λd g=>e.2 d λx i f=>g x (h.tight ((h.mem p).2 e.1) i f) f⟩⟩
theorem Wu(I:By S L)(i:K8 L M){C:A3 Q3}(q:∀p,p∈C↔BW M p)(r:C.Nodup)(h:H3):h∈S.map (·.1)↔h∈M/\3<=(C.filter λp=>decide<|val h p=0).length:=by
 have d:∀p,p∈(C.filter λp=>decide<|val h p=0)↔BW L p/\val h p=0:=λp=>by rw[EG,q,i.EB,G0]
 constructor
 .intro mh;obtain⟨f,j,rfl⟩:=B4.1 mh;let⟨z,A,f3,B⟩:=I.Ck f j;have nd:=A.nodup f3;have g:∀p∈f.2,p∈(C.filter λp=>decide<|val f.1 p=0):=λp D=>(d p).2<|(B p).1 D
  match e:f.2,f3,nd,g with
  |a::b::c::l,_,nd,g=>
   have o:=(d a).1<|g a AO
   refine⟨i.tight ((i.mem a).2 o.1.1) z o.2,Rq (g a AO) (g b AO) (g c AO) ?_ ?_ ?_⟩
   .grind
   .grind
   .grind
 .rintro⟨mh,h3⟩;have nd:(C.filter λp=>decide<|val h p=0).Nodup:=r.sublist List.filter_sublist
  match e:C.filter λp=>decide<|val h p=0,h3,nd,d with
  |a::b::c::l,_,nd,d=>let⟨E,F⟩:=(d a).1 AO;let⟨G,H⟩:=(d b).1 AO;let⟨vc,J⟩:=(d c).1 AO;obtain⟨f,j,rfl⟩:=akL I (i.sub h mh) E G vc F H J (λe=>by rw[e] at nd;simp at nd) (λe=>by rw[e] at nd;simp at nd) (λe=>by rw[e] at nd;simp at nd);exact B4.2 ⟨f,j,rfl⟩
def GW(a:Q3)(A C:A3 Q3)(u n:Q3)(d:Int):Prop:=
 (d=0/\∀p∈C,p=a)\/(d=1/\(∃b∈A,u=Ae b a)/\u≠o3/\∀p∈C,AZ u (Ae p a)=o3)\/
 (d=2/\(∃b∈A,∃c∈A,n=AZ (Ae b a) (Ae c a))/\n≠o3/\∀p∈C,AI n (Ae p a)=0)
theorem GW.flat{a:Q3}{A C:A3 Q3}{f:Int}(h:GW a A C u n f):∃m:Q3,m≠o3/\∀p∈C,AI m p=AI m a:=by
 rcases h with⟨_,h⟩|⟨_,_,hu,h⟩|⟨_,_,hn,h⟩
 .exact⟨_,Xg,λp d=>by rw[h p d]⟩
 .let⟨m,hm,e⟩:=Tw u;refine⟨m,hm,λp d=>?_⟩;have k:=par hu<|h p d
  have:AI m (Ae p a)=0:=by rw[k,Ef,L6 m u,e];grind
  rw[Ux] at this;grind
 .refine⟨n,hn,λp d=>?_⟩;have:=h p d;rw[Ux] at this;grind
def aem{a:Q3}:Ae a a=o3:=F9
def aka(u:Q3):AZ u o3=o3:=F9
end
section
variable{a:Q3}{A C:List Q3}{u n:Q3}{p:Q3}
theorem GW.s0(h:GW a A C u n 0)(e:Ae p a=o3):GW a A (C++[p]) u n 0:=by grind [GW,Ae,o3]
theorem GW.s01(h:GW a A C u n 0)(d:p∈A)(e:Ae p a≠o3):GW a A (C++[p]) (Ae p a) n 1:=by
 rcases h with⟨_,h⟩|⟨h,_⟩|⟨h,_⟩
 .refine .inr (.inl ⟨rfl,⟨p,d,rfl⟩,e,λq f=>?_⟩);rcases Bi.1 f with m|m
  .rw[h q m,aem,aka]
  .rw[CW.1 m,Sc]
 .omega
 .omega
theorem GW.s1(h:GW a A C u n 1)(e:AZ u (Ae p a)=o3):GW a A (C++[p]) u n 1:=by
 rcases h with⟨h,_⟩|⟨_,h1,h2,h⟩|⟨h,_⟩
 .omega
 .refine .inr (.inl ⟨rfl,h1,h2,λq d=>?_⟩);rcases Bi.1 d with m|m
  .exact h q m
  .grind
 .omega
theorem GW.Db(h:GW a A C u n 1)(d:p∈A)(e:AZ u (Ae p a)≠o3):GW a A (C++[p]) u (AZ u<|Ae p a) 2:=by
 rcases h with⟨h,_⟩|⟨_,⟨b,mb,hb⟩,h2,h⟩|⟨h,_⟩
 .omega
 .refine .inr (.inr ⟨rfl,⟨b,mb,p,d,by rw[hb]⟩,e,λq f=>?_⟩);rcases Bi.1 f with m|m
  .rw[par h2<|h q m,Ef,L6 (AZ u<|Ae p a) u,mF];grind
  .rw[CW.1 m,L6,X5]
 .omega
theorem GW.s2(h:GW a A C u n 2)(e:AI n (Ae p a)=0):GW a A (C++[p]) u n 2:=by
 rcases h with⟨h,_⟩|⟨h,_⟩|⟨_,h1,h2,h⟩
 .omega
 .omega
 .refine .inr (.inr ⟨rfl,h1,h2,λq d=>?_⟩);rcases Bi.1 d with m|m
  .exact h q m
  .grind
theorem GW.s3(h:GW a A C u n 2)(e:AI n (Ae p a)≠0):∃b∈A,∃c∈A,Cq (Ae b a) (Ae c a) (Ae p a)≠0:=by
 rcases h with⟨h,_⟩|⟨h,_⟩|⟨_,⟨b,mb,c,mc,rfl⟩,_⟩
 .omega
 .omega
 .exact⟨b,mb,c,mc,e⟩
end
section
variable{M:A3 H3}{S:A3 BY}{p:Q3}{h:H3}{f:BY}{u v:Q3}{α:Type}{l:A3 Q3}{g:BY}
def IT{α:Type}[DecidableEq α]:∀{l T:A3 α},l.Nodup->(∀x∈l,x∈T)->l.length<=T.length
 |[],_,_,_=>EU _
 |x::l,T,hn,h=>by
  let⟨i,j⟩:=Ug.1 hn;have:=IT (l:=l) (T:=T.erase x) j λy d=>(List.mem_erase_of_ne (λe=>i (by rw[<-e];exact d))).2<|h y<|Bg _ d
  rw[List.length_erase_of_mem<|h x Ca] at this;have:0<T.length:=List.length_pos_of_mem<|h x Ca
  rw[DP];omega
def aqI(M:A3 H3):A3 Q3:=M.flatMap λa=>M.flatMap λb=>M.map λc=>Gq a b c
def aiz(M:A3 H3):(aqI M).length=M.length*(M.length*M.length):=by
 have flat:∀{α β:Type} (f:α->A3 β) (w:Nat) (l:A3 α),(∀x∈l,(f x).length=w)->(l.flatMap f).length=l.length*w:=by
  intro α β f w l
  induction l with|nil=>intro _;simp|cons x l ih=>intro h;rw[M7,DD,h x Ca,ih λy d=>h y<|Bg _ d,DP,QE,N8]
 exact flat _ _ _ λa _=>flat _ _ _ λb _=>BL _
def c7(d:l.Nodup)(h:∀p∈l,BW M p):l.length<=M.length*(M.length*M.length):=by
 rw[<-aiz];refine IT d λp e=>?_
 obtain⟨_,a,i,b,j,c,o,_,rfl⟩:=UH.1<|h p e
 exact JZ.2 ⟨a,i,JZ.2 ⟨b,j,B4.2 ⟨c,o,rfl⟩⟩⟩
def By.len(I:By S M):S.length<=M.length:=by
 rw[<-BL (·.1)];refine IT (J7.2<|I.Ld.imp λh=>h) λx d=>?_
 obtain⟨f,e,rfl⟩:=B4.1 d;exact(I.Ck f e).1
theorem zC{α:Type}{T:α->α->Prop}(s:∀a b,T a b->T b a):∀{L:A3 α} {a b:α},a≠b->a∈L->b∈L->T a b->∃x y,[y,x].Sublist L/\T x y
 |h::t,a,b,hne,ma,mb,ht=>by
  by_cases d:a=h
  .grind
  .have ma':a∈t:=(Ak.1 ma).resolve_left d;by_cases e:b=h
   .grind
   .let⟨x,y,h1,h2⟩:=zC s hne ma' ((Ak.1 mb).resolve_left e) ht;exact⟨x,y,h1.cons h,h2⟩
theorem aDe{α:Type}{T:α->α->α->Prop}(Db:∀a b c,T a b c->T b a c)(d:∀a b c,T a b c->T a c b):∀{L:A3 α} {a b c:α},a≠b->b≠c->a≠c->a∈L->b∈L->c∈L->T a b c->∃x y z,[z,y,x].Sublist L/\T x y z
 |h::t,a,b,c,i,j,o,q,r,mc,B=>by
  have two:∀{a b c:α},a≠b->b≠c->a≠c->c=h->a∈h::t->b∈h::t->T a b c->∃x y z,[z,y,x].Sublist (h::t)/\T x y z:=λ{a b c} i j o e q r B=>by let⟨x,y,k1,D⟩:=zC (T:=λa b=>T a b c) (λa b k=>Db _ _ _ k) i ((Ak.1 q).resolve_left λk=>o (by rw[k,e])) ((Ak.1 r).resolve_left λk=>j (by rw[k,e])) B;exact⟨x,y,c,by rw[e];exact k1.cons_cons h,D⟩
  by_cases E:c=h
  .grind
  .by_cases eb:b=h
   .grind
   .by_cases ea:a=h
    .grind
    .let⟨x,y,z,k1,D⟩:=aDe Db d i j o ((Ak.1 q).resolve_left ea) ((Ak.1 r).resolve_left eb) ((Ak.1 mc).resolve_left E) B;exact⟨x,y,z,k1.cons h,D⟩
theorem ahA{L:A3 H3}:BW L p↔Mem L p/\∃a b c,[c,b,a].Sublist L/\Cq a.1 b.1 c.1≠0/\p=Gq a b c:=by
 rw[UH];refine and_congr Iff.rfl ⟨?_,?_⟩
 .rintro⟨a,ma,b,mb,c,mc,hd,hp⟩;refine aDe (T:=λa b c:H3=>Cq a.1 b.1 c.1≠0/\p=Gq a b c) (λa b c h=>⟨by rw[vU];have:=h.1;grind,by rw[h.2,afO a b c h.1]⟩) (λa b c h=>⟨by rw[vT];have:=h.1;grind,by rw[h.2,afN a b c h.1]⟩) ?_ ?_ ?_ ma mb mc ⟨hd,hp⟩
  .intro e;refine hd ?_;rw[e];unfold Cq;rw[Sc];unfold AI o3;grind
  .intro e;refine hd ?_;rw[e];unfold Cq;rw[L6,X5]
  .intro e;refine hd ?_;rw[e];unfold Cq;rw[L6,mF]
 .grind
theorem lJ(I:By S M)(H:Mem M p)(mf:f∈S)(P:val f.1 p=0){g:H3}(mg:g∈M)(tg:val g p=0)(hc:AZ f.1.1 g.1≠o3):∃i∈S,i.1≠f.1/\val i.1 p=0:=by
 let⟨o,J⟩:=I.int;have Q:AI f.1.1 (AZ (AZ f.1.1 g.1) f.1.1)=0:=X5 _ _;have T:0<AI g.1 (AZ (AZ f.1.1 g.1) f.1.1):=by
  have:=Jk hc;have e:AI g.1 (AZ (AZ f.1.1 g.1) f.1.1)=AI (AZ f.1.1 g.1) (AZ f.1.1 g.1):=by unfold AI AZ;grind
  rw[e];exact this
 generalize AZ (AZ f.1.1 g.1) f.1.1=d at Q T
 let⟨k,U,⟨V,pk⟩,W⟩:=least (λk:H3=>val k p=0/\0<AI k.1 d) (λk=> -val k o/AI k.1 d) M ⟨g,mg,tg,T⟩;have X: -val k o/AI k.1 d*AI k.1 d= -val k o:=LK AK;have Y:0< -val k o/AI k.1 d:=by rw[N6];exact Ed (by have:=J k U;grind)<|QB.2 pk
 generalize hl: -val k o/AI k.1 d=r at X Y W
 have K:∀x:H3,val x p=0->AI x.1 (BK (Ae o p)<|BG d r)=val x o+r*AI x.1 d:=λx E=>by rw[LD,Ef,val_sub,E];grind
 let⟨e,e0,N⟩:=room H (w:=BK (Ae o p)<|BG d r) λx F E=>by
  rw[K x E];have vx:=J x F;by_cases Z:0<AI x.1 d
  .have G:=W x F ⟨E,Z⟩;have h2:=YJ G<|EF Z
   rw[LK AK] at h2
   grind
  .have:=Cr (EF Y) (show 0<= -AI x.1 d by grind)
   grind
 obtain⟨j,q,z⟩:∃j:Rat,0<j/\j<=e/\∀x∈M,val x p<0->val x (BK p<|BG (BK (Ae o p)<|BG d r) j)<0:=by
  have:=H
  generalize BK (Ae o p) (BG d r)=w at N
  have B:∀x∈M,val x p<0->val x (BK p<|BG w<|e/2)<0:=λx F vx=>by have G:=N e (EF e0) El x F;rw[JW] at G⊢;have e3:e/2*AI x.1 w=(1/2)*(e*AI x.1 w):=AK;rw[e3];grind
  exact⟨e/2,AK,AK,B⟩
 have q1:=N j (EF q) z.1;have tq:val k (BK p<|BG (BK (Ae o p)<|BG d r) j)=0:=by rw[JW,K k V,X,V];grind
 have fq:val f.1 (BK p<|BG (BK (Ae o p)<|BG d r) j)<0:=by
  rw[JW,K f.1 P,Q,P];have:=Ed q (show 0< -val f.1 o by have:=J f.1 (I.Ck f mf).1;grind)
  grind
 let⟨i,D,O⟩:=I.cover _ q1 ⟨k,U,tq⟩;refine⟨i,D,λe=>?_,?_⟩
 .rw[e] at O;grind
 .refine CB λhne=>?_
  have m1:=(I.Ck i D).1;have G:=H i.1 m1;have:=z.2 i.1 m1 AK
  grind
def mC(I:By S M)(e:f∈S)(i:g∈S)(d:f.1≠g.1)(j:val f.1 p=0)(q:val g.1 p=0):AZ f.1.1 g.1.1≠o3:=λr=>by let⟨o,z⟩:=I.int;exact d<|qA z I.nz I.norm (I.Ck f e).1 (I.Ck g i).1 r j q
theorem Pn(i:Mem M u)(j:Mem M v)(o:FK (val h u) (val h v)=true){k:H3}(d:k∈M):val k (Er h u v)=0↔val k u=0/\val k v=0:=by
 have t:=NS o;unfold Er;rw[Ek]
 generalize val h u/(val h u-val h v)=r at t
 have a:=Cr (show 0<=1-r by grind) (show 0<= -val k u by have:=i k d;grind);have b:=Cr (show 0<=r by grind) (show 0<= -val k v by have:=j k d;grind);constructor
 .intro e;have a0:(1-r)*val k u=0:=AK;have q:r*val k v=0:=AK;constructor
  .rcases Fx.1 a0 with x|x<;>grind
  .rcases Fx.1 q with x|x<;>grind
 .rintro⟨e1,e2⟩;rw[e1,e2];grind
theorem akQ(I:By S M)(o:BW M u)(q:BW M v)(O:val h u<0)(P:0<val h v)(F:f∈S)(G:g∈S)(z:f.1≠g.1)(B:val f.1 u=0)(H:val f.1 v=0)(D:val g.1 u=0)(J:val g.1 v=0):BW (h::M) (Er h u v)/\val h (Er h u v)=0:=by
 have i:FK (val h u) (val h v)=true:=IV.2<| .inl ⟨O,P⟩
 have t:=NS i;have E:=Xf i;have K:=(I.Ck f F).1;have N:=(I.Ck g G).1;have Q:=mC I F G z B D;let⟨s,T⟩:=along Q (d:=Ae v u) (by rw[val_sub,B,H];grind) (by rw[val_sub,D,J];grind);refine⟨ym (f:=f.1) (g:=g.1) (h:=h) (λk j=>?_) (Bg _ K) (Bg _ N) Ca ((Pn o.1 q.1 i K).2 ⟨B,H⟩) ((Pn o.1 q.1 i N).2 ⟨D,J⟩) E λe=>?_,E⟩
 .rcases Ak.1 j with e|j
  .rw[e,E];exact El
  .unfold Er;rw[Ek]
   generalize val h u/(val h u-val h v)=r at t
   have a:=Cr (show 0<=1-r by grind) (show 0<= -val k u by have:=o.1 k j;grind);have b:=Cr (show 0<=r by grind) (show 0<= -val k v by have:=q.1 k j;grind)
   grind
 .have hd:AI h.1 (Ae v u)=val h v-val h u:=val_sub h u v;rw[T,Ef,e] at hd
  grind
theorem yO(I:By S M){i j:Q3}(G:BW M u)(H:BW M v)(q:BW M i)(z:BW M j)(N:val h u<0)(h1:0<val h v)(B:val h i<0)(D:0<val h j)(O:f∈S)(P:g∈S)(J:f.1≠g.1)(E:val f.1 u=0)(Q:val f.1 v=0)(F:val g.1 u=0)(T:val g.1 v=0)
 (e:Er h u v=Er h i j):u=i/\v=j:=by
 have U:FK (val h u) (val h v)=true:=IV.2<| .inl ⟨N,h1⟩
 have V:FK (val h i) (val h j)=true:=IV.2<| .inl ⟨B,D⟩
 have W:=(I.Ck f O).1;have X:=(I.Ck g P).1;have Y:=mC I O P J E F;have Z:val f.1 i=0/\val f.1 j=0:=(Pn q.1 z.1 V W).1 (by rw[<-e];exact(Pn G.1 H.1 U W).2 ⟨E,Q⟩);have tg:val g.1 i=0/\val g.1 j=0:=(Pn q.1 z.1 V X).1 (by rw[<-e];exact(Pn G.1 H.1 U X).2 ⟨F,T⟩);have K:u≠v:=λe=>by rw[e] at N;grind
 have o:∀x,BW M x->val f.1 x=0->val g.1 x=0->x=u\/x=v:=λx hx fx gx=>by
  refine CB λc=>?_
  have c1:u≠x:=λe=>c<| .inl e.symm
  have c2:v≠x:=λe=>c<| .inr e.symm
  refine XK G H hx K c1 c2 ?_;let⟨s,hs⟩:=along Y (d:=Ae v u) (by rw[val_sub,E,Q];grind) (by rw[val_sub,F,T];grind);let⟨r,hr⟩:=along Y (d:=Ae x u) (by rw[val_sub,E,fx];grind) (by rw[val_sub,F,gx];grind);rw[hs,hr];exact F9
 constructor
 .rcases o i q Z.1 tg.1 with a|a
  .exact a.symm
  .rw[a] at B;grind
 .rcases o j z Z.2 tg.2 with a|a
  .rw[a] at D;grind
  .exact a.symm
theorem pe{w:Q3}(i:BW M u)(j:BW M v)(o:BW M w)(d:val h u<0)(q:0<val h v):Er h u v≠w:=λe=>by
 have t:=NS (x:=val h u) (y:=val h v)<|IV.2<| .inl ⟨d,q⟩
 have:=c8 o i.1 j.1 t.1 t.2.1 e.symm;rw[this] at d;grind
def age(I:By S M)(D:BW (h::M) p):BW M p\/∃u v,BW M u/\BW M v/\val h u<0/\0<val h v/\p=Er h u v/\∃f∈S,∃g∈S,f.1≠g.1/\val f.1 u=0/\val f.1 v=0/\val g.1 u=0/\val g.1 v=0:=by
 rcases nN I.HZ D with N|⟨V,u,v,E,F,G,e,H,f,J,g,O,K,P,Q⟩
 .exact .inl N
 .right;have r:Mem M p:=λk T=>D.1 k<|Bg _ T
  let⟨j,d,z⟩:=I.cover p r ⟨f,J,K⟩;have two:∃i∈S,i.1≠j.1/\val i.1 p=0:=by
   rcases indep (I.nz _ (I.Ck j d).1) Q with c|c
   .exact lJ I r d z J K c
   .exact lJ I r d z O P c
  let⟨i,B,ne,U⟩:=two;have o:=H _ (I.Ck j d).1 z;have q:=H _ (I.Ck i B).1 U;rcases IV.1 G with⟨x,y⟩|⟨x,y⟩
  .exact⟨u,v,E,F,x,y,e,i,B,j,d,ne,q.1,q.2,o.1,o.2⟩
  .exact⟨v,u,F,E,y,x,by rw[e];exact yS G,i,B,j,d,ne,q.2,q.1,o.2,o.1⟩
def an1{n:Q3}{A B:A3 Q3}(h:DO n (A++B)):DO n (B++A):=by
 intro a b c s;let⟨s1,s2,es,k1,d⟩:=Ut.1 s
 match s1,es with
 |[],es=>rw[Fy] at es;rw[<-es] at d;exact h a b c<|d.trans<|List.sublist_append_left A B
 |[x],es=>simp at es;obtain⟨rfl,rfl⟩:=es;rw[Q5];exact h b c a<|d.append k1
 |[x,y],es=>simp at es;obtain⟨rfl,rfl,rfl⟩:=es;rw[Q5,Q5];exact h c a b<|d.append k1
 |x::y::z::w,es=>simp at es;obtain⟨rfl,rfl,rfl,rfl,rfl⟩:=es;exact h a b c<|k1.trans<|YH A B
def GY:Q3->A3 Q3->Q3
 |_,[]=>o3|p,q::l=>BK (AZ p q)<|GY q l
def Qg:A3 Q3->Q3
 |[]=>o3|p::l=>GY p<|l++[p]
def ay(a b c:Q3):BK (BK a b) c=BK a (BK b c):=F9
def xB(a b:Q3):BK a b=BK b a:=F9
def VH(a:Q3):BK a o3=a:=F9
def aEv(a:Q3):BK o3 a=a:=by rw[xB,VH]
def yk:∀(p:Q3) (A:A3 Q3) (q:Q3) (B:A3 Q3),GY p (A++q::B)=BK (GY p<|A++[q]) (GY q B)
 |p,[],q,B=>by show BK (AZ p q) (GY q B)=BK (BK (AZ p q) o3) (GY q B);rw[VH]
 |p,a::A,q,B=>by show BK (AZ p a) (GY a (A++q::B))=BK (BK (AZ p a)<|GY a<|A++[q]) (GY q B);rw[yk a A q B,ay]
def ajJ(A B:A3 Q3):Qg (A++B)=Qg (B++A):=by
 cases A with
 |nil=>rw[Fy,HB]
 |cons a A=>
  cases B with
  |nil=>rw[Fy,HB]
  |cons b B=>
   have key:∀(a b:Q3) (A B:A3 Q3),Qg (a::A++b::B)=BK (GY a<|A++[b]) (GY b<|B++[a]):=λa b A B=>by show GY a ((A++b::B)++[a])=_;rw[Fz,OJ,yk]
   rw[key,key,xB]
theorem akW{n:Q3}{s:A3 Q3}(j:DO n (p::s))(i:DO n l)(o:3<=l.length)(q:(p::s).Nodup)(h:∀z,z∈p::s↔z∈l):Qg l=Qg (p::s):=by
 let⟨A,B,e⟩:=YB<|(h p).1 Ca
 subst e;have r:DO n (p::(B++A)):=an1 (A:=A) (B:=p::B) i;have nd:=i.nodup o;have D:(p::(B++A)).Nodup:=by have:=nd;have e:(A++p::B).Perm (p::B++A):=List.perm_append_comm;exact e.nodup_iff.1 this
 have e:s=B++A:=aok j r λz=>by
  have d:=h z;let⟨E,_⟩:=Ug.1 q;let⟨r1,_⟩:=Ug.1 D;have F:z∈A++p::B↔z=p\/z∈B++A:=by simp only[Bi,Ak];grind
  rw[F,Ak] at d;constructor
  .intro mz;rcases d.1 (.inr mz) with e|m
   .rw[e] at mz;exact absurd mz E
   .exact m
  .intro mz;rcases d.2 (.inr mz) with e|m
   .rw[e] at mz;exact absurd mz r1
   .exact m
 rw[ajJ A (p::B),e];rfl
def r8(l:A3 (Q3×Q3)):Q3:=l.foldl (λs x=>BK s<|AZ x.1 x.2) o3
def aDf(f:Q3):∀(l:A3 Q3) (a s:Q3),(Fl f (a::l)).foldl (λs x=>BK s<|AZ x.1 x.2) s=BK s (GY a<|l++[f])
 |[],a,s=>by show BK s (AZ a f)=BK s (BK (AZ a f) o3);rw[VH]
 |b::l,a,s=>by show(Fl f (b::l)).foldl (λs x=>BK s<|AZ x.1 x.2) (BK s<|AZ a b)=BK s (BK (AZ a b)<|GY b<|l++[f]);rw[aDf f l b,ay]
def ahJ:∀l:A3 Q3,r8 (D5 l)=Qg l
 |[]=>rfl
 |a::l=>by show(Fl a (a::l)).foldl (λs x=>BK s<|AZ x.1 x.2) o3=GY a (l++[a]);rw[aDf,aEv]
def JH(o:Q3):Q3->A3 Q3->Q3
 |_,[]=>o3|p,q::l=>BK (AZ (Ae p o)<|Ae q o)<|JH o q l
theorem yL(o:Q3):∀(l:A3 Q3) (p:Q3),BK (AZ o p) (GY p<|l++[o])=JH o p l
 |[],p=>Hi (by simp only[JH,GY,Fy,BK,AZ,o3];grind) (by simp only[JH,GY,Fy,BK,AZ,o3];grind) (by simp only[JH,GY,Fy,BK,AZ,o3];grind)
 |q::l,p=>by
  have ih:=yL o l q;show BK (AZ o p) (BK (AZ p q)<|GY q<|l++[o])=BK (AZ (Ae p o)<|Ae q o) (JH o q l);rw[<-ih]
  generalize GY q (l++[o])=w
  exact F9
def xW(o p:Q3)(l:A3 Q3):Qg (o::p::l)=JH o p l:=yL o l p
def o0(o x:Q3):∀(l:A3 Q3) (p y:Q3) (B:A3 Q3),p::l=B++[y]->JH o p (l++[x])=BK (JH o p l) (AZ (Ae y o)<|Ae x o)
 |[],p,y,B,e=>by
  have:p=y:=by cases B with|nil=>simpa using e|cons b B=>simp at e
  subst this;show BK _ o3=BK o3 _;rw[VH,aEv]
 |q::l,p,y,B,e=>by
  cases B with
  |nil=>simp at e
  |cons b B=>rw[OJ,List.cons.injEq] at e;show BK (AZ (Ae p o)<|Ae q o) (JH o q<|l++[x])=BK (BK (AZ (Ae p o)<|Ae q o)<|JH o q l) _;rw[o0 o x l q y B e.2,ay]
theorem bh{L:A3 H3}(O:Dp L){f:H3}(P:f∈L)(Q:f.1≠o3)(j:DO f.1 l)(o:3<=l.length)(z:∀p,p∈l↔BW L p/\val f p=0):l.length<=L.length:=by
 have U:∀s:Q3×Q3,∃g:H3,s∈D5 l->g∈L/\val g s.1=0/\val g s.2=0/\AZ f.1 g.1≠o3:=λs=>by
  by_cases I:s∈D5 l
  .let⟨g,h⟩:=mQ O P Q j o z I;exact⟨g,λ_=>h⟩
  .exact⟨f,λh=>absurd h I⟩
 let⟨G,B⟩:=Classical.axiomOfChoice U;have nd:(D5 l).Pairwise λs r=>s.1≠r.1:=by
  have:((D5 l).map Prod.fst).Nodup:=by rw[UB];exact j.nodup o
  exact J7.1 this
 have D:(D5 l).Pairwise λs r=>G s≠G r:=QO (λ{s r} q E F e=>by
  let⟨mg,s1,s2,J⟩:=B s q;let⟨_,r1,r2,_⟩:=B r E;rw[<-e] at r1 r2;let⟨V,W,a3,_⟩:=Jo j o q;let⟨X,b2,b3,_⟩:=Jo j o E;have i:∀x∈l,val (G s) x=0->x=s.1\/x=s.2:=λx H Y=>by
   refine CB λc=>?_
   let⟨Z,K⟩:=(z _).1 V;let⟨vv,fv⟩:=(z _).1 W;let⟨vx,fx⟩:=(z _).1 H;refine XK Z vv vx a3 (λe=>c<| .inl e.symm) (λe=>c<| .inr e.symm) ?_;let⟨t,ht⟩:=along J (d:=Ae s.2 s.1) (by rw[val_sub,K,fv];grind) (by rw[val_sub,s1,s2];grind);let⟨w,hw⟩:=along J (d:=Ae x s.1) (by rw[val_sub,K,fx];grind) (by rw[val_sub,s1,Y];grind);rw[ht,hw];exact F9
  have N:=(i r.1 X r1).resolve_left<|λe=>F e.symm
  have x2:r.2=s.1:=(i r.2 b2 r2).resolve_right λe=>b3 (by rw[N,e])
  have:(s.2,s.1)∈D5 l:=by rw[<-N,<-x2];exact E
  exact mR j o (a:=s.1) (b:=s.2) q this) nd
 have:=IT (l:=(D5 l).map G) (T:=L) (J7.2 D) λx H=>by obtain⟨s,q,rfl⟩:=B4.1 H;exact(B s q).1
 rw[BL] at this;have e:(D5 l).length=l.length:=by rw[<-BL (f:=Prod.fst),UB]
 omega
def sm{α:Type}(f:α->Rat):A3 α->Rat
 |[]=>0|x::l=>f x+sm f l
end
section
variable{α β:Type}{f g:α->Rat}{l m:List α}
theorem aDh:sm f (l++m)=sm f l+sm f m:=by induction l with|nil=>show _=0+_;grind|cons x l ih=>show f x+sm f (l++m)=f x+sm f l+sm f m;rw[ih];grind
theorem oW(h:l.Perm m):sm f l=sm f m:=by induction h with|nil=>rfl|cons x _ ih=>show f x+_=f x+_;rw[ih]|swap x y l=>show f y+(f x+_)=f x+(f y+_);grind|trans _ _ a b=>rw[a,b]
theorem xM(h:∀x∈l,f x=g x):sm f l=sm g l:=by
 induction l with
 |nil=>rfl
 |cons x l ih=>show f x+_=g x+_;rw[h x Ca,ih λy m=>h y<|Bg _ m]
theorem fY:sm (λx=>f x-g x) l=sm f l-sm g l:=by induction l with|nil=>show(0:Rat)=0-0;grind|cons x l ih=>show f x-g x+sm (λx=>f x-g x) l=f x+sm f l-(g x+sm g l);rw[ih];grind
theorem py{h:β->α}{l:A3 β}:sm f (l.map h)=sm (λx=>f<|h x) l:=by induction l with|nil=>rfl|cons x l ih=>show f (h x)+_=f (h x)+_;rw[ih]
theorem alS{h:β->A3 α}{l:A3 β}:sm f (l.flatMap h)=sm (λx=>sm f<|h x) l:=by induction l with|nil=>rfl|cons x l ih=>rw[M7,aDh,ih];rfl
theorem om[DecidableEq α](d:l.Nodup)(e:m.Nodup)(h:∀x,x∈l↔x∈m):l.Perm m:=(List.perm_ext_iff_of_nodup d e).2 λx=>h x
end
section
variable{S:A3 BY}{M:A3 H3}{l:A3 Q3}{n p o:Q3}
theorem nT(j:DO n l)(q:3<=l.length){a b:Q3}:(a,b)∈D5 l↔a∈l/\b∈l/\a≠b/\∀c∈l,c≠a->c≠b->0<BZ n a b c:=by
 refine⟨λh=>Jo j q h,λ⟨r,B,d,h⟩=>?_⟩;rw[<-UB l] at r;let⟨⟨z,x⟩,D,e⟩:=B4.1 r;dsimp only at e;subst e;let⟨_,E,F,i⟩:=Jo j q D;dsimp only at*;by_cases e:x=b
 .grind
 .have h1:=h x E (λc=>F c.symm) e;have G:=i b B (λc=>d c.symm) λc=>e c.symm
  have:BZ n z x b= -BZ n z b x:=by unfold BZ AI AZ Ae;grind
  grind
def ki(i:DO n l)(j:3<=l.length):(D5 l).Nodup:=by have h:=i.nodup j;rw[<-UB l] at h;exact(J7.1 h).imp λ{s t} d e=>d (by rw[e])
theorem afz{m:A3 Q3}(e:DO n l)(i:DO n m)(j:3<=l.length)(d:3<=m.length)(h:∀z,z∈l↔z∈m):(D5 l).Perm (D5 m):=
 om (ki e j) (ki i d) λ⟨a,b⟩=>by
  rw[nT e j,nT i d];constructor
  .grind
  .grind
theorem wA(I:By S M){f g:BY}(K:f∈S)(N:g∈S)(D:f.1≠g.1){q:Q3}(hs:(p,q)∈D5 f.2)(j:val g.1 p=0)(E:val g.1 q=0):(q,p)∈D5 g.2:=by
 let⟨O,P,f3,F⟩:=I.Ck f K;let⟨Q,g2,g3,G⟩:=I.Ck g N;let⟨mp,mq,z,hl⟩:=Jo P f3 hs;dsimp only at*;let⟨T,B⟩:=(F p).1 mp;let⟨U,V⟩:=(F q).1 mq;have W:=mC I K N D B j;have nf:=Jk<|I.nz _ O
 have ng:=Jk<|I.nz _ Q
 let⟨t,H⟩:=along W (d:=Ae q p) (by rw[val_sub,B,V];grind) (by rw[val_sub,j,E];grind);have i:∀x,BW M x->val f.1 x=0->val g.1 x=0->x=p\/x=q:=λx hx fx gx=>by
  refine CB λc=>?_
  refine XK T U hx z (λe=>c<| .inl e.symm) (λe=>c<| .inr e.symm) ?_;let⟨r,hr⟩:=along W (d:=Ae x p) (by rw[val_sub,B,fx];grind) (by rw[val_sub,j,gx];grind);rw[H,hr];exact F9
 have J:0<t:=by
  let⟨s,X,sp,Y⟩:=aaY (P.nodup f3) f3 p q;have o:=hl s X sp Y;let⟨vs,fs⟩:=(F s).1 X;have gs:val g.1 s<0:=by
   have:=vs.1 g.1 Q;have:val g.1 s≠0:=λe=>(i s vs fs e).elim sp Y
   grind
  have e1:BZ f.1.1 p q s=t*(AI f.1.1 g.1.1*AI f.1.1 (Ae s p)-AI f.1.1 f.1.1*AI g.1.1 (Ae s p)):=by unfold BZ;rw[H];unfold AI AZ BG;grind
  rw[val_sub,val_sub,fs,B,j] at e1;refine CB λc=>?_
  have:=Cr (show 0<= -t by grind) (Cr (EF nf) (show 0<= -val g.1 s by grind))
  grind
 refine(nT g2 g3).2 ⟨(G q).2 ⟨U,E⟩,(G p).2 ⟨T,j⟩,λe=>z e.symm,λr mr rq rp=>?_⟩;let⟨Z,gr⟩:=(G r).1 mr;have fr:val f.1 r<0:=by
  have:=Z.1 f.1 O;have:val f.1 r≠0:=λe=>(i r Z e gr).elim rp rq
  grind
 have e2:BZ g.1.1 q p r=t*(AI g.1.1 f.1.1*AI g.1.1 (Ae r q)-AI g.1.1 g.1.1*AI f.1.1 (Ae r q)):=by
  have:BZ g.1.1 q p r= -AI g.1.1 (AZ (Ae q p)<|Ae r q):=by unfold BZ AI AZ Ae;grind
  rw[this,H];unfold AI AZ BG;grind
 rw[val_sub,val_sub,gr,E,V] at e2;have:=Ed J (Ed ng (show 0< -val f.1 r by grind))
 grind
theorem aeT(I:By S M){q:Q3}(h:(p,q)∈S.flatMap λf=>D5 f.2):(q,p)∈S.flatMap λf=>D5 f.2:=by
 let⟨f,i,j⟩:=JZ.1 h;let⟨r,F,f3,z⟩:=I.Ck f i;let⟨K,N,O,_⟩:=Jo F f3 j;let⟨G,P⟩:=(z _).1 K;let⟨H,Q⟩:=(z _).1 N;let⟨k,J,T,U,V⟩:=mQ I.HZ r (I.nz _ r) F f3 z j;dsimp only at*;have d:∀h∈M,val h (D8 p q<|1/2)=1/2*val h p+1/2*val h q:=λh _=>by rw[Ek];grind
 let⟨g,B,W,X⟩:=lJ I (p:=D8 p q<|1/2) (λh D=>by rw[d h D];have:=G.1 h D;have:=H.1 h D;grind) i (by rw[d _ r,P,Q];grind) J (by rw[d k J,T,U];grind) V
 have E:=(I.Ck g B).1;rw[d _ E] at X;have a:=G.1 _ E;have b:=H.1 _ E;exact JZ.2 ⟨g,B,wA I i B (λe=>W e.symm) j AK AK⟩
def ag0(I:By S M):(S.flatMap λf=>D5 f.2).Nodup:=by refine eL.2 ⟨λf d=>ki (I.Ck f d).2.1 (I.Ck f d).2.2.1,I.Ld.imp_of_mem λ{f g} d j i x E y r e=>?_⟩;subst e;let⟨p,q⟩:=x;let⟨H,z,B,D⟩:=I.Ck g j;let⟨F,G,_,_⟩:=Jo z B r;exact mR z B r<|wA I d j i E ((D _).1 F).2 ((D _).1 G).2
theorem afy(I:By S M){G:Q3->Q3->Rat}(z:∀a b,G b a= -G a b):sm (λf:BY=>sm (λs=>G s.1 s.2)<|D5 f.2) S=0:=by
 have n:=ag0 I;have e:=alS (f:=λs:Q3×Q3=>G s.1 s.2) (h:=λf:BY=>D5 f.2) (l:=S);have c:∀{p q:Q3},(p,q)∈(S.flatMap λf=>D5 f.2)->(q,p)∈(S.flatMap λf=>D5 f.2):=λh=>aeT I h
 rw[<-e]
 generalize (S.flatMap λf=>D5 f.2)=P at*
 have B:(P.map λs:Q3×Q3=>(s.2,s.1)).Nodup:=J7.2 (n.imp λ{s t} i e=>i (by let⟨a,b⟩:=s;let⟨d,f⟩:=t;simp[Iv] at e;rw[e.1,e.2]))
 have p:=om n B λ⟨a,b⟩=>by
  rw[B4];constructor
  .grind
  .grind
 have j:=oW (f:=λs:Q3×Q3=>G s.1 s.2) p;rw[py] at j;have r:sm (λs:Q3×Q3=>G s.2 s.1) P=sm (λs=>(λ_=>0) s-G s.1 s.2) P:=xM λs _=>by rw[z s.1 s.2];grind
 rw[fY] at r;have D:∀Q:A3 (Q3×Q3),sm (λ_=>0) Q=0:=λQ=>by induction Q with|nil=>rfl|cons x l ih=>show 0+_=_;rw[ih];grind
 rw[D] at r;dsimp only at j
 grind
def kk(c:Rat)(w o a b d:Q3):Rat:=Cq (Ae a o) (Ae b o) (Ae d o)*(c+AI w (BK (BK o a)<|BK b d))
theorem zb(c:Rat)(w z o a b d:Q3):kk c w o a b d=kk c w z a b d-(kk c w z o a b+kk c w z o b d+kk c w z o d a):=by unfold kk Cq AI AZ BK Ae;grind
theorem pT(c:Rat)(w z o a b:Q3):kk c w z o b a= -kk c w z o a b:=by unfold kk Cq AI AZ BK Ae;grind
def JG(T:Q3->Q3->Rat):Q3->A3 Q3->Rat
 |_,[]=>0|p,q::l=>T p q+JG T q l
theorem vP{T H:Q3->Q3->Rat}{o:Q3}(d:∀a b,H b a= -H a b):∀{l:A3 Q3} {p:Q3},(∀a∈p::l,∀b∈p::l,T a b=H o a+H a b+H b o)->JG T p l=H o p+sm (λs:Q3×Q3=>H s.1 s.2) (Fl o (p::l))
 |[],p,_=>by show(0:Rat)=H o p+(H p o+0);rw[d o p];grind
 |q::l,p,h=>by
  show T p q+JG T q l=H o p+(H p q+sm _ (Fl o (q::l)));rw[vP d λa e b i=>h a (Bg _ e) b<|Bg _ i,h p AO q AO,d o q]
  grind
def aiW{T H:Q3->Q3->Rat}(d:∀a b,H b a= -H a b)(h:∀a∈p::l,∀b∈p::l,T a b=H o a+H a b+H b o):JG T p l=sm (λs:Q3×Q3=>H s.1 s.2) (D5 (o::p::l)):=vP d h
def Fj(c:Rat)(w z:Q3):A3 Q3->Rat
 |o::p::l=>JG (kk c w z o) p l|_=>0
theorem wg{c:Rat}{w z y e:Q3}{h:H3}(q:h.1≠o3)(d:∀x∈l,val h x=0)(i:val h e=0)(B:3<=l.length):Fj c w y l=sm (λs:Q3×Q3=>kk c w z e s.1 s.2-kk c w z y s.1 s.2) (D5 l):=by
 match l,B with
 |o::p::l,B=>
  refine aiW (H:=λa b=>kk c w z e a b-kk c w z y a b) (λa b=>by rw[pT c w z e,pT c w z y];grind) λa F b G=>?_
  have I:=d o AO;have J:=d a<|Bg _ F
  have K:=d b<|Bg _ G
  have j:kk c w e o a b=0:=by
   have D:=val_sub h e o;have E:=val_sub h e a;have z3:=val_sub h e b;rw[i,I] at D;rw[i,J] at E;rw[i,K] at z3;have r:=flat q (x:=Ae o e) (y:=Ae a e);have N:Cq (Ae o e) (Ae a e) (Ae b e)=0:=by
    have P:=Jk q;have O:Cq (Ae o e) (Ae a e) (Ae b e)*AI h.1 h.1=AI h.1 (AZ (Ae a e)<|Ae b e)*AI h.1 (Ae o e)-AI h.1 (AZ (Ae o e)<|Ae b e)*AI h.1 (Ae a e)+AI h.1 (AZ (Ae o e)<|Ae a e)*AI h.1 (Ae b e):=by unfold Cq AI AZ;grind
    rw[D,E,z3] at O;rcases Fx.1 (show Cq (Ae o e) (Ae a e) (Ae b e)*AI h.1 h.1=0 by grind) with g|g
    .exact g
    .grind
   unfold kk;rw[N];grind
  have k1:=zb c w z e o a b;have Q:=zb c w z y o a b;rw[j] at k1
  grind
theorem aDb(I:By S M)(c:Rat)(w z y:Q3){W:A3 (BY×A3 Q3)}(q:(W.map (·.1)).Perm S)(G:∀f∈W,DO f.1.1.1 f.2/\3<=f.2.length/\∀x,x∈f.2↔x∈f.1.2):sm (λf=>Fj c w y f.2) W=sm (λf:BY=>Fj c w z f.2) S:=by
 have key:∀f∈W,Fj c w y f.2=Fj c w z f.1.2-sm (λs:Q3×Q3=>kk c w z y s.1 s.2) (D5 f.1.2):=λf r=>by
  let⟨B,H,f3,J⟩:=I.Ck f.1<|q.mem_iff.1<|B4.2 ⟨f,r,rfl⟩
  let⟨K,D,E⟩:=G f r;have d:∀x∈f.1.2,val f.1.1 x=0:=λx i=>((J x).1 i).2
  obtain⟨e,l,j⟩:∃e l,f.1.2=e::l:=by cases h:f.1.2 with|nil=>rw[h] at f3;simp at f3|cons e l=>exact⟨e,l,rfl⟩
  have F:val f.1.1 e=0:=d e (by rw[j];simp);rw[wg (z:=z) (I.nz _ B) (λx i=>d x<|(E x).1 i) F D,wg (z:=z) (I.nz _ B) d F f3,oW<|afz K H D f3 E,fY,fY];have:sm (λs:Q3×Q3=>kk c w z z s.1 s.2) (D5 f.1.2)=0:=by
   have:∀Q:A3 (Q3×Q3),sm (λs:Q3×Q3=>kk c w z z s.1 s.2) Q=0:=λQ=>by
    induction Q with
    |nil=>rfl
    |cons x l ih=>show kk c w z z x.1 x.2+_=_;rw[ih];unfold kk Cq AI AZ Ae;grind
   exact this _
  rw[this];grind
 rw[xM key,<-py (f:=λf:BY=>Fj c w z f.2-sm (λs:Q3×Q3=>kk c w z y s.1 s.2) (D5 f.2)) (h:=λf:BY×A3 Q3=>f.1),oW q,fY,afy I λa b=>pT c w z y a b]
 grind
theorem aA8{n y:Q3}{d:Rat}(D:val (n,d) y<0){o:Q3}:∀{l:A3 Q3} {p:Q3},DO n (o::p::l)->(∀x∈o::p::l,val (n,d) x=0)->0<=JG (kk 1 o3 y o) p l/\(l≠[]->0<JG (kk 1 o3 y o) p l)
 |[],_,_,_=>⟨El,λh=>absurd rfl h⟩
 |q::l,p,hc,ht=>by
  have ih:=(aA8 D (DO.sub hc<|(List.sublist_cons_self p (q::l)).cons_cons o) λx E=>ht x (by simp[Ak] at E⊢;grind)).1;have i:=hc o p q AO;have j:=ht o AO;have r:=val_sub (n,d) o p;have z:=val_sub (n,d) o q;have B:=val_sub (n,d) y o;rw[j,ht p AO] at r;rw[j,ht q AO] at z;rw[j] at B;have nn:0<AI n n:=Jk λe=>by rw[e] at i;unfold BZ AI o3 at i;grind
  have pos:0<kk 1 o3 y o p q:=by
   have e:kk 1 o3 y o p q*AI n n=BZ n o p q*AI n (Ae o y)+(AI n (Ae p o)*AI (Ae q o) (AZ (Ae o y) n)-AI n (Ae q o)*AI (Ae p o) (AZ (Ae o y) n)):=by unfold kk Cq BZ AI AZ Ae BK o3;grind
   dsimp only at r z B;rw[r,z,B] at e;have m:=Ed i (show 0< -val (n,d) y by grind);refine CB λg=>?_
   have:=Cr (show 0<= -kk 1 o3 y o p q by grind)<|EF nn
   grind
  have:0<JG (kk 1 o3 y o) p (q::l):=by show 0<kk 1 o3 y o p q+JG (kk 1 o3 y o) q l;grind
  exact⟨EF this,λ_=>this⟩
theorem akz(I:By S M):0<sm (λf:BY=>Fj 1 o3 o3 f.2) S:=by
 let⟨y,D⟩:=I.int;have ne:S≠[]:=λe=>by let⟨v,E,_⟩:=MC I.HZ (p:=y) (λh z=>EF<|D h z) y;refine absurd (E.2 (1,0,0) λh z F=>?_) (λc=>by have:=congrArg Prod.fst c;simp[o3] at this);let⟨f,i,_⟩:=I.cover v E.1 ⟨h,z,F⟩;rw[e] at i;cases i
 have e:=aDb I 1 o3 o3 y (W:=S.map λf=>(f,f.2)) (by rw[LB];simp[Function.comp_def]) λf i=>by obtain⟨g,j,rfl⟩:=B4.1 i;let⟨_,r,f3,_⟩:=I.Ck g j;exact⟨r,f3,λx=>Iff.rfl⟩
 rw[<-e,py];have one:∀f∈S,0<Fj 1 o3 y f.2:=λf i=>by
  let⟨G,r,f3,H⟩:=I.Ck f i;have tight:∀x∈f.2,val f.1 x=0:=λx J=>((H x).1 J).2
  have K:=D _ G
  match h:f.2,f3 with
  |o::p::q::l,_=>rw[h] at r tight;exact(aA8 (d:=f.1.2) K r tight).2 AO
 have B:∀T:A3 BY,(∀f∈T,0<Fj 1 o3 y f.2)->0<=sm (λf:BY=>Fj 1 o3 y f.2) T:=λT=>by
  induction T with
  |nil=>intro _;exact El
  |cons f T ih=>
   intro h;have a:=h f Ca;have b:=ih λg j=>h g<|Bg _ j
   show 0<=Fj 1 o3 y f.2+_
   grind
 match S,ne,one with
 |f::T,_,one=>
  have a:=one f Ca;have b:=B T λg j=>one g<|Bg _ j
  show 0<Fj 1 o3 y f.2+_
  grind
theorem yM(o y:Q3):∀(l:A3 Q3) (p:Q3),AI (Ae o y) (JH o p l)=JG (kk 1 o3 y o) p l
 |[],p=>Ql _
 |q::l,p=>by
  show AI (Ae o y) (BK (AZ (Ae p o)<|Ae q o)<|JH o q l)=kk 1 o3 y o p q+JG (kk 1 o3 y o) q l;rw[LD,yM o y l q]
  congr 1
  unfold kk Cq AI AZ Ae BK o3;grind
end
section
variable{n m:Nat}{l:A3 Int}{k:Nat}{q:Rat}{x:Int}{a:A3 Int}{c d:Nat}{p:Bool×A3 Int}{z:Int}{b:A3 Int}{ρ:Type}{j:Nat}{u:AA}{y:Int}{w v:A3 Int}{u0 v0 v1:Int}{R:ρ->Prop}{neg:Bool}{core:AA}{U2:Int}{i:Nat}{α:Type}{f:Int}{s:AA}
abbrev BT:Int:=1000000000
def AL:A3 Int->Int
 |[]=>0|x::l=>x+BT*AL l
def CG(l:A3 Int):Prop:=∀x∈l,0<=x/\x<BT
def BI(n:Nat):Int:=BT^n
def Rt:BI 0=1:=rfl
def Hx(n:Nat):BI (n+1)=BT*BI n:=by unfold BI;rw[Int.pow_succ,EO]
def L8:∀n,0<BI n
 |0=>by rw[Rt];omega|n+1=>by rw[Hx];have:=L8 n;unfold BT;omega
theorem cw(m n:Nat):BI (m+n)=BI m*BI n:=by grind [BI]
def KP(x:Int)(l:A3 Int):AL (x::l)=x+BT*AL l:=rfl
def Pb:∀(l m:A3 Int),AL (l++m)=AL l+BI l.length*AL m
 |[],m=>by simp[AL,Rt]
 |x::l,m=>by rw[OJ,KP,KP,Pb l m,DP,Hx,Cy,EV];omega
def dL:CG []:=by intro x h;cases h
theorem bo:CG (x::l)↔(0<=x/\x<BT)/\CG l:=by simp_all [CG,BT]
theorem ai{m:A3 Int}:CG (l++m)↔CG l/\CG m:=by grind [CG]
theorem Jr(h:CG l)(n:Nat):CG (l.take n):=by grind [CG]
theorem Rv(h:CG l)(n:Nat):CG (l.drop n):=by grind [CG]
theorem Fw(h:CG l)(n:Nat):0<=l.getD n 0/\l.getD n 0<BT:=by
 by_cases e:n<l.length
 .have:l.getD n 0=l[n]:=by simp[HD,e]
  rw[this];exact h _<|Ja e
 .grind
theorem kN(n:Nat):CG (List.replicate n 0):=by grind [CG]
theorem Xs(h:CG l)(n:Nat)(e:0<=x/\x<BT):CG (l.set n x):=by(simp_all [CG,BT]<;>grind)
def so:∀n,AL (List.replicate n 0)=0
 |0=>rfl|n+1=>by rw[List.replicate_succ,KP,so n];omega
def ED:∀{l:A3 Int},CG l->0<=AL l/\AL l<BI l.length
 |[],_=>by simp[AL,Rt]
 |x::l,h=>by rw[bo] at h;let⟨e,r⟩:=ED h.2;rw[KP,DP,Hx];have:=h.1;unfold BT at*;omega
def TZ(h:n<l.length):AL (l.take<|n+1)=AL (l.take n)+BI n*l.getD n 0:=by rw[ZZ h,Pb,Dd,Ds A4];simp[AL]
def Pe(l:A3 Int)(n:Nat)(h:n<=l.length):AL l=AL (l.take n)+BI n*AL (l.drop n):=by
 conv=>lhs;rw[<-MK n l]
 rw[Pb,Dd,Ds h]
def Rj:∀{l:A3 Int},CG l->l≠[]->l.getLast?≠some 0->BI (l.length-1)<=AL l
 |[],_,h,_=>absurd rfl h
 |[x],h,_,hl=>by
  rw[bo] at h;have:x≠0:=λe=>hl (by rw[e];rfl)
  simp[AL,Rt];omega
 |x::y::l,h,_,hl=>by rw[bo] at h;have:=Rj (l:=y::l) h.2 AO (by simpa using hl);rw[KP,show(x::y::l).length-1=(y::l).length-1+1 from by simp,Hx];have:=h.1;unfold BT at*;omega
def Ez(w:A3 Int):Prop:=CG w/\w.getLast?≠some 0
def Ez.nil:Ez []:=⟨dL,AO⟩
def Ez.len(h:Ez w)(D:AL w<BI n):w.length<=n:=by
 by_cases e:w=[]
 .subst e;simp
 .have h1:=Rj h.1 e h.2;rcases G8 n w.length with r|r
  .have:BI n<=BI (w.length-1):=by obtain⟨k,B⟩:∃k,w.length-1=n+k:=⟨w.length-1-n,A4⟩;rw[B,cw];have a:=L8 n;have b:=L8 k;have:BI n*1<=BI n*BI k:=E7 A4 A4;omega
   omega
  .exact r
def yo(h:n<l.length):AL l=AL (l.take n)+BI n*(l.getD n 0+BT*AL (l.drop<|n+1)):=by
 rw[Pe l n A4]
 congr 2
 rw[SV h,KP]
 congr 1
 simp[HD,h]
def xc(h:m<=n):BI m<=BI n:=by obtain⟨k,rfl⟩:∃k,n=m+k:=⟨n-m,A4⟩;rw[cw];have a:=L8 m;have b:=L8 k;have:BI m*1<=BI m*BI k:=E7 A4 A4;omega
def aZ(B:CG a)(r:Ez b)(h:a.length<b.length):AL a<AL b:=by have D:=(ED B).2;have E:=Rj r.1 (by intro e;subst e;simp at h) r.2;have F:=xc (show a.length<=b.length-1 by omega);omega
def Gg(l:A3 Int)(n:Nat):AL (l.take<|n+1)=AL (l.take n)+BI n*l.getD n 0:=by
 rcases G8 n l.length with h|h
 .exact TZ h
 .rw[fB h,Ce A4,Ce h];omega
def adU(h:AL (l.drop n)=0)(e:CG l)(B:n<=m):l.getD m 0=0:=by
 have key:∀(l:A3 Int) (j:Nat),CG l->AL l=0->l.getD j 0=0:=by
  intro l
  induction l with
  |nil=>intro j _ _;simp
  |cons x l ih=>intro j e r;rw[bo] at e;rw[KP] at r;have D:=(ED e.2).1;have E:=e.1;unfold BT at*;cases j with|zero=>simp;omega|succ j=>simpa using ih j e.2 A4
 have:=key (l.drop n) (m-n) (Rv e n) h;simpa[HD,SK,show n+(m-n)=m by omega] using this
theorem amI{q r:Int}(e:q*v1+r=U2)(h:BT*r+u0<q*v0):(u0+BT*U2)+1<=q*(v0+BT*v1):=by grind
def amJ{q r:Int}(e:q*v1+r=U2)(D:r<v1)(E:u0<BT)(F:0<=q)(B:0<=v0):(u0+BT*U2)+1<=(q+1)*(v0+BT*v1):=by rw[Cy,FA _ BT v1,<-e,GQ q 1 v1,H9];have:0<=(q+1)*v0:=J4 A4 B;unfold BT at*;omega
def amK{q R P UL VL:Int}(e:q*v1+R=U2)(I:0<=q/\q<BT)(J:0<=R)(D:0<=v0/\v0<BT)(E:0<=u0)(F:BT<=2*v1)(h:BT<=R\/q*v0<=BT*R+u0)
 (B:0<P)(K:0<=UL)(N:VL<P)(r:0<=VL):(q-1)*(VL+P*(v0+BT*v1))<=UL+P*(u0+BT*U2):=by
 have G:q*(v0+BT*v1)<=u0+BT*U2:=by
  rw[Cy,FA q BT v1,<-e,Cy];have:q*v0<=BT*R+u0:=by
   rcases h with h|h
   .have:q*v0<=(BT-1)*(BT-1):=NA A4 A4 D.1 (by unfold BT;omega);unfold BT at*;omega
   .exact h
  omega
 have O:=E7 G<|Dr B
 have Q:q*VL<=BT*P:=NA A4 A4 r (by unfold BT;omega);have H:P*BT<=P*(v0+BT*v1):=E7 (by unfold BT at*;omega)<|Dr B
 rw[Xw,H9,Cy q,FA q P];rw[EO P BT] at H;omega
theorem aoD{r e P UL VL:Int}(E:0<P)(I:0<=UL)(F:0<=u0)(G:0<=r)(J:VL<P)(K:v0<BT)(h:UL+P*(u0+BT*(r+BT*e))<BT*(VL+P*(v0+BT*v1))):e<=v1:=by
 rcases(show v1<e\/e<=v1 by omega) with B|B
 .exfalso;have H:BT*(v0+BT*v1+1)<=u0+BT*(r+BT*e):=AK;have D:=E7 H<|Dr E
  rw[FA P BT,Cy P _ 1,JS] at D;rw[Cy BT VL] at h;rw[Cy BT _ P] at D;have N:BT*VL<=BT*P:=E7 A4 (by unfold BT;omega);omega
 .exact B
theorem ahD(h:l.length=k+3):AL l=AL (l.take k)+BI k*(l.getD k 0+BT*(l.getD (k+1) 0+BT*l.getD (k+2) 0)):=by have e:AL (l.take<|k+3)=AL l:=AK;rw[<-e,Gg,Gg,Gg,Hx<|k+1,Hx,Cy,Cy,Cy,FA (BI k) BT,FA (BI k) BT,FA (BI k) BT,EV,EV,EV];omega
theorem ahE(h:l.length=k+2):AL l=AL (l.take k)+BI k*(l.getD k 0+BT*l.getD (k+1) 0):=by have e:AL (l.take<|k+2)=AL l:=AK;rw[<-e,Gg,Gg,Hx,Cy,FA (BI k) BT,EV];omega
def vR(h:CG l)(r:n<=l.length)(B:AL l<BI n):AL (l.drop n)=0:=by
 have D:=Pe l n r;have E:=(ED<|Rv h n).1;have F:=(ED<|Jr h n).1;rcases(show AL (l.drop n)=0\/1<=AL (l.drop n) by omega) with e|e
 .exact e
 .have:=E7 e (Dr<|L8 n);omega
def div_pos(e:0<=x)(r:0<y)(B:x<=9223372036854775807):FV x y=some (x/y):=by
 unfold FV;rw[Bb A4,Int.tdiv_eq_ediv_of_nonneg e];have D:=J5 e<|Dr r
 have E:=QI y e;exact Dj ⟨A4,A4⟩
def Rs(I:CG a)(O:a.length<1099511627776):Yd (λw=>Ez w/\AL w=AL a/\w.length<=a.length) (Mo a):=by
 unfold Mo;refine Dl (λs:A3 Int=>CG s/\AL s=AL a/\s.length<=a.length) (λs=>s.length) ?_ _ _ ⟨I,rfl,BJ _⟩ A4;rintro next s ⟨G,F,H⟩ J
 refine FC (λB=>?_)<|λB=>?_
 .have E:(0:Int)<s.length:=Aq B;obtain⟨n,P⟩:∃n,s.length=n+1:=⟨s.length-1,A4⟩;have K:(s.length:Int)-1=(n:Int):=A4;rw[K];refine⟨(n:Int),Dj ⟨A4,A4⟩,FC (λ_=>⟨s.getD n 0,Bc A4,Ab (λr=>?_)<|λr=>?_⟩) (λh=>by rw[B] at h;cases h)⟩
  .let⟨_,D⟩:=DY r;have D:=Aq D;refine A5 BE<|A5 (DV A4 A4 A4) ?_
   have e:(s.take ((n:Nat):Int).toNat).drop (0:Int).toNat=s.take n:=AO;rw[e];have N:AL s=AL (s.take n):=by have:=TZ (l:=s) (n:=n) A4;rw[D,SA,Ua,Ce A4] at this;exact this
   exact J _ ⟨Jr G n,by rw[<-N];exact F,Co⟩ Co
  .refine AV ⟨⟨G,?_⟩,F,H⟩;rw[B1 E,I3] at r;have D:=BX r;have e:s=s.take n++[s.getD n 0]:=by rw[<-ZZ A4,Ce A4]
   rw[e];simpa using D
 .have E: ¬(0:Int)<s.length:=BX B;have E:s=[]:=Hk A4;subst E;exact FC (λh=>by rw[B] at h;cases h) (λ_=>Ab (λr=>by simp at r)<|λ_=>AV ⟨Ez.nil,F,H⟩)
def EL(p:Bool×A3 Int)(z:Int):Prop:=Ez p.2/\AL p.2=(z.natAbs:Int)/\p.1=decide (z<0)
def Ez.pos(h:Ez w)(e:w≠[]):0<AL w:=by
 have:=Rj h.1 e h.2;have:=L8<|w.length-1
 omega
theorem vA{b:Bool}(D:CG a)(E:a.length<1099511627776):Yd (λp=>EL p (bif b then -AL a else AL a)/\p.2.length<=a.length) (Io b a):=by
 unfold Io;refine Au (Rs D E) λw ⟨e,r,F⟩=>AV ⟨⟨e,?_,?_⟩,F⟩
 .have:=(ED e.1).1;rw[<-r];cases b
  .grind
  .grind
 .have hz:=(ED e.1).1;by_cases B:w=[]
  .subst B;have:AL a=0:=r.symm;rw[this];cases b<;>rfl
  .have hp:=e.pos B;have G:0<w.length:=SN.2 B;rw[<-r];cases b
   .grind
   .grind
theorem sD(F:Ez a)(G:Ez b)(K:a.length<4398046511104)(N:b.length<4398046511104):Yd (λr=>(r= -1/\AL a<AL b)\/(r=0/\AL a=AL b)\/(r=1/\AL b<AL a)) (Vo a b):=by
 unfold Vo;refine Ab (λH=>Ab (λE=>?_)<|λE=>?_)<|λH=>?_
 .have E:=Aq E;exact AV<| .inl ⟨rfl,aZ F.1 G A4⟩
 .have E:=BX E;rw[F6,Gm] at H;exact AV<| .inr<| .inr ⟨rfl,aZ G.1 F A4⟩
 .rw[Uo,G0] at H;have O:a.length=b.length:=A4;refine A5 BE ?_;refine Dl (λs:Int=> -1<=s/\s<a.length/\a.drop (s+1).toNat=b.drop (s+1).toNat) (λs:Int=>(s+1).toNat) ?_ _ _ ⟨A4,A4,?_⟩ A4
  .rintro next s ⟨h0,h1,h2⟩ hn
   refine Ab (λD=>?_)<|λD=>?_
   .have D:=Aq D;obtain⟨n,rfl⟩:=EI D;have P:(((n:Nat):Int)+1).toNat=n+1:=A4;rw[P] at h2;have I:AB a (n:Int)=some (a.getD n 0):=Bc A4;have J:AB b (n:Int)=some (b.getD n 0):=Bc A4;refine A5 I<|A5 J ?_
    have Q:=yo (l:=a) (n:=n) A4;have eB:=yo (l:=b) (n:=n) A4;rw[h2] at Q;let⟨T,U⟩:=ED<|Jr F.1 n
    let⟨V,W⟩:=ED<|Jr G.1 n
    rw[Dd,Ds A4] at U W;have Z:=L8 n;have dA:=Ls (l:=a) (n:=n) A4;have dB:=Ls (l:=b) (n:=n) A4
    generalize a.getD n 0=X at*
    generalize b.getD n 0=Y at*
    have eA':AL a=AL (a.take n)+BI n*X+BI n*(BT*AL (b.drop<|n+1)):=AK;have eB':AL b=AL (b.take n)+BI n*Y+BI n*(BT*AL (b.drop<|n+1)):=AK;refine Ab (λe=>?_)<|λe=>A5 I<|A5 J<|Ab (λB=>?_)<|λB=>?_
    .have e:=Aq e;have:BI n*(X+1)<=BI n*Y:=E7 A4 A4;rw[Cy,JS] at this;exact AV<| .inl ⟨rfl,A4⟩
    .have B:=Aq B;have:BI n*(Y+1)<=BI n*X:=E7 A4 A4;rw[Cy,JS] at this;exact AV<| .inr<| .inr ⟨rfl,A4⟩
    .have e:=BX e;have B:=BX B;have hx:X=Y:=A4;refine A5 BE<|hn _ ⟨A4,A4,?_⟩ A4
     have:(((n:Nat):Int)-1+1).toNat=n:=A4;rw[this,dA,dB,hx,h2]
   .have D:=BX D;have:s= -1:=A4;subst this;exact AV (.inr (.inl ⟨rfl,by simpa using congrArg AL h2⟩))
  .have:((a.length:Int)-1+1).toNat=a.length:=A4;rw[this,QJ,O,QJ]
theorem mW:Tp a (n:Int)=some (a.getD n 0):=by
 unfold Tp;by_cases h:n<a.length
 .rw[B1 A4];show bd (AB a (n:Int)) _=_;rw[Bc h];rfl
 .grind
theorem Z1(h:l.length<1099511627776):BC 8 l [x]=some (l++[x]):=by grind [BC]
theorem aeB(K:CG a)(N:CG b)(O:a.length<4398046511)(P:b.length<4398046511):Yd (λw=>CG w/\AL w=AL a+AL b/\w.length<=max a.length b.length+1) (ZK a b):=by
 unfold ZK;refine Dl (λs:A3 Int×Int×Int=>CG s.1/\(s.2.1=0\/s.2.1=1)/\s.2.2=s.1.length/\s.1.length<=max a.length b.length+1/\(s.1.length=max a.length b.length+1->s.2.1=0)/\
   AL s.1+BI s.1.length*s.2.1=AL (a.take s.1.length)+AL (b.take s.1.length)) (λs=>max a.length b.length+1-s.1.length) ?_ _ _ ⟨dL,.inl rfl,rfl,AO,λ_=>rfl,by simp[AL]⟩ (by dsimp only;simp;omega)
 rintro next ⟨o,c,i⟩ ⟨r,Q,D,E,T,F⟩ G
 dsimp only at r Q D E T F G⊢;subst D;refine Ab (λH=>?_)<|λH=>?_
 .let⟨xa,xb⟩:=Fw K o.length;let⟨V,W⟩:=Fw N o.length;have U:o.length<=max a.length b.length:=AK;have Z:o.length=max a.length b.length->a.getD o.length 0=0/\b.getD o.length 0=0:=λh=>⟨fB A4,fB A4⟩
  have I:0<=a.getD o.length 0+b.getD o.length 0+c/\a.getD o.length 0+b.getD o.length 0+c<2000000000:=AK;refine A5 mW (A5 mW (A5 (Dj ⟨A4,by unfold BT at*;omega⟩)<|A5 BE<|A5 (OA I.1 A4)<|A5 (Z1 A4)<|A5 (div_pos I.1 A4 A4)<|A5 BE<|G _ ⟨?_,?_,?_,?_,?_,?_⟩ ?_))
  .rw[ai];exact⟨r,λx J=>by rw[CW] at J;subst J;unfold BT;omega⟩
  .dsimp only;omega
  .grind
  .grind
  .grind
  .dsimp only;rw[DD,G2,Pb,Gg,Gg,Hx];have e:AL [(a.getD o.length 0+b.getD o.length 0+c)%1000000000]=(a.getD o.length 0+b.getD o.length 0+c)%1000000000:=by simp[AL]
   rw[e,EO BT,EV,<-Int.add_assoc]
   generalize a.getD o.length 0=X at*
   generalize b.getD o.length 0=Y at*
   have hd:X+Y+c=(X+Y+c)%1000000000+BT*((X+Y+c)/1000000000):=by unfold BT;omega
   have:BI o.length*((X+Y+c)%1000000000)+BI o.length*(BT*((X+Y+c)/1000000000))=BI o.length*X+BI o.length*Y+BI o.length*c:=AK;omega
  .grind
 .rw[Ie,Ie,Gm,Gm,Gm] at H;have B:c=0:=A4;subst B;refine AV ⟨r,?_,E⟩;rw[Ce A4,Ce A4] at F;omega
theorem tR(N:CG a)(O:CG b)(hl:b.length<=a.length)(P:a.length<4398046511)(hv:AL b<=AL a):Yd (λw=>Ez w/\AL w=AL a-AL b/\w.length<=a.length) (Vv a b):=by
 unfold Vv;refine Dl (λs:A3 Int×Int×Int=>CG s.1/\(s.2.1=0\/s.2.1=1)/\s.2.2=s.1.length/\s.1.length<=a.length/\
   AL s.1=AL (a.take s.1.length)-AL (b.take s.1.length)+BI s.1.length*s.2.1) (λs=>a.length-s.1.length) ?_ _ _ ⟨dL,.inl rfl,rfl,AO,by simp[AL]⟩ (by dsimp only;simp;omega)
 rintro next ⟨o,c,i⟩ ⟨D,Q,H,T,E⟩ I
 dsimp only at D Q H T E I⊢;subst H;refine Ab (λr=>?_)<|λr=>?_
 .have r:=Aq r;let⟨xa,xb⟩:=Fw N o.length;let⟨ya,yb⟩:=Fw O o.length;refine A5 (Bc A4) (A5 mW (A5 (Dj ⟨by unfold BT at*;omega,by unfold BT at*;omega⟩) (A5 (Dj ⟨by unfold BT at*;omega,by unfold BT at*;omega⟩) ?_)));have step:∀d x:Int,(d=0\/d=1)->0<=x->x<1000000000->x=a.getD o.length 0-b.getD o.length 0-c+BT*d->Yd (λw=>Ez w/\AL w=AL a-AL b/\w.length<=a.length) (bd (BC 8 o [x]) λU=>bd (AG<|(o.length:Int)+1) λV=>next (U,d,V)):=by
   intro d x B W Z hx;refine A5 (Z1 A4)<|A5 BE<|I _ ⟨?_,B,?_,?_,?_⟩ ?_
   .rw[ai];exact⟨D,λy J=>by rw[CW] at J;subst J;unfold BT;omega⟩
   .grind
   .grind
   .dsimp only;rw[DD,G2,Pb,Gg,Gg,Hx,E];have e:AL [x]=x:=by simp[AL]
    rw[e,EO BT,EV,hx]
    generalize a.getD o.length 0=X at*
    generalize b.getD o.length 0=Y at*
    have:BI o.length*(X-Y-c+BT*d)=BI o.length*X-BI o.length*Y-BI o.length*c+BI o.length*(BT*d):=AK;omega
   .grind
  refine CZ (λp:Int×Int=>(p.1=0\/p.1=1)/\0<=p.2/\p.2<1000000000/\p.2=a.getD o.length 0-b.getD o.length 0-c+BT*p.1) (λp F=>step p.1 p.2 F.1 F.2.1 F.2.2.1 F.2.2.2) λk hk=>Ab (λB=>?_)<|λB=>?_
  .have B:=Aq B;refine A5 (Dj ⟨by unfold BT at*;omega,by unfold BT at*;omega⟩) (hk _ ⟨.inr rfl,?_,?_,?_⟩)<;>(dsimp only;unfold BT at*;omega)
  .grind
 .have r:=BX r;have K:o.length=a.length:=A4;rw[Ce A4,Ce A4] at E;let⟨z1,z2⟩:=ED D;have G:c=0:=AK;subst G;refine Au (Rs D A4) λw ⟨g1,g2,g3⟩=>AV ⟨g1,by rw[g2,E];omega,A4⟩
theorem u7{d:Int}(Q:CG a)(F:0<d/\d<1000000000)(Y:a.length<1099511627776):Yd (λp=>Ez p.1/\AL p.1=AL a/d/\p.2=AL a%d/\p.1.length<=a.length) (W7 a d):=by
 unfold W7;refine A5 (NU A4 A4 A4)<|A5 BE ?_
 refine Dl (λs:A3 Int×Int×Int=>CG s.1/\s.1.length=a.length/\(0<=s.2.1/\s.2.1<d)/\ -1<=s.2.2/\s.2.2<a.length/\AL (a.drop (s.2.2+1).toNat)=AL (s.1.drop (s.2.2+1).toNat)*d+s.2.1) (λs=>(s.2.2+1).toNat) ?_ _ _
  ⟨kN _,by simp only[Kd];omega,⟨BO,BO⟩,BO,BO,?_⟩ BO
 rotate_left
 .have e:((a.length:Int)-1+1).toNat=a.length:=A4;dsimp only;rw[e,QJ,Ke (by simp only[Kd];omega)];simp[AL]
 rintro next ⟨o,r,i⟩ ⟨G,P,⟨H,B⟩,h4,h5,D⟩ hn
 dsimp only at G P H B h4 h5 D hn⊢;refine Ab (λE=>?_)<|λE=>?_
 .have E:=Aq E;obtain⟨n,rfl⟩:=EI E;have T:(((n:Nat):Int)+1).toNat=n+1:=A4;rw[T] at D;let⟨Z,xb⟩:=Fw Q n;have I:0<=r*1000000000+a.getD n 0/\r*1000000000+a.getD n 0<d*1000000000:=AK;have J:=J5 I.1<|Dr F.1
  have K:(r*1000000000+a.getD n 0)/d<1000000000:=by apply YE F.1;omega
  have N:=JY (r*1000000000+a.getD n 0) (show d≠0 by omega);have O:=J8 (r*1000000000+a.getD n 0) F.1;refine A5 BE (A5 (Bc A4) (A5 BE (A5 (div_pos I.1 F.1 A4) (A5 (Bc A4) (A5 (Bc A4) (A5 (OA I.1 F.1) (A5 BE (hn _ ⟨Xs G _ ⟨J,K⟩,by simpa using P,⟨N,O⟩,BO,BO,?_⟩ ?_))))))))
  .dsimp only;have U:(((n:Nat):Int)-1+1).toNat=n:=A4;rw[U,CL,aA A4,Ls (show n<a.length by omega),KP,KP,D];have V:=Int.mul_ediv_add_emod (r*1000000000+a.getD n 0) d
   generalize (r*1000000000+a.getD n 0)/d=q at*
   generalize (r*1000000000+a.getD n 0)%d=m at*
   rw[GQ,Cy,EV BT,EO q d];unfold BT;omega
  .dsimp only;omega
 .have E:=BX E;have:i= -1:=A4;subst this;have D:AL a=AL o*d+r:=by simpa using D
  refine Au (Rs G A4) λw ⟨W,X,g3⟩=>AV ⟨W,?_,?_,BO⟩
  .dsimp only;rw[X];exact(Wv D H B).1
  .exact(Wv D H B).2
theorem kK(Z:CG a)(hb:CG b)(hla:a.length<4398046511)(hlb:b.length<4398046511):Yd (λw=>Ez w/\AL w=AL a*AL b/\w.length<=a.length+b.length) (TM a b):=by
 unfold TM;refine A5 BE<|A5 (NU A4 A4 A4) ?_
 refine Dl (λs:A3 Int×Int=>CG s.1/\s.1.length=a.length+b.length/\0<=s.2/\s.2<=a.length/\(∀m,s.2.toNat+b.length<=m->s.1.getD m 0=0)/\AL (s.1.take<|s.2.toNat+b.length)=AL (a.take s.2.toNat)*AL b)
  (λs:A3 Int×Int=>a.length-s.2.toNat) ?_ _ _ ⟨kN _,by simp only[Kd];omega,BO,BO,λm _=>ak3,?_⟩ BO
 rotate_left
 .dsimp only;rw[YD,so];simp[AL]
 rintro next ⟨o,i⟩ ⟨H,K,N,h4,O,E⟩ P
 simp only at H K N h4 O E P⊢;obtain⟨n,rfl⟩:=EI N;simp only[CL,K3] at*;refine Ab (λB=>?_)<|λB=>?_
 .have B:=Aq B;refine Dl (λs:A3 Int×Int×Int=>CG s.1/\s.1.length=a.length+b.length/\(0<=s.2.1/\s.2.1<BT)/\0<=s.2.2/\s.2.2<=b.length/\s.1.drop (n+s.2.2.toNat)=o.drop (n+s.2.2.toNat)/\
    AL (s.1.take<|n+s.2.2.toNat)+BI (n+s.2.2.toNat)*s.2.1=AL (o.take<|n+s.2.2.toNat)+BI n*(a.getD n 0*AL (b.take s.2.2.toNat)))
   (λs:A3 Int×Int×Int=>b.length-s.2.2.toNat) ?_ _ _ ⟨H,K,⟨BO,by dsimp only;unfold BT;omega⟩,BO,BO,rfl,by simp[AL]⟩ BO
  rintro Gi ⟨p,c,j⟩ ⟨F,I,T,U,g5,G,V⟩ W;simp only at F I T U g5 G V W⊢;obtain⟨m,rfl⟩:=EI U;simp only[CL,K3] at*;have eo:p.getD (n+m) 0=o.getD (n+m) 0:=by have:=congrArg (λl=>l.getD 0 0) G;simpa[HD,SK] using this
  refine Ab (λD=>?_)<|λD=>?_
  .have D:=Aq D;have r:((n:Nat):Int)+((m:Nat):Int)=((n+m:Nat):Int):=A4;let⟨xa,xb⟩:=Fw Z n;let⟨X,yb⟩:=Fw hb m;let⟨oa,ob⟩:=Fw F<|n+m
   have Kn:a.getD n 0*b.getD m 0<=(BT-1)*(BT-1):=NA A4 A4 X (by unfold BT;omega);have atD:0<=a.getD n 0*b.getD m 0:=J4 xa X;have Y:0<=p.getD (n+m) 0+a.getD n 0*b.getD m 0+c/\p.getD (n+m) 0+a.getD n 0*b.getD m 0+c<BT*BT:=AK;rw[r];refine A5 BE (A5 (Bc A4) (A5 (Bc A4) (A5 (Bc A4) (A5 (Bc A4) (A5 (Dj ⟨A4,by unfold BT at*;omega⟩) (A5 (Dj ⟨A4,by unfold BT at*;omega⟩) (A5 (Dj ⟨A4,by unfold BT at*;omega⟩) (A5 BE (A5 (OA Y.1 A4) (A5 (Bc A4) (A5 (Bc A4) (A5 (div_pos Y.1 A4 (by unfold BT at*;omega))<|A5 BE ?_))))))))))));have hdm:p.getD (n+m) 0+a.getD n 0*b.getD m 0+c=(p.getD (n+m) 0+a.getD n 0*b.getD m 0+c)%1000000000+BT*((p.getD (n+m) 0+a.getD n 0*b.getD m 0+c)/1000000000):=by unfold BT;omega
   have hr:0<=(p.getD (n+m) 0+a.getD n 0*b.getD m 0+c)%1000000000/\(p.getD (n+m) 0+a.getD n 0*b.getD m 0+c)%1000000000<BT:=by unfold BT;omega
   have hq:0<=(p.getD (n+m) 0+a.getD n 0*b.getD m 0+c)/1000000000/\(p.getD (n+m) 0+a.getD n 0*b.getD m 0+c)/1000000000<BT:=AK;refine W _ ⟨Xs F _ hr,by simpa using I,hq,BO,BO,?_,?_⟩ BO
   .have e:(((m:Nat):Int)+1).toNat=m+1:=A4;simp only[e,CL];rw[eF A4,<-Iw];have:=congrArg (List.drop 1) G;rwa [Ee,Ee] at this
   .have e:(((m:Nat):Int)+1).toNat=m+1:=A4;simp only[e,CL];rw[<-Iw,Gg,Fk<|BJ _,H6 A4,Gg o,Gg b,<-eo,Hx]
    generalize (p.getD (n+m) 0+a.getD n 0*b.getD m 0+c)%1000000000=R at*
    generalize (p.getD (n+m) 0+a.getD n 0*b.getD m 0+c)/1000000000=Q at*
    have k1:BI n*(a.getD n 0*(AL (b.take m)+BI m*b.getD m 0))=BI n*(a.getD n 0*AL (b.take m))+BI (n+m)*(a.getD n 0*b.getD m 0):=by rw[Cy,Cy,cw,FA (a.getD n 0)<|BI m,EV]
    have k2:BI (n+m)*R+BT*BI (n+m)*Q=BI (n+m)*(a.getD n 0*b.getD m 0)+BI (n+m)*p.getD (n+m) 0+BI (n+m)*c:=AK;rw[k1];omega
  .have D:=BX D;have Lg:m=b.length:=A4;subst Lg;have r:((n:Nat):Int)+((b.length:Nat):Int)=((n+b.length:Nat):Int):=A4;have J:p.getD (n+b.length) 0=0:=AK;rw[r];refine A5 BE (A5 BE (A5 (Bc A4) (A5 (Bc A4) (A5 (Dj ⟨A4,by unfold BT at*;omega⟩)<|A5 (Bc A4)<|A5 (Bc A4)<|A5 BE ?_))));rw[J,Int.zero_add];refine P _ ⟨Xs F _ T,by simpa using I,BO,BO,?_,?_⟩ BO
   .intro m hm;have e:(((n:Nat):Int)+1).toNat=n+1:=A4;simp only[e,CL] at hm⊢;rw[getD_set_ne A4];have:=congrArg (λl=>l.getD (m-(n+b.length)) 0) G;have h':p.getD m 0=o.getD m 0:=AK;rw[h'];exact O m A4
   .have e:(((n:Nat):Int)+1).toNat=n+1:=A4;simp only[e,CL];rw[show n+1+b.length=n+b.length+1 by omega,Gg,Fk<|BJ _,H6 A4,V,E,Gg a,Ce<|BJ _,GQ,EV]
 .have B:=BX B;have Ge:n=a.length:=A4;subst Ge;refine Au (Rs H A4) λw ⟨q1,q2,q3⟩=>AV ⟨q1,?_,A4⟩
  rw[q2];rw[Ce (l:=o) A4,Ce (l:=a) A4] at E;exact E
theorem aiv{u:A3 Int}(h:i<n):((u.drop j).take n).getD i 0=u.getD (j+i) 0:=by grind
def DG{g:Bool}{d:α}{e:A9 α}{K:α->A9 ρ}(h:g=false):Aw g d e K=K d:=by subst h;rfl
def C6{g:Bool}{d:α}{e:A9 α}{K:α->A9 ρ}(h:g=true):Aw g d e K=bd e K:=by subst h;rfl
theorem ahw{u:A3 Int}(hu:CG u)(X:CG v)(hvl:v.length=k+2)(hul:j+(k+3)<=u.length)(hlen:u.length<4398046511)(Vd:BT<=2*v.getD (k+1) 0)
 (hw:w=(u.drop j).take (k+3))(hlt:AL w<BT*AL v):Yd (λq=>(0<=q/\q<BT)/\(q-1)*AL v<=AL w/\AL w<(q+1)*AL v) (WV u v (j:Int)):=by
 unfold WV;have E:CG w:=by rw[hw];exact Jr (Rv hu _) _
 have hwl:w.length=k+3:=AK;have Y:=ahD hwl;have Z:=ahE hvl;let⟨O,H⟩:=ED<|Jr E k
 let⟨I,J⟩:=ED<|Jr X k
 rw[Dd,Ds A4] at H J;have hP:=L8 k;have K:=Fw E k;have hu1:=Fw E<|k+1
 have hu2:=Fw E<|k+2
 have Q:=Fw X k;have hv1:=Fw X<|k+1
 have w0:u.getD (j+k) 0=w.getD k 0:=AK;have w1:u.getD (j+(k+1)) 0=w.getD (k+1) 0:=AK;have w2:u.getD (j+(k+2)) 0=w.getD (k+2) 0:=AK;have hVP:0<=AL v:=(ED X).1;have hU0:0<=AL w:=(ED E).1;have aam:w.getD (k+2) 0<=v.getD (k+1) 0:=aoD hP O K.1 hu1.1 J Q.2 (by rw[<-Y,<-Z];exact hlt);have e1:((v.length:Int)-1)=((k+1:Nat):Int):=A4;have e2:((v.length:Int)-2)=((k:Nat):Int):=A4;have e3:((j:Int)+(v.length:Int))=((j+(k+2):Nat):Int):=A4;have e4:(((j+(k+2):Nat):Int)-1)=((j+(k+1):Nat):Int):=A4;have e5:(((j+(k+2):Nat):Int)-2)=((j+k:Nat):Int):=A4;rw[e1,e2,e3];have i2:AB u ((j+(k+2):Nat):Int)=some (w.getD (k+2) 0):=by rw[<-w2];exact Bc A4
 have i1:AB u ((j+(k+1):Nat):Int)=some (w.getD (k+1) 0):=by rw[<-w1];exact Bc A4
 have i0:AB u ((j+k:Nat):Int)=some (w.getD k 0):=by rw[<-w0];exact Bc A4
 have v1:AB v ((k+1:Nat):Int)=some (v.getD (k+1) 0):=Bc A4;have v0:AB v ((k:Nat):Int)=some (v.getD k 0):=Bc A4;clear w0 w1 w2 hw
 generalize w.getD (k+2) 0=U2 at*
 generalize w.getD (k+1) 0=U1 at*
 generalize w.getD k 0=U0 at*
 generalize v.getD (k+1) 0=V1 at*
 generalize v.getD k 0=V0 at*
 have B:0<V1:=AK;have hT:0<=U2*1000000000+U1/\U2*1000000000+U1<1000000000000000000:=AK;refine A5 BE (A5 i2 (A5 (Dj ⟨A4,by unfold BT at*;omega⟩)<|A5 BE ?_));rw[e4];refine A5 BE<|A5 i1<|A5 BE<|A5 BE<|A5 v1<|A5 (div_pos hT.1 B A4)<|A5 BE<|A5 v1<|A5 (OA hT.1 B) ?_
 have N:=J5 hT.1<|Dr B
 have T:=JY (U2*1000000000+U1) (show V1≠0 by omega);have U:=J8 (U2*1000000000+U1) B;have V:=Int.mul_ediv_add_emod (U2*1000000000+U1) V1;have W:(U2*1000000000+U1)/V1<=1000000001:=by apply Int.le_of_lt_add_one;apply YE B;have:(1000000001+1)*V1=1000000000*V1+2*V1:=A4;unfold BT at*;omega
 have aoJ:∀t r:Int,t*V1+r=U1+BT*U2->BT<=r->t<BT:=λt r e h=>by
  refine Int.lt_of_mul_lt_mul_right (a:=V1) ?_<|Dr B
  have:BT*U2<=BT*V1:=E7 aam (by unfold BT;omega);unfold BT at*;omega
 refine Dl (λs:Int×Int=>(0<=s.1/\s.1<=1000000001)/\(0<=s.2/\s.2<BT)/\s.1*V1+s.2=U1+BT*U2/\AL w<(s.1+1)*AL v) (λs=>s.1.toNat) ?_ _ _ ⟨⟨N,W⟩,⟨T,by unfold BT at*;dsimp only;omega⟩,?_,?_⟩ BO
 rotate_left
 .grind
 .dsimp only;have:=amJ (u0:=U0) (v0:=V0) (q:=(U2*1000000000+U1)/V1) (r:=(U2*1000000000+U1)%V1) (U2:=U1+BT*U2) (v1:=V1) (by rw[EO _ V1,V];unfold BT;omega) U K.2 N Q.1;have:=gi hP H I (show 0<=(U2*1000000000+U1)/V1+1 by omega) this;rw[<-Y,<-Z] at this;exact this
 clear N T U V W hT;rintro next ⟨t,r⟩ ⟨⟨h1,h1'⟩,⟨h2,h2'⟩,h3,h4⟩ hn
 dsimp only at h1 h1' h2 h2' h3 h4 hn⊢;have fin:∀q R:Int,(0<=q/\q<BT)->0<=R->q*V1+R=U1+BT*U2->AL w<(q+1)*AL v->(BT<=R\/q*V0<=BT*R+U0)->Yd (λq=>(0<=q/\q<BT)/\(q-1)*AL v<=AL w/\AL w<(q+1)*AL v) (some q):=λq R hq hR e hup hh=>by refine AV ⟨hq,?_,hup⟩;have:=amK (P:=BI k) (UL:=AL<|w.take k) (VL:=AL<|v.take k) e hq hR Q K.1 Vd hh hP O J I;rw[<-Y,<-Z] at this;exact this
 have step:AL w<t*AL v->Yd (λq=>(0<=q/\q<BT)/\(q-1)*AL v<=AL w/\AL w<(q+1)*AL v) (bd (AG<|t-1) λfO=>bd (AG ((k+1:Nat):Int)) λOu=>bd (AB v Ou) λNZ=>bd (AG<|r+NZ) λJe=>cond (decide<|1000000000<=Je) (some fO)<|next (fO,Je)):=λG=>by
  have hq1:1<=t:=AK;refine A5 BE (A5 BE (A5 v1 (A5 (Dj ⟨A4,by unfold BT at*;omega⟩)<|Ab (λD=>?_)<|λD=>?_)))
  .have D:=Aq D;have D:BT<=r+V1:=D;have e:(t-1)*V1+(r+V1)=U1+BT*U2:=AK;exact fin (t-1) (r+V1) ⟨A4,aoJ _ _ e D⟩ A4 e (by rw[show t-1+1=t by omega];exact G)<| .inl D
  .grind
 by_cases hb:(1000000000:Int)<=t
 .have hd:=B1 hb;have F:gd (decide<|(1000000000:Int)<=t) false=false:=by rw[hd];rfl
  repeat rw[DG F]
  refine Ab (λ_=>step ?_) (λh=>by rw[hd,Y0] at h;cases h);have:BT*AL v<=t*AL v:=Kf (by unfold BT;omega) hVP;omega
 .have hd:=Bb hb;have F:gd (decide<|(1000000000:Int)<=t) false=true:=by rw[hd];rfl
  have hb0:0<=t*V0/\t*V0<=1000000000*1000000000:=⟨J4 h1 Q.1,NA A4 (by unfold BT at*;omega) Q.1 A4⟩;rw[C6 F];refine A5 BE ?_;rw[C6 F];refine A5 v0 ?_;rw[C6 F];refine A5 BE ?_;rw[C6 F];refine A5 (Dj ⟨A4,by unfold BT at*;omega⟩) ?_;rw[C6 F];refine A5 BE ?_;rw[e5,C6 F];refine A5 BE ?_;rw[C6 F];refine A5 i0 ?_;rw[C6 F];refine A5 (Dj ⟨A4,by unfold BT at*;omega⟩)<|Ab (λD=>?_)<|λD=>?_
  .rw[hd,SD] at D;have D:=Aq D;refine step ?_;have G:=gi hP H I h1 (amI (q:=t) (r:=r) (v1:=V1) (U2:=U1+BT*U2) (u0:=U0) (v0:=V0) h3 (by unfold BT;omega));rw[<-Y,<-Z] at G;exact G
  .grind
def iR:(l.set (j+i) x).drop j=(l.drop j).set i x:=by rw[List.drop_set,if_neg A4,Nat.add_sub_cancel_left]
theorem VV:(l.drop j).getD i 0=l.getD (j+i) 0:=by grind
theorem agC{u:A3 Int}{t:Int}{F:A3 Int×Int×Int->A9 ρ}(hu:CG u)(hv:CG v)(K:v.length=n)(hj:j+n<=u.length)(hl:u.length<4398046511)(ht:0<=t/\t<BT)
 (h:∀E b,CG E->E.length=u.length->E.take j=u.take j->(∀m,j+n<=m->E.getD m 0=u.getD m 0)->(0<=b/\b<BT)->AL ((E.drop j).take n)=AL ((u.drop j).take n)-t*AL v+BI n*b->Yd R (F (E,b,(n:Int)))):Yd R (lp 18446744073709551616 (λ(N:(A3 Int×Int×Int)->A9 ρ) (r:A3 Int×Int×Int)=>cond (decide<|r.2.2<(v.length:Int)) (bd (AB v r.2.2) λOu=>bd (AG<|t*Ou) λNZ=>bd (AG<|NZ+r.2.1) λJe=>bd (AG<|r.2.2+(j:Int)) λLW=>bd (AB r.1 LW) λNb=>bd (AB r.1 LW) λLf=>bd (Ex Je (1000000000:Int)) λMb=>bd (AG<|Lf-Mb) λO=>bd (FV Je (1000000000:Int)) λG=>jn (λ(H:Int×Int)=>bd (AG<|r.2.2+(j:Int)) λB=>bd (AB r.1 B) λP=>bd (AB r.1 B) λQ=>bd (AG<|r.2.2+(1:Int)) λD=>N ((r.1.set (B).toNat H.2),H.1,D)) λI=>cond (decide<|O<(0:Int)) (bd (AG<|O+(1000000000:Int)) λT=>bd (AG<|G+(1:Int)) λU=>I (U,T)) (I (G,O))) (F r)) (u,(0:Int),(0:Int))):=by
 subst K;refine Dl (λs:A3 Int×Int×Int=>CG s.1/\s.1.length=u.length/\s.1.take j=u.take j/\(∀m,j+s.2.2.toNat<=m->s.1.getD m 0=u.getD m 0)/\(0<=s.2.1/\s.2.1<BT)/\(0<=s.2.2/\s.2.2<=v.length)/\AL ((s.1.drop j).take s.2.2.toNat)=AL ((u.drop j).take s.2.2.toNat)-t*AL (v.take s.2.2.toNat)+BI s.2.2.toNat*s.2.1)
  (λs=>v.length-s.2.2.toNat) ?_ _ _ ⟨hu,rfl,rfl,λ_ _=>rfl,⟨by dsimp;omega,by dsimp;unfold BT;omega⟩,⟨by dsimp;omega,by dsimp;omega⟩,by simp[AL]⟩ (by dsimp;omega)
 rintro next ⟨p,c,z⟩ ⟨V,g2,g3,W,g5,⟨g6,Z⟩,g7⟩ hn
 dsimp only at V g2 g3 W g5 g6 Z g7 hn⊢;obtain⟨i,rfl⟩:=EI g6;simp only[CL,K3] at*;refine Ab (λhc=>?_)<|λhc=>?_
 .have hc:=Aq hc;have hi:i<v.length:=A4;have hx:=Fw hv i;have hy:=Fw V<|j+i
  have hm0:0<=t*v.getD i 0:=J4 ht.1 hx.1;have hm1:t*v.getD i 0<=(BT-1)*(BT-1):=NA A4 A4 hx.1 (by unfold BT;omega);have ej:(((i:Nat):Int)+((j:Nat):Int))=((j+i:Nat):Int):=A4;have gu:p.getD (j+i) 0=u.getD (j+i) 0:=W _<|BJ _
  refine A5 (Bc hi) (A5 (Dj ⟨A4,by unfold BT at*;omega⟩) (A5 (Dj ⟨A4,by unfold BT at*;omega⟩)<|A5 BE ?_));rw[ej];have step:∀d x:Int,(0<=d/\d<BT)->(0<=x/\x<BT)->x=u.getD (j+i) 0-(t*v.getD i 0+c)+BT*d->Yd R (bd (AG ((j+i:Nat):Int)) λB=>bd (AB p B) λP=>bd (AB p B) λQ=>bd (AG<|((i:Nat):Int)+(1:Int)) λD=>next ((p.set (B).toNat x),d,D)):=by
   intro d x J hx0 hxe;refine A5 BE<|A5 (Bc A4)<|A5 (Bc A4)<|A5 BE<|hn _ ⟨Xs V _ hx0,?_,?_,?_,J,⟨?_,?_⟩,?_⟩ ?_
   .simpa using g2
   .rw[CL,Fk A4];exact g3
   .intro m hm;dsimp only at hm⊢;rw[CL,getD_set_ne A4];exact W m A4
   .dsimp;omega
   .dsimp;omega
   .dsimp only;have e:(((i:Nat):Int)+1).toNat=i+1:=A4;rw[e,CL,iR,Gg,Fk<|BJ _,H6 (by rw[Hj];omega),Gg,Gg,g7,VV,Hx,hxe]
    generalize u.getD (j+i) 0=X at*
    generalize v.getD i 0=Y at*
    rw[Cy t,FA t];have:BI i*(X-(t*Y+c)+BT*d)=BI i*X-BI i*(t*Y)-BI i*c+BT*BI i*d:=AK;omega
   .dsimp;omega
  rw[gu] at hy;refine A5 (Bc A4)<|A5 (Bc A4)<|A5 (OA A4 A4) ?_
  rw[gu]
  generalize hq:t*v.getD i 0=q at*
  refine A5 (Dj ⟨by unfold BT at*;omega,by unfold BT at*;omega⟩) (A5 (div_pos A4 A4 (by unfold BT at*;omega)) ?_);refine CZ (λs:Int×Int=>(0<=s.1/\s.1<BT)/\(0<=s.2/\s.2<BT)/\s.2=u.getD (j+i) 0-(q+c)+BT*s.1) (λs hs=>step s.1 s.2 hs.1 hs.2.1 hs.2.2) λk hk=>Ab (λJ=>?_)<|λJ=>?_
  .have J:=Aq J;refine A5 (Dj ⟨by unfold BT at*;omega,by unfold BT at*;omega⟩) (A5 (Dj ⟨by unfold BT at*;omega,by unfold BT at*;omega⟩)<|hk _ ⟨?_,?_,?_⟩)<;>(dsimp;unfold BT at*;omega)
  .grind
 .grind
theorem afD{u:A3 Int}{E:A3 Int×Int×Int->A9 ρ}(hu:∀m,m≠j+n->0<=u.getD m 0/\u.getD m 0<BT)(hv:CG v)(G:v.length=n)(hj:j+n<u.length)(hl:u.length<4398046511)
 (h:∀D b,D.length=u.length->D.take j=u.take j->(∀m,j+n<=m->D.getD m 0=u.getD m 0)->(∀m,m≠j+n->0<=D.getD m 0/\D.getD m 0<BT)->(b=0\/b=1)->AL ((D.drop j).take n)+BI n*b=AL ((u.drop j).take n)+AL v->Yd R (E (D,b,(n:Int)))):Yd R (lp 18446744073709551616 (λ(qZ:(A3 Int×Int×Int)->A9 ρ) (B:A3 Int×Int×Int)=>cond (decide<|B.2.2<(v.length:Int)) (bd (AG<|B.2.2+(j:Int)) λP=>bd (AB B.1 P) λXI=>bd (AB B.1 P) λOR=>bd (AB v B.2.2) λOf=>bd (AG<|OR+Of) λNX=>bd (AG<|NX+B.2.1) λQ=>bd (AG<|B.2.2+(j:Int)) λH=>bd (Ex Q (1000000000:Int)) λOx=>bd (AB B.1 H) λiB=>bd (AB B.1 H) λiA=>bd (FV Q (1000000000:Int)) λI=>bd (AG<|B.2.2+(1:Int)) λJ=>qZ ((B.1.set (H).toNat Ox),I,J)) (E B)) (u,(0:Int),(0:Int))):=by
 subst G;refine Dl (λs:A3 Int×Int×Int=>s.1.length=u.length/\s.1.take j=u.take j/\(∀m,j+s.2.2.toNat<=m->s.1.getD m 0=u.getD m 0)/\(∀m,m≠j+v.length->0<=s.1.getD m 0/\s.1.getD m 0<BT)/\(s.2.1=0\/s.2.1=1)/\(0<=s.2.2/\s.2.2<=v.length)/\AL ((s.1.drop j).take s.2.2.toNat)+BI s.2.2.toNat*s.2.1=AL ((u.drop j).take s.2.2.toNat)+AL (v.take s.2.2.toNat))
  (λs=>v.length-s.2.2.toNat) ?_ _ _ ⟨rfl,rfl,λ_ _=>rfl,hu,.inl rfl,⟨by dsimp;omega,by dsimp;omega⟩,by simp[AL]⟩ (by dsimp;omega)
 rintro next ⟨p,c,z⟩ ⟨T,U,V,K,g5,⟨W,N⟩,g7⟩ hn
 dsimp only at K T U V g5 W N g7 hn⊢;obtain⟨i,rfl⟩:=EI W;simp only[CL,K3] at*;refine Ab (λO=>?_)<|λO=>?_
 .have O:=Aq O;have hi:i<v.length:=A4;have hx:=Fw hv i;have hy:=K (j+i) A4;have ej:(((i:Nat):Int)+((j:Nat):Int))=((j+i:Nat):Int):=A4;have Z:p.getD (j+i) 0=u.getD (j+i) 0:=V _<|BJ _
  rw[ej];rw[Z] at hy;have hS:0<=u.getD (j+i) 0+v.getD i 0+c/\u.getD (j+i) 0+v.getD i 0+c<2000000000:=AK;have F:AB p ((j+i:Nat):Int)=some (u.getD (j+i) 0):=by rw[<-Z];exact Bc A4
  have hdm:u.getD (j+i) 0+v.getD i 0+c=(u.getD (j+i) 0+v.getD i 0+c)%1000000000+BT*((u.getD (j+i) 0+v.getD i 0+c)/1000000000):=by unfold BT;omega
  have hr:0<=(u.getD (j+i) 0+v.getD i 0+c)%1000000000/\(u.getD (j+i) 0+v.getD i 0+c)%1000000000<BT:=by unfold BT;omega
  have hd:(u.getD (j+i) 0+v.getD i 0+c)/1000000000=0\/(u.getD (j+i) 0+v.getD i 0+c)/1000000000=1:=A4;refine A5 BE (A5 F (A5 F (A5 (Bc hi) (A5 (Dj ⟨A4,by unfold BT at*;omega⟩)<|A5 BE<|A5 BE<|A5 (OA hS.1 A4)<|A5 F<|A5 F<|A5 (div_pos hS.1 A4 A4)<|A5 BE<|hn _ ⟨?_,?_,?_,?_,hd,⟨?_,?_⟩,?_⟩ ?_))))
  .simpa using T
  .rw[CL,Fk A4];exact U
  .grind
  .intro m hm;rw[CL];by_cases e:m=j+i
   .grind
   .rw[getD_set_ne e];exact K m hm
  .dsimp;omega
  .dsimp;omega
  .dsimp only;have e:(((i:Nat):Int)+1).toNat=i+1:=A4;rw[e,CL,iR,Gg,Fk<|BJ _,H6 (by rw[Hj];omega),Gg,Gg,VV,Hx]
   generalize (u.getD (j+i) 0+v.getD i 0+c)%1000000000=r at*
   generalize (u.getD (j+i) 0+v.getD i 0+c)/1000000000=d at*
   generalize u.getD (j+i) 0=X at*
   generalize v.getD i 0=Y at*
   have:BI i*r+BT*BI i*d=BI i*X+BI i*Y+BI i*c:=AK;omega
  .dsimp;omega
 .grind
theorem yq{t:Int}(H:1<=t)(I:t<1000000000)(r:f=1000000000/(t+1)):1<=f/\f<=500000000/\(t+1)*f<=1000000000/\1000000000<=2*(t*f):=by
 have B:(0:Int)<t+1:=A4;have D:(t+1)*f<=1000000000:=by rw[r,EO];exact Int.ediv_mul_le _ A4
 have E:1000000000<(f+1)*(t+1):=by rw[r];exact Int.lt_ediv_add_one_mul_self _ B
 have a3:1<=f:=by rw[r];exact(Int.le_ediv_iff_mul_le B).2 A4
 have a4:f<=500000000:=by have:2*f<=(t+1)*f:=Kf A4 A4;omega
 refine⟨a3,a4,D,?_⟩;rw[GQ,H9] at E;have e:(t+1)*f=t*f+f:=AK;have G:f*(t+1)=t*f+f:=AK;rw[e] at D;rw[G] at E;have J:t<=t*f:=by have:t*1<=t*f:=E7 a3 A4;omega
 rcases(show t=1\/1000000000<=2*t\/(2<=t/\2*t<=999999998) by omega) with h|h|⟨h,K⟩
 .subst h;omega
 .omega
 .rcases(show 1000000000<=2*(t*f)\/2*(t*f)<=999999999 by omega) with h3|h3
  .exact h3
  .exfalso;have F:t*(1000000000-t)<=t*(t*f+f):=E7 A4 A4;have b2:t*(2*(t*f))<=t*999999999:=E7 h3 A4;have b3:0<(t-1)*(999999999-2*t):=Int.mul_pos A4 A4;rw[S7] at F;rw[Cy] at F;rw[FA] at b2;rw[Xw,H9,S7,FA t 2 t] at b3
   generalize t*t=T at*
   generalize t*(t*f)=Q at*
   generalize t*f=P at*
   omega
theorem ao3(r:Ez b)(B:b.length=k+2)(J:f=1000000000/(b.getD (k+1) 0+1))(D:Ez v)(E:AL v=AL b*f):v.length=k+2/\BT<=2*v.getD (k+1) 0/\BI (k+1)*f<=AL v/\1<=f/\f<=500000000:=by
 have K:=L8<|k+1
 have F:b≠[]:=AK;have l1:=Rj r.1 F r.2;rw[B,show k+2-1=k+1 by omega] at l1;have N:=TZ (l:=b) (n:=k+1) A4;rw[Ce A4] at N;let⟨Y,O⟩:=ED<|Jr r.1<|k+1
 rw[Dd,Ds A4] at O;have P:=Fw r.1<|k+1
 generalize b.getD (k+1) 0=t at*
 have G:1<=t:=AK;let⟨Q,T,f3,Z⟩:=yq G (by unfold BT at P;omega) J;have H:(AL b+1)*f<=(BI (k+1)*(t+1))*f:=Kf (by rw[Cy,JS];omega) A4;rw[GQ,H9,EV] at H;have u2:BI (k+1)*((t+1)*f)<=BI (k+1)*BT:=E7 (by unfold BT;omega) A4;have I:(BI (k+1)*t)*f<=AL b*f:=Kf A4 A4;rw[EV] at I;have u4:BI (k+1)*1<=BI (k+1)*(t*f):=E7 A4 A4;have u5:BI (k+1)*f<=BI (k+1)*(t*f):=E7 (by have:1*f<=t*f:=Kf G A4;omega) A4
 rw[<-E] at H I;have U:v.length<=k+2:=D.len (by rw[Hx,EO];omega);have Sw:k+2<=v.length:=by
  rcases G8 v.length (k+2) with h|h
  .have a:=(ED D.1).2;have b:=xc (show v.length<=k+1 by omega);omega
  .exact h
 have e:v.length=k+2:=A4;refine⟨e,?_,A4,Q,T⟩;have V:=TZ (l:=v) (n:=k+1) A4;rw[Ce A4] at V;let⟨m3,W⟩:=ED<|Jr D.1<|k+1
 rw[Dd,Ds A4] at W;have X:BI (k+1)*(t*f)<BI (k+1)*(v.getD (k+1) 0+1):=AK;have m6:=eS X<|Dr K
 unfold BT;omega
theorem ald{x:A3 Int}{L:Nat}{K:A3 Int->A9 ρ}(D:CG x)(E:x.length<=L+1)(N:L<109951162)(h:∀u,CG u->u.length=L+1->AL u=AL x->Yd R (K u)):Yd R (lp 18446744073709551616 (λ(k26:(A3 Int)->A9 ρ) (e:(A3 Int))=>bd (AG<|(L:Int)+(1:Int)) λF=>cond (decide<|(e.length:Int)<F) (bd (BC 8 e ([(0:Int)]:A3 Int)) λG=>k26 G) (K e)) x):=by
 refine Dl (λs:A3 Int=>CG s/\s.length<=L+1/\AL s=AL x) (λs=>L+1-s.length) ?_ _ _ ⟨D,E,rfl⟩ A4;rintro next s ⟨H,O,I⟩ J
 refine A5 BE<|Ab (λr=>?_)<|λr=>?_
 .have r:=Aq r;refine A5 (Z1 A4) (J _ ⟨?_,by rw[DD,G2];omega,?_⟩ (by rw[DD,G2];omega))
  .rw[ai];exact⟨H,λy B=>by rw[CW] at B;subst B;unfold BT;omega⟩
  .rw[Pb];simp[AL,I]
 .grind
def aEg(h:∀m,0<=l.getD m 0/\l.getD m 0<BT):CG l:=λx e=>by obtain⟨i,hi,rfl⟩:=List.getElem_of_mem e;have:=h i;rwa [HD,FT hi] at this
def uu:∀{l:A3 Int},(∀m,l.getD m 0=0)->AL l=0
 |[],_=>rfl
 |x::l,h=>by
  have e:x=0:=by simpa using h 0
  have:=uu (l:=l) λm=>by simpa using h (m+1)
  rw[KP,e,this];omega
def top_lt{u:A3 Int}{A V:Int}{L:Nat}(r:CG u)(B:u.length=L+1)(G:m+(k+2)=L+1)(H:AL u=A*f)(I:A<BI L)(J:1<=f)(D:BI (k+1)*f<=V):AL (u.drop m)<V:=by
 have K:=Pe u m A4;let⟨N,O⟩:=ED<|Jr r m
 have P:=L8 m;have e:BI L=BI m*BI (k+1):=by rw[<-cw];congr 1;omega
 have E:(A+1)*f<=BI L*f:=Kf A4 A4;rw[GQ,H9,e,EV] at E;have Q:BI m*(BI (k+1)*f)<=BI m*V:=E7 D A4;have F:BI m*AL (u.drop m)<BI m*V:=A4;exact eS F A4
theorem ajL{u:A3 Int}{K:A3 Int×Int->A9 ρ}(H:CG u)(hv:CG v)(F:v.length=k+2)(hj:j+(k+3)<=u.length)(hlen:u.length<439804651)(Vd:BT<=2*v.getD (k+1) 0)(hlt:AL (u.drop<|j+1)<AL v)
 (h:∀l t,CG l->l.length=u.length->l.take j=u.take j->0<=t->t<BT->AL (l.drop j)=AL (u.drop j)-t*AL v->AL (l.drop j)<AL v->Yd R (K (l,t))):Yd R (bd (WV u v (j:Int)) λUG=>lp 18446744073709551616 (λ(k46:(A3 Int×Int×Int)->A9 ρ) (r:A3 Int×Int×Int)=>cond (decide<|r.2.2<(v.length:Int)) (bd (AB v r.2.2) λOu=>bd (AG<|UG*Ou) λNZ=>bd (AG<|NZ+r.2.1) λJe=>bd (AG<|r.2.2+(j:Int)) λLW=>bd (AB r.1 LW) λNb=>bd (AB r.1 LW) λLf=>bd (Ex Je (1000000000:Int)) λMb=>bd (AG<|Lf-Mb) λNa=>bd (FV Je (1000000000:Int)) λQ=>jn (λ(T:Int×Int)=>bd (AG<|r.2.2+(j:Int)) λVP=>bd (AB r.1 VP) λx75=>bd (AB r.1 VP) λx77=>bd (AG<|r.2.2+(1:Int)) λx79=>k46 ((r.1.set (VP).toNat T.2),T.1,x79)) λU=>cond (decide<|Na<(0:Int)) (bd (AG<|Na+(1000000000:Int)) λx69=>bd (AG<|Q+(1:Int)) λx71=>U (x71,x69)) (U (Q,Na))) (bd (AG<|(j:Int)+(v.length:Int)) λN=>bd (AG<|(j:Int)+(v.length:Int)) λV=>bd (AB r.1 V) λx85=>bd (AB r.1 V) λx87=>bd (AG<|x87-r.2.1) λQp=>bd (AB r.1 N) λx91=>bd (AB r.1 N) λx93=>bd (AG<|(j:Int)+(v.length:Int)) λW=>bd (AB (r.1.set (N).toNat Qp) W) λx97=>bd (AB (r.1.set (N).toNat Qp) W) λx99=>jn (λ(af9:A3 Int×Int)=>K af9) λI=>cond (decide<|x99<(0:Int)) (bd (AG<|UG-(1:Int)) λaaW=>lp 18446744073709551616 (λ(qZ:(A3 Int×Int×Int)->A9 ρ) (B:A3 Int×Int×Int)=>cond (decide<|B.2.2<(v.length:Int)) (bd (AG<|B.2.2+(j:Int)) λWw=>bd (AB B.1 Ww) λXI=>bd (AB B.1 Ww) λOR=>bd (AB v B.2.2) λOf=>bd (AG<|OR+Of) λNX=>bd (AG<|NX+B.2.1) λXe=>bd (AG<|B.2.2+(j:Int)) λXa=>bd (Ex Xe (1000000000:Int)) λOx=>bd (AB B.1 Xa) λiB=>bd (AB B.1 Xa) λiA=>bd (FV Xe (1000000000:Int)) λaDB=>bd (AG<|B.2.2+(1:Int)) λaCp=>qZ ((B.1.set (Xa).toNat Ox),aDB,aCp)) (bd (AG<|(j:Int)+(v.length:Int)) λgW=>bd (AG<|(j:Int)+(v.length:Int)) λX=>bd (AB B.1 X) λaaz=>bd (AB B.1 X) λaaV=>bd (AG<|aaV+B.2.1) λaaS=>bd (AB B.1 gW) λaax=>bd (AB B.1 gW) λaaw=>I ((B.1.set (gW).toNat aaS),aaW))) ((r.1.set (N).toNat Qp),(0:Int),(0:Int))) (I ((r.1.set (N).toNat Qp),UG)))) (u,(0:Int),(0:Int))):=by
 have hVb:=ED hv;rw[F] at hVb;have hP:=L8<|k+2
 have eW:AL (u.drop j)=u.getD j 0+BT*AL (u.drop<|j+1):=by rw[Ls A4,KP]
 have hj0:=Fw H j;have hW0:0<=AL (u.drop j):=(ED<|Rv H j).1;have arT:AL (u.drop j)<BT*AL v:=AK;have E:AL ((u.drop j).drop<|k+3)=0:=vR (Rv H j) (by rw[Hj];omega) (by
  rw[Hx];have:BT*AL v<BT*BI (k+2):=by unfold BT;omega
  omega)
 have Y:AL (u.drop j)=AL ((u.drop j).take<|k+3):=by have:=Pe (u.drop j) (k+3) (by rw[Hj];omega);rw[E] at this;omega
 have hz:∀m,j+(k+3)<=m->u.getD m 0=0:=λm hm=>by have:=adU (l:=u.drop j) E (Rv H j) (m:=m-j) A4;rwa [VV,show j+(m-j)=m by omega] at this
 have atH:AL ((u.drop j).take<|k+3)=AL ((u.drop j).take<|k+2)+BI (k+2)*u.getD (j+(k+2)) 0:=by rw[Gg,VV]
 refine Au (ahw (k:=k) (j:=j) H hv F hj A4 Vd rfl (by rw[<-Y];exact arT)) ?_;rintro t ⟨⟨Z,ht1⟩,Oe,hup⟩;rw[<-Y] at Oe hup;refine agC (j:=j) (n:=k+2) H hv F A4 A4 ⟨Z,ht1⟩ ?_;intro J b g1 g2 g3 g4 g5 g6;dsimp;have en:((j:Int)+(v.length:Int))=((j+(k+2):Nat):Int):=A4;rw[en];have gt:J.getD (j+(k+2)) 0=u.getD (j+(k+2)) 0:=g4 _<|BJ _
 have hb2:=Fw H<|j+(k+2)
 have i2:AB J ((j+(k+2):Nat):Int)=some (u.getD (j+(k+2)) 0):=by rw[<-gt];exact Bc A4
 have hS:=ED<|Jr (Rv g1 j)<|k+2
 rw[Dd,Hj,Ds A4] at hS;refine A5 BE (A5 BE (A5 i2 (A5 i2 (A5 (Dj ⟨by unfold BT at*;omega,by unfold BT at*;omega⟩)<|A5 i2<|A5 i2<|A5 BE ?_))));rw[CL];have i3:AB (J.set (j+(k+2))<|u.getD (j+(k+2)) 0-b) ((j+(k+2):Nat):Int)=some (u.getD (j+(k+2)) 0-b):=by rw[Bc (by rw[J6];omega),H6 A4]
 refine A5 i3<|A5 i3 ?_
 have eD:AL (u.drop j)-t*AL v=AL ((J.drop j).take<|k+2)+BI (k+2)*(u.getD (j+(k+2)) 0-b):=AK;rw[Xw,H9] at Oe;rw[GQ,H9] at hup
 generalize u.getD (j+(k+2)) 0-b=y at*
 have hy1: -1<=y:=by
  rcases(show -1<=y\/y<= -2 by omega) with h|h
  .exact h
  .have:=E7 h (Dr hP);omega
 have hy2:y<=0:=by
  rcases(show y<=0\/1<=y by omega) with h|h
  .exact h
  .have:=E7 h (Dr hP);omega
 have fin:∀(l:A3 Int) (O:Int),l.length=u.length->l.take j=u.take j->(∀m,j+(k+2)<m->l.getD m 0=u.getD m 0)->(∀m,m≠j+(k+2)->0<=l.getD m 0/\l.getD m 0<BT)->0<=O->O<BT->AL ((l.drop j).take<|k+2)=AL (u.drop j)-O*AL v->AL ((l.drop j).take<|k+2)<AL v->∀G,G=l.set (j+(k+2)) 0->Yd R (K (G,O)):=by
  intro l O q1 q2 q3 q4 q5 q6 q7 q8 G D;have ok2:CG G:=aEg λm=>by
   by_cases e:m=j+(k+2)
   .grind
   .rw[D,getD_set_ne e];exact q4 m e
  have ev:AL (G.drop j)=AL ((l.drop j).take<|k+2):=by
   have e1:=Pe (G.drop j) (k+2) (by rw[Hj,D,J6];omega);have e2:(G.drop j).take (k+2)=(l.drop j).take (k+2):=by rw[D,iR,Fk<|BJ _]
   have e3:AL ((G.drop j).drop<|k+2)=0:=uu λm=>by
    rw[VV,VV,D];by_cases e:m=0
    .grind
    .rw[<-Iw,getD_set_ne A4,q3 _ A4];exact hz _ A4
   rw[e1,e2,e3];omega
  exact h G O ok2 (by rw[D,J6];exact q1) (by rw[D,Fk A4];exact q2) q5 q6 (by rw[ev];exact q7) (by rw[ev];exact q8)
 refine CZ (λs:A3 Int×Int=>∃l:A3 Int,(l.length=u.length/\l.take j=u.take j/\(∀m,j+(k+2)<m->l.getD m 0=u.getD m 0)/\(∀m,m≠j+(k+2)->0<=l.getD m 0/\l.getD m 0<BT))/\(0<=s.2/\s.2<BT)/\AL ((l.drop j).take<|k+2)=AL (u.drop j)-s.2*AL v/\AL ((l.drop j).take<|k+2)<AL v/\s.1=l.set (j+(k+2)) 0) ?_ ?_
 .grind
 intro I hk;refine Ab (λhc=>?_)<|λhc=>?_
 .have hc:=Aq hc;have hy:y= -1:=A4;subst hy;have ht2:1<=t:=AK;refine A5 (Dj ⟨A4,by unfold BT at*;omega⟩) ?_;refine afD (j:=j) (n:=k+2) ?_ hv F (by rw[J6];omega) (by rw[J6];omega) ?_
  .intro m hm;rw[getD_set_ne hm];exact Fw g1 m
  intro P c r1 r2 r3 r4 r5 r6;dsimp only;rw[J6] at r1;rw[Fk A4] at r2;have e6:((J.set (j+(k+2))<| -1).drop j).take (k+2)=(J.drop j).take (k+2):=by rw[iR,Fk<|BJ _]
  rw[e6] at r6;have r4':P.getD (j+(k+2)) 0= -1:=AK;have i4:AB P ((j+(k+2):Nat):Int)=some (-1):=by rw[<-r4'];exact Bc A4
  have VO:0<=AL ((P.drop j).take<|k+2)/\AL ((P.drop j).take<|k+2)<BI (k+2):=by
   have ok:CG ((P.drop j).take<|k+2):=aEg λm=>by
    by_cases e:m<k+2
    .rw[aiv e];exact r4 _ A4
    .grind
   have:=ED ok;rwa [Dd,Hj,Ds A4] at this
  have hc1:c=1:=AK;subst hc1;refine A5 BE (A5 BE (A5 i4 (A5 i4 (A5 BE (A5 i4 (A5 i4 (hk _ ⟨P,⟨A4,by rw[r2,g3],?_,r4⟩,⟨by dsimp;omega,by dsimp;omega⟩,?_,?_,?_⟩)))))))
  .grind
  .grind
  .omega
  .grind
 .have hc:=BX hc;have hy:y=0:=A4;subst hy;refine hk _ ⟨J,⟨g2,g3,λm hm=>g4 m A4,λm _=>Fw g1 m⟩,⟨Z,ht1⟩,?_,?_,rfl⟩
  .dsimp;omega
  .omega
theorem aCA(h:l.length<1099511627776):BC 8 ([]:A3 Int) l=some l:=by grind [BC]
theorem kL(F:Ez a)(E:Ez b)(h0:b≠[])(hla:a.length<43980465)(hlb:b.length<43980465):Yd (λp=>(Ez p.1/\Ez p.2)/\AL p.1=AL a/AL b/\AL p.2=AL a%AL b) (TO a b):=by
 unfold TO;have G:=E.pos h0;have J:=(ED F.1).1;refine Au (sD F E A4 A4) λc hcmp=>Ab (λK=>?_)<|λK=>Ab (λN=>?_)<|λN=>?_
 .have K:=Aq K;have O:AL a<AL b:=AK;exact AV ⟨⟨Ez.nil,F⟩,by rw[Int.ediv_eq_zero_of_lt J O];rfl,(SJ J O).symm⟩
 .have N:=Aq N;obtain⟨d,rfl⟩:∃d,b=[d]:=eP.1 A4;have hd:AL [d]=d:=by simp[AL]
  rw[hd] at G⊢;have hd2:=E.1 d AO;refine A5 (x:=d) rfl (Au (u7 F.1 ⟨G,by unfold BT at hd2;omega⟩ A4) ?_);rintro⟨w,r⟩ ⟨P,Q,Y,g4⟩;dsimp only at P Q Y⊢;have hr0:=JY (AL a) (show d≠0 by omega);have hr1:=J8 (AL a) G;have okr:CG [r]:=λx T=>by rw[CW] at T;subst T;omega
  refine Au (Rs okr AO) λz ⟨q1,q2,_⟩=>AV ⟨⟨P,q1⟩,Q,?_⟩
  rw[q2,<-Y];simp[AL]
 .have N:=BX N;have K:=BX K;have hge:AL b<=AL a:=AK;have atG:0<b.length:=SN.2 h0;obtain⟨k,hk⟩:∃k,b.length=k+2:=⟨b.length-2,A4⟩;have hal:k+2<=a.length:=by
   rcases G8 a.length (k+2) with h|h
   .have:=aZ F.1 E A4;omega
   .exact h
  have e1:((b.length:Int)-1)=((k+1:Nat):Int):=A4;rw[e1];have hbt:=Fw E.1<|k+1
  generalize Z:1000000000/(b.getD (k+1) 0+1)=f
  have hdv:FV 1000000000 (b.getD (k+1) 0+1)=some f:=by rw[<-Z];exact div_pos A4 A4 A4
  have hf0:0<=f/\f<=1000000000:=by rw[<-Z];exact⟨J5 A4 A4,QI _ A4⟩
  refine A5 BE (A5 (Bc A4) (A5 (Dj ⟨A4,by unfold BT at*;omega⟩)<|A5 hdv ?_));have hf1:1<=f/\f<=500000000:=by
   have hb1:b.getD (k+1) 0≠0:=λe=>by have l1:=Rj E.1 h0 E.2;have l2:=TZ (l:=b) (n:=k+1) A4;rw[Ce A4,e] at l2;have l3:=(ED<|Jr E.1<|k+1).2;rw[Dd,Ds A4] at l3;rw[hk,show k+2-1=k+1 by omega] at l1;omega
   have:=yq (t:=b.getD (k+1) 0) A4 (by unfold BT at hbt;omega) Z.symm;exact⟨this.1,this.2.1⟩
  have U:CG [f]:=λx T=>by rw[CW] at T;subst T;unfold BT;omega
  have vf:AL [f]=f:=by simp[AL]
  refine Au (kK E.1 U A4 AO) λv ⟨v1,v2,v3⟩=>?_
  rw[vf] at v2;let⟨n1,n2,n3,_,_⟩:=ao3 E hk Z.symm v1 v2;refine Au (kK F.1 U A4 AO) λu0 ⟨w1,w2,w3⟩=>?_
  rw[vf] at w2;rw[G2] at w3;refine A5 (aCA A4)<|ald w1.1 w3 A4 ?_
  intro u hu hul V;rw[w2] at V;obtain⟨m,hm⟩:∃m,m+1+(k+2)=a.length+1:=⟨a.length-(k+2),A4⟩;have em:((u.length:Int)-(v.length:Int))=((m+1:Nat):Int):=A4;rw[em];refine A5 BE<|A5 (NU A4 A4 A4)<|A5 BE<|A5 BE ?_
  rw[CL];have hAp:AL a<BI a.length:=(ED F.1).2;have Qq:=top_lt hu hul hm V hAp hf1.1 n3;refine Dl (λs:A3 Int×A3 Int×Int=>CG s.1/\s.1.length=u.length/\CG s.2.1/\s.2.1.length=m+1/\ -1<=s.2.2/\s.2.2<(m+1:Nat)/\AL (s.1.drop (s.2.2+1).toNat)<AL v/\
    AL u=AL s.1+AL v*(BI (s.2.2+1).toNat*AL (s.2.1.drop (s.2.2+1).toNat))) (λs=>(s.2.2+1).toNat) ?_ _ _
   ⟨hu,rfl,kN _,AO,BO,BO,?_,?_⟩ BO
  rotate_left
  .grind
  .dsimp only;have e:(((m+1:Nat):Int)-1+1).toNat=m+1:=A4;rw[e,Ke AO];simp[AL]
  rintro next ⟨D,q,z⟩ ⟨s1,s2,s3,s4,s5,s6,W,H⟩ hn
  dsimp only at s1 s2 s3 s4 s5 s6 W H hn⊢;refine Ab (λI=>?_)<|λI=>?_
  .have I:=Aq I;obtain⟨j,rfl⟩:=EI I;have ej:(((j:Nat):Int)+1).toNat=j+1:=A4;rw[ej] at W H;refine ajL (k:=k) (j:=j) s1 v1.1 n1 A4 A4 n2 W ?_;intro l t r1 r2 r3 r4 r5 r6 r7;refine A5 (Bc A4) (A5 (Bc A4) (A5 BE (hn _ ⟨r1,BO,Xs s3 _ ⟨r4,r5⟩,by simpa using s4,BO,BO,?_,?_⟩ ?_)))
   .grind
   .dsimp only;have e:(((j:Nat):Int)-1+1).toNat=j:=A4;rw[e,CL,aA A4,KP,H,Pe D j A4,Pe l j A4,r3,r6,Hx];have x1:BI j*(AL (D.drop j)-t*AL v)=BI j*AL (D.drop j)-AL v*(BI j*t):=AK;have x2:AL v*(BI j*(t+BT*AL (q.drop<|j+1)))=AL v*(BI j*t)+AL v*(BT*BI j*AL (q.drop<|j+1)):=AK;rw[x1,x2];omega
   .dsimp only;omega
  .have I:=BX I;have:z= -1:=A4;subst this;have W:AL D<AL v:=W;have H:AL u=AL D+AL v*(BI 0*AL q):=H;rw[Rt,H9] at H;have u'0:=(ED s1).1;have hVb:=(ED v1.1).2;have htk:AL (D.take v.length)=AL D:=by have:=Pe D v.length A4;rw[vR s1 A4 A4] at this;omega
   refine A5 (DV A4 A4 A4) ?_;have et:((D.take ((v.length:Nat):Int).toNat).drop (0:Int).toNat)=D.take v.length:=AO;rw[et];refine Au (Rs (Jr s1 _) (by rw[Dd];omega)) λy ⟨y1,y2,y3⟩=>A5 (x:=f) rfl ?_
   rw[Dd] at y3;refine Au (u7 y1.1 ⟨A4,A4⟩ A4) ?_;rintro⟨w,r⟩ ⟨P,Q,Y,g4⟩;dsimp only at P Q Y⊢;refine Au (Rs s3 A4) λx ⟨x1,x2,_⟩=>AV ⟨⟨x1,P⟩,?_⟩
   dsimp only;rw[x2,Q,y2,htk];have hR:AL D=f*(AL a-AL b*AL q):=AK;have X:AL D/f=AL a-AL b*AL q:=by rw[hR,pQ _ A4]
   rw[X];have hR0:0<=AL a-AL b*AL q:=by rw[<-X];exact J5 u'0 A4
   have hR1:AL a-AL b*AL q<AL b:=by refine eS (a:=f) ?_ A4;rw[<-hR,EO f];omega
   have:=Wv (A:=AL a) (B:=AL b) (q:=AL q) (r:=AL a-AL b*AL q) (by rw[EO<|AL q];omega) hR0 hR1;exact this
def Xn:∀n:Nat,BI n=((10^(9*n):Nat):Int)
 |0=>rfl
 |n+1=>by rw[Hx,Xn n,show 9*(n+1)=9*n+9 by omega,KU,QH];unfold BT;omega
def aah(e:CG a)(r:a.length<=10000000):Nat.log2 (AL a).toNat<1099511627776:=by
 have h:=ED e;rw[Xn] at h;have B:=J9 (show 0<10 by omega) (show 9*a.length<=90000000 by omega);have:Cc ((AL a).toNat:Int)=true:=Lx (n:=90000000) (by
  rw[EH]
  generalize 10^(9*a.length)=P at*
  generalize 10^90000000=Q at*
  omega) A4
 have:=Cs this;rw[EH] at this;omega
def yF(e:0<=x)(r:0<y):Int.gcd y (x%y)=Int.gcd x y:=by
 obtain⟨m,rfl⟩:=EI e;obtain⟨n,rfl⟩:=EI<|Dr r
 show Nat.gcd n (((m%n:Nat):Int)).natAbs=Nat.gcd m n;rw[EH,QD n,<-Nat.gcd_rec,QD]
theorem vE(P:Ez a)(Q:Ez b)(D:a.length<=10000000)(E:b.length<=10000000):Yd (λw=>Ez w/\AL w=(Int.gcd (AL a) (AL b):Int)/\w.length<=10000000) (WL a b):=by
 unfold WL;refine Dl (λs:A3 Int×A3 Int=>Ez s.1/\Ez s.2/\s.1.length<=10000000/\s.2.length<=10000000/\Int.gcd (AL s.1) (AL s.2)=Int.gcd (AL a) (AL b)) (λs=>muG (AL s.1).toNat (AL s.2).toNat) ?_ _ _ ⟨P,Q,D,E,rfl⟩<|qH (aah P.1 D)<|aah Q.1 E
 rintro next ⟨x,y⟩ ⟨F,G,T,U,N⟩ V
 dsimp only at F G T U N V⊢;refine Ab (λH=>?_)<|λH=>?_
 .have H:=Aq H;have B:y≠[]:=AK;have I:=G.pos B;have J:=(ED F.1).1;refine Au (kL F G B A4 A4) ?_;rintro⟨q,r⟩ ⟨⟨W,O⟩,X,K⟩;dsimp only at W O X K⊢;have Z:=J8 (AL x) I;have Y:r.length<=y.length:=O.len (by rw[K];have:=(ED G.1).2;omega);refine V _ ⟨G,O,U,BO,?_⟩ ?_
  .dsimp only;rw[K,<-N,yF J I]
  .dsimp only;rw[K];have e:(AL x%AL y).toNat=(AL x).toNat%(AL y).toNat:=AK;rw[e];exact ni A4
 .have H:=BX H;have B:y=[]:=Hk A4;subst B;refine AV ⟨F,?_,T⟩;have J:=(ED F.1).1;rw[<-N];show AL x=((Int.gcd (AL x) 0:Nat):Int);rw[Int.gcd_zero_right];omega
def ale{a b:Int}(F:0<=a/\a<=4000000000000000000)(G:0<=b/\b<=4000000000000000000):Wp a b=some (Int.gcd a b:Int):=by
 refine F8 ?_;unfold Wp;have r:∀x:Int,0<=x/\x<=4000000000000000000->Nat.log2 x.toNat<1099511627776:=λx J=>by have:=Lx (z:=x) (n:=19) Co A4;have:=Cs this;rw[show x.natAbs=x.toNat by omega] at this;omega
 refine Dl (λs:Int×Int=>(0<=s.1/\s.1<=4000000000000000000)/\(0<=s.2/\s.2<=4000000000000000000)/\Int.gcd s.1 s.2=Int.gcd a b) (λs=>muG s.1.toNat s.2.toNat) ?_ _ _ ⟨F,G,rfl⟩<|qH (r a F)<|r b G
 rintro next ⟨x,y⟩ ⟨B,H,D⟩ I
 dsimp only at B H D I⊢;refine Ab (λe=>?_)<|λe=>?_
 .have e:=Aq e;have K:=J8 x e;have E:=JY x (show y≠0 by omega);refine A5 (OA B.1 e)<|I _ ⟨H,⟨E,BO⟩,?_⟩ ?_
  .dsimp only;rw[<-D,yF B.1 e]
  .dsimp only;rw[Int.toNat_emod B.1<|Dr e];exact ni A4
 .have e:=BX e;have:y=0:=A4;subst this;refine AV ?_;rw[<-D,Int.gcd_zero_right];omega
def XW(n:Nat):0<(B5 n).length:=by
 by_cases h:n<10
 .rw[Lw h];simp
 .rw[Pm h];simp
theorem oq{r:Nat}(h:k<=(B5 r).length):Ga k r=B5 r:=by simp_all [B5,Ga]
def ai5(h:0<m/10\/1<k):Ga k m=Ga (k-1) (m/10)++[UInt8.ofNat<|48+m%10]:=by
 by_cases e:m<10
 .have hk:1<k:=A4;obtain⟨j,rfl⟩:∃j,k=j+2:=⟨k-2,A4⟩;unfold Ga;rw[show m/10=0 by omega,Lw e,Lw (show 0<10 by omega),show m%10=m by omega];simp only[G2];rw[show j+2-1=j+1 by omega,show j+1-1=j by omega,List.replicate_succ'];rfl
 .unfold Ga;rw[Pm e,DD,G2,show k-((B5<|m/10).length+1)=k-1-(B5<|m/10).length by omega,Fz]
def ajb(e:m/10=0)(r:k<=1):Ga k m=[UInt8.ofNat<|48+m%10]:=by rw[oq (by have:=XW m;omega),Lw A4,show m%10=m by omega]
def aof(h:d<10):(([48,49,50,51,52,53,54,55,56,57]:AA).take<|d+1).drop d=[UInt8.ofNat<|48+d]:=by match d,h with|0,_=>rfl|1,_=>rfl|2,_=>rfl|3,_=>rfl|4,_=>rfl|5,_=>rfl|6,_=>rfl|7,_=>rfl|8,_=>rfl|9,_=>rfl
theorem Ly{l m:AA}(h:l.length+m.length<=9223372036854775807):GZ l m=some (l++m):=by grind [GZ]
theorem km(I:n<=9000000000000000000)(J:1<=k/\k<=20):Ks (n:Int) (k:Int)=some (Ga k n):=by
 refine F8 ?_;unfold Ks;refine Dl (λs:Int×AA=>∃m:Nat,s.1=m/\m<=n/\m+s.2.length<=n+20/\Ga k n=(if 0<m\/s.2.length<k then Ga (k-s.2.length) m++s.2 else s.2)) (λs=>s.1.toNat+(k-s.2.length)) ?_ _ _ ⟨n,rfl,BJ _,AO,?_⟩ BO
 .rintro next ⟨z,s⟩ ⟨m,rfl,h0,h1,h2⟩ Ge
  dsimp only at h1 h2 Ge⊢;refine Ab (λD=>?_)<|λD=>?_
  .have hg:0<m\/s.length<k:=by rw[OH,G0,G0] at D;omega
   rw[if_pos hg] at h2;have E:((m:Int)%10)=((m%10:Nat):Int):=A4;have F:((m:Int)/10)=((m/10:Nat):Int):=A4;have G:m%10<10:=M1 _ A4;have e:Ex (m:Int) 10=some ((m%10:Nat):Int):=by rw[OA A4 A4,E]
   have r:FV (m:Int) 10=some ((m/10:Nat):Int):=by rw[div_pos A4 A4 A4,F]
   have H:Bo ([48,49,50,51,52,53,54,55,56,57]:AA) ((m%10:Nat):Int) (((m%10:Nat):Int)+1)=some [UInt8.ofNat<|48+m%10]:=by rw[DV A4 A4 Co,CL,show(((m%10:Nat):Int)+1).toNat=m%10+1 by omega,aof G]
   refine A5 e<|A5 e<|A5 BE<|A5 H<|A5 (Ly Co)<|A5 r<|Ge _ ⟨m/10,rfl,A4,?_,?_⟩ ?_
   .grind
   .dsimp only;simp only[List.singleton_append,DP];rw[h2];by_cases B:0<m/10\/s.length+1<k
    .rw[if_pos B,ai5 A4,Fz,show k-s.length-1=k-(s.length+1) by omega];rfl
    .rw[if_neg B,ajb A4 A4];rfl
   .grind
  .have hg: ¬(0<m\/s.length<k):=by rw[Ie,Gm,Gm] at D;omega
   rw[if_neg hg] at h2;exact AV h2.symm
 .grind
def aja{r:Nat}(e:0<k)(h:r<10^k):(Ga k r).length=k:=by have:=Jt k r e h;unfold Ga;rw[DD,Kd];omega
def nX(h:EL p z)(X:p.2.length<=10000000):RV p=some (Br z):=by
 refine F8 ?_;let⟨F,N,H⟩:=h;let⟨neg,w⟩:=p;dsimp only at F N H X;unfold RV;dsimp only;refine Ab (λI=>?_)<|λI=>?_
 .have I:=Aq I;have Y:w=[]:=Hk A4;subst Y;have Z:z=0:=by have:(0:Int)=(z.natAbs:Int):=N;omega
  subst Z;exact AV rfl
 .have I:=BX I;obtain⟨n,T⟩:∃n,w.length=n+1:=⟨w.length-1,A4⟩;have O:w≠[]:=by intro e;subst e;simp at T
  have e1:((w.length:Int)-1)=(n:Int):=A4;rw[e1];have ht:=Fw F.1 n;have Vd:0<w.getD n 0:=by
   have l1:=Rj F.1 O F.2;have U:=TZ (l:=w) (n:=n) A4;rw[Ce A4] at U;have l3:=(ED<|Jr F.1 n).2;rw[Dd,Ds A4] at l3;rw[T,Nat.add_sub_cancel] at l1;rcases(show 0<w.getD n 0\/w.getD n 0=0 by omega) with h|h
   .exact h
   .rw[h] at U;omega
  let⟨t,J⟩:=EI ht.1;have P:Ks (w.getD n 0) 1=some (Ga 1 t):=by rw[J];exact km (k:=1) (by unfold BT at*;omega) A4
  refine A5 BE<|A5 (Bc A4)<|A5 P<|A5 BE ?_
  rw[oq<|XW t];have Qq:(B5 t).length<=9:=Jt 9 t A4 (by unfold BT at*;omega);refine Dl (λs:AA×Int=> -1<=s.2/\s.2<n/\s.1=B5 (AL<|w.drop (s.2+1).toNat).toNat/\0<AL (w.drop (s.2+1).toNat)/\s.1.length+9*(s.2+1).toNat<=100000000) (λs=>(s.2+1).toNat) ?_ _ _ ⟨BO,BO,?_,?_,?_⟩ BO
  .rintro next ⟨s,i⟩ ⟨g1,g2,B,g4,K⟩ hnx
   dsimp only at g1 g2 B g4 K hnx⊢;refine Ab (λG=>?_)<|λG=>?_
   .have G:=Aq G;obtain⟨j,rfl⟩:=EI G;have ej:(((j:Nat):Int)+1).toNat=j+1:=A4;have D:(((j:Nat):Int)-1+1).toNat=j:=A4;rw[ej] at B g4 K;have hx:=Fw F.1 j;let⟨r,V⟩:=EI hx.1;have hr9:r<1000000000:=by unfold BT at*;omega
    have Q:Ks (w.getD j 0) 9=some (Ga 9 r):=by rw[V];exact km (k:=9) A4 A4
    have T5:(Ga 9 r).length=9:=aja A4 A4;have W:AL (w.drop j)=r+BT*AL (w.drop<|j+1):=by rw[Ls A4,KP,V]
    refine A5 (Bc A4)<|A5 Q<|A5 (Ly A4)<|A5 BE<|hnx _ ⟨BO,BO,?_,?_,?_⟩ BO
    .dsimp only;rw[D,B,W];have e:(((r:Nat):Int)+BT*AL (w.drop<|j+1)).toNat=(AL<|w.drop<|j+1).toNat*10^9+r:=by unfold BT;omega
     rw[e,mG 9 _ r A4 A4 A4]
    .dsimp only;rw[D,W];unfold BT;omega
    .dsimp only;rw[D,List.length_append,T5];omega
   .have G:=BX G;have:i= -1:=A4;subst this;have B:s=B5 (AL w).toNat:=B;have e2:(AL w).toNat=z.natAbs:=by rw[N];omega
    rw[e2] at B;have K:s.length+0<=100000000:=K;refine Ab (λE=>?_)<|λE=>?_
    .refine A5 (Ly (by simp only[G2];omega)) (AV ?_);rw[E] at H;unfold Br;rw[<-H,B];rfl
    .rw[E] at H;refine AV ?_;unfold Br;rw[<-H,B];rfl
  .dsimp only;have e:(((w.length:Int)-2)+1).toNat=n:=A4;rw[e,Ls A4,Ke A4];simp only[AL,J];simp
  .dsimp only;have e:(((w.length:Int)-2)+1).toNat=n:=A4;rw[e,Ls A4,Ke A4];simp only[AL];omega
  .dsimp only;omega
def abB{l:AA}{b:UInt8}(h:l[n]? =some b):AB l (n:Int)=some b:=h
theorem bL{b:UInt8}(h:DM b=true):48<=b.toNat/\b.toNat<=57:=by simp_all [DM]
def bD(G:s.all DM=true)(O:s.length<=18):Lm s=some (BP s:Int):=by
 refine F8 ?_;unfold Lm;refine Dl (λt:Int×Int=>0<=t.2/\t.2<=s.length/\t.1=(BP (s.take t.2.toNat):Int)) (λt=>s.length-t.2.toNat) ?_ _ _ ⟨by dsimp;omega,by dsimp;omega,by simp[BP]⟩ (by dsimp;omega);rintro next ⟨v,i⟩ ⟨H,J,E⟩ I
 dsimp only at H J E I⊢;obtain⟨n,rfl⟩:=EI H;rw[CL] at E;refine Ab (λB=>?_)<|λB=>?_
 .have B:=Aq B;have r:n<s.length:=A4;have F:(s.take n).all DM=true:=DC.2 λx K=>DC.1 G x<|OL K
  have N:=O8 _ F;rw[Dd,Ds A4] at N;have P:(10:Nat)^n<=10^17:=J9 A4 A4;have Q:=bL<|DC.1 G _<|Ja r
  have D:wr .i64 ((s[n].toNat:Nat):Int)=(s[n].toNat:Int):=by show IntKind.wrap .i64 _=_;rw[IntKind.wrap_i64];omega
  refine A5 BE (A5 (abB<|FT r) (A5 (Dj ⟨by rw[D];omega,by rw[D];omega⟩) (A5 (Dj ⟨by rw[D];omega,by rw[D];omega⟩) (A5 BE (I _ ⟨by dsimp;omega,by dsimp;omega,?_⟩ (by dsimp;omega))))));rw[D,show(((n:Nat):Int)+1).toNat=n+1 by omega,List.take_succ,FT r,Wj,E];have e:BP [s[n]]=s[n].toNat-48:=by simp[BP]
  simp[Option.toList_some,G2,e];omega
 .have B:=BX B;have:n=s.length:=A4;subst this;refine AV ?_;rw[E,Ce<|BJ _]
def mU{ds:AA}(neg:Bool)(T:ds.all DM=true)(U:ds≠[])(hl:ds.length<=80000000):Yd (λp=>EL p (bif neg then -(BP ds:Int) else(BP ds:Int))/\p.2.length<=ds.length) (PV (bif neg then 45::ds else ds)):=by
 unfold PV;have core:Yd (λp=>EL p (bif neg then -(BP ds:Int) else(BP ds:Int))/\p.2.length<=ds.length)
  (lp 18446744073709551616 (λ(k9:(AA×A3 Int)->A9 _) (B:AA×A3 Int)=>cond (decide<|(9:Int)<(B.1.length:Int)) (bd (AG<|(B.1.length:Int)-(9:Int)) λrO=>bd (Bo B.1 rO (B.1.length:Int)) λiX=>bd (Lm iX) λiZ=>bd (BC 8 B.2 ([iZ]:A3 Int)) λiY=>bd (AG<|(B.1.length:Int)-(9:Int)) λrQ=>bd (Bo B.1 0 rQ) λPN=>k9 (PN,iY)) (bd (Lm B.1) λNu=>bd (BC 8 B.2 ([Nu]:A3 Int)) λMu=>bd (Io neg Mu) λTh=>some Th)) (ds,[])):=by
  refine Dl (λt:AA×A3 Int=>t.1.all DM=true/\t.1≠[]/\t.1.length<=80000000/\CG t.2/\t.1.length+t.2.length<=ds.length/\(BP ds:Int)=BP t.1*BI t.2.length+AL t.2) (λt=>t.1.length) ?_ _ _ ⟨T,U,hl,dL,AO,by simp[Rt,AL]⟩ BO;rintro next ⟨s,w⟩ ⟨D,V,g3,W,g5,K⟩ X
  dsimp only at D V g3 W g5 K X⊢;have E:∀x:AA,x.all DM=true->x.length<=9->0<=(BP x:Int)/\(BP x:Int)<BT:=λx F IE=>by have h1:=O8 x F;have h2:(10:Nat)^x.length<=10^9:=J9 A4 IE;unfold BT;omega
  have ext:∀v:Int,0<=v/\v<BT->CG (w++[v]):=λv G=>by rw[ai];exact⟨W,λy Y=>by rw[CW] at Y;subst Y;exact G⟩
  refine Ab (λH=>?_)<|λH=>?_
  .have H:=Aq H;obtain⟨n,Ge⟩:∃n,s.length=n+9:=⟨s.length-9,A4⟩;have e1:((s.length:Int)-9)=(n:Int):=A4;rw[e1];have N:(s.take n).all DM=true:=DC.2 λx F=>DC.1 D x<|OL F
   have I:(s.drop n).all DM=true:=DC.2 λx F=>DC.1 D x<|SO F
   have O:(s.drop n).length=9:=by rw[Hj];omega
   have es:Bo s (n:Int) (s.length:Int)=some (s.drop n):=by rw[DV A4 A4 A4];simp
   have et:Bo s 0 (n:Int)=some (s.take n):=by rw[DV A4 A4 A4];simp
   have G:=E _ I A4;refine A5 BE<|A5 es<|A5 (bD I A4)<|A5 (Z1 A4)<|A5 BE<|A5 et<|X _ ⟨N,?_,?_,ext _ G,?_,?_⟩ ?_
   .intro e;have:=congrArg List.length e;rw[List.length_take,SG] at this;omega
   .dsimp only;rw[List.length_take];omega
   .dsimp only;rw[List.length_take,List.length_append,List.length_singleton];omega
   .dsimp only;have J:BP s=BP (s.take n)*10^9+BP (s.drop n):=by
     conv=>lhs;rw[<-MK n s]
     rw[Wj,O]
    rw[K,J,List.length_append,List.length_singleton,Hx,Pb];have e:AL [(BP (s.drop n):Int)]=BP (s.drop n):=by simp[AL]
    rw[e,Int.natCast_add,QH,GQ,EV];have:((10^9:Nat):Int)=BT:=rfl;rw[this,EO (BP (s.drop n):Int)];omega
   .dsimp only;rw[List.length_take];omega
  .have H:=BX H;have G:=E s D A4;have hs0:0<s.length:=SN.2 V;refine A5 (bD D A4) (A5 (Z1 A4) (Au (vA (ext _ G) (by rw[List.length_append,List.length_singleton];omega)) λp ⟨Z,p2⟩=>AV ?_));have e:AL (w++[(BP s:Int)])=(BP ds:Int):=by
    rw[Pb,K];have e:AL [(BP s:Int)]=BP s:=by simp[AL]
    rw[e,EO];omega
   rw[e] at Z;rw[List.length_append,List.length_singleton] at p2;exact⟨Z,A4⟩
 cases neg with
 |true=>
  simp only[BF] at core⊢;refine FC (λ_=>⟨45,rfl,?_⟩) (λh=>by simp[gd] at h);have P:((decide<|(0:Int)<((45::ds).length:Int))&&(decide<|((45:UInt8).toNat:Int)=(45:Int)))=true:=by rw[B1 (by simp only[DP];omega)];rfl
  rw[P];have es:Bo (45::ds) (1:Int) ((45::ds).length:Int)=some ds:=by rw[DV A4 (by simp only[DP];omega) A4,CL,Ce<|BJ _];rfl
  exact CZ (λs=>s=ds) (λs J=>by subst J;exact core) λk Q=>Ab (λ_=>A5 es<|Q _ rfl) (λh=>by cases h)
 |false=>
  obtain⟨d,r,rfl⟩:∃d r,ds=d::r:=by cases ds with|nil=>exact absurd rfl U|cons d r=>exact⟨d,r,rfl⟩
  have hdd:=bL<|DC.1 T d AO
  simp only[Av] at core⊢;refine FC (λ_=>⟨d,rfl,?_⟩) (λh=>by simp[gd] at h);have P:((decide<|(0:Int)<((d::r).length:Int))&&(decide<|(d.toNat:Int)=(45:Int)))=false:=by rw[Bb (show¬(d.toNat:Int)=45 by omega),Y3]
  rw[P];exact CZ (λs=>s=d::r) (λs J=>by subst J;exact core) λk Q=>Ab (λh=>by cases h)<|λ_=>Q _ rfl
theorem mT(I:k<=s.length)(J:∀i,i<k->s[i]? ≠some 47)(F:k<s.length->s[k]? =some 47)(K:s.length<1099511627776):JK s=some (k:Int):=by
 refine F8 ?_;unfold JK;refine Dl (λi:Int=>0<=i/\i<=k) (λi=>s.length-i.toNat) ?_ _ _ ⟨A4,A4⟩ A4;rintro next i ⟨G,N⟩ H
 obtain⟨n,rfl⟩:=EI G;refine Ab (λB=>?_)<|λB=>?_
 .have B:=Aq B;have D:n<s.length:=A4;have E:=FT D;refine A5 (abB E)<|Ab (λr=>?_)<|λr=>?_
  .have r:=Aq r;refine AV ?_;have O:s[n]=47:=df.1 (by show _=47;omega);rcases G8 n k with h|h
   .grind
   .omega
  .have r:=BX r;rcases G8 n k with h|h
   .exact A5 BE<|H _ ⟨A4,A4⟩ A4
   .have e:n=k:=A4;subst e;have:=F D;rw[E] at this;have:=E2 this;rw[this] at r;exact absurd rfl r
 .have B:=BX B;exact AV A4
def An(q:Rat):AA:=Br q.num++(bif decide (q.den=1) then [] else 47::B5 q.den)
def KR(n:Nat):(B5 n).all DM=true/\BP (B5 n)=n:=by
 induction n using Nat.strongRecOn with
 |ind n ih=>
  have one:∀d,d<10->DM (UInt8.ofNat<|48+d)=true/\BP [UInt8.ofNat<|48+d]=d:=by
   intro d e
   match d,e with|0,_=>decide|1,_=>decide|2,_=>decide|3,_=>decide|4,_=>decide|5,_=>decide|6,_=>decide|7,_=>decide|8,_=>decide|9,_=>decide
  by_cases h:n<10
  .rw[Lw h];have:=one n h;exact⟨by rw[M3,this.1];rfl,this.2⟩
  .rw[Pm h];let⟨r,B⟩:=ih (n/10) A4;have:=one (n%10) A4;refine⟨by rw[dh,r,M3,this.1];rfl,?_⟩;rw[Wj,B,this.2,G2];omega
def aB4(n:Nat):B5 n≠[]:=λe=>by have:=XW n;rw[e] at this;simp at this
def fG(h:(B5 n).length<=k):n<10^k:=by have:=O8 _ (KR n).1;rw[(KR n).2] at this;have e:(10:Nat)^(B5 n).length<=10^k:=J9 A4 h;omega
def aj3(z:Int):Br z=bif decide (z<0) then 45::B5 z.natAbs else B5 z.natAbs:=rfl
def lK(z:Int):∀x∈Br z,x≠47:=by
 intro x r e;subst e;have B:(47:UInt8)∉B5 z.natAbs:=λh=>by have:=DC.1 (KR z.natAbs).1 _ h;simp[DM] at this
 unfold Br at r;cases D:decide (z<0) with
 |true=>
  rw[D] at r;have r:(47:UInt8)∈45::B5 z.natAbs:=r;rcases Ak.1 r with h|h
  .cases h
  .exact B h
 |false=>rw[D] at r;exact B r
def bX{t:AA}(r:∀x∈u,x≠47)(B:(u++47::t).length<1099511627776):JK (u++47::t)=some (u.length:Int):=by refine mT AO (λi hi=>?_) (λ_=>by simp) B;rw[K4 hi,FT hi];intro e;exact r _ (Ja hi)<|E2 e
def nQ(r:∀x∈u,x≠47)(B:u.length<1099511627776):JK u=some (u.length:Int):=by refine mT (BJ _) (λi hi=>?_) (λh=>absurd h<|Nat.lt_irrefl _) B;rw[FT hi];intro e;exact r _ (Ja hi)<|E2 e
theorem U9(z:Int):(Br z).length<=(B5 z.natAbs).length+1:=by grind [Br,B5]
theorem me(B:(B5 z.natAbs).length<=80000000):Yd (λp=>EL p z/\p.2.length<=80000000) (PV<|Br z):=by
 have h:=mU (decide<|z<0) (KR z.natAbs).1 (aB4 _) B;rw[(KR _).2] at h;rw[<-aj3] at h;refine h.imp λp r=>⟨?_,A4⟩
 have e:(bif decide (z<0) then -(z.natAbs:Int) else(z.natAbs:Int))=z:=AK;rw[e] at r;exact r.1
def ai4(r:(B5 n).length<=80000000):Yd (λp=>EL p (n:Int)/\p.2.length<=80000000) (PV<|B5 n):=by
 have h:=me (z:=(n:Int)) (by simpa using r);have e:Br (n:Int)=B5 n:=by unfold Br;rw[Bb A4];simp
 rwa [e] at h
def agy:PT 1=some (false,[1]):=A6
def ahv(D:(B5 q.num.natAbs).length<=80000000)(H:(B5 q.den).length<=80000000):Yd (λp=>(EL p.1 q.num/\EL p.2 (q.den:Int))/\p.1.2.length<=80000000/\p.2.2.length<=80000000) (Kv<|An q):=by
 have E:=U9 q.num;unfold Kv An;cases e:decide (q.den=1) with
 |true=>
  have e:=Aq e;simp[BF,HB];refine A5 (nQ (lK _) A4)<|Ab (λ_=>?_)<|λh=>absurd rfl<|BX h
  refine Au (me D) λp B=>A5 agy<|AV ⟨⟨B.1,?_⟩,B.2,AO⟩
  rw[e];refine⟨⟨λx F=>?_,AO⟩,rfl,rfl⟩;rw[CW] at F;subst F;unfold BT;omega
 |false=>
  have e:=BX e;simp only[Av];have I:(Br q.num++47::B5 q.den).length=(Br q.num).length+1+(B5 q.den).length:=by simp;omega
  refine A5 (bX (lK _) A4) (Ab (λh=>by have:=Aq h;omega)<|λ_=>?_);have es:Bo (Br q.num++47::B5 q.den) 0 ((Br q.num).length:Int)=some (Br q.num):=by rw[DV A4 A4 A4];simp
  have J:Bo (Br q.num++47::B5 q.den) (((Br q.num).length:Int)+1) ((Br q.num++47::B5 q.den).length:Int)=some (B5 q.den):=by rw[DV A4 A4 A4,CL,Ce<|BJ _,show(((Br q.num).length:Int)+1).toNat=(Br q.num).length+1 by omega,<-Ee];simp
  refine A5 es<|Au (me D) λp B=>A5 BE<|A5 J<|Au (ai4 H) λr G=>AV ⟨⟨B.1,G.1⟩,B.2,G.2⟩
def EL.len{p:Bool×A3 Int}{z:Int}(h:EL p z){n:Nat}(e:(z.natAbs:Int)<BI n):p.2.length<=n:=h.1.len (by rw[h.2.1];exact e)
def EL.lt(h:EL p z):(z.natAbs:Int)<BI p.2.length:=by rw[<-h.2.1];exact(ED h.1.1).2
def Ny{b:Bool}(e:CG w)(B:w.length<=400000000)(r:(bif b then -AL w else AL w)=z):Yd (λp=>EL p z/\p.2.length<=w.length) (Io b w):=by rw[<-r];exact vA e A4
theorem Xj(h:EL p z):(bif p.1 then -AL p.2 else AL p.2)=z:=by grind [EL,AL]
theorem wG(h:EL p z)(e:p.2.length<=400000000):Yd (λq=>EL q (-z)/\q.2.length<=p.2.length) (WU p):=by
 unfold WU;refine Au (Ny (z:= -z) h.1.1 e ?_) λq r=>AV r
 have:=Xj h;cases B:p.1
 .grind
 .grind
def X9{q:Bool×A3 Int}(e:EL p x)(B:EL q y)(G:p.2.length<=100000000)(H:q.2.length<=100000000):Yd (λr=>EL r (x*y)/\r.2.length<=p.2.length+q.2.length) (PU p q):=by
 unfold PU;refine Au (kK e.1.1 B.1.1 A4 A4) λw ⟨D,E,I⟩=>Au (Ny (z:=x*y) D.1 A4 ?_) λr F=>AV ⟨F.1,A4⟩
 rw[E,<-Xj e,<-Xj B]
 generalize AL p.2=a
 generalize AL q.2=b
 cases p.1<;>cases q.1<;>simp[Int.neg_mul,Int.mul_neg]
theorem ajM{q:Bool×A3 Int}(D:EL p x)(E:EL q y)(W:p.2.length<=100000000)(X:q.2.length<=100000000):Yd (λr=>EL r (x+y)/\r.2.length<=p.2.length+q.2.length+1) (aL p q):=by
 unfold aL;have sp:=Xj D;have K:=Xj E;have a0:=(ED D.1.1).1;have Y:=(ED E.1.1).1;have F:∀{a b:A3 Int},Ez a->Ez b->AL a<=AL b->a.length<=b.length:=λQ T h=>by
  rcases G8 (List.length _) (List.length _) with N|N
  .have:=aZ T.1 Q N;omega
  .exact N
 refine Ab (λB=>?_)<|λB=>?_
 .have B:p.1=q.1:=by simpa using B
  refine Au (aeB D.1.1 E.1.1 A4 A4) λw ⟨G,H,O⟩=>Au (Ny (z:=x+y) G A4 ?_) λr I=>AV ⟨I.1,A4⟩
  rw[H,<-sp,<-K,<-B];cases p.1
  .rfl
  .grind
 .have B:p.1= !q.1:=by cases U:p.1<;>cases V:q.1<;>rw[U,V] at B<;>first|rfl|cases B
  refine Au (sD D.1 E.1 A4 A4) λc P=>Ab (λJ=>?_)<|λJ=>?_
  .have J:=Aq J;have e:AL q.2<=AL p.2:=AK;refine Au (tR D.1.1 E.1.1 (F E.1 D.1 e) A4 e) λw ⟨G,H,O⟩=>Au (Ny (z:=x+y) G.1 A4 ?_) λr I=>AV ⟨I.1,A4⟩
   rw[H,<-sp,<-K,B];cases q.1
   .grind
   .grind
  .have J:=BX J;have e:AL p.2<=AL q.2:=AK;refine Au (tR E.1.1 D.1.1 (F D.1 E.1 e) A4 e) λw ⟨G,H,O⟩=>Au (Ny (z:=x+y) G.1 A4 ?_) λr I=>AV ⟨I.1,A4⟩
   rw[H,<-sp,<-K,B];cases q.1
   .grind
   .grind
def y5(h:Ez w):(decide ((w.length:Int)=1)=true/\w.getD 0 0=1)↔AL w=1:=by
 constructor
 .rintro⟨D,r⟩;have D:=Aq D;obtain⟨d,rfl⟩:∃d,w=[d]:=eP.1 A4;have r:d=1:=by simpa using r
  subst r;simp[AL]
 .intro hv;have E:w.length<=1:=h.len (by rw[hv,Hx,Rt];unfold BT;omega);have B:w≠[]:=by intro e;subst e;simp[AL] at hv
  have:0<w.length:=SN.2 B;obtain⟨d,rfl⟩:∃d,w=[d]:=eP.1 A4;have:d=1:=by simpa[AL] using hv
  subst this;exact⟨rfl,rfl⟩
def akP{g:Int}(D:0<g)(B:g∣x):(bif decide (x<0) then -((x.natAbs:Int)/g) else(x.natAbs:Int)/g)=x/g:=by
 cases r:decide (x<0) with
 |true=>have:=Aq r;have e:(x.natAbs:Int)= -x:=A4;rw[e,Int.neg_ediv_of_dvd B];simp
 |false=>have:=BX r;have e:(x.natAbs:Int)=x:=A4;rw[e];rfl
theorem aH{q:Bool×A3 Int}(hp:EL p x)(U:EL q y)(h0:y≠0)(hl:p.2.length<=8000000)(hm:q.2.length<=8000000):PC p q=some (An<|(x:Rat)/(y:Rat)):=by
 refine F8 ?_;unfold PC;have en:((x:Rat)/(y:Rat)).num=(y.sign*x)/(Int.gcd y x:Int):=by rw[<-M8,da]
 have ed:(((x:Rat)/(y:Rat)).den:Int)=(y.natAbs:Int)/(Int.gcd y x:Int):=by rw[<-M8,dZ,if_neg h0];rfl
 have hg0:0<Int.gcd y x:=ek _ h0;refine CZ (λt:(Bool×A3 Int)×(Bool×A3 Int)=>EL t.1 (y.sign*x)/\EL t.2 (y.natAbs:Int)/\t.1.2.length<=8000000/\t.2.2.length<=8000000) ?_<|λk hk=>Ab (λD=>?_)<|λD=>?_
 .rintro⟨a,b⟩ ⟨E,H,V,W⟩;dsimp only at E H V W⊢;have hX:(y.sign*x).natAbs=x.natAbs:=AK;have hg:Int.gcd (y.sign*x) (y.natAbs:Int)=Int.gcd y x:=by rw[Int.gcd_comm];unfold Int.gcd;rw[hX,EH]
  refine Au (vE E.1 H.1 A4 A4) λg ⟨g1,g2,g3⟩=>?_
  have I:AL g=(Int.gcd y x:Int):=by rw[g2,E.2.1,H.2.1,<-hg];unfold Int.gcd;simp
  have N:g≠[]:=by intro e;subst e;have:(0:Int)=(Int.gcd y x:Int):=I;omega
  refine Au (kL E.1 g1 N A4 A4) ?_;rintro⟨q1,r1⟩ ⟨⟨X,_⟩,T,_⟩;refine Au (kL H.1 g1 N A4 A4) ?_;rintro⟨F,r2⟩ ⟨⟨O,_⟩,b2,_⟩;dsimp only at X T O b2⊢;rw[I,E.2.1] at T;rw[I,H.2.1,EH] at b2;have Y:(0:Int)<(Int.gcd y x:Int):=A4;have Z:(Int.gcd y x:Int)∣y.sign*x:=Int.dvd_trans (Int.gcd_dvd_right _ _)<|Int.dvd_mul_left _ _
  have at4:q1.length<=8000000:=CA (X.len (n:=a.2.length) (by rw[T];have:=QI (b:=(Int.gcd y x:Int)) (a:=((y.sign*x).natAbs:Int)) A4;have:=E.lt;omega)) V
  have at3:F.length<=8000000:=CA (O.len (n:=b.2.length) (by rw[b2];have:=QI (b:=(Int.gcd y x:Int)) (a:=(y.natAbs:Int)) A4;have:=H.lt;rw[EH] at this;omega)) W
  have v1:(bif a.1 then -AL q1 else AL q1)=((x:Rat)/(y:Rat)).num:=by rw[en,T,E.2.2];exact akP Y Z
  refine Au (Ny X.1 A4 v1) λs ⟨s1,s2⟩=>A5 (nX s1 A4) ?_
  have v2:AL F=(((x:Rat)/(y:Rat)).den:Int):=by rw[ed,b2]
  have P:=y5 O;have hnl:(Br ((x:Rat)/(y:Rat)).num).length<=80000000:=by
   have h1:=U9 ((x:Rat)/(y:Rat)).num;have Q:=s1.lt;rw[Xn] at Q;by_cases J:s.2.length=0
   .rw[J] at Q;have:((x:Rat)/(y:Rat)).num.natAbs<10:=AK;have:=Jt 1 _ A4 (show _<10^1 by omega);omega
   .have:=Jt (9*s.2.length) ((x:Rat)/(y:Rat)).num.natAbs A4 A4;omega
  have hdl:(B5 ((x:Rat)/(y:Rat)).den).length<=80000000:=by
   have Q:=(ED O.1).2;rw[v2,Xn] at Q;by_cases J:F.length=0
   .rw[J] at Q;have hp:=((x:Rat)/(y:Rat)).den_pos;have:(10:Nat)^(9*0)=1:=rfl;omega
   .have:=Jt (9*F.length) ((x:Rat)/(y:Rat)).den A4 A4;omega
  have asD:((x:Rat)/(y:Rat)).den=1->Br ((x:Rat)/(y:Rat)).num=An ((x:Rat)/(y:Rat)):=λh=>by unfold An;rw[B1 h];simp
  have two:((x:Rat)/(y:Rat)).den≠1->Yd (λr=>r=An ((x:Rat)/(y:Rat))) (bd (GZ (Br ((x:Rat)/(y:Rat)).num) ([47]:AA)) λPN=>bd (Io false F) λNu=>bd (RV Nu) λMu=>bd (GZ PN Mu) λTh=>some Th):=λh=>by
   refine A5 (Ly Co)<|Au (Ny (b:=false) O.1 A4 v2) λt ⟨t1,t2⟩=>A5 (nX t1 A4) ?_
   have e:Br (((x:Rat)/(y:Rat)).den:Int)=B5 ((x:Rat)/(y:Rat)).den:=by unfold Br;rw[Bb A4];simp
   rw[e];refine A5 (Ly Co)<|AV ?_
   unfold An;rw[Bb h];simp
  by_cases B:(F.length:Int)=1
  .have D:=B1 B;have K:gd (decide<|(F.length:Int)=1) true=true:=by rw[D];rfl
   rw[C6 K];refine A5 (Bc (n:=0) A4)<|Ab (λG=>?_)<|λG=>?_
   .rw[Bq] at G;have h1:=P.1 ⟨G.1,Aq G.2⟩;exact AV<|asD A4
   .grind
  .have D:=Bb B;have K:gd (decide<|(F.length:Int)=1) true=false:=by rw[D];rfl
   rw[DG K];refine Ab (λG=>by rw[D,M4] at G;cases G)<|λG=>two λe=>?_
   have h1:=P.2 (by rw[v2,e];rfl);exact B<|Aq h1.1
 .have hn:y<0:=by rw[U.2.2] at D;exact Aq D
  refine Au (wG hp A4) λa ⟨E,V⟩=>Au (wG U A4) λb ⟨H,W⟩=>hk _ ⟨?_,?_,by dsimp;omega,by dsimp;omega⟩
  .grind
  .grind
 .have hn: ¬y<0:=by rw[U.2.2] at D;exact BX D
  refine hk _ ⟨?_,?_,hl,hm⟩
  .grind
  .grind
def bq(q:Rat)(n:Nat):Prop:=q.num.natAbs<10^n/\q.den<10^n
theorem Sl(r:y≠0):((x:Rat)/(y:Rat)).num.natAbs<=x.natAbs/\((x:Rat)/(y:Rat)).den<=y.natAbs:=by
 have B:((x:Rat)/(y:Rat)).num=(y.sign*x)/(Int.gcd y x:Int):=by rw[<-M8,da]
 have D:((x:Rat)/(y:Rat)).den=y.natAbs/(Int.gcd y x):=by rw[<-M8,dZ,if_neg r]
 have E:0<Int.gcd y x:=ek _ r;refine⟨?_,by rw[D];exact Nat.div_le_self _ _⟩;rw[B];have F:(y.sign*x).natAbs=x.natAbs:=AK;have e:(Int.gcd y x:Int)∣y.sign*x:=Int.dvd_trans (Int.gcd_dvd_right _ _)<|Int.dvd_mul_left _ _
 rw[Int.natAbs_ediv_of_dvd e,F,EH];exact Nat.div_le_self _ _
theorem ap1{x:Rat}(h:bq x n):bq (-x) n:=by simp_all [bq]
def gK(h:bq q n)(e:0<n):(B5 q.num.natAbs).length<=n/\(B5 q.den).length<=n:=⟨Jt n _ e h.1,Jt n _ e h.2⟩
def EL.bl(h:EL p z)(e:z.natAbs<10^n):p.2.length<=n:=by refine h.len ?_;rw[Xn];have:=J9 (show 0<10 by omega) (show n<=9*n by omega);omega
def Ps(h:bq q n)(B:0<n)(D:n<=1900000):Yd (λp=>(EL p.1 q.num/\EL p.2 (q.den:Int))/\p.1.2.length<=n/\p.2.2.length<=n) (Kv<|An q):=by have E:=gK h B;refine(ahv A4 A4).imp λp ⟨⟨e,r⟩,_,_⟩=>⟨⟨e,r⟩,e.bl h.1,r.bl (by rw[EH];exact h.2)⟩
def lL(z:Int)(t:AA):∃c r,Br z++t=c::r/\((c.toNat:Int)=45↔z<0)/\(c=45->r=B5 z.natAbs++t)/\(z<0->r=B5 z.natAbs++t):=by
 unfold Br;cases B:decide (z<0) with
 |true=>have:=Aq B;exact⟨45,B5 z.natAbs++t,rfl,⟨λ_=>this,λ_=>rfl⟩,λ_=>rfl,λ_=>rfl⟩
 |false=>
  have D:=BX B;have E:=(KR z.natAbs).1;obtain⟨d,l,e⟩:∃d l,B5 z.natAbs=d::l:=by cases h:B5 z.natAbs with|nil=>exact absurd h<|aB4 _|cons d l=>exact⟨d,l,rfl⟩
  have F:=bL (DC.1 E d (by rw[e];simp));refine⟨d,l++t,by show B5 z.natAbs++t=_;rw[e];rfl,⟨λh=>by omega,λh=>absurd h D⟩,λh=>?_,λh=>absurd h D⟩;subst h;exact absurd F.1 IK
def bM(n:Nat):∀x∈B5 n,x≠47:=λx r e=>by subst e;have:=DC.1 (KR n).1 _ r;simp[DM] at this
def DQ(q:Rat):AA:=bif decide (q.den=1) then [] else 47::B5 q.den
theorem bE(h:bq q n)(V:0<n)(hm:n<=1900000):Yd (λr=>r.2.2=false\/(r=(q.num,(q.den:Int),true)/\q.num.natAbs<1000000000/\q.den<1000000000)) (RN<|An q):=by
 have hl:=gK h V;let⟨c,r,e,fR,hr,H⟩:=lL q.num<|DQ q
 have W:An q=c::r:=e;have X:r.length<=3800002:=by
  have Y:=congrArg List.length e;have h2:=U9 q.num;have h3:(DQ q).length<=n+1:=by
   unfold DQ;cases decide (q.den=1)
   .simp;omega
   .simp
  simp[DD,DP] at Y;omega
 unfold RN;rw[W];refine Ab (λ_=>AV<| .inl rfl)<|λ_=>?_
 have Z:gd (decide<|(0:Int)<((c::r).length:Int)) true=true:=by rw[B1 (by simp only[DP];omega)];rfl
 rw[C6 Z];refine A5 (x:=c) rfl ?_;have hb:((decide<|(0:Int)<((c::r).length:Int))&&(decide<|(c.toNat:Int)=(45:Int)))=decide (q.num<0):=AK;rw[hb];refine CZ (λs=>s=B5 q.num.natAbs++DQ q) ?_<|λk F=>Ab (λB=>?_)<|λB=>?_
 .rintro s rfl;have I:JK (B5 q.num.natAbs++DQ q)=some ((B5 q.num.natAbs).length:Int):=by
   unfold DQ;cases D:decide (q.den=1)
   .exact bX (bM _) Co
   .rw[BF,HB];exact nQ (bM _) A4
  have E:(B5 q.num.natAbs++DQ q).length=(B5 q.num.natAbs).length+(DQ q).length:=AO;have Qq:(DQ q).length<=n+1:=by
   unfold DQ;cases decide (q.den=1)
   .simp;omega
   .simp
  refine A5 I ?_;have rest:(B5 q.num.natAbs).length<=9->(DQ q).length<=10->Yd (λr=>r.2.2=false\/(r=(q.num,(q.den:Int),true)/\q.num.natAbs<1000000000/\q.den<1000000000))
   (bd (Bo (B5 q.num.natAbs++DQ q) 0 ((B5 q.num.natAbs).length:Int)) λNi=>bd (Lm Ni) λO=>jn (λ(J:Int)=>jn (λ(K:Int)=>some (K,J,true)) λIm=>cond (decide<|q.num<0) (bd (AG<|(0:Int)-O) λNF=>Im NF) (Im O)) λP=>cond (decide<|((B5 q.num.natAbs).length:Int)<((B5 q.num.natAbs++DQ q).length:Int)) (bd (AG<|((B5 q.num.natAbs).length:Int)+(1:Int)) λPN=>bd (Bo (B5 q.num.natAbs++DQ q) PN ((B5 q.num.natAbs++DQ q).length:Int)) λNu=>bd (Lm Nu) λMu=>P Mu) (P (1:Int))):=by
   intro h9 RA;have hN:q.num.natAbs<1000000000:=fG h9;have es:Bo (B5 q.num.natAbs++DQ q) 0 ((B5 q.num.natAbs).length:Int)=some (B5 q.num.natAbs):=by rw[DV A4 A4 A4];simp
   have Q:=bD (KR q.num.natAbs).1 A4;rw[(KR _).2] at Q;refine A5 es<|A5 Q ?_
   refine CZ (λd=>d=(q.den:Int)/\q.den<1000000000) ?_<|λk F=>Ab (λB=>?_)<|λB=>?_
   .rintro d ⟨rfl,hD⟩;refine CZ (λz=>z=q.num) (λz hz=>by subst hz;exact AV<| .inr ⟨rfl,hN,hD⟩)<|λk F=>Ab (λB=>?_)<|λB=>?_
    .have B:=Aq B;exact A5 BE<|F _ A4
    .grind
   .have B:=Aq B;have D:decide (q.den=1)=false:=by
     cases D:decide (q.den=1) with
     |false=>rfl
     |true=>unfold DQ at E B;rw[D] at E B;simp at B
    have G:DQ q=47::B5 q.den:=by unfold DQ;rw[D];rfl
    rw[G,DP] at RA;have eu:Bo (B5 q.num.natAbs++DQ q) (((B5 q.num.natAbs).length:Int)+1) ((B5 q.num.natAbs++DQ q).length:Int)=some (B5 q.den):=by rw[DV A4 A4 A4,CL,Ce<|BJ _,show(((B5 q.num.natAbs).length:Int)+1).toNat=(B5 q.num.natAbs).length+1 by omega,<-Ee,G];simp
    have T:=bD (KR q.den).1 A4;rw[(KR _).2] at T;exact A5 BE<|A5 eu<|A5 T<|F _ ⟨rfl,fG (k:=9) A4⟩
   .have B:=BX B;have D:q.den=1:=by
     cases D:decide (q.den=1) with
     |true=>exact Aq D
     |false=>unfold DQ at E B;rw[D] at E B;simp at B;omega
    exact F _ ⟨by rw[D];rfl,A4⟩
  by_cases U:(9:Int)<((B5 q.num.natAbs).length:Int)
  .have D:=B1 U;have N:gd (decide<|(9:Int)<((B5 q.num.natAbs).length:Int)) false=false:=by rw[D];rfl
   rw[DG N];exact Ab (λ_=>AV<| .inl rfl) (λh=>by rw[D,Y0] at h;cases h)
  .have D:=Bb U;have N:gd (decide<|(9:Int)<((B5 q.num.natAbs).length:Int)) false=true:=by rw[D];rfl
   rw[C6 N];refine A5 BE<|Ab (λ_=>AV<| .inl rfl)<|λh=>?_
   rw[D,SD] at h;have h:=BX h;exact rest A4 A4
 .have B:=Aq B;have es:Bo (c::r) (1:Int) ((c::r).length:Int)=some r:=by rw[DV A4 (by simp[DP];omega) A4,CL,Ce<|BJ _];rfl
  exact A5 es<|F _<|H B
 .have B:=BX B;refine F _ ?_;rw[<-e];unfold Br;rw[Bb B];rfl
theorem qE(z:Int):mx_ z (0-z)=(z.natAbs:Int):=by grind [mx_]
def aAi{g:Int}(r:0<g)(e:g∣x)(B: -9000000000000000000<=x/\x<=9000000000000000000):FV x g=some (x/g):=by
 unfold FV;rw[Bb A4,Int.tdiv_eq_ediv_of_dvd e];obtain⟨k,rfl⟩:=e;rw[pQ _ A4];refine Dj ⟨?_,?_⟩
 .rcases(show 0<=k\/k<0 by omega) with h|h
  .omega
  .have:g*k<=1*k:=Int.mul_le_mul_of_nonpos_right A4 A4;omega
 .rcases(show 0<=k\/k<0 by omega) with h|h
  .have:1*k<=g*k:=Kf A4 h;omega
  .omega
def abM(h:n<=9000000000000000000):Ks (n:Int) 1=some (B5 n):=by have:=km (k:=1) h A4;rw[oq<|XW _] at this;exact this
theorem aDn{a b:Int}(X: -4000000000000000000<=a/\a<=4000000000000000000)(I:0<b/\b<=4000000000000000000):X1 a b=some (An<|(a:Rat)/(b:Rat)):=by
 refine F8 ?_;unfold X1;have B:b≠0:=A4;have J:((a:Rat)/(b:Rat)).num=a/(Int.gcd b a:Int):=by rw[<-M8,da,Ur I.1,H9]
 have K:(((a:Rat)/(b:Rat)).den:Int)=b/(Int.gcd b a:Int):=by
  rw[<-M8,dZ,if_neg B];have:(b.natAbs:Int)=b:=A4
  conv=>rhs;rw[<-this]
  rfl
 have N:0<Int.gcd b a:=ek _ B;refine Ab (λe=>?_)<|λ_=>?_
 .grind
 refine CZ (λs:Int×Int=>s=(a,b)) ?_ (λk r=>Ab (λe=>by have:=Aq e;omega)<|λ_=>r _ rfl);rintro s rfl;have D:Wp (mx_ a<|0-a) b=some (Int.gcd b a:Int):=by
  rw[qE,ale ⟨A4,A4⟩ ⟨A4,I.2⟩]
  congr 2
  unfold Int.gcd;rw[EH,QD]
 have O:(Int.gcd b a:Int)∣a:=Int.gcd_dvd_right _ _;have P:(Int.gcd b a:Int)∣b:=Int.gcd_dvd_left _ _;refine A5 BE<|A5 D<|A5 (aAi A4 O A4)<|A5 (aAi A4 P A4) ?_
 rw[<-J,<-K];have Q:=Sl (x:=a) (y:=b) B
 generalize Y:((a:Rat)/(b:Rat))=q at*
 have Z:q.num.natAbs<=4000000000000000000:=A4;have hD:q.den<=4000000000000000000:=A4;have T:=q.den_pos;have E:Ks (mx_ q.num<|0-q.num) 1=some (B5 q.num.natAbs):=by rw[qE,abM A4]
 have F:Ks (q.den:Int) 1=some (B5 q.den):=by exact abM A4
 have U:=Jt 19 q.num.natAbs A4 A4;have V:=Jt 19 q.den A4 A4;refine CZ (λs:AA=>s=bif decide (q.num<0) then [45] else []) ?_ (λk r=>Ab (λe=>r _ (by rw[e];rfl)) (λe=>r _ (by rw[e];rfl)));intro s G;have W:s.length<=1:=AK;have H:s++B5 q.num.natAbs=Br q.num:=by rw[G];unfold Br;cases decide (q.num<0)<;>rfl
 refine A5 BE<|A5 E<|A5 (Ly A4) ?_
 rw[H];have Qq:=U9 q.num;refine CZ (λs=>s=An q) (λs G=>by subst G;exact AV rfl)<|λk r=>Ab (λe=>?_)<|λe=>?_
 .have e:=Aq e;refine A5 (Ly Co)<|A5 F<|A5 (Ly Co)<|r _ ?_
  unfold An;rw[Bb (show¬q.den=1 by omega)];simp
 .have e:=BX e;refine r _ ?_;unfold An;rw[B1 (show q.den=1 by omega)];simp
theorem zA{x y:Rat}(F:bq x m)(G:bq y n)(D:0<m/\m<=1900000)(E:0<n/\n<=1900000):Gh (An x) (An y)=some (An<|x*y):=by
 refine F8 ?_;unfold Gh;refine Au (bE F D.1 D.2) λr N=>Au (bE G E.1 E.2) λs O=>Ab (λP=>?_)<|λ_=>?_
 .let⟨c1,c2⟩:=DY P;obtain⟨rfl,H,I⟩:r=(x.num,(x.den:Int),true)/\_/\_:=by rcases N with h|h;rw[h] at c1;cases c1;exact h
  obtain⟨rfl,J,b2⟩:s=(y.num,(y.den:Int),true)/\_/\_:=by rcases O with h|h;rw[h] at c2;cases c2;exact h
  dsimp;have Q:(x.num*y.num).natAbs<=999999999*999999999:=by rw[I4];exact Em A4 A4
  have T:x.den*y.den<=999999999*999999999:=Em A4 A4;have V:0<x.den*y.den:=Nat.mul_pos x.den_pos y.den_pos;have e:((x.den:Int)*(y.den:Int))=((x.den*y.den:Nat):Int):=AK;have B:=aDn (a:=x.num*y.num) (b:=(x.den:Int)*(y.den:Int)) A4 (by rw[e];omega);rw[Xl] at B;exact A5 BE (A5 (Dj ⟨by rw[e];omega,by rw[e];omega⟩)<|A5 B<|AV rfl)
 .refine Au (Ps F D.1 D.2) ?_;rintro⟨Q,T⟩ ⟨⟨H,I⟩,a3,a4⟩;refine Au (Ps G E.1 E.2) ?_;rintro⟨q1,W⟩ ⟨⟨J,b2⟩,b3,b4⟩;dsimp only at*;refine Au (X9 H J A4 A4) λu ⟨U,X⟩=>Au (X9 I b2 A4 A4) λv ⟨v1,Y⟩=>?_
  have K:=aH U v1 (QG (JC x)<|JC y) A4 A4;rw[Xl] at K;exact A5 K<|AV rfl
theorem zB{x y:Rat}(G:bq x m)(H:bq y n)(D:0<m/\m<=1900000)(E:0<n/\n<=1900000):KN (An x) (An y)=some (An<|x+y):=by
 refine F8 ?_;unfold KN;refine Au (bE G D.1 D.2) λr N=>Au (bE H E.1 E.2) λs O=>Ab (λP=>?_)<|λ_=>?_
 .let⟨c1,c2⟩:=DY P;obtain⟨rfl,I,F⟩:r=(x.num,(x.den:Int),true)/\_/\_:=by rcases N with h|h;rw[h] at c1;cases c1;exact h
  obtain⟨rfl,J,b2⟩:s=(y.num,(y.den:Int),true)/\_/\_:=by rcases O with h|h;rw[h] at c2;cases c2;exact h
  dsimp;have Q:(x.num*y.den).natAbs<=999999999*999999999:=by rw[I4,EH];exact Em A4 A4
  have T:(y.num*x.den).natAbs<=999999999*999999999:=by rw[I4,EH];exact Em A4 A4
  have U:x.den*y.den<=999999999*999999999:=Em A4 A4;have Y:0<x.den*y.den:=Nat.mul_pos x.den_pos y.den_pos;have e:((x.den:Int)*(y.den:Int))=((x.den*y.den:Nat):Int):=AK;have B:=aDn (a:=x.num*y.den+y.num*x.den) (b:=(x.den:Int)*(y.den:Int)) A4 (by rw[e];omega);rw[Xm] at B;exact A5 BE (A5 BE (A5 BE (A5 (Dj ⟨by rw[e];omega,by rw[e];omega⟩)<|A5 B<|AV rfl)))
 .refine Au (Ps G D.1 D.2) ?_;rintro⟨Q,U⟩ ⟨⟨I,F⟩,a3,a4⟩;refine Au (Ps H E.1 E.2) ?_;rintro⟨q1,Z⟩ ⟨⟨J,b2⟩,b3,b4⟩;dsimp only at*;refine Au (X9 I b2 A4 A4) λu ⟨V,u2⟩=>Au (X9 J F A4 A4) λv ⟨v1,v2⟩=>Au (ajM V v1 A4 A4) λw ⟨W,w2⟩=>Au (X9 F b2 A4 A4) λt ⟨X,t2⟩=>?_
  have K:=aH W X (QG (JC x)<|JC y) A4 A4;rw[Xm] at K;exact A5 K<|AV rfl
def uv:An 0=[48]:=A6
def X7(q:Rat)(E:(An q).length<100000000):(An q==([48]:AA))=decide (q=0):=by
 by_cases h:q=0
 .subst h;rw[uv];rfl
 .rw[Bb h];rw[eE];intro e;apply h;have F:=lK q.num;unfold An at e;cases r:decide (q.den=1) with
  |true=>
   rw[r] at e;have e:Br q.num=[48]:=by simpa using e
   unfold Br at e;cases B:decide (q.num<0) with
   |true=>rw[B] at e;have e:45::B5 q.num.natAbs=[48]:=e;cases e
   |false=>
    rw[B] at e;have e:B5 q.num.natAbs=[48]:=e;have D:=(KR q.num.natAbs).2;rw[e] at D;have:q.num=0:=by have:BP [48]=0:=rfl;omega
    exact KV.1 this
  |false=>rw[r] at e;have e:Br q.num++47::B5 q.den=[48]:=e;have:=congrArg List.length e;simp at this;have G:=XW q.den;omega
theorem xY(B:(An q).length<100000000):Hv (An q)=some (bif decide (q=0) then 0 else bif decide (q.num<0) then -1 else 1):=by
 let⟨c,r,e,G,_,_⟩:=lL q.num<|DQ q
 have D:An q=c::r:=e;unfold Hv;rw[X7 q B];cases H:decide (q=0) with
 |true=>rfl
 |false=>
  show Aw _ _ _ _=_;rw[D];have E:gd (decide<|(0:Int)<((c::r).length:Int)) true=true:=by rw[B1 (by simp only[DP];omega)];rfl
  rw[C6 E];show cond ((decide<|(0:Int)<((c::r).length:Int))&&(decide<|(c.toNat:Int)=(45:Int))) _ _=_;have F:((decide<|(0:Int)<((c::r).length:Int))&&(decide<|(c.toNat:Int)=(45:Int)))=decide (q.num<0):=AK;rw[F];cases decide (q.num<0)<;>rfl
def vo(h:bq q n)(e:0<n):(An q).length<=2*n+2:=by
 have r:=gK h e;have B:=U9 q.num;unfold An;cases decide (q.den=1)
 .simp;omega
 .simp;omega
def ali(h:bq q n)(I:0<n/\n<=1900000):Rb (An q)=some (An<| -q):=by
 have F:=vo h I.1;have J:=xY (q:=q) A4;unfold Rb;rw[J];have G:(-q).den=q.den:=Rat.neg_den q;have H:(-q).num= -q.num:=Rat.neg_num q;cases r:decide (q=0) with
 |true=>
  have r:=Aq r;subst r
  rfl
 |false=>
  have r:=BX r;have K:q.num≠0:=λe=>r<|KV.1 e
  cases B:decide (q.num<0) with
  |true=>
   have N:=Aq B;have D:An q=45::(B5 q.num.natAbs++DQ q):=by show Br q.num++DQ q=_;unfold Br;rw[B];rfl
   have E:An (-q)=B5 q.num.natAbs++DQ q:=by show Br (-q).num++(bif decide ((-q).den=1) then [] else 47::B5 (-q).den)=_;rw[H,G];unfold Br;rw[Bb A4,dY];rfl
   show bd (Bo (An q) 1 ((An q).length:Int)) (λO=>some O)=_;rw[E,D,DV A4 (by simp[DP];omega) A4,CL,Ce<|BJ _];rfl
  |false=>
   have N:=BX B;have D:An q=B5 q.num.natAbs++DQ q:=by show Br q.num++DQ q=_;unfold Br;rw[B];rfl
   have E:An (-q)=45::(B5 q.num.natAbs++DQ q):=by show Br (-q).num++(bif decide ((-q).den=1) then [] else 47::B5 (-q).den)=_;rw[H,G];unfold Br;rw[B1 (show -q.num<0 by omega),dY];rfl
   show bd (GZ ([45]:AA)<|An q) (λP=>some P)=_;rw[Ly Co,E,D];rfl
def alh{x y:Rat}(B:bq x m)(e:bq y n)(D:0<m/\m<=1900000)(r:0<n/\n<=1900000):Jm (An x) (An y)=some (An<|x-y):=by unfold Jm;rw[ali e r];show bd (KN (An x)<|An<| -y) (λE=>some E)=_;rw[zB B (ap1 e) D r,dx];rfl
def ct(x:Rat):((x.den:Int):Rat)/(x.num:Rat)=x⁻¹ :=by rw[Rat.inv_def,M8]
theorem ap2{x:Rat}(h:bq x n)(e:x≠0):bq x⁻¹ n:=by(simp_all [bq]<;>grind)
theorem yP{l:AA}{e:Bool}(T:l.length<1099511627776):lp 18446744073709551616 (λ(I:Int->A9 Bool) (s1:Int)=>cond (decide<|s1<(l.length:Int)) (bd (AB l s1) λB=>Aw (gd (decide<|(B.toNat:Int)<(48:Int)) false) (0) (AB l s1) λJ=>cond (((decide<|(B.toNat:Int)<(48:Int))||(decide<|(57:Int)<(J.toNat:Int)))) (some false) (bd (AG<|s1+(1:Int)) λK=>I K)) (some e)) (0:Int)=some (l.all DM&&e):=by
 have key:Yd (λr=>r=(l.all DM&&e)) (lp 18446744073709551616 (λ(I:Int->A9 Bool) (s1:Int)=>cond (decide<|s1<(l.length:Int)) (bd (AB l s1) λB=>Aw (gd (decide<|(B.toNat:Int)<(48:Int)) false) (0) (AB l s1) λJ=>cond (((decide<|(B.toNat:Int)<(48:Int))||(decide<|(57:Int)<(J.toNat:Int)))) (some false) (bd (AG<|s1+(1:Int)) λK=>I K)) (some e)) (0:Int)):=by
  refine Dl (λi:Int=>0<=i/\i<=l.length/\(l.take i.toNat).all DM=true) (λi=>l.length-i.toNat) ?_ _ _ ⟨A4,A4,AO⟩ A4;rintro next i ⟨P,U,H⟩ Q
  obtain⟨n,rfl⟩:=EI P;rw[CL] at H;refine Ab (λD=>?_)<|λD=>?_
  .have D:=Aq D;have E:n<l.length:=A4;have O:AB l (n:Int)=some l[n]:=FT E;refine A5 O ?_;have F:DM l[n]=false->(l.all DM&&e)=false:=λh=>by have:l.all DM=false:=AK;rw[this];rfl
   by_cases G:(l[n].toNat:Int)<48
   .have hd:=B1 G;have g:gd (decide<|(l[n].toNat:Int)<48) false=false:=by rw[hd];rfl
    rw[DG g];refine Ab (λ_=>AV ?_) (λh=>by rw[hd,Y0] at h;cases h);rw[F];unfold DM;rw[show Nat.ble 48 l[n].toNat=false from by cases N:Nat.ble 48 l[n].toNat with|false=>rfl|true=>have:=Cs N;omega];rfl
   .have hd:=Bb G;have g:gd (decide<|(l[n].toNat:Int)<48) false=true:=by rw[hd];rfl
    rw[C6 g];refine A5 O<|Ab (λh=>?_)<|λh=>?_
    .rw[hd,SD] at h;have h:=Aq h;refine AV ?_;rw[F];unfold DM;rw[show Nat.ble l[n].toNat 57=false from by cases N:Nat.ble l[n].toNat 57 with|false=>rfl|true=>have:=Cs N;omega,Y3]
    .rw[hd,SD] at h;have h:=BX h;refine A5 BE<|Q _ ⟨A4,A4,?_⟩ A4
     rw[show(((n:Nat):Int)+1).toNat=n+1 by omega,List.take_succ,FT E,dh,H];simp only[Option.toList_some,M3,List.all_nil,dX,I3];unfold DM;rw[GR A4,GR A4];rfl
  .have D:=BX D;have:n=l.length:=A4;subst this;rw[Ce<|BJ _] at H;refine AV ?_;rw[H];rfl
 obtain⟨r,e,rfl⟩:=key;exact e
def FU(l:AA):Bool:=l.all DM&&(!(l==[])&&(l==[48]|| !(l.head?==some 48)))
theorem sW{l:AA}(B:l.length<1099511627776):Vr l=some (FU l):=by
 have F:Ze l=some (l.all DM):=by unfold Ze;rw[yP B,dX]
 unfold Vr;rw[F]
 match l,B with
 |[],_=>rfl
 |[x],_=>
  show some ([x].all DM)=_;unfold FU;by_cases h:x=48
  .subst h;rfl
  .have D:([x]==([]:AA))=false:=rfl;have E:([x].head?==some (48:UInt8))=false:=by simpa using h
   rw[D,E];simp
 |x::y::r,B=>
  have g:(gd (decide<|((x::y::r).length:Int)=(0:Int)) false&&gd (decide<|(1:Int)<((x::y::r).length:Int)) true)=true:=by rw[Bb (by simp only[DP];omega),B1 (by simp only[DP];omega)];rfl
  rw[C6 g];show cond ((decide<|((x::y::r).length:Int)=(0:Int))||((decide<|(1:Int)<((x::y::r).length:Int))&&(decide<|(x.toNat:Int)=(48:Int)))) _ _=_;rw[Bb (show¬((x::y::r).length:Int)=0 by simp only[DP];omega),B1 (show(1:Int)<((x::y::r).length:Int) by simp only[DP];omega),SD,I3];unfold FU;have D:((x::y::r)==([]:AA))=false:=rfl;have G:((x::y::r)==([48]:AA))=false:=AK;have E:((x::y::r).head?==some (48:UInt8))=decide ((x.toNat:Int)=48):=by
   show(some x==some (48:UInt8))=_;by_cases h:x=48
   .subst h;rfl
   .rw[Bb (λH=>h (df.1 (by show _=48;omega)))];rw[eE];intro e;exact h<|E2 e
  rw[D,E,G];cases decide ((x.toNat:Int)=48)
  .show some _=some _;simp
  .grind
def uQ{l:AA}(B:l.length<1099511627776):RL l=some (FU l):=by
 have D:Zb l=some (l.all DM&& !(l==[])):=by unfold Zb;rw[yP B]
 unfold RL;rw[D];show Aw _ _ _ _=_;unfold FU
 match l with
 |[]=>rfl
 |x::r=>
  have E:((x::r)==([]:AA))=false:=rfl;have F:((x::r).head?==some (48:UInt8))=decide ((x.toNat:Int)=48):=by
   show(some x==some (48:UInt8))=_;by_cases h:x=48
   .subst h;rfl
   .rw[Bb (λG=>h (df.1 (by show _=48;omega)))];rw[eE];intro e;exact h<|E2 e
  rw[E,F];have i0:AB (x::r) (0:Int)=some x:=rfl;rw[i0];cases(x::r).all DM
  .rfl
  .cases((x::r)==([48]:AA))<;>rfl
theorem o5:∀(n:Nat) (l:AA),l.length=n->FU l=true->l=B5 (BP l)
 |0,l,hl,h=>by have:l=[]:=Hk hl;subst this;cases h
 |n+1,l,hl,h=>by
  have r:l≠[]:=AK;let⟨J,O⟩:=DY h;let⟨X,B⟩:=DY O;have D:=List.dropLast_concat_getLast r
  generalize hi:l.dropLast=i at D
  generalize l.getLast r=d at D
  subst D;rw[dh] at J;let⟨E,F⟩:=DY J;have P:DM d=true:=by simpa using F
  have Q:=bL P;have K:UInt8.ofNat (48+(d.toNat-48))=d:=by rw[show 48+(d.toNat-48)=d.toNat by omega];simp
  have T:BP [d]=d.toNat-48:=by simp[BP]
  rw[Wj,T,G2,Nat.pow_one];by_cases U:i=[]
  .subst U;rw[show BP ([]:AA)=0 from rfl,dU,N9,Lw A4,K];rfl
  .have abE: ¬(i.head?=some 48):=λe=>by have G:(i++[d]).head?=some 48:=AK;rw[G] at B;have V:((i++[d])==[48])=false:=AK;rw[V] at B;cases B
   have H:FU i=true:=by unfold FU;rw[E];have W:(i==([]:AA))=false:=AK;have G:(i.head?==some (48:UInt8))=false:=AK;rw[W,G];simp
   have I:i.length=n:=by simpa using hl
   have ih:=o5 n i I H;have N:0<BP i:=by
    rcases Jb (BP i) with e|e
    .rw[e] at ih;rw[ih] at abE;exact absurd rfl abE
    .exact e
   rw[Pm A4,show(BP i*10+(d.toNat-48))/10=BP i by omega,show(BP i*10+(d.toNat-48))%10=d.toNat-48 by omega,<-ih,K]
def sp:AA->AA×AA×Bool
 |[]=>([],[],false)|b::l=>bif b==47 then([],l,true) else(b::(sp l).1,(sp l).2.1,(sp l).2.2)
def o6:∀(s e:AA),cutAt 47 e s=(e.reverse++(sp s).1,(sp s).2.1,(sp s).2.2)
 |[],e=>by simp[cutAt,sp]
 |b::l,e=>by
  unfold cutAt sp;cases h:b==47
  .rw[Av,Av,o6 l];simp
  .simp
theorem gY:∀(s:AA),s=(sp s).1++(bif (sp s).2.2 then 47::(sp s).2.1 else [])/\(∀x∈(sp s).1,x≠47)/\((sp s).2.2=false->(sp s).2.1=[])
 |[]=>⟨rfl,by simp[sp],λ_=>rfl⟩
 |b::l=>by
  let⟨e,r,B⟩:=gY l;unfold sp;cases h:b==47
  .grind
  .grind
def GC(neg:Bool)(u t:AA)(e:Bool):Int:=
 bif ((!FU u)||(neg&&(u==([48]:AA))))||(e&&(((!FU t)||(t==([48]:AA)))||(t==([49]:AA)))) then 1
 else bif e&& !decide (Nat.gcd (BP u) (BP t)=1) then 1 else 0
theorem UE{l:AA}(h:FU l=true):l.all DM=true/\l≠[]:=by grind [FU,DM]
def bR{l:AA}(h:l.all DM=true)(e:l.length<1000000):Hp l=some (BP l:Int):=by
 unfold Hp;split
 .rename_i ds;have:=DC.1 h 45 AO;cases this
 .rw[h,show Nat.blt l.length 1000000=true from GR e];rfl
def ais{l:AA}(h:l.all DM=true)(e:l.length<1000000):Hp (45::l)=some (-(BP l:Int)):=by show Dh (l.all DM&&Nat.blt l.length 1000000) (-(BP l:Int))=_;rw[h,show Nat.blt l.length 1000000=true from GR e];rfl
def vw(h:z.natAbs<10^14):Cc z=true:=Lx h A4
def yR(e:core.length<=1000):gh (bif neg then 45::core else core) [47]=some ((bif neg then 45::(sp core).1 else(sp core).1),(sp core).2.1,(sp core).2.2):=by
 cases neg
 .show Dh (Nat.blt core.length 4294967281) (cutAt 47 [] core)=_;rw[show Nat.blt core.length 4294967281=true from GR A4,o6];rfl
 .show Dh (Nat.blt (45::core).length 4294967281) (cutAt 47 [] (45::core))=_;rw[show Nat.blt (45::core).length 4294967281=true from GR (by simp[DP];omega),o6];rfl
def uX:Lh (45::u) [45]=some true:=by
 have e:Bo (45::u) 0 (([45]:AA).length:Int)=some [45]:=by rw[DV A4 AO Co];rfl
 have r:decide ((([45]:AA).length:Int)<=((45::u).length:Int))=true:=B1 Co;have g:gd (decide<|(([45]:AA).length:Int)<=((45::u).length:Int)) true=true:=by rw[r];rfl
 unfold Lh;rw[C6 g,e];show some (_&&_)=_;rw[r];rfl
def agF:P9 (45::u) [45]=some (u,true):=by
 have e:Bo (45::u) (([45]:AA).length:Int) ((45::u).length:Int)=some u:=by rw[DV AO Co A4];simp
 unfold P9 Z8;rw[uX];show bd (bd (Bo (45::u) (([45]:AA).length:Int) ((45::u).length:Int)) _) _=_;rw[e];rfl
theorem vF(h:u.head?≠some 45):Lh u [45]=some false:=by
 unfold Lh
 match u,h with
 |[],_=>rfl
 |x::r,h=>
  have e:Bo (x::r) 0 (([45]:AA).length:Int)=some [x]:=by rw[DV A4 AO Co];rfl
  have B:decide ((([45]:AA).length:Int)<=((x::r).length:Int))=true:=B1 Co;have g:gd (decide<|(([45]:AA).length:Int)<=((x::r).length:Int)) true=true:=by rw[B];rfl
  rw[C6 g,e];show some (_&&_)=_;have:([x]==([45]:AA))=false:=AK;rw[this,Y3]
def agE(h:u.head?≠some 45):P9 u [45]=some (u,false):=by unfold P9 Z8;rw[vF h];rfl
def Bx(x:α)(K:α->A9 ρ):bd (some x) K=K x:=rfl
theorem af4(hl:core.length<=14)(G:neg=false->core.head?≠some 45):Mi (bif neg then 45::core else core)=some (GC neg (sp core).1 (sp core).2.1 (sp core).2.2):=by
 let⟨q1,q2,q3⟩:=gY core;have D:=congrArg List.length q1;rw[DD] at D;unfold Mi;rw[yR A4]
 generalize hu:(sp core).1=u at*
 generalize ht:(sp core).2.1=t at*
 generalize hf:(sp core).2.2=fd at*
 have H:u.length<=14:=A4;have N:t.length<=14:=AK;have O:P9 (bif neg then 45::u else u) [45]=some (u,neg):=by
  cases neg
  .refine agE ?_;have G:=G rfl;intro e;have e:u.head?=some 45:=e;apply G;rw[q1,List.head?_append,e];rfl
  .exact agF
 show bd (P9 (bif neg then 45::u else u) [45]) _=_;rw[O];show bd (RL u) _=_;rw[uQ (l:=u) A4];show Aw _ _ (RL t) _=_;rw[uQ (l:=t) A4];have tail:∀B:Bool,B=(fd&&(((!FU t)||(t==([48]:AA)))||(t==([49]:AA))))->((!FU u)||(neg&&(u==([48]:AA))))=false->B=false->(cond (((decide<|(600:Int)<(u.length:Int))||(decide<|(600:Int)<(t.length:Int)))) (some (4:Int)) (jn (λ(P:Unit)=>some (0:Int)) λG6=>cond (fd) (bd (Hp u) λQ=>bd (Hp t) λT=>bd (Nf Q T) λU=>bd (Ob U) λJ=>cond (((!J.2)||(!decide (J.1=(1:Int))))) (some (1:Int)) (G6 ())) (G6 ())))=some (GC neg u t fd):=by
  intro B V I W;rw[Bb A4,Bb A4];unfold GC;rw[I,<-V,W];cases fd
  .rfl
  .have du:FU u=true:=by cases h:FU u with|true=>rfl|false=>rw[h] at I;cases I
   have X:FU t=true:=AK;have K:=UE du;have E:=UE X;have lu:=O8 u K.1;have lt:=O8 t E.1;have p1:=J9 (show 0<10 by omega) H;have p2:=J9 (show 0<10 by omega) N;have Y:Nf (BP u:Int) (BP t:Int)=some (Nat.gcd (BP u) (BP t):Int):=by unfold Nf;rw[vw Co,vw Co];rfl
   have Z:Nat.gcd (BP u) (BP t)<10^14:=by
    rcases Jb (BP u) with e|e
    .grind
    .have:=Nat.le_of_dvd e (Nat.gcd_dvd_left (BP u)<|BP t);omega
   have hs:Ob (Nat.gcd (BP u) (BP t):Int)=some ((Nat.gcd (BP u) (BP t):Int),true):=by unfold Ob Gb;rw[Bb A4,B1 A4,B1 A4];rfl
   show bd (Hp u) _=_;rw[bR K.1 A4];show bd (Hp t) _=_;rw[bR E.1 A4];show bd (Nf _ _) _=_;rw[Y];rw[Bx];rw[hs];show cond (false|| !decide (((Nat.gcd (BP u) (BP t):Nat):Int)=1)) (some 1) (some 0)=some (bif false then 1 else bif true&& !decide (Nat.gcd (BP u) (BP t)=1) then 1 else 0);have e:decide (((Nat.gcd (BP u) (BP t):Nat):Int)=1)=decide (Nat.gcd (BP u) (BP t)=1):=F5.2 A4;rw[e];cases decide (Nat.gcd (BP u) (BP t)=1)<;>rfl
 cases r:((!FU u)||(neg&&(u==([48]:AA)))) with
 |true=>show Aw (gd true false&&gd fd true) false _ _=_;rw[DG Dn];show cond (true||_) _ _=_;rw[Y0,BF];unfold GC;rw[r];rfl
 |false=>
  cases fd with
  |false=>show Aw (gd false false&&gd false true) false _ _=_;rw[DG Dn];exact tail false rfl r rfl
  |true=>
   show Aw (gd false false&&gd true true) false _ _=_;rw[C6 Dn];show cond (false||(true&&_)) _ _=_;cases F:(((!FU t)||(t==([48]:AA)))||(t==([49]:AA))) with
   |true=>show some 1=_;unfold GC;rw[r,F];rfl
   |false=>exact tail false (by rw[F];rfl) r rfl
def afI{t:AA}(F:FU u=true)(G:FU t=true)(H:∀x∈u,x≠47)(K:u.length<=1000)(lt:t.length<=1000):Yd (λp=>EL p.1 (BP u:Int)/\EL p.2 (BP t:Int)/\p.1.2.length<=u.length/\p.2.2.length<=t.length) (Kv (u++47::t)):=by
 have B:=UE F;have e:=UE G;have I:(u++47::t).length=u.length+1+t.length:=by simp;omega
 unfold Kv;refine A5 (bX H A4) (Ab (λh=>by have:=Aq h;omega)<|λ_=>?_);have es:Bo (u++47::t) 0 (u.length:Int)=some u:=by rw[DV A4 A4 A4];simp
 have J:Bo (u++47::t) ((u.length:Int)+1) ((u++47::t).length:Int)=some t:=by rw[DV A4 A4 A4,CL,Ce<|BJ _,show((u.length:Int)+1).toNat=u.length+1 by omega,<-Ee];simp
 refine A5 es<|Au (mU false B.1 B.2 A4) λp D=>A5 BE<|A5 J<|Au (mU false e.1 e.2 A4) λr E=>AV ⟨D.1,E.1,D.2,E.2⟩
theorem ahz(hl:core.length<=14)(fR:neg=false->core.head?≠some 45):Kw (bif neg then 45::core else core)=some (GC neg (sp core).1 (sp core).2.1 (sp core).2.2):=by
 have key:Yd (λr=>r=GC neg (sp core).1 (sp core).2.1 (sp core).2.2) (Kw (bif neg then 45::core else core)):=by
  let⟨q1,W,q3⟩:=gY core;have F:=congrArg List.length q1;rw[DD] at F;by_cases H:(bif neg then 45::core else core)=[]
  .have Q:neg=false:=by cases neg;rfl;cases H
   subst Q;have X:core=[]:=H;subst X;exact AV rfl
  obtain⟨c,r,e⟩:∃c r,(bif neg then 45::core else core)=c::r:=by cases h:(bif neg then 45::core else core) with|nil=>exact absurd h H|cons c r=>exact⟨c,r,rfl⟩
  have X:decide ((c.toNat:Int)=45)=neg:=by
   cases neg with
   |true=>
    have:c=45:=by cases e;rfl
    subst this;rfl
   |false=>
    have e:core=c::r:=e;refine Bb λh=>fR rfl ?_
    have:c=45:=df.1 (by show _=45;omega);rw[e,this];rfl
  have Y:neg=true->r=core:=AK;have hs0:neg=false->c::r=core:=AK
  generalize hu:(sp core).1=u at*
  generalize ht:(sp core).2.1=t at*
  generalize hf:(sp core).2.2=fd at*
  have hul:u.length<=14:=A4;have Qq:t.length<=14:=AK;unfold Kw;rw[e];have g1:gd (decide<|(0:Int)<((c::r).length:Int)) true=true:=by rw[B1 (by simp only[DP];omega)];rfl
  rw[C6 g1];refine A5 (x:=c) rfl ?_;have J:((decide<|(0:Int)<((c::r).length:Int))&&(decide<|(c.toNat:Int)=(45:Int)))=neg:=AK;rw[J];refine CZ (λs=>s=core) ?_<|λk hk=>Ab (λQ=>?_)<|λQ=>?_
  rotate_left
  .have es:Bo (c::r) (1:Int) ((c::r).length:Int)=some core:=by rw[DV A4 (by simp[DP];omega) A4,<-Y Q];simp
   exact A5 es<|hk _ rfl
  .grind
  .intro s hs;rw[hs];clear hs s;have Z:JK core=some (u.length:Int):=by
    rw[q1];cases fd
    .rw[Av,HB];exact nQ W A4
    .rw[BF];exact bX W Co
   have N:Bo core 0 (u.length:Int)=some u:=by rw[DV A4 A4 A4,q1];simp
   have hlt:decide ((u.length:Int)<(core.length:Int))=fd:=AK;refine A5 Z<|A5 N<|A5 (sW (l:=u) A4) ?_
   rw[hlt];cases B:FU u with
   |false=>rw[DG Dn,DG Dn];refine AV ?_;unfold GC;rw[B];rfl
   |true=>
    rw[C6 Dn];refine A5 (x:=c) rfl ?_;rw[X];have aqn:∀K:AA->A9 Int,((neg&&(u==([48]:AA)))=true->Yd (λr=>r=GC neg u t fd) (K u))->((neg&&(u==([48]:AA)))=false->∀w,(neg&&(w==([48]:AA)))=false->Yd (λr=>r=GC neg u t fd) (K w))->Yd (λr=>r=GC neg u t fd) (Aw (gd (!true) false&&gd neg true) ([]) (Bo core 0 (u.length:Int)) K):=by
     intro K I T;cases neg with
     |false=>rw[DG Dn];exact T rfl _ rfl
     |true=>rw[C6 Dn];refine A5 N ?_;cases J:(true&&(u==([48]:AA))) with|true=>exact I J|false=>exact T J _ J
    refine aqn _ (λD=>?_)<|λD w hw=>?_
    .rw[D];refine AV ?_;unfold GC;rw[D,B];rfl
    .rw[hw];refine Ab (λh=>by cases h)<|λ_=>?_
     have G:∀K:Int->Int->A9 Int,Yd (λr=>r=GC neg u t fd) (K ((core.length:Int)-(u.length:Int))<|(core.length:Int)-(u.length:Int)-1)->Yd (λr=>r=GC neg u t fd) (Aw (gd (decide<|(600:Int)<(u.length:Int)) false) (0) (AG<|(core.length:Int)-(u.length:Int)) λU=>Aw (gd (decide<|(600:Int)<(u.length:Int)) false) (0) (AG<|U-(1:Int)) λMM=>K U MM):=by intro K h;rw[Bb (show¬(600:Int)<(u.length:Int) by omega),C6 Dn];refine A5 BE ?_;rw[C6 Dn];exact A5 BE h
     cases fd with
     |false=>
      rw[DG Dn,DG Dn,DG Dn,DG Dn,DG Dn,DG Dn,DG Dn];refine Ab (λh=>by cases h)<|λ_=>?_
      refine G (λU MM=>_) ?_;rw[Bb (show¬(600:Int)<(u.length:Int) by omega),Bb (show¬(600:Int)<((core.length:Int)-(u.length:Int)-1) by omega)];refine AV ?_;unfold GC;rw[B,D];rfl
     |true=>
      rw[BF] at q1 F;rw[DP] at F;have f1:AG ((u.length:Int)+1)=some ((u.length:Int)+1):=Dj ⟨A4,A4⟩;have et:Bo core ((u.length:Int)+1) (core.length:Int)=some t:=by rw[DV A4 A4 A4,CL,Ce<|BJ _,show((u.length:Int)+1).toNat=u.length+1 by omega,q1,<-Ee];simp
      rw[C6 Dn];refine A5 f1 ?_;rw[C6 Dn];refine A5 et ?_;rw[C6 Dn];refine A5 (sW (l:=t) A4) ?_;cases E:FU t with
      |false=>rw[DG Dn,DG Dn,DG Dn,DG Dn];refine AV ?_;unfold GC;rw[B,D,E];rfl
      |true=>
       rw[C6 Dn];refine A5 f1 ?_;rw[C6 Dn];refine A5 et ?_;cases V:(t==([48]:AA)) with
       |true=>rw[DG Dn,DG Dn];refine AV ?_;unfold GC;rw[B,D,E,V];rfl
       |false=>
        rw[C6 Dn];refine A5 f1 ?_;rw[C6 Dn];refine A5 et ?_;cases I:(t==([49]:AA)) with
        |true=>refine AV ?_;unfold GC;rw[B,D,E,V,I];rfl
        |false=>
         refine Ab (λh=>by cases h)<|λ_=>?_
         refine G (λU MM=>_) ?_;rw[Bb (show¬(600:Int)<(u.length:Int) by omega),Bb (show¬(600:Int)<((core.length:Int)-(u.length:Int)-1) by omega)];refine Ab (λh=>by cases h)<|λ_=>?_
         refine CZ (λ_=>Nat.gcd (BP u) (BP t)=1) (λ_ h=>AV ?_) (λk hk=>Ab (λ_=>?_) (λh=>by cases h))
         .unfold GC;rw[B,D,E,V,I,B1 h];rfl
         .have pp:=afI B E W A4 A4;rw[<-q1] at pp;refine Au pp λp ⟨p1,p2,p3,p4⟩=>Au (vE p1.1 p2.1 A4 A4) λw ⟨w1,w2,w3⟩=>?_
          have hv:AL w=(Nat.gcd (BP u) (BP t):Int):=by rw[w2,p1.2.1,p2.2.1];simp[Int.gcd]
          have O:=y5 w1;rw[hv] at O;have bad:Nat.gcd (BP u) (BP t)≠1->Yd (λr=>r=GC neg u t true) (some (1:Int)):=λh=>AV (by unfold GC;rw[B,D,E,V,I,Bb h];rfl)
          refine FC (λP=>?_)<|λP=>?_
          .have hlw:decide ((w.length:Int)=1)=true:=by cases h:decide ((w.length:Int)=1) with|true=>rfl|false=>rw[h] at P;cases P
           obtain⟨d,rfl⟩:∃d,w=[d]:=eP.1 (by have:=Aq hlw;omega);refine⟨d,rfl,?_⟩;refine Ab (λh=>?_)<|λh=>?_
           .grind
           .grind
          .have hlw:decide ((w.length:Int)=1)=false:=by cases h:decide ((w.length:Int)=1) with|false=>rfl|true=>rw[h] at P;cases P
           rw[hlw];refine bad λh'=>?_
           have:=(O.2 A4).1;rw[hlw] at this;cases this
 let⟨r,I,T⟩:=key;rw[I,T]
def isNum(s:AA)(q:Rat):Prop:=s=An q/\bq q 14/\Mt s=some q
def aaG:B5 0=[48]:=A6
def aaF:B5 1=[49]:=A6
def ao5{a:Int}(e:d≠0)(r:Nat.gcd a.natAbs d=1):∃q,mkq a (d:Int)=some q/\q.num=a/\q.den=d:=by
 obtain⟨k,rfl⟩:=Nat.exists_eq_succ_of_ne_zero e;have h:mkq a ((k+1:Nat):Int)=some (mkRat a<|k+1):=by show Dh (Nat.beq (Nat.gcd a.natAbs<|k+1) 1) (mkRat a<|k+1)=_;rw[show Nat.beq (Nat.gcd a.natAbs<|k+1) 1=true from by rw[r];rfl];rfl
 let⟨B,D⟩:=xx h;exact⟨_,h,B,A4⟩
def ake(K:(bif neg then 45::core else core).length<=14)(r:GC neg (sp core).1 (sp core).2.1 (sp core).2.2=0):∃q,isNum (bif neg then 45::core else core) q:=by
 have K:core.length<=14:=by cases neg<;>simp at K<;>omega
 let⟨q1,q2,q3⟩:=gY core;have e:=congrArg List.length q1;rw[DD] at e;unfold isNum Mt;rw[yR A4]
 generalize hu:(sp core).1=u at*
 generalize ht:(sp core).2.1=t at*
 generalize hf:(sp core).2.2=fd at*
 have H:u.length<=14:=A4;unfold GC at r;cases B:((!FU u)||(neg&&(u==([48]:AA))))||(fd&&(((!FU t)||(t==([48]:AA)))||(t==([49]:AA)))) with
 |true=>rw[B] at r;cases r
 |false=>
 rw[B,Av] at r;let⟨U,b2⟩:=Ie.1 B;let⟨b3,b4⟩:=Ie.1 U;have N:FU u=true:=by simpa using b3
 have I:=UE N;have lu:=O8 u I.1;have p1:=J9 (show 0<10 by omega) H;have G:=o5 _ u rfl N;obtain⟨z,O,J,D⟩:∃z:Int,(bif neg then 45::u else u)=Br z/\z.natAbs=BP u/\Hp (bif neg then 45::u else u)=some z:=by
  cases neg with
  |false=>refine⟨(BP u:Int),?_,AO,bR (l:=u) I.1 A4⟩;unfold Br;rw[Bb A4];simp[<-G]
  |true=>
   have P:BP u≠0:=λh=>by rw[h,aaG] at G;rw[G] at b4;cases b4
   refine⟨-(BP u:Int),?_,AO,ais (l:=u) I.1 A4⟩;unfold Br;rw[B1 A4];simp[<-G]
 cases fd with
 |false=>
  rw[Av,HB] at q1;refine⟨(z:Rat),?_,⟨by rw[SF];omega,by rw[Ue];omega⟩,?_⟩
  .rw[q1,O];unfold An;rw[SF,Ue];simp
  .show bd (Hp (bif neg then 45::u else u)) _=_;rw[D];rfl
 |true=>
  rw[BF] at q1 e;rw[DP] at e;rw[I3] at b2 r;let⟨V,Q⟩:=Ie.1 b2;let⟨W,c4⟩:=Ie.1 V;have T:FU t=true:=by simpa using W
  have E:=UE T;have lt:=O8 t E.1;have p2:=J9 (show 0<10 by omega) (show t.length<=14 by omega);have F:=o5 _ t rfl T;have P:BP t≠0:=λh=>by rw[h,aaG] at F;rw[F] at c4;cases c4
  have X:BP t≠1:=λh=>by rw[h,aaF] at F;rw[F] at Q;cases Q
  have Y:Nat.gcd (BP u) (BP t)=1:=by cases h:decide (Nat.gcd (BP u) (BP t)=1) with|true=>exact Aq h|false=>rw[h] at r;cases r
  let⟨q,Z,m2,m3⟩:=ao5 (a:=z) P (by rw[J];exact Y);refine⟨q,?_,⟨A4,A4⟩,?_⟩
  .unfold An;rw[m2,m3,Bb X,Av,<-O,<-F,q1];cases neg<;>rfl
  .show bd (Hp (bif neg then 45::u else u)) _=_;rw[D];show bd (Hp t) _=_;rw[bR E.1 A4];show bd (mkq z (BP t:Int)) _=_;rw[Z];rfl
def X6(B:s.length<=14):∃c,Mi s=some c/\Kw s=some c/\(c=0->∃q,isNum s q):=by
 obtain⟨neg,core,rfl,D⟩:∃(neg:Bool) (core:AA),s=(bif neg then 45::core else core)/\(neg=false->core.head?≠some 45):=by
  match s with
  |[]=>exact⟨false,[],rfl,λ_ h=>by cases h⟩
  |x::r=>
   by_cases E:x=45
   .exact⟨true,r,by rw[E];rfl,λh=>by cases h⟩
   .exact⟨false,x::r,rfl,λ_ h=>E<|E2 h⟩
 have e:core.length<=14:=by cases neg<;>simp at B<;>omega
 exact⟨_,af4 e D,ahz e D,ake B⟩
def Kh(v:AA×AA×AA)(q:Rat×Rat×Rat):Prop:=isNum v.1 q.1/\isNum v.2.1 q.2.1/\isNum v.2.2 q.2.2
def short(v:AA×AA×AA):Prop:=v.1.length<=14/\v.2.1.length<=14/\v.2.2.length<=14
def f3(a b c:Int):Int:=bif !decide (a=0) then a else bif !decide (b=0) then b else c
def Vc{σ:Type}{B:(σ->A9 ρ)->σ->A9 ρ}(n:Nat)(s:σ):lp (n+1) B s=B (lp n B) s:=rfl
def aeJ{v:AA×AA×AA}(F:short v):∃c,KK v=some c/\ZR v=some c/\(c=0->∃q,Kh v q):=by
 let⟨a,b,c⟩:=v;let⟨l1,G,H⟩:=F;let⟨B,I,J,a3⟩:=X6 (s:=a) l1;let⟨D,K,b2,b3⟩:=X6 (s:=b) G;let⟨r,N,O,P⟩:=X6 (s:=c) H;refine⟨f3 B D r,?_,?_,?_⟩
 .unfold KK jI;rw[Vc];show bd (bd (Mi a) _) _=_;rw[I,Bx];unfold f3;cases Q: !decide (B=0)
  .show bd (lp _ _ (1:Int)) _=_;rw[Vc];show bd (bd (Mi b) _) _=_;rw[K,Bx];cases T: !decide (D=0)
   .show bd (lp _ _ (2:Int)) _=_;rw[Vc];show bd (bd (Mi c) _) _=_;rw[N,Bx];cases E: !decide (r=0)
    .have:r=0:=by simpa using E
     subst this;rfl
    .rfl
   .rfl
  .rfl
 .unfold ZR jM;rw[Vc];show bd (bd (Kw a) _) _=_;rw[J,Bx];unfold f3;cases Q: !decide (B=0)
  .show bd (lp _ _ (1:Int)) _=_;rw[Vc];show bd (bd (Kw b) _) _=_;rw[b2,Bx];cases T: !decide (D=0)
   .show bd (lp _ _ (2:Int)) _=_;rw[Vc];show bd (bd (Kw c) _) _=_;rw[O,Bx];cases E: !decide (r=0)
    .have:r=0:=by simpa using E
     subst this;rfl
    .rfl
   .rfl
  .rfl
 .intro h;unfold f3 at h;have U:B=0:=by
   by_cases e:B=0
   .exact e
   .rw[Bb e] at h;exact h
  subst U;have V:D=0:=by
   by_cases e:D=0
   .exact e
   .rw[Bb e] at h;exact h
  subst V;have W:r=0:=h;let⟨x,X⟩:=a3 rfl;let⟨y,Y⟩:=b3 rfl;let⟨z,Z⟩:=P W;exact⟨(x,y,z),X,Y,Z⟩
def bc(q:Rat)(c n:Nat):Prop:=q.num.natAbs<=c*10^n/\q.den<=10^n
def aqB(h:bq q n):bc q 1 n:=⟨by rw[Iu];exact QF h.1,QF h.2⟩
theorem qG(c d m n:Nat):(c*10^m)*(d*10^n)=(c*d)*10^(m+n):=by rw[KU];grind
def K6{x y:Rat}(e:bc x c m)(r:bc y d n):bc (x*y) (c*d) (m+n):=by
 have h:=Sl (x:=x.num*y.num) (y:=(x.den:Int)*(y.den:Int))<|QG (JC x)<|JC y
 rw[Xl] at h;rw[I4,I4,EH,EH] at h;refine⟨CA h.1 ?_,CA h.2 ?_⟩
 .rw[<-qG];exact Em e.1 r.1
 .rw[KU];exact Em e.2 r.2
theorem QZ{x y:Rat}(e:bc x c m)(r:bc y d n):bc (x+y) (c+d) (m+n):=by
 have h:=Sl (x:=x.num*y.den+y.num*x.den) (y:=(x.den:Int)*(y.den:Int))<|QG (JC x)<|JC y
 rw[Xm] at h;rw[I4,EH,EH] at h;have E:=Em e.1 r.2;have F:=Em r.1 e.2;have t:=pL (x.num*y.den)<|y.num*x.den
 rw[I4,I4,EH,EH] at t;have D:=qG c 1 m n;have B:=qG d 1 n m;rw[Iu,Nat.mul_one] at D B;rw[N8 n m] at B;refine⟨?_,CA h.2 ?_⟩
 .grind
 .rw[KU];exact Em e.2 r.2
def aaN{x:Rat}(h:bc x c n):bc (-x) c n:=by
 refine⟨?_,?_⟩
 .rw[Rat.neg_num,dY];exact h.1
 .rw[Rat.neg_den];exact h.2
def qW{x y:Rat}(e:bc x c m)(r:bc y d n):bc (x-y) (c+d) (m+n):=by rw[dx];exact QZ e<|aaN r
abbrev T3:=AA×AA×AA
def vc(v:Q3)(c n:Nat):Prop:=bc v.1 c n/\bc v.2.1 c n/\bc v.2.2 c n
def As(v:Q3):T3:=(An v.1,An v.2.1,An v.2.2)
def bJ(e:q.num.natAbs<10^600)(r:q.den<10^600):PG q=some (An q):=by
 have s1:ND q.num=some (Br q.num):=by unfold ND;rw[Lx e A4];rfl
 have s2:ND (q.den:Int)=some (B5 q.den):=by unfold ND;rw[Lx (z:=(q.den:Int)) (by rw[EH];exact r) A4];show some (Br (q.den:Int))=_;unfold Br;rw[Bb A4];simp
 have l1:=U9 q.num;have B:=Jt 600 _ A4 e;have D:=Jt 600 _ A4 r;unfold PG JO An;rw[Bx,s1,s2];cases decide (q.den=1)
 .rw[Av,Bx,Ly Co,Bx,Bx,Ly Co];simp[Trn.bd]
 .rw[BF,BF,Bx,HB]
def iN(v:Q3):Bool:=decide (v.1=0)&&(decide (v.2.1=0)&&decide (v.2.2=0))
def vM{v:T3}{q:Q3}(h:Kh v q):Rh v=some q:=by unfold Rh;rw[h.1.2.2,Bx,h.2.1.2.2,Bx,h.2.2.2.2];rfl
def sign_zero(x:Rat):decide (x.num.sign=0)=decide (x=0):=by refine F5.2 ⟨λh=>KV.1<|Int.sign_eq_zero_iff_zero.1 h,λh=>by subst h;rfl⟩
def YM(h:bc q c m)(r:c<=d)(B:m<=n):bc q d n:=by have e:=J9 (show 0<10 by omega) B;exact⟨CA h.1<|Em r e,CA h.2 e⟩
def qX{x:Rat}{e:Nat}(r:bc x c n)(B:x≠0)(D:c<=10^e):bc x⁻¹ 1 (n+e):=by
 have E:x.num≠0:=λe=>B<|KV.1 e
 have F:=(ct x).symm;have h:=Sl (x:=(x.den:Int)) (y:=x.num) E;rw[<-F] at h;rw[EH] at h;refine⟨?_,?_⟩
 .rw[Iu,KU];exact CA h.1<|CA r.2<|Nat.le_mul_of_pos_right _<|Xv A4
 .rw[KU,Jw];exact CA h.2<|CA r.1<|JA _ D
def bc3(p:Q3)(c n:Nat):Prop:=bc p.1 c n/\bc p.2.1 c n/\bc p.2.2 c n
def bP{a b:Q3}(D:bc3 a c m)(E:bc3 b d n):bc3 (AZ a b) (2*(c*d)) (2*(m+n)):=by
 let⟨e,r,a3⟩:=D;let⟨B,b2,b3⟩:=E
 have k:∀{w x y z:Rat},bc w c m->bc x d n->bc y c m->bc z d n->bc (w*x-y*z) (2*(c*d)) (2*(m+n)):=λF G H I=>by
  have:=qW (K6 F G)<|K6 H I
  rwa [<-Nat.two_mul,<-Nat.two_mul] at this
 exact⟨k r b3 a3 b2,k a3 B e b3,k e b2 r B⟩
def ap3{a b:Q3}(e:bc3 a c m)(r:bc3 b d n):bc (AI a b) (3*(c*d)) (3*(m+n)):=by
 let⟨B,D,a3⟩:=e;let⟨E,b2,b3⟩:=r
 have:=QZ (QZ (K6 B E)<|K6 D b2)<|K6 a3 b3
 exact YM this A4 A4
def aBd{a b:Q3}(e:bc3 a c m)(r:bc3 b d n):bc3 (BK a b) (c+d) (m+n):=⟨QZ e.1 r.1,QZ e.2.1 r.2.1,QZ e.2.2 r.2.2⟩
def gN{a:Q3}{t:Rat}(e:bc3 a c m)(r:bc t d n):bc3 (BG a t) (c*d) (m+n):=⟨K6 e.1 r,K6 e.2.1 r,K6 e.2.2 r⟩
def anM{M:A3 H3}{p:Q3}(B:∀h∈M,bc3 h.1 1 k/\bc h.2 1 k)(G:BW M p):bc3 p 6 (35*k+1):=by
 obtain⟨_,a,H,b,I,c,J,K,rfl⟩:=UH.1 G;let⟨D,N⟩:=B a H;let⟨E,b2⟩:=B b I;let⟨F,O⟩:=B c J
 have d:=qX (e:=1) (ap3 (bP D E) F) K A4;have s:=aBd (aBd (gN (bP E F) N)<|gN (bP F D) b2)<|gN (bP D E) O
 have r:=gN s d;exact⟨YM r.1 A4 A4,YM r.2.1 A4 A4,YM r.2.2 A4 A4⟩
def lv(n:Nat)(q:Rat):Prop:=bc q 1 n
def BS(n:Nat)(p:Q3):Prop:=lv n p.1/\lv n p.2.1/\lv n p.2.2
def Cz(h:lv m q)(e:m<=n):lv n q:=YM h A4 e
def Qh(h:bc q c m)(e:c<=10)(r:m+1<=n):lv n q:=by
 refine⟨?_,CA h.2<|J9 A4 A4⟩;rw[Iu];refine CA h.1<|CA (JA _ e) ?_
 rw[Jw,<-QC];exact J9 A4 r
def Ia(h:lv n q)(B:n<=10000000000):EC q=true:=by
 have one:∀k:Nat,k<=10^n->Nat.blt (Nat.log2 k) 68719476736=true:=by
  intro k D;refine GR ?_;rcases Jb k with r|r
  .rw[r];exact Cs rfl
  .have e:(10:Nat)^n<=(2^4)^n:=pM A4 n;rw[<-Nat.pow_mul] at e;have E:(2:Nat)^(4*n)<2^(4*n+1):=Nat.pow_lt_pow_right A4 A4;have:Nat.log2 k<4*n+1:=(N7 A4).2 A4;omega
 unfold EC;have e:=h.1;rw[Iu] at e;rw[one _ e,one _ h.2];rfl
end
section
variable{x y:Rat}{n:Nat}(hx:lv n x)(hy:lv n y)(h1:1<=n)(hn:n<=10000000000)
include hx hy h1 hn
theorem Gl:FE x y=some (x*y)/\lv (4*n) (x*y):=⟨by unfold FE;rw[Ia hx hn,Ia hy hn];rfl,Qh (K6 hx hy) A4 A4⟩
theorem Sm:Jg x y=some (x+y)/\lv (4*n) (x+y):=⟨by unfold Jg;rw[Ia hx hn,Ia hy hn];rfl,Qh (QZ hx hy) A4 A4⟩
theorem QX:La x y=some (x-y)/\lv (4*n) (x-y):=⟨by unfold La;rw[Ia hx hn,Ia hy hn];rfl,Qh (qW hx hy) A4 A4⟩
theorem qN(r:y≠0):Qx x y=some (x/y)/\lv (4*n) (x/y):=
 ⟨by unfold Qx;rw[Ia hx hn,Ia hy hn,Bb r];rfl,by rw[N6];exact Qh (K6 hx<|qX (e:=0) hy r A4) A4 A4⟩
end
section
variable{a b:Q3}{n:Nat}(ha:BS n a)(hb:BS n b)(h1:1<=n)(hn:n<=10000000000)
include ha hb h1 hn
theorem oK:KL a b=some (Ae a b)/\BS (4*n) (Ae a b):=by let⟨e,k1⟩:=QX ha.1 hb.1 h1 hn;let⟨r,B⟩:=QX ha.2.1 hb.2.1 h1 hn;let⟨D,k3⟩:=QX ha.2.2 hb.2.2 h1 hn;exact⟨by unfold KL;rw[e,r,D];rfl,k1,B,k3⟩
theorem UW:JJ a b=some (BK a b)/\BS (4*n) (BK a b):=by let⟨e,k1⟩:=Sm ha.1 hb.1 h1 hn;let⟨r,B⟩:=Sm ha.2.1 hb.2.1 h1 hn;let⟨D,k3⟩:=Sm ha.2.2 hb.2.2 h1 hn;exact⟨by unfold JJ;rw[e,r,D];rfl,k1,B,k3⟩
end
section
variable{n:Nat}{α:Type}{a:Q3}{ρ:Type}
def mJ{t:Rat}(ha:BS n a)(e:lv n t)(h1:1<=n)(hn:n<=10000000000):Mf a t=some (BG a t)/\BS (4*n) (BG a t):=by let⟨r,k1⟩:=Gl ha.1 e h1 hn;let⟨B,D⟩:=Gl ha.2.1 e h1 hn;let⟨E,k3⟩:=Gl ha.2.2 e h1 hn;exact⟨by unfold Mf;rw[r,B,E];rfl,k1,D,k3⟩
def cW{b:Q3}(ha:BS n a)(hb:BS n b)(h1:1<=n)(hn:n<=100000000):PQ a b=some (AI a b)/\lv (64*n) (AI a b):=by let⟨e,k1⟩:=Gl ha.1 hb.1 h1 A4;let⟨r,B⟩:=Gl ha.2.1 hb.2.1 h1 A4;let⟨D,k3⟩:=Gl ha.2.2 hb.2.2 h1 A4;let⟨E,F⟩:=Sm k1 B A4 A4;let⟨G,k5⟩:=Sm F (Cz k3 (show 4*n<=4*(4*n) by omega)) A4 A4;refine⟨?_,Cz k5 A4⟩;unfold PQ;rw[e,r];simp only[bd];rw[E];simp only[bd];rw[D];simp only[bd];rw[G];rfl
def mK{b:Q3}(ha:BS n a)(hb:BS n b)(h1:1<=n)(hn:n<=100000000):RE a b=some (AZ a b)/\BS (16*n) (AZ a b):=by let⟨e,k1⟩:=Gl ha.2.1 hb.2.2 h1 A4;let⟨r,B⟩:=Gl ha.2.2 hb.2.1 h1 A4;let⟨D,k3⟩:=QX k1 B A4 A4;let⟨E,F⟩:=Gl ha.2.2 hb.1 h1 A4;let⟨G,k5⟩:=Gl ha.1 hb.2.2 h1 A4;let⟨H,I⟩:=QX F k5 A4 A4;let⟨J,K⟩:=Gl ha.1 hb.2.1 h1 A4;let⟨N,O⟩:=Gl ha.2.1 hb.1 h1 A4;let⟨P,Q⟩:=QX K O A4 A4;refine⟨?_,Cz k3 A4,Cz I A4,Cz Q A4⟩;unfold RE;rw[e,r];simp only[bd];rw[D];simp only[bd];rw[E,G];simp only[bd];rw[H];simp only[bd];rw[J,N];simp only[bd];rw[P];rfl
def X3{h:H3}{p:Q3}(e:BS n h.1/\lv n h.2)(r:BS n p)(h1:1<=n)(hn:n<=100000000):Nj h p=some (val h p)/\lv (256*n) (val h p):=by let⟨B,k1⟩:=cW e.1 r h1 hn;let⟨D,E⟩:=QX k1 (Cz e.2 (show n<=64*n by omega)) A4 A4;refine⟨?_,Cz E A4⟩;unfold Nj;rw[B];simp only[bd];rw[D];rfl
def RZ:∀l:A3 Q3,Q4 l=D5 l
 |[]=>rfl
 |a::l=>by
  have e:∀(f a:Q3) (l:A3 Q3),(a::l).zip (l++[f])=Fl f (a::l):=by
   intro f a l
   induction l generalizing a with|nil=>rfl|cons b l ih=>simp[OJ,List.zip_cons_cons,Fl];rw[ih]
  exact e a a l
def nt{α β ρ:Type}{K:A3 β->A9 ρ}{B:(A3 β->A9 ρ)->α->A3 β->A9 ρ}(f:α->A3 β)(w:Nat):∀(L:A3 α) (s:A3 β),(∀x∈L,(f x).length<=w/\∀(s:A3 β) (next:A3 β->A9 ρ),s.length<=100000000->B next x s=next (s++f x))->s.length+w*L.length<=100000000->HW L B s K=K (s++L.flatMap f)
 |[],s,_,_=>by simp[HW]
 |x::L,s,h,hl=>by let⟨h1,e⟩:=h x Ca;rw[DP,Nat.mul_add] at hl;unfold HW;rw[e s _ A4,nt f w L _ (λy hy=>h y<|Bg _ hy) (by rw[DD];omega),M7,Fz]
def aaO{b:Nat}{s:A3 α}{x:α}(hb:b<=1000)(e:s.length<=1000000001):BC b s [x]=some (s++[x]):=by unfold BC;have h1:(s.length+[x].length)*b<=140737488355328:=CA (Em (show s.length+[x].length<=1000000002 by simp;omega) hb) A4;rw[B1 h1,B1 (show s.length+[x].length<=9223372036854775807 by simp;omega)];rfl
def app_1{b:Nat}{s:A3 α}{x:α}(hb:b<=1000)(e:s.length<=1000000000):BC b s [x]=some (s++[x]):=aaO hb A4
def bp{x:Rat}:x.num<0↔x<0:=by rw[<-Int.not_le,Rat.num_nonneg,Rat.not_le]
theorem XR{x:Rat}:0<x.num↔0<x:=by
 constructor
 .intro h;have h1:0<=x:=Rat.num_nonneg.1 A4;have r:x≠0:=λe=>by rw[KV.2 e] at h;omega
  grind
 .intro h;have h1:0<=x.num:=Rat.num_nonneg.2 AK;have r:x.num≠0:=λe=>by rw[KV.1 e] at h;grind
  omega
def z6(x:Rat):decide (x.num.sign<=0)=decide (x<=0):=by rw[F5,<-Int.not_lt,<-Rat.not_lt,Int.sign_pos_iff,XR]
theorem ajB(x y:Rat):decide (x.num.sign*y.num.sign<0)=FK x y:=by
 rw[SE,IV,G0];have hx:x.num.sign=1/\0<x\/x.num.sign=0/\x=0\/x.num.sign= -1/\x<0:=by
  rcases Uk x.num 0 with h|h|h
  .exact .inr<| .inr ⟨eX h,bp.1 h⟩
  .exact .inr (.inl ⟨by rw[h];rfl,KV.1 h⟩)
  .exact .inl ⟨Ur h,XR.1 h⟩
 have hy:y.num.sign=1/\0<y\/y.num.sign=0/\y=0\/y.num.sign= -1/\y<0:=by
  rcases Uk y.num 0 with h|h|h
  .exact .inr<| .inr ⟨eX h,bp.1 h⟩
  .exact .inr (.inl ⟨by rw[h];rfl,KV.1 h⟩)
  .exact .inl ⟨Ur h,XR.1 h⟩
 rcases hx with⟨e,h⟩|⟨e,h⟩|⟨e,h⟩<;>rcases hy with⟨e',h'⟩|⟨e',h'⟩|⟨e',h'⟩<;>rw[e,e']<;>constructor<;>intro k<;>first|(exfalso;revert k;decide)|grind
def akH(x y:Rat):AG (x.num.sign*y.num.sign)=some (x.num.sign*y.num.sign):=by
 have h:∀z:Int,z.sign=1\/z.sign=0\/z.sign= -1:=λz=>by
  rcases Uk z 0 with h|h|h
  .exact .inr<| .inr<|eX h
  .exact .inr (.inl (by rw[h];rfl))
  .exact .inl<|Ur h
 rcases h x.num with e|e|e<;>rcases h y.num with r|r|r<;>rw[e,r]<;>rfl
theorem aij{l:A3 Q3}{h:H3}(hl:l.length<=1000000)(F:BS n h.1/\lv n h.2)(r:∀p∈l,BS n p)(h1:1<=n)(hn:n<=60000):Vp l h=some (Eh h l):=by
 unfold Vp Tl;have e:Pq l=some (D5 l):=by unfold Pq;rw[GR (show l.length+1<=1000000000 by omega)|>(λh=>(h:Nat.blt l.length 1000000000=true)),RZ];rfl
 rw[e];simp[bd];have B:(D5 l).length=l.length:=by rw[<-RZ,XA]
 have I:∀x∈D5 l,x.1∈l/\x.2∈l:=λx hx=>by rw[<-RZ] at hx;let⟨i,hi⟩:=SQ.1 hx;let⟨a,b,_⟩:=nZ hi;exact⟨HC a,HC b⟩
 refine nt (Jc h) 2 (D5 l) [] (λx hx=>⟨?_,λs next B=>?_⟩) (by simp[B];omega)
 .unfold Jc;cases decide (val h x.1<=0)<;>cases FK (val h x.1) (val h x.2)<;>simp
 .let⟨m1,m2⟩:=I x hx;let⟨v1,G⟩:=X3 F (r _ m1) h1 A4;let⟨J,K⟩:=X3 F (r _ m2) h1 A4;have tail:∀s:A3 Q3,s.length<=100000001->(bd (HG<|val h x.1) λN=>bd (HG<|val h x.2) λO=>bd (AG<|N*O) λP=>cond (decide<|P<0) (bd (La (val h x.1)<|val h x.2) λQ=>bd (Qx (val h x.1) Q) λT=>bd (KL x.2 x.1) λD=>bd (Mf D T) λU=>bd (JJ x.1 U) λV=>bd (BC 192 s ([V]:A3 V3)) λE=>next E)<|next s)=next (s++(bif FK (val h x.1) (val h x.2) then [Er h x.1 x.2] else [])):=by
   intro s B;unfold HG;simp[bd];rw[akH];simp[bd];rw[ajB];cases W:FK (val h x.1) (val h x.2)
   .simp
   .have h0:val h x.1-val h x.2≠0:=by have:=IV.1 W;grind
    let⟨X,Y⟩:=QX G K A4 A4;let⟨Z,b2⟩:=qN (Cz G (show 256*n<=4*(256*n) by omega)) Y A4 A4 h0;let⟨a3,b3⟩:=oK (r _ m2) (r _ m1) h1 A4;let⟨a4,b4⟩:=mJ (n:=4096*n) ⟨Cz b3.1 A4,Cz b3.2.1 A4,Cz b3.2.2 A4⟩ (Cz b2 A4) A4 A4;let⟨a5,b5⟩:=UW (n:=4*(4096*n)) ⟨Cz (r _ m1).1 A4,Cz (r _ m1).2.1 A4,Cz (r _ m1).2.2 A4⟩ b4 A4 A4;simp[BF];rw[X];simp[bd];rw[Z];simp[bd];rw[a3];simp[bd];rw[a4];simp[bd];rw[a5];simp[bd];have:BC 192 s [BK x.1<|BG (Ae x.2 x.1)<|val h x.1/(val h x.1-val h x.2)]=some (s++[BK x.1<|BG (Ae x.2 x.1)<|val h x.1/(val h x.1-val h x.2)]):=aaO A4 A4;rw[this];rfl
  show bd (Nj h x.1) _=_;rw[v1];simp[bd];rw[J];simp[bd];unfold jn;unfold Jc;cases H:decide (val h x.1<=0)
  .have hd:decide ((val h x.1).num.sign<=0)=false:=by rw[z6];exact H
   simp only[HG,hd,Av,Fy];exact tail s A4
  .have hd:decide ((val h x.1).num.sign<=0)=true:=by rw[z6];exact H
   simp only[HG,hd,BF];rw[app_1 A4 A4];rw[<-Fz];exact tail (s++[x.1]) Co
def OQ{σ S:Type}{R:ρ->Prop}(L:A3 α)(e:σ->Int->S)(P:A3 α->σ->Prop){B:(S->A9 ρ)->S->A9 ρ}{N:Nat}
 (Q:∀(A:A3 α) (x:α) (C:A3 α) (s:σ) (k:S->A9 ρ),L=A++x::C->P A s->(∀s',P (A++[x]) s'->Yd R (k<|e s' ((A.length+1:Nat):Int)))->Yd R (B k<|e s (A.length:Int)))
 (T:∀(s:σ) (k:S->A9 ρ),P L s->Yd R (B k<|e s (L.length:Int)))(E J:A3 α){s0:σ}(K:L=E++J)(U:P E s0)(O:L.length<N):Yd R (Trn.lp N B<|e s0 (E.length:Int)):=by
 have r:∀(C A:A3 α) (F:Nat) (s:σ),L=A++C->P A s->C.length<F->Yd R (Trn.lp F B<|e s (A.length:Int)):=by
  intro C
  induction C with
  |nil=>intro A F s D H hF;obtain⟨F,rfl⟩:∃G,F=G+1:=⟨F-1,A4⟩;rw[HB] at D;subst D;exact T s _ H
  |cons x C ih=>
   intro A F s D H hF;obtain⟨F,rfl⟩:∃G,F=G+1:=⟨F-1,A4⟩;rw[DP] at hF;refine Q A x C s _ D H λs' I=>?_
   have:=ih (A++[x]) F s' (by rw[D,Fz];rfl) I A4;rwa [DD] at this
 exact r J E N s0 K U (by rw[K] at O;simp at O;omega)
def Bw{σ S:Type}{R:ρ->Prop}(L:A3 α)(e:σ->Int->S)(P:A3 α->σ->Prop){B:(S->A9 ρ)->S->A9 ρ}{N:Nat}
 (r:∀(A:A3 α) (x:α) (C:A3 α) (s:σ) (k:S->A9 ρ),L=A++x::C->P A s->(∀s',P (A++[x]) s'->Yd R (k<|e s' ((A.length+1:Nat):Int)))->Yd R (B k<|e s (A.length:Int)))
 (D:∀(s:σ) (k:S->A9 ρ),P L s->Yd R (B k<|e s (L.length:Int))){s0:σ}(E:P [] s0)(F:L.length<N):Yd R (Trn.lp N B<|e s0 0):=OQ L e P r D [] L rfl E F
end
section
variable{α:Type}{L A C:List α}{x:α}(h:L=A++x::C)
include h
theorem Bt:decide ((A.length:Int)<(L.length:Int))=true:=by rw[h];simp<;>omega
theorem Bl:AB L (A.length:Int)=some x:=by rw[Hq,h];simp
theorem at_mem:x∈L:=by rw[h];simp
theorem CC:A.length+1<=L.length:=by rw[h];simp<;>omega
theorem Bk(e:L.length<=1000000000):AG ((A.length:Int)+1)=some ((A.length+1:Nat):Int):=by have:=CC h;rw[Dj ⟨A4,A4⟩];rfl
end
section
variable{n:Nat}{x:Rat}{k:Nat}{L:A3 H3}{y:Rat}{l:A3 Q3}{m:Nat}{a:Rat}{M:A3 H3}{f:H3}{S:A3 BY}
def Bs{α:Type}(L:A3 α):decide ((L.length:Int)<(L.length:Int))=false:=Bb A4
def Yn(hx:lv n x)(hy:lv n y)(hn:n<=10000000000):Jf x y=some (bif decide (x<y) then -1 else bif decide (y<x) then 1 else 0):=by unfold Jf;rw[Ia hx hn,Ia hy hn];rfl
def or3(a b c:Int):Ts [a,b,c]=some (bif !decide (a=0) then a else bif !decide (b=0) then b else c):=by
 obtain⟨F,hF⟩:∃F,18446744073709551616=F+4:=⟨18446744073709551612,rfl⟩;unfold Ts;rw[hF];show cond (!decide (a=0)) (some a) (cond (!decide (b=0)) (some b)<|cond (!decide (c=0)) (some c)<|some 0)=_;cases ha:decide (a=0)
 .rfl
 .cases hb:decide (b=0)
  .rfl
  .cases hc:decide (c=0)
   .rfl
   .rw[Aq hc];rfl
theorem cd{a b:Q3}(ha:BS n a)(hb:BS n b)(hn:n<=10000000000):∃v,R9 a b=some v/\(v<0↔Dv a b)/\(v=0↔a=b):=by
 unfold R9;rw[Yn ha.1 hb.1 hn,Yn ha.2.1 hb.2.1 hn,Yn ha.2.2 hb.2.2 hn];simp[bd];rw[or3];refine⟨_,rfl,?_⟩;let⟨r,B,a3⟩:=a;let⟨D,b2,b3⟩:=b;have e:∀x y:Rat,(x<y/\ ¬y<x/\x≠y)\/(¬x<y/\ ¬y<x/\x=y)\/(¬x<y/\y<x/\x≠y):=λx y=>by grind
 unfold Dv;simp[Iv];rcases e r D with⟨h1,h2,h3⟩|⟨h1,h2,h3⟩|⟨h1,h2,h3⟩<;>rcases e B b2 with⟨g1,g2,g3⟩|⟨g1,g2,g3⟩|⟨g1,g2,g3⟩<;>rcases e a3 b3 with⟨k1,k2,k3⟩|⟨k1,k2,k3⟩|⟨k1,k2,k3⟩<;>simp[h1,h2,h3,g1,g2,g3,k1,k2,k3]
def agu(e:l.length<=100000000):Z7 [] (some l)=some l:=by
 have r:l.flatMap (λx=>[x])=l:=by
  clear e
  induction l with|nil=>rfl|cons a l ih=>rw[M7,ih];rfl
 unfold Z7;show HW l _ [] _=_;refine(nt (λx=>[x]) 1 l [] (λx _=>⟨AO,λs next B=>by rw[app_1 A4 A4];rfl⟩) Co).trans ?_;rw[r];rfl
def uj(B:∀p∈l,BS n p)(hn:n<=10000000000)(G:l.length<=100000000):∃r,TR l=some r/\r.Pairwise Dv/\∀z,z∈r↔z∈l:=by
 have E:KH (λx:Q3×Q3=>R9 x.1 x.2) Dv l:=ajr λx H y I=>by let⟨v,h1,D,_⟩:=cd (B x H) (B y I) hn;exact⟨v,h1,D⟩
 let⟨s,s1,s2,s3⟩:=yv E A4;have F:∀p∈s,BS n p:=λp J=>B p<|s2.mem_iff.1 J
 let⟨r,r1,r2,K⟩:=agh (e:=λx:Q3×Q3=>Ku x.1 x.2) (λa N b O=>by
  let⟨v,h1,_,D⟩:=cd (F a N) (F b O) hn;show bd (R9 a b) _=_;rw[h1];show some (decide<|v=0)=_
  congr 1
  exact F5.2 D) s3<|E.perm s2
 refine⟨r,?_,r2,λz=>by rw[K,s2.mem_iff]⟩;unfold TR Z9 ij il;have e:UA l=some l:=by unfold UA;rw[show Nat.blt l.length 4000000000=true from GR A4];rfl
 rw[e];simp[bd];rw[agu G];simp[bd];rw[s1];simp only;rw[r1]
def Ye{a b:Q3}(h:Dv a b):a≠b:=λe=>OD a (by rw[<-e] at h;exact h)
theorem afB(J:f.1≠o3)(B:∀p∈l,BW L p/\val f p=0/\BS n p)(hn:BS n f.1)(h1:1<=n)(Qn:n<=60000)(E:l.length<=100000000)(F:∀r:A3 Q3,(∀z∈l,z∈r)->2<=r.length):∃p s,Ns l f.1=some (p::s)/\DO f.1 (p::s)/\(∀z,z∈p::s↔z∈l)/\(∀x∈s,Dv p x)/\s.Pairwise λx y=>0<BZ f.1 p x y:=by
 let⟨d,U,K,D⟩:=uj (λp V=>(B p V).2.2) A4 E;have N:=F d λz W=>(D z).2 W
 cases d with
 |nil=>simp at N
 |cons p t=>
  let⟨O,X⟩:=Fh.1 K;let⟨Y,Z,P⟩:=B p<|(D p).1 Ca
  have ht:0<t.length:=by rw[DP] at N;omega
  have G:t.length<4611686018427387904:=by
   have:=IT (l:=p::t) (T:=l) (K.imp λh=>Ye h) λx e=>(D x).1 e
   rw[DP] at this;omega
  have hO:KH (λx:Q3×Q3=>TW x.1 x.2 f.1 p) (λx y=>0<BZ f.1 p x y) t:=aku J Y Z (λx e=>by
   let⟨a,b,_⟩:=B x<|(D x).1<|Bg _ e
   exact⟨a,b,O x e⟩) λx e y my=>by
   let⟨_,_,nx⟩:=B x<|(D x).1<|Bg _ e
   let⟨_,_,ny⟩:=B y<|(D y).1<|Bg _ my
   let⟨H,k1⟩:=oK ny P h1 A4;let⟨e2,k2⟩:=oK nx P h1 A4;let⟨e3,k3⟩:=mK k1 k2 A4 A4;let⟨e4,k4⟩:=cW (n:=16*(4*n)) ⟨Cz hn.1 A4,Cz hn.2.1 A4,Cz hn.2.2 A4⟩ k3 A4 A4;refine⟨_,by show TW x y f.1 p=_;unfold TW;rw[H];simp[bd];rw[e2];simp[bd];rw[e3];simp[bd];rw[e4];simp[bd,HG];rfl,?_⟩;rw[dm,bp];have:BZ f.1 p x y= -AI f.1 (AZ (Ae y p)<|Ae x p):=by unfold BZ AI AZ Ae;grind
   rw[this];grind
  let⟨s,s1,s2,s3⟩:=yv hO G;have I:∀z,z∈p::s↔z∈l:=λz=>by rw[<-D,Ak,Ak,s2.mem_iff]
  have hn:s.Nodup:=s2.nodup_iff.2<|X.imp λh=>Ye h
  have Q:s.Pairwise λx y=>0<BZ f.1 p x y:=QO (λ{a b} ma mb h=>h.1.resolve_left h.2)<|s3.and hn
  refine⟨p,s,?_,wF J (L:=L) (λx e=>⟨(B x<|(I x).1 e).1,(B x<|(I x).1 e).2.1⟩) Q,I,λx e=>O x<|s2.mem_iff.1 e,Q⟩
  .unfold Ns;rw[U];have H:((t.length+1:Nat):Int)-1=(t.length:Int):=A4;simp only[bd,AB,List.getElem?_cons_zero,DP,H,CL,List.take_length,List.drop_succ_cons,NB,show((1:Int)).toNat=1 from rfl];rw[show decide ((0:Nat)<=1)=true from rfl,B1 (show(1:Int)<((t.length+1:Nat):Int) by omega),B1 (show((t.length+1:Nat):Int)<=((t.length+1:Nat):Int) by omega)];simp[Bool.and_self,gC];rw[s1];dsimp;have l1:s.length=t.length:=s2.length_eq;rw[show Nat.blt 0 t.length=true from GR ht,show Nat.ble (1+t.length) (t.length+1)=true from GR A4,show Nat.beq s.length t.length=true from by rw[l1];exact Nat.beq_refl _];simp[N8]
def xV(D:f.1≠o3)(E:∀p∈l,BW L p/\val f p=0/\BS n p)(hn:BS n f.1)(h1:1<=n)(F:n<=60000)(e:l.length<=100000000)(B:∀r:A3 Q3,(∀z∈l,z∈r)->2<=r.length):∃r,Ns l f.1=some r/\DO f.1 r/\∀z,z∈r↔z∈l:=by let⟨p,s,h1,G,H,_⟩:=afB D E hn h1 F e B;exact⟨_,h1,G,H⟩
def Gv(k:Nat)(L:A3 H3):Prop:=∀g∈L,BS k g.1/\lv k g.2
def fE(h:Gv k M){p:Q3}(e:BW M p):BS (35*k+2) p:=by have b:=anM (k:=k) (λg r=>h g r) e;exact⟨Qh b.1 A4 A4,Qh b.2.1 A4 A4,Qh b.2.2 A4 A4⟩
def Dx{v:Q3}(h:BS m v)(e:m<=n):BS n v:=⟨Cz h.1 e,Cz h.2.1 e,Cz h.2.2 e⟩
def aik(h:H3)(l:A3 Q3):(Eh h l).length<=2*l.length:=by
 have:∀s:A3 (Q3×Q3),(s.flatMap<|Jc h).length<=2*s.length:=λs=>by
  induction s with
  |nil=>simp
  |cons x s ih=>
   have hx:(Jc h x).length<=2:=by unfold Jc;cases decide (val h x.1<=0)<;>cases FK (val h x.1) (val h x.2)<;>simp
   rw[M7,DD,DP];omega
 have k:=this<|D5 l
 have e:(D5 l).length=l.length:=by rw[<-RZ,XA]
 unfold Eh;omega
def sign_neg(x:Rat):decide (x.num.sign<0)=decide (x<0):=F5.2 (by rw[dm,bp])
def Pr(x:Rat):decide (0<x.num.sign)=decide (0<x):=F5.2 (by rw[Int.sign_pos_iff,XR])
def uI(h:H3)(A:A3 BY)(f:BY):LR h (A++[f])=LR h A++(bif decide (2<(Eh h f.2).length) then [(f.1,Eh h f.2)] else []):=by unfold LR;rw[List.filterMap_append];cases e:decide (2<(Eh h f.2).length)<;>simp[e]
def akM(I:By S M)(e:M.length<=60){f:BY}(r:f∈S):f.2.length<=216000:=by
 let⟨_,B,D,E⟩:=I.Ck f r;have:=c7 (B.nodup D) λp F=>((E p).1 F).1
 have:=Em e<|Em e e
 omega
theorem Yd.ae{h:H3}(I:By S M)(W:Gv k (h::M))(hk:k<=1500)(Q:M.length<=60)(X:h.1≠o3)(hn:∀a∈h::M,∀b∈h::M,Oo a b->a=b):Yd (λr:A3 BY×Bool=>(r.2=true/\By r.1 (h::M))\/(r=([],false)/\ ¬ ∃o,∀k∈h::M,val k o<0)) (Kq S h):=by
 have Z:Gv k M:=λg mg=>W g<|Bg _ mg
 have np:∀f∈S,∀p∈f.2,BS (35*k+2) p:=λf G p P=>fE Z (((I.Ck f G).2.2.2 p).1 P).1
 have nc:∀f∈S,∀p∈Eh h f.2,BS (35*k+2) p:=λf G p P=>fE W ((I.US h f G p).1 P).1
 have Y:BS (35*k+2) h.1/\lv (35*k+2) h.2:=⟨Dx (W h Ca).1 A4,Cz (W h Ca).2 A4⟩;have hS:=I.len;have fl:∀f∈S,f.2.length<=216000:=λf G=>akM I Q G
 unfold Kq;refine Bw S (λ(s:Bool×Bool) i=>(s.1,s.2,i)) (λA s=>(s.1=true↔∃f∈A,∃p∈f.2,val h p<0)/\(s.2=true↔∃f∈A,∃p∈f.2,0<val h p)) (λA f C s k1 N K next=>?_) (λs k1 K=>?_) (s0:=(false,false)) AO A4
 .dsimp;rw[Bt N,BF];refine A5 (Bl N) ?_;have G:=at_mem N;refine Bw f.2 (λ(s:Bool×Bool) i=>(s.1,s.2,i)) (λB t=>(t.1=true↔(∃f∈A,∃p∈f.2,val h p<0)\/∃p∈B,val h p<0)/\(t.2=true↔(∃f∈A,∃p∈f.2,0<val h p)\/∃p∈B,0<val h p)) (λB p D t k2 e E H=>?_) (λt k2 E=>?_) (s0:=s) (by simpa using K) (by have:=fl f G;omega)
  .dsimp;rw[Bt e,BF];refine CZ (λt:Bool×Bool=>(t.1=true↔(∃f∈A,∃p∈f.2,val h p<0)\/∃q∈B++[p],val h q<0)/\(t.2=true↔(∃f∈A,∃p∈f.2,0<val h p)\/∃q∈B++[p],0<val h q)) (λt T=>A5 (Bk e (by have:=fl f G;omega))<|H t T) λk3 J=>?_
   refine A5 (Bl e)<|A5 (X3 Y (np f G p<|at_mem e) A4 A4).1<|A5 (x:=(val h p).num.sign) rfl ?_
   rw[sign_neg,Pr];simp only[Bi,CW,Xx,exists_or,exists_eq_left] at J;refine Ab (λF=>J _ ?_) λF=>Ab (λO=>J _ ?_) λO=>J _ ?_
   .have F:=Aq F;have Se: ¬0<val h p:=AK;simp only[F,Se,or_true,or_false,true_iff];exact⟨trivial,E.2⟩
   .have F:=BX F;have O:=Aq O;simp only[F,O,or_true,or_false];exact⟨E.1,AO⟩
   .have F:=BX F;have O:=BX O;simp only[F,O,or_false];exact E
  .dsimp;rw[Bs,Av];refine A5 (Bk N A4)<|next t ?_
   simpa[Bi,Xx,exists_or] using E
 .dsimp;rw[Bs,Av];refine Ab (λF=>AV<| .inr ⟨rfl,I.empty λf G p P=>?_⟩) λF=>Ab (λO=>AV<| .inl ⟨rfl,I.out X hn λf G p P=>?_⟩) λO=>?_
  .grind
  .grind
  .let⟨f0,m0,p0,q0,h0⟩:=K.1.1 (by simpa using F);let⟨f1,m1,p1,q1,h1⟩:=K.2.1 (by simpa using O);let⟨_,c1,c2⟩:=I.cut X m0 q0 h0 m1 q1 h1;refine Bw S (λ(s:A3 Q3×A3 BY) i=>(s.1,s.2,i)) (λA s=>s.2=LR h A/\(∀p,p∈s.1↔(∃f∈A,p∈Eh h f.2)/\val h p=0)/\s.1.length<=A.length*432000) (λA f C s k1 N K next=>?_) (λs k1 K=>?_) (s0:=([],[])) (by simp[LR]) A4
   .dsimp;have G:=at_mem N;have cl:=aik h f.2;have fl':=fl f G;have al:=CC N;have fal:(LR h A).length<=A.length:=List.length_filterMap_le _ _;rw[Bt N,BF];refine CZ (λt:A3 Q3×A3 BY=>t.2=LR h (A++[f])/\(∀p,p∈t.1↔(∃g∈A++[f],p∈Eh h g.2)/\val h p=0)/\t.1.length<=(A++[f]).length*432000) (λt T=>A5 (Bk N A4)<|next t T) λk3 J=>?_
    refine A5 (Bl N)<|A5 (aij A4 Y (np f G) A4 A4) ?_
    have mc:=nc f G;refine Bw (Eh h f.2) (λ(t:A3 Q3) i=>(t,i)) (λB t=>(∀p,p∈t↔((∃f∈A,p∈Eh h f.2)\/p∈B)/\val h p=0)/\t.length<=A.length*432000+B.length) (λB p D t k2 e E H=>?_) (λt k2 E=>?_) (s0:=s.1) (by simpa using K.2) A4
    .dsimp;have bl:=CC e;rw[Bt e,BF];refine CZ (λt:A3 Q3=>(∀q,q∈t↔((∃f∈A,q∈Eh h f.2)\/q∈B++[p])/\val h q=0)/\t.length<=A.length*432000+(B++[p]).length) (λt T=>A5 (Bk e A4)<|H t T) λk4 U=>?_
     refine A5 (Bl e)<|A5 (X3 Y (mc p<|at_mem e) A4 A4).1<|A5 (x:=(val h p).num.sign) rfl ?_
     rw[sign_zero];refine Ab (λF=>A5 (app_1 A4 A4) (U _ ⟨λq=>?_,by have:=E.2;simp;omega⟩)) λF=>U _ ⟨λq=>?_,by have:=E.2;simp;omega⟩
     .grind
     .grind
    .dsimp;rw[Bs,Av];have g1:∀p,p∈t↔(∃g∈A++[f],p∈Eh h g.2)/\val h p=0:=λp=>by rw[E.1];simp[Bi,Xx,exists_or]
     have g2:t.length<=(A++[f]).length*432000:=AK;have hd:decide (2<((Eh h f.2).length:Int))=decide (2<(Eh h f.2).length):=F5.2 A4;rw[hd];refine Ab (λF=>?_) λF=>J _ ⟨?_,g1,g2⟩
     .rw[K.1];exact A5 (app_1 A4 A4) (J _ ⟨by rw[uI,F];rfl,g1,g2⟩)
     .rw[uI,F,K.1];simp
   .dsimp;rw[Bs,Av];let⟨r,r1,r2,r3⟩:=xV (L:=h::M) X (l:=s.1) (n:=35*k+2) (λp P=>by
     let⟨⟨f,G,V⟩,hv⟩:=(K.2.1 p).1 P;exact⟨((I.US h f G p).1 V).1,hv,nc f G p V⟩) Y.1 A4 A4 (by have:=K.2.2;omega) λl hl=>by
      have:=c2 l λp vp tp=>hl p<|(K.2.1 p).2<|(c1 p).2 ⟨vp,tp⟩
      omega
    have fsl:(LR h S).length<=S.length:=List.length_filterMap_le _ _;rw[K.1];refine A5 r1<|A5 (app_1 A4 A4)<|AV<| .inl ⟨rfl,?_⟩
    exact I.clip X hn m0 q0 h0 m1 q1 h1 r2 λp=>by rw[r3,K.2.1]
theorem Yd.kJ(I:By S M)(H:Gv k (L++M))(J:k<=1500)(G:L.length+M.length<=60)(K:∀h∈L,h.1≠o3)(hn:∀a∈L++M,∀b∈L++M,Oo a b->a=b):Yd (λr:A3 BY×Bool=>(r.2=true/\∃N,(∀h,h∈N↔h∈L\/h∈M)/\N.length=L.length+M.length/\By r.1 N)\/(r.2=false/\ ¬ ∃o,∀k∈L++M,val k o<0)) (KJ S L):=by
 unfold KJ;refine Bw L (λ(s:A3 BY) i=>(s,i)) (λA s=>∃N,(∀h,h∈N↔h∈A\/h∈M)/\N.length=A.length+M.length/\By s N) (λA h C s k1 D F next=>?_) (λs k1 F=>?_) (s0:=S) ⟨M,AO,AO,I⟩ A4
 .let⟨N,n1,n2,n3⟩:=F;have T:=CC D;rw[Bt D,BF];refine A5 (Bl D) ?_;have sub:∀g∈h::N,g∈L++M:=λg B=>by
   rcases Ak.1 B with e|B
   .grind
   .grind
  refine Au (Yd.ae (k:=k) n3 (λg B=>H g<|sub g B) J A4 (K h<|at_mem D) λa O b P=>hn a (sub a O) b<|sub b P) λr E=>?_
  rcases E with⟨e,E⟩|⟨e,E⟩
  .rw[e,dW,Av];refine A5 (Bk D A4)<|next _ ⟨h::N,λg=>?_,Co,E⟩
   rw[Ak,n1];simp[Bi,CW];constructor
   .grind
   .grind
  .rw[e,Bool.not_false,BF];exact AV<| .inr ⟨rfl,λ⟨o,Q⟩=>E ⟨o,λg B=>Q g<|sub g B⟩⟩
 .dsimp;rw[Bs,Av];exact AV<| .inl ⟨rfl,F⟩
def LG{d:Int}(h:d=1\/d= -1):qF d=some (d:Rat):=by rcases h with rfl|rfl<;>rfl
def Ib{d:Int}(h:d=1\/d= -1)(n:Nat):lv n (d:Rat):=by have e:(10:Nat)^0<=10^n:=J9 A4 A4;have:1<=10^n:=e;rcases h with rfl|rfl<;>exact⟨by show 1<=1*10^n;omega,by show 1<=10^n;omega⟩
def iM:L4 0 0 0=some ((0:Rat),(0:Rat),(0:Rat)):=A6
def UF(ha:0<a)(G:Gv k (Cu a))(H:k<=1500){N:Q3}(I:(N,a)∈Cu a)(J:N≠o3){f:Rat->Rat->Q3}
 (K:∀p,(∃x y,(x=a\/x= -a)/\(y=a\/y= -a)/\p=f x y)↔BW (Cu a) p/\val (N,a) p=0)(D:f a a≠f (-a) (-a))(O:l=LZ a f):∃r,Ns l N=some r/\DO N r/\∀p,p∈r↔BW (Cu a) p/\val (N,a) p=0:=by
 subst O;have B:∀p,p∈LZ a f↔BW (Cu a) p/\val (N,a) p=0:=λp=>by rw[xZ,K]
 let⟨r,r1,r2,P⟩:=xV (L:=Cu a) (f:=(N,a)) J (l:=LZ a f) (n:=35*k+2) (λp E=>⟨((B p).1 E).1,((B p).1 E).2,fE G ((B p).1 E).1⟩) (Dx (G _ I).1 A4) A4 A4 (by unfold LZ;simp) λr Q=>by
  have:=IT (l:=[f a a,f (-a)<| -a]) (T:=r) (by simp[D]) (by
   intro x F;refine Q x<|xZ.2 ?_
   rcases Ak.1 F with e|F
   .exact⟨a,a,.inl rfl,.inl rfl,e⟩
   .exact⟨-a,-a,.inr rfl,.inr rfl,CW.1 F⟩)
  exact this
 exact⟨r,r1,r2,λp=>by rw[P,B]⟩
def cpt(a:Rat)(m:Nat)(s:Int)(d:Int×Int):Q3:=match m with|0=>((s:Rat)*a,(d.1:Rat)*a,(d.2:Rat)*a)|1=>((d.2:Rat)*a,(s:Rat)*a,(d.1:Rat)*a)|_=>((d.1:Rat)*a,(d.2:Rat)*a,(s:Rat)*a)
abbrev four:A3 (Int×Int):=[((-1),(-1)),((-1),1),(1,(-1)),(1,1)]
theorem amw{d:Int×Int}(h:d∈four):(d.1=1\/d.1= -1)/\(d.2=1\/d.2= -1):=by grind
theorem VC(a:Rat):((1:Int):Rat)*a=a:=by grind
theorem VB(a:Rat):((-1:Int):Rat)*a= -a:=by grind
theorem aB9(ha:0<a)(h1:1<=k)(H:lv k a)(I:k<=1500):Yd (λS=>By S<|Cu a) (JM a):=by
 have F1:Gv k (Cu a):=by have o:=Ib (.inl rfl:(1:Int)=1\/(1:Int)= -1) k;have m:=Ib (.inr rfl:(-1:Int)=1\/(-1:Int)= -1) k;have z:lv k (0:Rat):=⟨EU _,o.2⟩;exact Ju.2 ⟨⟨⟨m,z,z⟩,H⟩,⟨⟨o,z,z⟩,H⟩,⟨⟨z,m,z⟩,H⟩,⟨⟨z,o,z⟩,H⟩,⟨⟨z,z,m⟩,H⟩,⟨z,z,o⟩,H⟩
 unfold JM;refine Bw ([0,1,2]:A3 Nat) (λ(s:A3 BY) i=>(s,i)) (λA s=>s.map Prod.fst=(Cu a).take (2*A.length)/\∀f∈s,DO f.1.1 f.2/\∀p,p∈f.2↔BW (Cu a) p/\val f.1 p=0) (λA i C s k1 P O next=>?_) (λs k1 O=>?_) (s0:=[]) ⟨rfl,AO⟩ AO
 .have U:=CC P;rw[show([0,1,2]:A3 Nat).length=3 from rfl] at U;rw[DD] at next
  generalize A.length=m at*
  clear P;rw[B1 (show(m:Int)<3 by omega),BF];refine Bw ([(-1),1]:A3 Int) (λ(t:A3 BY) j=>(t,j)) (λB t=>t.map Prod.fst=(Cu a).take (2*m+B.length)/\∀f∈t,DO f.1.1 f.2/\∀p,p∈f.2↔BW (Cu a) p/\val f.1 p=0) (λB V C t Y P O Z=>?_) (λt Y O=>?_) (s0:=s) (by simpa using O) AO
  .dsimp only;rw[Bt P,BF];have G:V=1\/V= -1:=by have:=at_mem P;simp at this;omega
   have hb:=CC P;rw[show([(-1),1]:A3 Int).length=2 from rfl] at hb;have hbs:V=2*(B.length:Int)-1:=by
    rcases B with _|⟨b0,_|⟨b1,B⟩⟩
    .grind
    .grind
    .simp at hb
   have tl:t.length<=6:=by rw[<-BL Prod.fst,O.1];simp[Cu];omega
   refine A5 (Bl P)<|A5 iM<|A5 (LG G) ?_
   have J:∀(N:Q3) (l:A3 Q3),(∃r,Ns l N=some r/\DO N r/\∀p,p∈r↔BW (Cu a) p/\val (N,a) p=0)->(Cu a)[2*m+B.length]? =some (N,a)->Yd (λS=>By S<|Cu a) (bd (Ns l N) λJe=>bd (BC 280 t ([((N,a),Je)]:A3 BY)) λLW=>bd (AG<|(B.length:Int)+1) λNb=>Y (LW,Nb)):=by
    rintro N l ⟨r,r1,r2,r3⟩ W;refine A5 r1<|A5 (app_1 A4 A4)<|A5 (Bk P AO)<|Z _ ⟨?_,λf mf=>?_⟩
    .rw[I5,O.1,DD,<-Iw];show _=List.take (2*m+B.length+1) _;rw[List.take_add_one,W];rfl
    .grind
   have U:m=0\/m=1\/m=2:=A4;refine A5 (x:=(0:Rat)) (by rcases U with rfl|rfl|rfl<;>rfl) ?_;refine Bw four (λ(u:A3 Q3) j=>(u,j)) (λD u=>u=D.map (cpt a m V)) (λD d E u k3 F K X=>?_) (λu k3 K=>?_) (s0:=[]) rfl (by simp[four])
   .dsimp only;rw[Bt F,BF];let⟨Q,T⟩:=amw<|at_mem F
    have ul:u.length<=100000000:=by rw[K,BL];have:=CC F;simp at this;omega
    rcases U with rfl|rfl|rfl
    .exact A5 (Bl F) (A5 (iM) (A5 ((rfl)) (A5 ((rfl)) (A5 ((rfl)) (A5 ((rfl)) (A5 (LG G) (A5 ((Gl (Ib G k) H h1 A4).1) (A5 (LG Q) (A5 ((Gl (Ib Q k) H h1 A4).1) (A5 (LG T) (A5 ((Gl (Ib T k) H h1 A4).1) (A5 ((rfl)) (A5 ((rfl)) (A5 ((rfl)) (A5 (app_1 A4 A4) (A5 (Bk F AO) (X _ (by rw[K,I5];rfl))))))))))))))))))
    .exact A5 (Bl F) (A5 (iM) (A5 ((rfl)) (A5 ((rfl)) (A5 ((rfl)) (A5 ((rfl)) (A5 (LG G) (A5 ((Gl (Ib G k) H h1 A4).1) (A5 (LG Q) (A5 ((Gl (Ib Q k) H h1 A4).1) (A5 (LG T) (A5 ((Gl (Ib T k) H h1 A4).1) (A5 ((rfl)) (A5 ((rfl)) (A5 ((rfl)) (A5 (app_1 A4 A4) (A5 (Bk F AO) (X _ (by rw[K,I5];rfl))))))))))))))))))
    .exact A5 (Bl F) (A5 (iM) (A5 ((rfl)) (A5 ((rfl)) (A5 ((rfl)) (A5 ((rfl)) (A5 (LG G) (A5 ((Gl (Ib G k) H h1 A4).1) (A5 (LG Q) (A5 ((Gl (Ib Q k) H h1 A4).1) (A5 (LG T) (A5 ((Gl (Ib T k) H h1 A4).1) (A5 ((rfl)) (A5 ((rfl)) (A5 ((rfl)) (A5 (app_1 A4 A4) (A5 (Bk F AO) (X _ (by rw[K,I5];rfl))))))))))))))))))
   .dsimp only;rw[Bs,Av,K];have ne:a≠ -a:=AK;rcases U with rfl|rfl|rfl<;>rcases G with rfl|rfl
    .exact J _ _ (UF (N:=(1,0,0)) (f:=λx y=>(a,x,y)) ha F1 I (by simp[Cu]) (λe=>by simp only[o3,Iv] at e;grind) (λp=>by rw[Rp ha,MH];exact⟨λ⟨x,y,hx,hy,e⟩=>by subst e;grind,λh=>⟨p.2.1,p.2.2,AK,AK,Prod.ext (by dsimp<;>grind) (Prod.ext (by dsimp<;>grind) (by dsimp<;>grind))⟩⟩) (λe=>by simp[Prod.ext_iff] at e;grind) (by simp[cpt,LZ,VC,VB]<;>grind)) (by rw[show B.length=1 by omega];rfl)
    .exact J _ _ (UF (N:=(-1,0,0)) (f:=λx y=>(-a,x,y)) ha F1 I (by simp[Cu]) (λe=>by simp[o3,Iv] at e;grind) (λp=>by rw[Rp ha,MI];exact⟨λ⟨x,y,hx,hy,e⟩=>by subst e;grind,λh=>⟨p.2.1,p.2.2,AK,AK,Prod.ext (by dsimp<;>grind) (Prod.ext (by dsimp<;>grind) (by dsimp<;>grind))⟩⟩) (λe=>by simp[Prod.ext_iff] at e;grind) (by simp[cpt,LZ,VC,VB]<;>grind)) (by rw[show B.length=0 by omega];rfl)
    .exact J _ _ (UF (N:=(0,1,0)) (f:=λx y=>(y,a,x)) ha F1 I (by simp[Cu]) (λe=>by simp only[o3,Iv] at e;grind) (λp=>by rw[Rp ha,MF];exact⟨λ⟨x,y,hx,hy,e⟩=>by subst e;grind,λh=>⟨p.2.2,p.1,AK,AK,Prod.ext (by dsimp<;>grind) (Prod.ext (by dsimp<;>grind) (by dsimp<;>grind))⟩⟩) (λe=>by simp[Prod.ext_iff] at e;grind) (by simp[cpt,LZ,VC,VB]<;>grind)) (by rw[show B.length=1 by omega];rfl)
    .exact J _ _ (UF (N:=(0,-1,0)) (f:=λx y=>(y,-a,x)) ha F1 I (by simp[Cu]) (λe=>by simp[o3,Iv] at e;grind) (λp=>by rw[Rp ha,MG];exact⟨λ⟨x,y,hx,hy,e⟩=>by subst e;grind,λh=>⟨p.2.2,p.1,AK,AK,Prod.ext (by dsimp<;>grind) (Prod.ext (by dsimp<;>grind) (by dsimp<;>grind))⟩⟩) (λe=>by simp[Prod.ext_iff] at e;grind) (by simp[cpt,LZ,VC,VB]<;>grind)) (by rw[show B.length=0 by omega];rfl)
    .exact J _ _ (UF (N:=(0,0,1)) (f:=λx y=>(x,y,a)) ha F1 I (by simp[Cu]) (λe=>by simp only[o3,Iv] at e;grind) (λp=>by rw[Rp ha,MD];exact⟨λ⟨x,y,hx,hy,e⟩=>by subst e;grind,λh=>⟨p.1,p.2.1,AK,AK,Prod.ext (by dsimp<;>grind) (Prod.ext (by dsimp<;>grind) (by dsimp<;>grind))⟩⟩) (λe=>by simp[Prod.ext_iff] at e;grind) (by simp[cpt,LZ,VC,VB]<;>grind)) (by rw[show B.length=1 by omega];rfl)
    .exact J _ _ (UF (N:=(0,0,-1)) (f:=λx y=>(x,y,-a)) ha F1 I (by simp[Cu]) (λe=>by simp[o3,Iv] at e;grind) (λp=>by rw[Rp ha,ME];exact⟨λ⟨x,y,hx,hy,e⟩=>by subst e;grind,λh=>⟨p.1,p.2.1,AK,AK,Prod.ext (by dsimp<;>grind) (Prod.ext (by dsimp<;>grind) (by dsimp<;>grind))⟩⟩) (λe=>by simp[Prod.ext_iff] at e;grind) (by simp[cpt,LZ,VC,VB]<;>grind)) (by rw[show B.length=0 by omega];rfl)
  .dsimp only;rw[Bs,Av];refine A5 (x:=((m+1:Nat):Int)) (by rw[Dj ⟨A4,A4⟩];rfl)<|next t ?_
   have:2*(m+[i].length)=2*m+([(-1),1]:A3 Int).length:=by simp;omega
   rw[this];exact O
 .dsimp only;rw[show decide (((([0,1,2]:A3 Nat).length:Nat):Int)<3)=false from rfl,Av];exact AV<|aiY ha O.1 O.2
def GF(n:Q3):Prop:=∃x y z:Int,n=((x:Rat),(y:Rat),(z:Rat))/\Nat.gcd (Nat.gcd x.natAbs y.natAbs) z.natAbs=1
def GF.H4{n:Q3}:GF n->Lb n|⟨x,y,z,h,_⟩=>by rw[h];exact⟨⟨x,rfl⟩,⟨y,rfl⟩,⟨z,rfl⟩⟩
theorem qT{x:Int}(h:(x:Rat)=0):x=0:=by simp_all
def GF.nz{n:Q3}(p:GF n):n≠o3:=λe=>by let⟨x,y,z,h,g⟩:=p;rw[h] at e;simp only[o3,Iv] at e;rw[qT e.1,qT e.2.1,qT e.2.2] at g;cases g
def pc{s:Rat}{x y:Int}(h:(x:Rat)*s=(y:Rat)):s.den∣x.natAbs/\s.num.natAbs∣y.natAbs:=by
 have e:x*s.num=y*(s.den:Int):=by
  have r:(s.den:Rat)≠0:=by have:=s.den_nz;intro c;exact this<|Rat.natCast_eq_zero_iff.1 c
  have B:(x:Rat)*(s.num:Rat)=(y:Rat)*(s.den:Rat):=by
   have D:(s.num:Rat)=s*(s.den:Rat):=by have:=Rat.num_divInt_den s;rw[M8,Rat.intCast_natCast] at this;have t:=LK (a:=(s.num:Rat)) r;rw[this] at t;exact t.symm
   rw[D,<-h,Rat.mul_assoc]
  have E:((x*s.num:Int):Rat)=((y*(s.den:Int):Int):Rat):=by rw[Rat.intCast_mul,Rat.intCast_mul];exact B
  exact dc.1 E
 have n:=congrArg Int.natAbs e;rw[I4,I4,EH] at n;have c:=s.reduced;exact⟨(Nat.Coprime.dvd_of_dvd_mul_right c.symm ⟨y.natAbs,by rw[n,Jw]⟩),(Nat.Coprime.dvd_of_dvd_mul_right c ⟨x.natAbs,by rw[<-n,Jw]⟩)⟩
theorem Rk{h k:H3}(a:GF h.1)(b:GF k.1):Oo h k->h=k:=λ⟨s,s0,e⟩=>by
 let⟨x,y,z,B,D⟩:=a;let⟨O,y',P,E,F⟩:=b;have r:BG h.1 s=k.1:=by rw[e]
 rw[B,E] at r;simp[BG,Iv] at r;let⟨G,H⟩:=pc r.1;let⟨I,J⟩:=pc r.2.1;let⟨K,N⟩:=pc r.2.2;have u:=Nat.dvd_gcd (Nat.dvd_gcd G I) K;have v:=Nat.dvd_gcd (Nat.dvd_gcd H J) N;rw[D] at u;rw[F] at v;have u:=Nat.dvd_one.1 u;have v:=Nat.dvd_one.1 v;have:0<s.num:=XR.2 s0;have s1:s=1:=Rat.ext (by show s.num=1;omega) (by show s.den=1;omega);rw[e,s1];exact Prod.ext (F9) (by simp only;grind)
def aid:∀h∈Cu a,GF h.1:=Ju.2 ⟨⟨-1,0,0,A6,rfl⟩,⟨1,0,0,A6,rfl⟩,⟨0,-1,0,A6,rfl⟩,⟨0,1,0,A6,rfl⟩,⟨0,0,-1,A6,rfl⟩,⟨0,0,1,A6,rfl⟩⟩
def MZ(x:Rat):Rat:=bif decide (x<0) then -x else x
theorem fJ{m:Rat}(h:MZ x<=m):wi x m:=by grind [MZ,wi]
def fM(h:lv n x):lv n (MZ x):=by
 unfold MZ;cases decide (x<0)
 .exact h
 .exact aaN h
def yz(x:Rat):We x=some (MZ x):=by unfold We HG MZ Qw;rw[Bx,sign_neg];cases decide (x<0)<;>rfl
theorem aEy{L:A3 Rat}(G:∀x∈L,lv n x)(hn:n<=10000000000)(J:L≠[])(N:L.length<=10000001):Yd (λr=>r∈L/\∀x∈L,x<=r) (Vk L λx=>Jf x.1 x.2):=by
 unfold Vk;cases L with
 |nil=>exact absurd rfl J
 |cons y T=>
  rw[Bb (show¬(((y::T).length:Nat):Int)<1 by simp;omega),Av];refine A5 (x:=y) rfl ?_;refine OQ (y::T) (λ(m:Rat) i=>(m,i)) (λA m=>m∈y::T/\∀x∈A,x<=m) (λA x C m k B D next=>?_) (λm k D=>?_) [y] T (s0:=y) rfl ⟨AO,by simp[El]⟩ A4
  .dsimp only;rw[Bt B,BF];have H:=at_mem B;refine CZ (λF:Rat=>F∈y::T/\∀z∈A++[x],z<=F) (λF K=>A5 (Bk B A4)<|next F K) λO I=>?_
   refine A5 (Bl B)<|A5 (Yn (G x H) (G m D.1) hn)<|Ab (λE=>A5 (Bl B)<|I x ⟨H,λz e=>?_⟩) λE=>I m ⟨D.1,λz e=>?_⟩
   .have hm:m<=x:=by
     refine CB λg=>?_
     rw[B1 (show x<m by grind)] at E;cases E
    rcases Bi.1 e with e|e
    .grind
    .grind
   .have hm:x<=m:=by
     refine CB λg=>?_
     rw[Bb (show¬x<m by grind),B1 (show m<x by grind)] at E;cases E
    rcases Bi.1 e with e|e
    .exact D.2 z e
    .grind
  .dsimp only;rw[Bs,Av];exact AV D
def ug{l:A3 Rat}(h:∀x∈l,lv n x)(hn:n<=10000000000)(F:l.length<=10000000):Yd (λr=>1<=r/\lv n r/\∀x∈l,x<=r) (W0 l):=by
 have B:∀x∈l++[1],lv n x:=λx e=>by
  rcases Bi.1 e with m|m
  .exact h x m
  .rw[CW.1 m];exact Ib (d:=1) (.inl rfl) n
 unfold W0;refine A5 (LG<| .inl rfl)<|A5 (app_1 A4 A4) ?_
 exact Au (aEy B hn AO Co) λr ⟨E,D⟩=>AV ⟨D 1 AO,B r E,λx e=>D x (by simp[e])⟩
def yT(e:lv k a):Gv k (Cu a):=by have o:=Ib (.inl rfl:(1:Int)=1\/(1:Int)= -1) k;have m:=Ib (.inr rfl:(-1:Int)=1\/(-1:Int)= -1) k;have z:lv k (0:Rat):=⟨EU _,o.2⟩;exact Ju.2 ⟨⟨⟨m,z,z⟩,e⟩,⟨⟨o,z,z⟩,e⟩,⟨⟨z,m,z⟩,e⟩,⟨⟨z,o,z⟩,e⟩,⟨⟨z,z,m⟩,e⟩,⟨z,z,o⟩,e⟩
def pG(hx:lv m x)(hy:lv n y)(e:m<=1000)(hn:n<=1000):FE x y=some (x*y):=by unfold FE;rw[Ia hx A4,Ia hy A4];rfl
def T4(L:A3 H3)(k:Nat)(r:A3 BY×Bool):Prop:=
 ∃a m D:Rat,a=7*(m*m*D)/\0<m/\0<D/\lv (3*k+1) a/\(∀h∈L,wi3 h.1 m/\wi h.2 D)/\
  ((r.2=true/\∃N,(∀h,h∈N↔h∈L\/h∈Cu a)/\By r.1 N)\/(r.2=false/\ ¬ ∃o,∀k∈L++Cu a,val k o<0))
theorem yZ(I:Gv k L)(h1:1<=k)(hk:k<=490)(U:L.length<=50)(V:∀h∈L,GF h.1):Yd (T4 L k) (RM L):=by
 unfold RM;refine Bw L (λ(s:A3 Rat×A3 Rat) i=>(s.1,s.2,i)) (λA s=>((∀x∈s.1,lv k x)/\∀x∈s.2,lv k x)/\(∀h∈A,MZ h.1.1∈s.1/\MZ h.1.2.1∈s.1/\MZ h.1.2.2∈s.1/\MZ h.2∈s.2)/\s.1.length=3*A.length/\s.2.length=A.length) (λA h C s k1 E F next=>?_) (λs k1 F=>?_) (s0:=([],[])) AO A4
 .dsimp;rw[Bt E,BF];refine A5 (Bl E) ?_;let⟨J,g2⟩:=I h<|at_mem E
  have al:=CC E;refine Bw [h.1.1,h.1.2.1,h.1.2.2] (λ(t:A3 Rat) i=>(t,i)) (λB t=>t=s.1++B.map MZ) (λB x D t k2 K G Gi=>?_) (λt k2 G=>?_) (s0:=s.1) AO AO
  .dsimp;have bl:=CC K;rw[show [h.1.1,h.1.2.1,h.1.2.2].length=3 from rfl] at bl;rw[B1 (show(B.length:Int)<3 by omega),BF];refine A5 (Bl K) (A5 (yz x) (A5 (app_1 A4 (by rw[G];simp;omega))<|A5 (Bk K AO)<|Gi _ ?_));rw[G,I5,Fz];rfl
  .dsimp only;rw[show decide ((([h.1.1,h.1.2.1,h.1.2.2].length:Nat):Int)<3)=false from rfl,Av];refine A5 (yz h.2)<|A5 (app_1 A4 A4)<|A5 (Bk E A4)<|next (_,_) ⟨⟨?_,?_⟩,?_,?_,?_⟩
   .intro x mx;rw[G] at mx;simp[JT,Y1,Bi,Ak,QL,or_false] at mx;rcases mx with m|rfl|rfl|rfl
    .exact F.1.1 x m
    .exact fM J.1
    .exact fM J.2.1
    .exact fM J.2.2
   .intro x mx;rcases Bi.1 mx with m|m
    .exact F.1.2 x m
    .rw[CW.1 m];exact fM g2
   .grind
   .grind
   .simp;omega
 .dsimp;rw[Bs,Av];let⟨⟨p1,p2⟩,p3,p4,p5⟩:=F;refine Au (ug p1 A4 A4) λm ⟨m1,H,O⟩=>?_
  have W:lv 1 (7:Rat):=⟨Cs A6,Cs A6⟩;have X:=K6 W H;have Y:=K6 X H;refine A5 (x:=(7:Rat)) A6<|A5 (pG W H A4 A4)<|A5 (pG X H A4 A4) ?_
  refine Au (ug p2 A4 A4) λD ⟨D1,Z,D3⟩=>?_
  have a3:lv (3*k+1) (7*m*m*D):=Cz (K6 Y Z) A4;have e:7*m*m*D=7*(m*m*D):=AK;have P:0<m:=AK;have D0:0<D:=AK;have pos:0<7*m*m*D:=by have:=Ed (Ed P P) D0;rw[e];grind
  refine A5 (pG Y Z A4 A4)<|Au (aB9 pos A4 a3 A4) λS IS=>?_
  have pr:∀g∈L++Cu (7*m*m*D),GF g.1:=λg Q=>(Bi.1 Q).elim (V g)<|aid g
  have fw:Gv (3*k+1) (L++Cu (7*m*m*D)):=λg Q=>(Bi.1 Q).elim (λh=>⟨Dx (I g h).1 A4,Cz (I g h).2 A4⟩)<|yT a3 g
  refine Au (Yd.kJ IS fw A4 (by simp[Cu];omega) (λh T=>(V h T).nz) λa ma b mb=>Rk (pr a ma)<|pr b mb) λr hr=>AV ⟨_,m,D,e,P,D0,a3,λh T=>?_,?_⟩
  .let⟨a,b,c,d⟩:=p3 h T;exact⟨⟨fJ<|O _ a,fJ<|O _ b,fJ<|O _ c⟩,fJ<|D3 _ d⟩
  .rcases hr with⟨e1,N,n1,_,n3⟩|⟨e1,n⟩
   .grind
   .exact .inr ⟨e1,n⟩
def T4.rI(B:∀h∈L,GF h.1)(hb:Dp L){m D:Rat}(e:a=7*(m*m*D))(E:0<m)(F:0<D)(G:∀h∈L,wi3 h.1 m/\wi h.2 D){p:Q3}(H:Mem L p):∀h∈Cu a,val h p<0:=by rw[e];exact amR hb E F (λh r=>⟨(B h r).H4,G h r⟩) H
def T4.KF{r:A3 BY×Bool}(h:T4 L k r)(E:∀h∈L,GF h.1)(hb:Dp L):(r.2=true/\By r.1 L)\/(r.2=false/\ ¬ ∃o,∀k∈L,val k o<0):=by
 let⟨a,m,D,e,F,G,_,H,J⟩:=h;rcases J with⟨e1,N,n1,n2⟩|⟨e1,n⟩
 .exact .inl ⟨e1,(n2.drop n1 hb λp K=>T4.rI E hb e F G H K).1⟩
 .refine .inr ⟨e1,λ⟨o,I⟩=>n ⟨o,λg B=>?_⟩⟩;rcases Bi.1 B with B|B
  .exact I g B
  .exact T4.rI E hb e F G H (λg B=>EF<|I g B) g B
def ajv{g:H3->A9 Bool}{p:H3->Bool}(E:∀x∈L,g x=some (p x))(F:L.length<=100000000):Z4 L g=some (L.any p):=by
 have key:Yd (λi=>decide (0<=i)=L.any p) (Z5 L g):=by
  unfold Z5;refine Bw L (λ(_:Unit) i=>i) (λA _=>A.any p=false) (λA x C s k e B next=>?_) (λs k B=>?_) (s0:=()) rfl A4
  .rw[Bt e,BF];refine A5 (Bl e)<|A5 (E x<|at_mem e)<|Ab (λD=>AV ?_) λD=>A5 (Bk e A4)<|next () ?_
   .rw[B1 A4,e,Ud,List.any_cons,D];simp
   .rw[Ud,B,List.any_cons,D];rfl
  .rw[Bs,Av];exact AV (by rw[B];rfl)
 let⟨r,r1,r2⟩:=key;unfold Z4;rw[r1,<-r2];rfl
def ahf{x:H3}(hx:BS n x.1/\lv n x.2)(r:BS n f.1/\lv n f.2)(hn:n<=10000000000):Vu x (f,l)=some (decide<|x=f):=by
 let⟨v,v1,_,B⟩:=cd hx.1 r.1 hn;have s:Ku x.1 f.1=some (decide<|x.1=f.1):=by
  unfold Ku;rw[v1];show some (decide<|v=0)=_
  congr 1;exact F5.2 B
 have q:Ki x.2 f.2=some (decide<|x.2=f.2):=by unfold Ki;rw[Ia hx.2 hn,Ia r.2 hn];rfl
 have e:decide (x=f)=(decide (x.1=f.1)&&decide (x.2=f.2)):=by rw[SE];simp[OK]
 unfold Vu;rw[s,Bx,e];cases decide (x.1=f.1)
 .rfl
 .show bd (Ki x.2 f.2) _=_;rw[q];rfl
theorem ags(X:Gv k L)(h1:1<=k)(Y:k<=490)(V:L.length<=50)(Z:∀h∈L,GF h.1):Yd (λb=>b=true↔Dp L) (ZW L):=by
 unfold ZW;refine Bw L (λ(s:A3 H3) i=>(s,i)) (λA s=>s=A.map λh=>(h.1,(1:Rat))) (λA h C s k1 F G next=>?_) (λs k1 G=>?_) (s0:=[]) rfl A4
 .dsimp;rw[Bt F,BF];have al:=CC F;refine A5 (Bl F) (A5 (LG<| .inl rfl) (A5 (app_1 A4 (by rw[G];simp;omega))<|A5 (Bk F A4)<|next _ ?_));rw[G,I5];rfl
 .dsimp;rw[Bs,Av];have K:∀h∈s,∃g∈L,h=(g.1,(1:Rat)):=λh E=>by rw[G] at E;let⟨g,B,e⟩:=B4.1 E;exact⟨g,B,e.symm⟩
  have hI:∀g∈L,(g.1,(1:Rat))∈s:=λg B=>by rw[G];exact B4.2 ⟨g,B,rfl⟩
  have sl:s.length=L.length:=by rw[G,BL]
  have sp:∀h∈s,GF h.1:=λh E=>by let⟨g,B,e⟩:=K h E;rw[e];exact Z g B
  have I:Gv k s:=λh E=>by let⟨g,B,e⟩:=K h E;rw[e];exact⟨(X g B).1,Ib (d:=1) (.inl rfl) k⟩
  have sb:Dp s↔Dp L:=by
   constructor
   .intro hb d hd;let⟨h,E,k⟩:=hb d hd;let⟨g,B,e⟩:=K h E;rw[e] at k;exact⟨g,B,k⟩
   .intro hb d hd;let⟨g,B,k⟩:=hb d hd;exact⟨_,hI g B,k⟩
  refine Au (yZ I h1 Y A4 sp) λr P=>?_
  let⟨a,m,D,e,Q,W,la,hw,P⟩:=P;have a0:0<a:=by rw[e];have:=Ed (Ed Q Q) W;grind
  have s1:∀h∈s,0<h.2:=λh E=>by let⟨g,B,e⟩:=K h E;rw[e];show(0:Rat)<1;grind
  rcases P with⟨e1,N,n1,n2⟩|⟨e1,n⟩
  .have nf:Gv (3*k+1) N:=λg B=>(n1 g).1 B|>.elim (λh=>⟨Dx (I g h).1 A4,Cz (I g h).2 A4⟩) (yT la g)
   have bf:=aki n2 n1 a0 s1 λhb p mp=>T4.rI sp hb e Q W hw mp
   rw[<-sb,bf]
   generalize r.1=S at*
   have SL:S.length<=100000000:=by
    have:=IT (l:=S.map (·.1)) (T:=s++Cu a) (J7.2<|n2.Ld.imp λh=>h) λx H=>by obtain⟨f,O,rfl⟩:=B4.1 H;exact Bi.2<|(n1 _).1 (n2.Ck f O).1
    simp[Cu] at this;omega
   refine Bw S (λ(_:Unit) i=>i) (λA _=>∀f∈A,f.1∈s) (λA f C u k2 F U next=>?_) (λu k2 U=>?_) (s0:=()) AO A4
   .rw[Bt F,BF];have O:=at_mem F;have ff:=nf f.1 (n2.Ck f O).1;refine A5 (Bl F) (A5 (ajv (p:=λx=>decide<|x=f.1) (λx H=>ahf (l:=f.2) ⟨Dx (I x H).1 (show k<=3*k+1 by omega),Cz (I x H).2 A4⟩ ff A4) A4) ?_);refine Ab (λJ=>AV ?_) λJ=>A5 (Bk F A4)<|next () λg B=>?_
    .constructor
     .intro c;cases c
     .intro c;have:=c f O;rw[F6,Un] at J;exact absurd (B1 rfl)<|J f.1 this
    .rcases Bi.1 B with m|m
     .exact U g m
     .rw[CW.1 m];rw[Uo,Y8] at J;let⟨x,H,e⟩:=J;rw[<-Aq e];exact H
   .rw[Bs,Av];exact AV ⟨λ_=>U,λ_=>rfl⟩
  .refine absurd ⟨o3,λg B=>?_⟩ n;have v:val g o3= -g.2:=by unfold val;rw[Ql];grind
   rw[v];rcases Bi.1 B with B|B
   .have:=s1 g B;grind
   .have ca:∀h∈Cu a,h.2=a:=by rw[Ju];exact⟨rfl,rfl,rfl,rfl,rfl,rfl⟩
    rw[ca g B];grind
def alj(hx:bq x m)(hy:bq y n)(B:y≠0)(E:0<m/\m<=1900000)(hn:0<n/\n<=1900000):Ws (An x) (An y)=some (An<|x/y):=by
 have key:PB (An y)=some (An y⁻¹):=by
  have:Yd (λr=>r=An y⁻¹) (PB<|An y):=by unfold PB;refine Au (Ps hy hn.1 hn.2) ?_;rintro⟨q1,H⟩ ⟨⟨F,b2⟩,b3,b4⟩;dsimp only at*;have D:=aH b2 F (λe=>B<|KV.1 e) A4 A4;rw[ct] at D;exact A5 D<|AV rfl
  obtain⟨r,e,rfl⟩:=this;exact e
 unfold Ws;rw[key];show bd (Gh (An x)<|An y⁻¹) (λG=>some G)=_;rw[zA hx (ap2 hy B) E hn,N6];rfl
abbrev Q12:=Q3×Q3×Q3×Q3
def fc(f:Q12):Prop:=vc f.1 1 14/\vc f.2.1 1 14/\vc f.2.2.1 1 14/\vc f.2.2.2 1 14
def ahG(hx:bq x n)(hy:bq y n)(B:0<n)(hn:n<=1900000)(h:An x=An y):x=y:=by
 let⟨p,D,⟨E,F⟩,_⟩:=Ps hx B hn;let⟨r,G,⟨r1,r2⟩,_⟩:=Ps hy B hn;rw[h,G] at D;have e:=E2 D;subst e;have key:∀{q:Bool×A3 Int} {a b:Int},EL q a->EL q b->a=b:=by rintro q a b ⟨_,H,I⟩ ⟨_,J,k3⟩;rw[H] at J;rw[I] at k3;have:=F5.1 k3;omega
 have d:=key r2 F;exact(Rat.ext (key r1 E) A4).symm
def c4(a b c d e:Int):Int:=bif !decide (a=0) then a else bif !decide (b=0) then b else bif !decide (c=0) then c else bif !decide (d=0) then d else e
def KA(h:lv n x):bq x (n+1):=by have h1:=h.1;rw[Iu] at h1;have e:(10:Nat)^n<10^(n+1):=Nat.pow_lt_pow_right A4 A4;exact⟨A4,by have:=h.2;omega⟩
def Hu(hx:lv m x)(hy:lv n y):lv (m+n) (x*y):=K6 hx hy
def aa0(h:bc x (1+1) n):lv (n+1) x:=Qh h A4 A4
def lva(hx:lv m x)(hy:lv n y):lv (m+n+1) (x+y):=aa0<|QZ hx hy
def lvs(hx:lv m x)(hy:lv n y):lv (m+n+1) (x-y):=aa0<|qW hx hy
def lvi(hx:lv n x)(r:x≠0):lv n x⁻¹ :=qX (e:=0) hx r A4
end
section
variable{m n:Nat}{x y:Rat}(hx:lv m x)(hy:lv n y)(hm:m<=1800000)(hn:n<=1800000)
include hx hy hm hn
theorem Om:Gh (An x) (An y)=some (An<|x*y):=zA (KA hx) (KA hy) ⟨A4,A4⟩ ⟨A4,A4⟩
theorem Sy:KN (An x) (An y)=some (An<|x+y):=zB (KA hx) (KA hy) ⟨A4,A4⟩ ⟨A4,A4⟩
theorem Qk:Jm (An x) (An y)=some (An<|x-y):=alh (KA hx) (KA hy) ⟨A4,A4⟩ ⟨A4,A4⟩
theorem aq5(e:y≠0):Ws (An x) (An y)=some (An<|x/y):=alj (KA hx) (KA hy) e ⟨A4,A4⟩ ⟨A4,A4⟩
end
section
variable{n:Nat}{x:Rat}
def OW(h:lv n x)(hn:n<=1800000):(An x).length<100000000:=by have:=vo (KA h) A4;omega
def OZ(h:lv n x)(hn:n<=1800000):Hv (An x)=some x.num.sign:=by
 rw[xY<|OW h hn]
 congr 1
 by_cases r:x=0
 .subst r;rfl
 .rw[Bb r,Av];have hn:x.num≠0:=λe=>r<|KV.1 e
  by_cases h1:x.num<0
  .rw[B1 h1,BF,eX h1]
  .rw[Bb h1,Av,Ur A4]
def gn{m:Nat}{y:Rat}(hx:lv m x)(hy:lv n y)(hm:m<=1800000)(hn:n<=1800000)(h:An x=An y):x=y:=ahG (KA<|Cz hx hm) (KA<|Cz hy hn) A4 A4 h
end
section
variable{m n:Nat}{v w:Q3}(hv:BS m v)(hw:BS n w)
include hv hw
theorem S6:BS (m+n+1) (Ae v w):=⟨lvs hv.1 hw.1,lvs hv.2.1 hw.2.1,lvs hv.2.2 hw.2.2⟩
theorem M0:BS (m+n+1) (BK v w):=⟨lva hv.1 hw.1,lva hv.2.1 hw.2.1,lva hv.2.2 hw.2.2⟩
theorem Js:BS (2*(m+n)+1) (AZ v w):=by
 have k:∀{a b c d:Rat},lv m a->lv n b->lv m c->lv n d->lv (2*(m+n)+1) (a*b-c*d):=λh1 e r B=>Cz (lvs (Hu h1 e)<|Hu r B) A4
 exact⟨k hv.2.1 hw.2.2 hv.2.2 hw.2.1,k hv.2.2 hw.1 hv.1 hw.2.2,k hv.1 hw.2.1 hv.2.1 hw.1⟩
theorem OX:lv (3*(m+n)+2) (AI v w):=Cz (lva (lva (Hu hv.1 hw.1)<|Hu hv.2.1 hw.2.1)<|Hu hv.2.2 hw.2.2) A4
theorem Sr(h:m+n<=1800000):Mg (As v) (As w)=some (As<|Ae v w):=by unfold Mg As;dsimp only;rw[Qk hv.1 hw.1 A4 A4,Bx,Qk hv.2.1 hw.2.1 A4 A4,Bx,Qk hv.2.2 hw.2.2 A4 A4];rfl
theorem Yg(h:m+n<=1800000):PM (As v) (As w)=some (As<|BK v w):=by unfold PM As;dsimp only;rw[Sy hv.1 hw.1 A4 A4,Bx,Sy hv.2.1 hw.2.1 A4 A4,Bx,Sy hv.2.2 hw.2.2 A4 A4];rfl
theorem Sx(h:2*(m+n)+1<=1800000):Lq (As v) (As w)=some (An<|AI v w):=by unfold Lq As;dsimp only;rw[Om hv.1 hw.1 A4 A4,Bx,Om hv.2.1 hw.2.1 A4 A4,Bx,Sy (Hu hv.1 hw.1) (Hu hv.2.1 hw.2.1) A4 A4,Bx,Om hv.2.2 hw.2.2 A4 A4,Bx,Sy (lva (Hu hv.1 hw.1)<|Hu hv.2.1 hw.2.1) (Hu hv.2.2 hw.2.2) A4 A4];rfl
theorem QR(h:m+n<=1800000):Ji (As v) (As w)=some (As<|AZ v w):=by
 have k:∀{a b c d:Rat},lv m a->lv n b->lv m c->lv n d->∀{ρ:Type} (K:AA->A9 ρ),(bd (Gh (An a)<|An b) λx=>bd (Gh (An c)<|An d) λy=>bd (Jm x y) K)=K (An<|a*b-c*d):=λh1 e r B ρ K=>by rw[Om h1 e A4 A4,Bx,Om r B A4 A4,Bx,Qk (Hu h1 e) (Hu r B) A4 A4,Bx]
 unfold Ji As;dsimp only;rw[k hv.2.1 hw.2.2 hv.2.2 hw.2.1,k hv.2.2 hw.1 hv.1 hw.2.2,k hv.1 hw.2.1 hv.2.1 hw.1];rfl
end
section
variable{m:Nat}{h:BV}{n d:Nat}{v:Q3}{m' d':Nat}
def NO{a:Rat}(hv:BS m v)(ha:lv n a):BS (m+n) (BG v a):=⟨Hu hv.1 ha,Hu hv.2.1 ha,Hu hv.2.2 ha⟩
def Sb{a:Rat}(hv:BS m v)(ha:lv n a)(h:m+n<=1800000):Ln (An a) (As v)=some (As<|BG v a):=by unfold Ln As;dsimp only;rw[Om ha hv.1 A4 A4,Bx,Om ha hv.2.1 A4 A4,Bx,Om ha hv.2.2 A4 A4,Rat.mul_comm a,Rat.mul_comm a,Rat.mul_comm a];rfl
def aod{w:Q3}(hv:BS m v)(hw:BS n w)(hm:m<=1800000)(hn:m+n<=1800000)(h:As v=As w):v=w:=by have a:=congrArg (·.1) h;have b:=congrArg (·.2.1) h;have c:=congrArg (·.2.2) h;exact Hi (gn hv.1 hw.1 A4 A4 a) (gn hv.2.1 hw.2.1 A4 A4 b)<|gn hv.2.2 hw.2.2 A4 A4 c
theorem aju:iN v=true↔v=o3:=by grind [iN,o3]
def qQ(h:BS n v)(hn:n<=1800000):W8 (As v)=some (decide<|v=o3):=by
 have r:=X7 v.1<|OW h.1 hn
 have B:=X7 v.2.1<|OW h.2.1 hn
 have t3:=X7 v.2.2<|OW h.2.2 hn
 have e:decide (v=o3)=iN v:=by rw[SE,aju,G0]
 show some (decide<|As v=(([48]:AA),([48]:AA),([48]:AA)))=_;rw[e];unfold iN;rw[<-r,<-B,<-t3]
 congr 1
 rw[SE];unfold As;simp[OK]
abbrev N3:=Int×Int×Int
def rq(s:AA):Rat:=(Mt s).getD 0
def rn(n:N3):Q3:=((n.1:Rat),(n.2.1:Rat),(n.2.2:Rat))
def rh(h:BV):H3:=(rn h.1,rq h.2)
def GG(n:N3):Nat:=Nat.gcd (Nat.gcd n.1.natAbs n.2.1.natAbs) n.2.2.natAbs
def EK(x:Int):Bool:=decide (999999999<x)||decide (x< -999999999)
structure Bh(h:BV):Prop where
 num:isNum h.2 (rq h.2)
 x:EK h.1.1=false
 y:EK h.1.2.1=false
 z:EK h.1.2.2=false
 g:GG h.1=1
theorem Sa{x:Int}(h:EK x=false): -999999999<=x/\x<=999999999:=by grind [EK]
def Bh.VZ(o:Bh h):GF (rh h).1:=⟨_,_,_,rfl,o.g⟩
def qM{x:Int}(h:EK x=false)(hn:9<=n):lv n (x:Rat):=by
 have:=Sa h;have e:(10:Nat)^9<=10^n:=J9 A4 hn;refine⟨?_,?_⟩
 .rw[SF];omega
 .rw[Ue];omega
def Bh.lvn(o:Bh h)(hn:9<=n):BS n (rh h).1:=⟨qM o.x hn,qM o.y hn,qM o.z hn⟩
def Bh.HU(o:Bh h):lv 14 (rh h).2:=aqB o.num.2.1
def Bh.F1{L:A3 BV}(o:∀h∈L,Bh h):Gv 14 (L.map rh):=λg r=>by obtain⟨h,e,rfl⟩:=B4.1 r;exact⟨(o h e).lvn A4,(o h e).HU⟩
def Bh.LP{L:A3 BV}(o:∀h∈L,Bh h):∀g∈L.map rh,GF g.1:=λg e=>by obtain⟨h,r,rfl⟩:=B4.1 e;exact(o h r).VZ
def Bh.txt(o:Bh h):h.2=An (rh h).2:=o.num.1
def OT{k:BV}(a:Bh h)(b:Bh k)(e:rh h=rh k):h=k:=by have r:=congrArg (·.1.1) e;have B:=congrArg (·.1.2.1) e;have D:=congrArg (·.1.2.2) e;have E:=congrArg (·.2) e;exact Prod.ext (Prod.ext (dc.1 r)<|Prod.ext (dc.1 B)<|dc.1 D) (by rw[a.txt,b.txt,e])
def Yp(n:N3)(c:Int):Int:=bif decide (GG n=0) then 6 else bif EK n.1||(EK n.2.1||EK n.2.2) then 3 else bif !decide (GG n=1) then 1 else c
def oI(b:Bool)(n:Int):Wd b n=some (bif b then n else 0):=by cases b<;>rfl
theorem aoR(a b c d:Int):Zr [a,b,c,d]=some (bif !decide (a=0) then a else bif !decide (b=0) then b else bif !decide (c=0) then c else d):=by
 obtain⟨F,hF⟩:∃F,18446744073709551616=F+5:=⟨18446744073709551611,rfl⟩;unfold Zr;rw[hF];show cond (!decide (a=0)) (some a) (cond (!decide (b=0)) (some b)<|cond (!decide (c=0)) (some c)<|cond (!decide (d=0)) (some d)<|some 0)=_;cases ha:decide (a=0)
 .rfl
 .grind
def yt{z:Int}(h:z.natAbs<=9223372036854775808):Cc z=true:=Lx (n:=20) A4 A4
def in3(n:N3):Prop:=Cd n.1/\Cd n.2.1/\Cd n.2.2
theorem ad0(hi:in3 h.1){c:Int}(H:Mi h.2=some c):Kr h=some (Yp h.1 c):=by
 refine F8 ?_;unfold Kr;refine A5 (x:=0) rfl ?_;refine Bw [h.1.1,h.1.2.1,h.1.2.2] (λ(s:Int×Bool) i=>(s.1,s.2,i)) (λA s=>s.1=((A.foldl (λg x=>Nat.gcd g x.natAbs) 0:Nat):Int)/\s.2=A.any EK) (λA x C s k r B next=>?_) (λs k B=>?_) (s0:=(0,false)) ⟨rfl,rfl⟩ AO
 .dsimp;have I:=CC r;rw[show [h.1.1,h.1.2.1,h.1.2.2].length=3 from rfl] at I;rw[B1 (show(A.length:Int)<3 by omega),BF];have F:Cd x:=by have:=at_mem r;simp at this;rcases this with rfl|rfl|rfl;exact hi.1;exact hi.2.1;exact hi.2.2
  have gl:(A.foldl (λg x=>Nat.gcd g x.natAbs) 0)<=9223372036854775808:=by
   have D:∀y∈A,y.natAbs<=9223372036854775808:=λy J=>by
    have:y∈[h.1.1,h.1.2.1,h.1.2.2]:=by rw[r];simp[J]
    have K:=hi.1;have b2:=hi.2.1;have b3:=hi.2.2;unfold Cd at K b2 b3;simp at this;omega
   have:∀(l:A3 Int) (g:Nat),g<=9223372036854775808->(∀y∈l,y.natAbs<=9223372036854775808)->l.foldl (λg x=>Nat.gcd g x.natAbs) g<=9223372036854775808:=by
    intro l
    induction l with
    |nil=>intro g E _;exact E
    |cons y l ih=>
     intro g E G;refine ih _ ?_ λz N=>G z<|Bg _ N
     have:=G y Ca;rcases Jb g with e|e
     .grind
     .exact CA (Nat.gcd_le_left _ e) E
   exact this A 0 A4 D
  unfold Cd at F;refine A5 (Bl r)<|A5 (Dj F)<|A5 (x:=(x.natAbs:Int)) rfl<|A5 (x:=((Nat.gcd (A.foldl (λg x=>Nat.gcd g x.natAbs) 0) x.natAbs:Nat):Int)) ?_<|A5 (Bk r AO)<|next (_,_) ⟨?_,?_⟩
  .unfold Nf;rw[B.1,yt (by rw[EH];exact gl),yt (by rw[EH];omega)];rfl
  .grind
  .rw[Ud,B.2];show((A.any EK||_)||_)=(_||(EK x||false));rw[Y2,Bool.or_assoc];rfl
 .dsimp only;rw[show decide ((([h.1.1,h.1.2.1,h.1.2.2].length:Nat):Int)<3)=false from rfl,Av];have O:s.1=((GG h.1:Nat):Int):=by rw[B.1];show((Nat.gcd (Nat.gcd (Nat.gcd 0 _) _) _:Nat):Int)=_;rw[Nat.gcd_zero_left];rfl
  have P:s.2=(EK h.1.1||(EK h.1.2.1||EK h.1.2.2)):=AK;rw[O,P];have sm:Ob ((GG h.1:Nat):Int)=some (bif Gb ((GG h.1:Nat):Int) then(((GG h.1:Nat):Int),true) else(((GG h.1:Nat):Int).sign,false)):=by unfold Ob;rw[Bb A4];rfl
  refine A5 sm<|A5 (x:=((GG h.1:Nat):Int).sign) rfl<|A5 (oI _ _)<|A5 (oI _ _)<|A5 (oI _ _)<|A5 H<|A5 (aoR _ _ _ _)<|AV ?_
  unfold Yp
  generalize (EK h.1.1||(EK h.1.2.1||EK h.1.2.2))=f at*
  have Q:decide (((GG h.1:Nat):Int).sign=0)=decide (GG h.1=0):=F5.2 (by rw[Int.sign_eq_zero_iff_zero];omega);rw[Q];cases T:decide (GG h.1=0)
  .cases f
   .by_cases hb:Gb ((GG h.1:Nat):Int)=true
    .grind
    .rw[Bool.not_eq_true] at hb;have h1:decide (GG h.1=1)=false:=by
      refine Bb λe=>?_
      rw[e] at hb;cases hb
     rw[hb,h1];rfl
   .rfl
  .rfl
def vC{a b:Int}(ha: -999999999<=a/\a<=999999999)(hb: -999999999<=b/\b<=999999999):WK a b=some ((Nat.gcd a.natAbs b.natAbs:Nat):Int):=by
 refine F8 ?_;unfold WK;refine Dl (λs:Int×Int=>Nat.gcd s.1.natAbs s.2.natAbs=Nat.gcd a.natAbs b.natAbs/\(-999999999<=s.1/\s.1<=999999999)/\(-999999999<=s.2/\s.2<=999999999)) (λs=>s.2.natAbs) (λnext s r hn=>?_) _ _ ⟨rfl,ha,hb⟩ (by show b.natAbs<_;omega);let⟨h1,D,B⟩:=r;refine Ab (λe=>?_) λe=>?_
 .have h0:s.2≠0:=by simpa using e
  have t:=Int.natAbs_tmod s.1 s.2;have lt:=M1 s.1.natAbs (show 0<s.2.natAbs by omega);refine A5 (x:=s.1.tmod s.2) (by unfold Ex;rw[Bb h0];rfl) (hn (_,_) ⟨?_,B,by dsimp;omega⟩ (by dsimp;omega));rw[t,QD,<-Nat.gcd_rec,QD,h1]
 .have h0:s.2=0:=by simpa using e
  refine A5 (x:=0-s.1) BE<|AV ?_
  rw[qE,<-h1,h0];simp
theorem aeC{c:Int}(K:Kw h.2=some c):Lj h=some (Yp h.1 c):=by
 refine F8 ?_;unfold Lj Yp;have z:decide (h.1=((0:Int),(0:Int),(0:Int)))=decide (GG h.1=0):=F5.2 (by unfold GG;rw[Nat.gcd_eq_zero_iff,Nat.gcd_eq_zero_iff,OK,OK];simp[Int.natAbs_eq_zero,and_assoc])
 rw[z];refine Ab (λE=>by rw[E];exact AV rfl) λE=>?_
 rw[E,Av];refine Bw [h.1.1,h.1.2.1,h.1.2.2] (λ(_:Unit) i=>i) (λA _=>A.any EK=false) (λA x C s k D F next=>?_) (λs k F=>?_) (s0:=()) rfl AO
 .have al:=CC D;rw[show [h.1.1,h.1.2.1,h.1.2.2].length=3 from rfl] at al;rw[B1 (show(A.length:Int)<3 by omega),BF];refine A5 (Bl D) ?_;have B:∀y,y=x\/decide (x< -999999999)=true->Yd (λr=>r=(bif EK h.1.1||(EK h.1.2.1||EK h.1.2.2) then 3 else bif !decide (GG h.1=1) then 1 else c)) (cond (decide (x< -999999999)||decide (999999999<y)) (some 3)<|bd (AG<|(A.length:Int)+1) k):=by
   intro y hy;have e:(decide (x< -999999999)||decide (999999999<y))=EK x:=by
    unfold EK;rcases hy with rfl|hy
    .rw[Bool.or_comm]
    .rw[hy];simp
   rw[e];refine Ab (λG=>AV ?_) λG=>A5 (Bk D AO)<|next () ?_
   .have:(EK h.1.1||(EK h.1.2.1||EK h.1.2.2))=true:=by have:=at_mem D;simp at this;rcases this with rfl|rfl|rfl<;>rw[G]<;>simp
    rw[this];rfl
   .grind
  cases hx:decide (x< -999999999)
  .rw[hx] at B;exact A5 (Bl D)<|B x<| .inl rfl
  .rw[hx] at B;exact B 0<| .inr rfl
 .rw[show decide ((([h.1.1,h.1.2.1,h.1.2.2].length:Nat):Int)<3)=false from rfl,Av];simp[List.any_cons,List.any_nil,Y2,Ie] at F;let⟨H,I,J⟩:=F;have N:=Sa H;have b2:=Sa I;have b3:=Sa J;have O:GG h.1≠0:=BX E;have gl:Nat.gcd h.1.1.natAbs h.1.2.1.natAbs<=999999999:=by
   rcases Jb h.1.1.natAbs with e|e
   .grind
   .exact CA (Nat.gcd_le_left _ e) A4
  refine A5 (vC N b2)<|A5 (vC (b:=h.1.2.2) ⟨A4,A4⟩ b3) ?_
  rw[EH,H,I,J];have e:decide ((((Nat.gcd (Nat.gcd h.1.1.natAbs h.1.2.1.natAbs) h.1.2.2.natAbs:Nat)):Int)=1)=decide (GG h.1=1):=F5.2 (by unfold GG;omega);rw[e];refine Ab (λh1=>by rw[h1];exact AV rfl) λh1=>by rw[h1];exact A5 K<|AV rfl
def jw(hi:in3 h.1)(E:h.2.length<=14):∃c,Kr h=some c/\Lj h=some c/\(c=0->Bh h):=by
 let⟨c,F,G,H⟩:=X6 E;refine⟨_,ad0 hi F,aeC G,λe=>?_⟩;unfold Yp at e;cases B:decide (GG h.1=0) with
 |true=>rw[B] at e;cases e
 |false=>
  rw[B,Av] at e;cases r:EK h.1.1||(EK h.1.2.1||EK h.1.2.2) with
  |true=>rw[r] at e;cases e
  |false=>
   rw[r,Av] at e;cases h1:decide (GG h.1=1) with
   |false=>rw[h1] at e;cases e
   |true=>rw[h1] at e;let⟨q,D⟩:=H e;rw[Ie,Ie] at r;refine⟨?_,r.1,r.2.1,r.2.2,Aq h1⟩;unfold rq;rw[D.2.2];exact D
theorem ach{l:A3 BV}(I:∀h∈l,in3 h.1/\h.2.length<=14)(hn:l.length<=100000000):∃c,Vq l=some c/\ZD l=some c/\(c=0->∀h∈l,Bh h):=by
 let f:BV->Int:=λh=>(Kr h).getD 0
 have F:∀h∈l,Kr h=some (f h)/\Lj h=some (f h)/\(f h=0->Bh h):=λh B=>by let⟨c,N,O,P⟩:=jw (I h B).1 (I h B).2;have:f h=c:=AK;rw[this];exact⟨N,O,P⟩
 let g:A3 BV->Int:=λl=>((l.map f).find? λc=> !decide (c=0)).getD 0
 have one:∀(D:BV->A9 Int),(∀h∈l,D h=some (f h))->Yd (λr=>r=g l) (BA (λk2 (s1:Int)=>cond (decide<|s1<(l.length:Int)) (bd (AB l s1) λQ=>bd (D Q) λJ=>cond (!decide (J=0)) (some J)<|bd (AG<|s1+1) λT=>k2 T)<|some 0) 0):=by
  intro D G;refine Bw l (λ(_:Unit) i=>i) (λA _=>∀h∈A,f h=0) (λA x C s k E K next=>?_) (λs k K=>?_) (s0:=()) AO A4
  .rw[Bt E,BF];refine A5 (Bl E)<|A5 (G x<|at_mem E)<|Ab (λU=>AV ?_) λU=>A5 (Bk E A4)<|next () λh B=>?_
   .grind
   .grind
  .rw[Bs,Av];refine AV ?_;show _=((l.map f).find? _).getD 0;rw[List.find?_eq_none.2 (λc V=>by obtain⟨h,B,rfl⟩:=B4.1 V;rw[K h B];simp)];rfl
 obtain⟨r,r1,rfl⟩:=one Kr λh B=>(F h B).1
 obtain⟨r,r2,rfl⟩:=one Lj λh B=>(F h B).2.1
 refine⟨g l,r1,r2,λe h B=>(F h B).2.2 ?_⟩;refine CB λH=>?_
 have:((l.map f).find? λc=> !decide (c=0)).getD 0=0:=e;cases hF:(l.map f).find? λc=> !decide (c=0) with
 |none=>exact List.find?_eq_none.1 hF (f h) (B4.2 ⟨h,B,rfl⟩) (by simpa using H)
 |some c=>rw[hF] at this;have W:c=0:=this;have:=List.find?_some hF;rw[W] at this;cases this
def q9{x:Int}(h:EK x=false):qF x=some (x:Rat):=by have:=Sa h;unfold qF;rw[Dj ⟨A4,A4⟩];rfl
def Bh.from(o:Bh h):Ta h=some (rh h):=by unfold Ta L4;rw[q9 o.x,q9 o.y,q9 o.z,o.num.2.2];rfl
def alk{l:A3 BV}(o:∀h∈l,Bh h)(B:l.length<=100000000):Wf l=some (l.map rh):=by
 refine F8 ?_;unfold Wf;refine Bw l (λ(s:A3 H3) i=>(s,i)) (λA s=>s=A.map rh) (λA x C s k e r next=>?_) (λs k r=>?_) (s0:=[]) rfl A4
 .dsimp;rw[Bt e,BF];have D:=CC e;exact A5 (Bl e) (A5 (o x<|at_mem e).from (A5 (app_1 A4 (by rw[r,BL];omega)) (A5 (Bk e A4) (next _ (by rw[r,I5];rfl)))))
 .dsimp;rw[Bs,Av];exact AV r
def HY(a b:N3):Prop:=a.1<b.1\/a.1=b.1/\(a.2.1<b.2.1\/a.2.1=b.2.1/\a.2.2<b.2.2)
instance(a b:N3):Decidable (HY a b):=by unfold HY;exact inferInstance
theorem lG(a b:Int):TP a b=some (bif decide (a<b) then -1 else bif decide (b<a) then 1 else 0):=by
 unfold TP WD;rw[B1 rfl,B1 rfl];simp[bd,dW,Av];cases decide (a<b)
 .grind
 .rfl
def aiq(a b:N3):∃v,Tb a b=some v/\(v<0↔HY a b):=by
 unfold Tb;rw[lG,lG,lG];simp[bd];rw[or3];refine⟨_,rfl,?_⟩;let⟨r,B,a3⟩:=a;let⟨D,b2,b3⟩:=b;unfold HY;simp only;have e:∀x y:Int,(x<y/\ ¬y<x/\x≠y)\/(¬x<y/\ ¬y<x/\x=y)\/(¬x<y/\y<x/\x≠y):=λx y=>by omega
 rcases e r D with⟨h1,h2,h3⟩|⟨h1,h2,h3⟩|⟨h1,h2,h3⟩<;>rcases e B b2 with⟨g1,g2,g3⟩|⟨g1,g2,g3⟩|⟨g1,g2,g3⟩<;>rcases e a3 b3 with⟨k1,k2,k3⟩|⟨k1,k2,k3⟩|⟨k1,k2,k3⟩<;>simp[h1,h2,h3,g1,g2,g3,k1,k2,k3]
theorem lR(a b:N3):Td a b=some (decide<|HY a b):=by
 refine F8 ?_;unfold Td;refine Bw [(a.1,b.1),(a.2.1,b.2.1),(a.2.2,b.2.2)] (λ(_:Unit) i=>i) (λA _=>∀p∈A,p.1=p.2) (λA x C s k B e next=>?_) (λs k e=>?_) (s0:=()) AO AO
 .have al:=CC B;rw[show [(a.1,b.1),(a.2.1,b.2.1),(a.2.2,b.2.2)].length=3 from rfl] at al;rw[B1 (show(A.length:Int)<3 by omega),BF];have r:=Bl B;have D:AB [a.1,a.2.1,a.2.2] (A.length:Int)=some x.1:=by rw[Hq] at r⊢;have:=congrArg (Option.map (·.1)) r;rwa [<-Fp] at this
  have E:AB [b.1,b.2.1,b.2.2] (A.length:Int)=some x.2:=by rw[Hq] at r⊢;have:=congrArg (Option.map (·.2)) r;rwa [<-Fp] at this
  refine A5 D<|A5 E<|Ab (λF=>A5 D<|A5 E<|AV<|F5.2 ?_) λF=>A5 (Bk B AO)<|next () λp I=>?_
  .have hne:x.1≠x.2:=by simpa using F
   unfold HY;rcases A with _|⟨a0,_|⟨J,_|⟨K,A⟩⟩⟩
   .grind
   .grind
   .grind
   .simp at al
  .grind
 .rw[show decide ((([(a.1,b.1),(a.2.1,b.2.1),(a.2.2,b.2.2)].length:Nat):Int)<3)=false from rfl,Av];refine AV (Bb ?_).symm;have G:=e _ (by simp:(a.1,b.1)∈_);have h1:=e _ (by simp:(a.2.1,b.2.1)∈_);have H:=e _ (by simp:(a.2.2,b.2.2)∈_);dsimp only at G h1 H;unfold HY;omega
def rE(k b:Nat):Nat:=k/Nat.gcd k b*b
def nk(n:Q3):Nat:=rE (rE (rE 1 n.1.den) n.2.1.den) n.2.2.den
def zk(x:Rat)(k:Nat):Int:=(x*(k:Rat)).num
def ng(n:Q3):Nat:=Nat.gcd (Nat.gcd (Nat.gcd 0 (zk n.1<|nk n).natAbs) (zk n.2.1<|nk n).natAbs) (zk n.2.2<|nk n).natAbs
def ns(n:Q3):Rat:=(nk n:Rat)/(ng n:Rat)
def nd(q:Rat)(m d:Nat):Prop:=q.num.natAbs<=m/\q.den<=d
def LJ{x y:Rat}(hx:nd x m d)(hy:nd y m' d'):nd (x*y) (m*m') (d*d'):=by
 have h:=Sl (x:=x.num*y.num) (y:=(x.den:Int)*(y.den:Int))<|QG (JC x)<|JC y
 rw[Xl,I4,I4,EH,EH] at h;exact⟨CA h.1<|Em hx.1 hy.1,CA h.2<|Em hx.2 hy.2⟩
def V8{x y:Rat}(hx:nd x m d)(hy:nd y m' d'):nd (x+y) (m*d'+m'*d) (d*d'):=by
 have h:=Sl (x:=x.num*y.den+y.num*x.den) (y:=(x.den:Int)*(y.den:Int))<|QG (JC x)<|JC y
 rw[Xm,I4,EH,EH] at h;have t:=pL (x.num*y.den)<|y.num*x.den
 rw[I4,I4,EH,EH] at t;exact⟨CA h.1<|CA t<|Nat.add_le_add (Em hx.1 hy.2)<|Em hy.1 hx.2,CA h.2<|Em hx.2 hy.2⟩
def qD{x y:Rat}(hx:nd x m d)(hy:nd y m' d'):nd (x-y) (m*d'+m'*d) (d*d'):=by rw[dx];exact V8 hx ⟨by rw[Rat.neg_num,dY];exact hy.1,by rw[Rat.neg_den];exact hy.2⟩
def ao4{x:Rat}(hx:nd x m d)(r:x≠0):nd x⁻¹ d m:=by
 have hn:x.num≠0:=λe=>r<|KV.1 e
 have h:=Sl (x:=(x.den:Int)) (y:=x.num) hn;rw[ct,EH] at h;exact⟨CA h.1 hx.2,CA h.2 hx.1⟩
def nd3(p:Q3)(m d:Nat):Prop:=nd p.1 m d/\nd p.2.1 m d/\nd p.2.2 m d
def nA{a b:Q3}(ha:nd3 a m d)(hb:nd3 b m' d'):nd3 (AZ a b) (m*m'*(d*d')+m*m'*(d*d')) (d*d'*(d*d')):=⟨qD (LJ ha.2.1 hb.2.2)<|LJ ha.2.2 hb.2.1,qD (LJ ha.2.2 hb.1)<|LJ ha.1 hb.2.2,qD (LJ ha.1 hb.2.1)<|LJ ha.2.1 hb.1⟩
def fh{a:Q3}{t:Rat}(ha:nd3 a m d)(e:nd t m' d'):nd3 (BG a t) (m*m') (d*d'):=⟨LJ ha.1 e,LJ ha.2.1 e,LJ ha.2.2 e⟩
end
end Trn
