/- Part of SolidPlaces. -/
import Derived.Test.YtmjkpiakobnkgaaGreatDoorEa
set_option maxRecDepth 100000
set_option maxHeartbeats 20000000
set_option linter.all false
open Go Go.RowKit Go.Proofs
namespace Trn
section
variable[D:DR]
variable{P:Program}{w0:Ah P}{H0:HV}{N:Nat}{ops:Array Oper}{Q:Exit->Act->World->Prop}{Γ Ar:Ctx}{d:Option Tmp}{ty:TypeId}{pos:String}{af:Array Edge}{g:Option (Nat×Bool)}
variable{t:Nat}{ps:A3 Bm}{T:Ap}{w:AS}{H:HV}{p i:Nat}{gg:Bool}{l:A3 Ty}{T':Ap}{a:Act}{sz off:Nat}{pp:Bm}{B:Ah P}{x:C9}{u:Nat}{E:Ap}{Al:Ctx}{Eb:Ap}
theorem zZ(R:∀q∈Al,q∈Γ){f:Nat}(sm:Bool)(Y:EY Al p t off)(S:look Al t=some (.Cg T' gg ps))(hi:ps[i]? =some pp)(Z:Bf ps i=off)(o:pp.n=1)(z:pp.agg=false)(hT:Bj P T 1 false=true)
 (U:f<N)(A:f≠t)(hd:f∉Oh ps):Step P N ops ⟨some f,.load T<| .tmp p,ty,pos,af,none⟩ Γ ((f,pp.sty)::(t,.Cg T' gg<|ps.set i<|Qi f sm)::del f (BH t Γ)):=by
 intro w0 H0 a w H C K Q k;simp[Region.wanted,if_true];let⟨b,cs,e,ep,F,hn,hm,r,Ov,V⟩:=Y.ok S<|C.weaken R
 subst Z;let⟨h2,s,h4,h5⟩:=OV r hi;have G9:=wC (p:=pp) (by rw[o,z];exact hT) F r hi
 generalize G:pv pp (Bf ps i) cs.toList=v at*
 unfold Oper.wp;have er:(execOp a.eval ⟨some f,.load T<| .tmp p,ty,pos,af,none⟩).run P w= .ok (.value v) w:=by simp[execOp,ep,Instr.loadAt,Instr.sureAddr,G9]
 rw[er,M6];have m:v.oneCell'=true:=by rw[o,z] at s;exact(kj s).1
 have Ge:(Qi f sm).n=pp.n:=by rw[o];cases sm<;>rfl
 have E5:Shape (Qi f sm).n (Qi f sm).agg v:=by rw[o,z] at s;cases sm<;>exact s
 have I:Gz w0 (a.put (some f) v) w H ps cs.toList:=S4 (λu hu=>Mr<|λe=>hd<|e▸hu) r;have hq:(Qi f sm).holds w0 (a.put (some f) v) w H v:=by
  cases sm
  .exact Shape.one m
  .exact⟨(Tx (by rw[C.sz];exact U)).symm,m⟩
 have W:∀c,¬(Qi f sm).owns w v c:=λc h=>by cases sm<;>exact h
 let⟨I7,J,k1,X,k3⟩:=UM I Ov hi E5 Ge hq<|λc j=>absurd j<|W c
 have L:I7=cs.toList:=by rw[J,<-G];exact dC r hi
 rw[L] at k1 X k3;refine k _ _ H (ahe C (R _<|B8 S) U A (by rw[Bm.ahK];simp) ?_ (Bm.ahL h4) ?_ ?_ ?_)
 .refine⟨b,cs,e,F,hn,hm,k1,X,λj=>?_⟩;rcases k3 b j with h|h
  .exact W b h
  .exact V h.1
 .rintro c ⟨c',e',j⟩;simp[e] at e';cases e';refine⟨b,e,?_⟩;rcases j with j|⟨M,O,j⟩
  .exact .inl j
  .grind
 .intro c j;exact⟨b,e,.inr ⟨cs,F,Mv.2 ⟨i,pp,hi,by rw[G];exact Bm.XL.1 j⟩⟩⟩
 .rintro c j ⟨c',e',y⟩;simp[e] at e';cases e';have j:=Bm.XL.1 j;rcases y with y|⟨M,O,y⟩
  .subst y;exact V (Mv.2 ⟨i,pp,hi,by rw[G];exact j⟩)
  .grind
theorem oV(r:∀q∈Al,q∈Γ){q:Bm}(S:EY Al p t off)(G:look Al t=some (.Cg T' gg ps))(hi:ps[i]? =some pp)(U:Bf ps i=off)(s:q.n=pp.n)
 (V:Bj P T q.n q.agg=true)(W:∀(a:Act) (w:AS) (H:HV),Sat w0 H0 N Al a w H->Shape q.n q.agg (a.eval x)/\q.holds w0 a w H (a.eval x))(X:∀w v b,¬q.owns w v b)
 (y:Sat w0 H0 N Γ a w H){K:Act->AS->Prop}(k:∀w',Sat w0 H0 N ((t,.Cg T' gg<|ps.set i q)::BH t Γ) a w' H->K a w'):(⟨none,.store T (.tmp p) x,ty,pos,af,none⟩:Oper).wp P a w K Q:=by
 let⟨b,cs,e,Y,z,Z,I,J,Ov,hx⟩:=S.ok G<|y.weaken r
 subst U;let⟨A,C⟩:=W a w H<|y.weaken r
 let⟨h2,_,_,_⟩:=OV J hi;let⟨j,F,k1,k2,k3⟩:=UM J Ov hi A s C<|λc f=>absurd f<|X _ _ c
 have L:=RB (P:=P) (x:=a.eval x) (off:=Bf ps i) (Ry V) A.size z (by rw[s];simpa using h2) A.cell;rw[s,<-F] at L;unfold Oper.wp;have er:(execOp a.eval ⟨none,.store T (.tmp p) x,ty,pos,af,none⟩).run P w= .ok .skip (w.setRow b j.toArray):=by simp[execOp,Y,Instr.storeAt,Instr.sureAddr,L]
 rw[er,OF];have M:Dw w (w.setRow b j.toArray) (some b):=Dw.setRow w b _;have O:(w.setRow b j.toArray).heap[b]? =some (.cells j.toArray T' (0,0)):=S9 w b _ _ _ _ z;have m: ¬F7 w b (ps.set i q) j:=λf=>by
  rcases k3 b f with h|h
  .grind
  .exact hx h.1
 have far:=dK (w':=w.setRow b j.toArray) (H':=H) (HV.le.refl H) k1 (λc f=>⟨M.block c (Nz k1 f).1 (λe=>by cases e;exact m f),rfl⟩);refine k _ (Mk y (r _<|B8 G) M I ⟨b,e,.inl rfl⟩ ⟨b,j.toArray,e,O,Z,I,by simpa using far.1,by simpa using far.2.2 k2,by simpa using λh=>m<|(far.2.1 b).1 h⟩ ?_);rintro c ⟨c',R,f⟩;simp[e] at R;cases R;rcases f with f|⟨cs2,o,f⟩
 .subst f;exact .inl ⟨c,e,.inl rfl⟩
 .rw[O] at o;cases o;have f:=(far.2.1 c).1 (by simpa using f);rcases k3 c f with h|h
  .grind
  .exact .inl ⟨b,e,.inr ⟨cs,z,h.1⟩⟩
def anU{σ:Ty}(e:EY Γ p t off)(f:look Γ t=some (.Cg T' gg ps))(hi:ps[i]? =some pp)(j:Bf ps i=off)(c:Arg Γ x σ)(m:σ.n=pp.n)(o:Bj P T σ.n σ.agg=true):Step P N ops ⟨none,.store T (.tmp p) x,ty,pos,af,none⟩ Γ ((t,.Cg T' gg<|ps.set i<| .val σ)::BH t Γ):=by intro w0 H0 a w H b K Q k;simp[Region.wanted,if_true];exact oV (λ_ h=>h) (q:= .val σ) e f hi j m o (λa w H b=>⟨σ.shape<|c.ok b,c.ok b⟩) (λ_ _ _ h=>h) b λw' r=>k a w' H r
inductive Ng(Γ:Ctx)(u:Nat):Prop where
 |buf {E:Ap} {sz:Nat} {l:A3 Ty} (h:look Γ u=some (.buf E sz l))|Fa {K E Eb:Ap} {sz:Nat} {l:A3 (Ty×Cm)} (h:look Γ u=some (.Fa K E Eb sz l))|Cg {T:Ap} {g:Bool} {l:A3 Bm} (h:look Γ u=some (.Cg T g l))
def Ng.ok(h:Ng Γ u)(c:Sat w0 H0 N Γ a w H):(Ad a u).oneCell'=true:=by
 cases h with
 |buf h=>
  let⟨xs,⟨_,f⟩,_,_⟩:=c.holds _<|B8 h
  rcases f with⟨e,_⟩|⟨g,cap,cur,e,_⟩
  .simp only at e;rw[e];rfl
  .simp only at e;rw[e];rfl
 |Fa h=>
  let⟨r,es,e,_⟩:=c.holds _<|B8 h
  simp only at e;rw[e];rfl
 |Cg h=>
  let⟨b,cs,e,_⟩:=c.holds _<|B8 h
  simp only at e;rw[e];rfl
def pt(e:EY Γ p t off)(f:look Γ t=some (.Cg T' gg ps))(hi:ps[i]? =some pp)(j:Bf ps i=off)(c:Ng Γ u)(m:pp.n=1)(o:Bj P T 1 false=true):Step P N ops ⟨none,.store T (.tmp p)<| .tmp u,ty,pos,af,none⟩ Γ ((t,.Cg T' gg<|ps.set i<| .sm u)::BH t Γ):=by intro w0 H0 a w H b K Q k;simp[Region.wanted,if_true];exact oV (λ_ h=>h) (x:= .tmp u) (q:= .sm u) e f hi j m.symm o (λa w H b=>⟨Shape.one<|c.ok b,rfl,c.ok b⟩) (λ_ _ _ h=>h) b λw' r=>k a w' H r
def oS(e:EY Γ p t off)(f:look Γ t=some (.Cg T' gg ps))(hi:ps[i]? =some pp)(j:Bf ps i=off)(c:Ng Γ u)(m:pp.n=1)(o:Bj P T 1 false=true):Ma P N ops Γ ⟨none,.store T (.tmp p)<| .tmp u,ty,pos,af,none⟩ t (.Cg T' gg<|ps.set i<| .sm u):=λv r=>by intro w0 H0 a w H b K Q k;simp[Region.wanted,if_true];exact oV r (x:= .tmp u) (q:= .sm u) e f hi j m.symm o (λa w H b=>⟨Shape.one<|c.ok b,rfl,c.ok b⟩) (λ_ _ _ h=>h) b λw' s=>k a w' H s
theorem lP{s':AT}{us:A3 Nat}{G:Ctx}(c:Sat w0 H0 N Γ a w H)(h:∀q∈G,q∈Γ/\q.1≠t)(o:s'.holds w0 a w H (Ad a t))
 (s:∀b,s'.owns w (Ad a t) b->∃p∈Γ,(p.1=t\/p.1∈us)/\p.2.owns w (Ad a p.1) b)(z:∀q∈G,q.1∉us):Sat w0 H0 N ((t,s')::G) a w H:=by
 have key:∀q∈G,∀b,s'.owns w (Ad a t) b-> ¬q.2.owns w (Ad a q.1) b:=λq f b j k=>by
  let⟨p,v,m,y⟩:=s b j;refine c.sep p v q (h q f).1 (λe=>?_) b y k;rcases m with m|m
  .grind
  .grind
 refine⟨c.nd,c.sz,c.below,c.FY,c.sub,?_,?_,c.gl⟩
 .intro q f;rcases Ak.1 f with e|f
  .subst e;exact o
  .exact c.holds q (h q f).1
 .intro q f r n hn b j DI;rcases Ak.1 f with e|f<;>rcases Ak.1 n with A|n
  .grind
  .grind
  .grind
  .exact c.sep q (h q f).1 r (h r n).1 hn b j DI
theorem amr{w0:Ah P}(pp:Bm)(m:look Γ t=some (.Cg T' gg ps))(hi:ps[i]? =some (.sm u))(z:look Γ u=some pp.sty)(C:(u !=t)=true)(o:(pp.n,pp.agg)=(1,false))(F: ¬pp.sty= .gone):GX w0 N Γ ((t,.Cg T' gg<|ps.set i pp)::BH t (BH u Γ)):=λH0 a w H r=>by
 let⟨b,cs,e,A,S,U,G,V,hx⟩:=r.holds _<|B8 m
 have j:=r.holds _<|B8 z
 simp only at e j;have s:u≠t:=by simpa using C
 let⟨_,W,X,_⟩:=OV G hi;have M:pv (.sm u) (Bf ps i) cs.toList=Ad a u:=X.1;have O:pp.n=1:=congrArg Prod.fst o;have Y:pp.agg=false:=congrArg Prod.snd o;have Z:Shape pp.n pp.agg (Ad a u):=by rw[O,Y,<-M];exact W
 have k:pp.holds w0 a w H (Ad a u):=by cases pp with|buf E sz l=>exact j|map K E Eb sz L0=>exact j|val τ=>exact absurd rfl F|any n g=>exact absurd rfl F|sm v=>exact absurd rfl F
 have I:∀c,pp.owns w (Ad a u) c-> ¬F7 w c ps cs.toList:=λc f ho=>by refine r.sep _ (B8 z) _ (B8 m) s c (Bm.XL.2 f) ⟨b,e,.inr ⟨cs,A,ho⟩⟩
 have atB: ¬pp.owns w (Ad a u) b:=λf=>r.sep _ (B8 z) _ (B8 m) s b (Bm.XL.2 f) ⟨b,e,.inl rfl⟩
 let⟨I7,J,k1,R,k3⟩:=UM G V hi Z (by rw[O];rfl) k<|λc f=> .inr<|I c f
 have L:I7=cs.toList:=by rw[J,<-M];exact dC G hi
 rw[L] at k1 R k3;refine⟨H,lP (us:=[u]) r (λq k=>⟨(Cp q (Cp q k).1).1,(Cp q k).2⟩) ⟨b,cs,e,A,S,U,k1,R,λf=>?_⟩ ?_ (λq k=>by simpa using(Cp q (Cp q k).1).2)⟩
 .grind
 .rintro c ⟨c',e',f⟩;simp[e] at e';cases e';rcases f with f|⟨cs2,y,f⟩
  .exact⟨_,B8 m,.inl rfl,b,e,.inl f⟩
  .rw[A] at y;cases y;rcases k3 c f with h|h
   .exact⟨_,B8 z,.inr (by simp),Bm.XL.2 h⟩
   .exact⟨_,B8 m,.inl rfl,b,e,.inr ⟨cs,A,h.1⟩⟩
inductive FW:A3 Ty->A3 Bm->Prop where
 |nil:FW [] []|val {τ:Ty} {l:A3 Ty} {ps:A3 Bm} (r:FW l ps):FW (τ::l) (.val τ::ps)|buf {α:Type} {f:α->Ty} {x:A3 α} {E:Ap} {sz:Nat} {l:A3 Ty} {ps:A3 Bm} (hx:x=[]) (r:FW l ps):FW (TN f x::l) (.buf E sz []::ps)
def wE:Ih B w H E sz [] (.slice none 0 0):=⟨[],⟨by simp,.inl ⟨rfl,rfl⟩⟩,rfl,λb h=>by simp[Value.ownBlock] at h⟩
theorem FW.ok(h:FW l ps):∀{cs:A3 AW},Cx H l cs->Gz B a w H ps cs/\(∀b,¬F7 w b ps cs)/\LX w ps cs:=by
 induction h with
 |nil=>exact λe=>⟨e,λ_ h=>h,trivial⟩
 | @val τ l ps r ih=>
  rintro cs ⟨v,rest,e,c,j⟩;subst e;let⟨k,s,m⟩:=ih j;have o:=(O4 (p:= .val τ) (rest:=rest)<|τ.shape c).2;refine⟨⟨v,rest,rfl,τ.shape c,c,k⟩,λb h=>?_,λb h=>h.elim,?_⟩
  .rcases h with h|h
   .exact h
   .grind
  .rw[o];exact m
 | @buf α f x E sz l ps hx r ih=>
  rintro cs ⟨v,rest,e,c,j⟩;subst e;subst hx;let⟨k,s,m⟩:=ih j;have y:=c.2 rfl;subst y;have q:Shape (Bm.buf E sz []).n (Bm.buf E sz []).agg (.slice none 0 0):=Shape.one rfl;let⟨z,o⟩:=O4 (p:= .buf E sz []) (rest:=rest) q;refine⟨⟨_,rest,rfl,q,wE,k⟩,λb h=>?_,λb h=>?_,?_⟩
  .rcases h with h|h
   .rw[z] at h;simp[Bm.owns,Value.ownBlock] at h
   .grind
  .grind
  .rw[o];exact m
def zF:∀H v,(Cl l).ok H v->Cx H l v.cells.toList:=λ_ _ ⟨cs,e,h⟩=>by subst e;exact h
def zD{τ:Ty}:∀H v,τ.ok H v->Cx H [τ] v.cells.toList:=λ_ v h=>⟨v,[],by simp,h,rfl⟩
def Cm.pub:Cm->Ty
 | .val τ=>τ| .buf l=>F2 l| .any=>R4 ⟨#[]⟩
def Cm.isAny:Cm->Bool
 | .any=>true|_=>false
def iL(p:Ty×Cm):Ty×Ty:=(p.1,p.2.pub)
def zL{B:Ah P}{w:AS}{H H':HV}{Eb:Ap}{sz:Nat}(c:HV.le H H'):∀{i:Nat} {l:A3 (Ty×Cm)} {es:A3 MapEntry},II B w H Eb sz i l es->(∀p∈l,p.2.isAny=false)->(∀b,GB b l es->H' b=w.heap[b]?)->okM H' i (l.map iL) es
 |_,[],[],_,_,_=>trivial|_,[],_::_,h,_,_=>h.elim|_,(_,_)::_,[],h,_,_=>h.elim
 |i,(k,e)::l,x::xs,⟨h1,h2,h3,h4⟩,hn,hw=>by refine⟨k.mono c h1,?_,h3,zL c h4 (λp j=>hn p (by simp[j])) λb f=>hw b<| .inr f⟩;cases e with|val τ=>exact τ.mono c h2|any=>have:=hn (k,.any) (by simp);cases this|buf bl=>exact Uz (a:=⟨#[],[]⟩) (B:=B) h2 c λb f _ o m=>by rw[hw b<| .inl f];exact m
def aiD{H':HV}{c:A3 (Ty×Cm)}{v:AW}(f:HV.le H H')(h:Oj B w H Eb sz c v)(m:∀p∈c,p.2.isAny=false)(j:∀b,N4 w c v b->H' b=w.heap[b]?):(iV<|c.map iL).ok H' v:=by let⟨r,es,e,k,_,_,n,_⟩:=h;subst e;exact⟨r,es,rfl,by rw[j r<| .inl rfl];exact k,zL f n m λb o=>j b<| .inr ⟨r,es,rfl,k,o⟩⟩
theorem aj7(m:∀q∈Al,q∈Γ){f:A3 Bm}(I:EY Al p t 0)(y:look Al t=some (.Cg T true ps))(J:Arg Al x (Cl l))(L:FW l f)(M:(ps.map Bm.n).sum=C7 l)(O:Bj P T (C7 l) true=true)
 (o:Sat w0 H0 N Γ a w H){K:Act->AS->Prop}(k:∀w',Sat w0 H0 N ((t,.Cg T true f)::BH t Γ) a w' H->K a w'):(⟨none,.store T (.tmp p) x,ty,pos,af,none⟩:Oper).wp P a w K Q:=by
 let⟨b,cs,e,R,z,S,A,U,Ov,V⟩:=I.ok y<|o.weaken m
 have h:=J.ok<|o.weaken m
 have C:=(Cl l).shape h;let⟨ys,F,W⟩:=h;have r:cs.size=C7 l:=by have:=zJ U;simpa[M] using this
 have s:(a.eval x).cells.size=C7 l:=C.size;have v:=RB (P:=P) (x:=a.eval x) (off:=0) (Ry O) s z (by omega) C.cell;rw[List.take_zero,Ke (by simp[r]),Fy,HB,Array.toArray_toList] at v;rw[F] at v;unfold Oper.wp;have X:(execOp a.eval ⟨none,.store T (.tmp p) x,ty,pos,af,none⟩).run P w= .ok .skip (w.setRow b ys):=by simp[execOp,R,Instr.storeAt,Instr.sureAddr,F,v,Value.cells]
 rw[X,OF];have Y:Dw w (w.setRow b ys) (some b):=Dw.setRow w b _;have Z:(w.setRow b ys).heap[b]? =some (.cells ys T (0,0)):=S9 w b _ _ _ _ z;let⟨k1,k2,k3⟩:=L.ok (B:=w0) (a:=a) (w:=w.setRow b ys) W;refine k _<|Mk o (m _<|B8 y) Y A ⟨b,e,.inl rfl⟩ ⟨b,ys,e,Z,S,A,k1,k3,k2 _⟩ ?_
 rintro c ⟨c',G,j⟩;simp[e] at G;cases G;rcases j with j|⟨cs2,hb2,j⟩
 .subst j;exact .inl ⟨c,e,.inl rfl⟩
 .grind
def alO(b:A3 Bm)(c:EY Γ p t 0)(e:look Γ t=some (.Cg T true ps))(f:Arg Γ x (Cl l))(j:FW l b)(m:(ps.map Bm.n).sum=C7 l)(o:Bj P T (C7 l) true=true):Step P N ops ⟨none,.store T (.tmp p) x,ty,pos,af,none⟩ Γ ((t,.Cg T true b)::BH t Γ):=by intro w0 H0 a w H q K Q k;simp[Region.wanted,if_true];exact aj7 (λ_ h=>h) c e f j m o q λw' r=>k a w' H r
inductive KG:A3 Bm->A3 Ty->Prop where
 |n:KG [] []|c {τ:Ty} {l:A3 Ty} {ps:A3 Bm} (r:KG ps l):KG (.val τ::ps) (τ::l)
def KG.ok(h:KG ps l):∀{cs:A3 AW},Gz B a w H ps cs->Cx H l cs:=by induction h with|n=>exact λe=>e|c r ih=>rintro cs ⟨v,rest,e,_,b,f⟩;exact⟨v,rest,e,b,ih f⟩
def zI(h:EY Γ p t 0)(j:look Γ t=some (.Cg T true ps))(k:KG ps l)(m:Bj P T (C7 l) true=true):B0 P Γ ⟨d,.load T<| .tmp p,ty,pos,af,g⟩ (.val<|Cl l):=
 DA λ_ _ _ a w _ n=>by
  let⟨b,cs,e,o,q,_,_,r,_⟩:=h.ok j n;have c:=k.ok r;have s:cs.size=C7 l:=by have:=KT c;simpa using this
  have f:=PJ (off:=0) m q (by omega);rw[NB,Ce (by simp[s])] at f;exact⟨.agg cs,by simp[execOp,o,Instr.loadAt,Instr.sureAddr,f,Fc],⟨cs,rfl,c⟩,rfl⟩
open Classical in
theorem ak1{w0:Ah P}(L:look Γ t=some (.Cg T gg ps))(hi:ps[i]? =some (.buf E sz l)):GX w0 N Γ ((t,.Cg T gg<|ps.set i<| .val<|F2 l)::BH t Γ):=λH0 a w H M=>by
 let⟨b,cs,e,O,Qr,hm,k,Ov,R⟩:=M.holds _<|B8 L
 simp only at e;let⟨_,z,h4,_⟩:=OV k hi;have n:=dC k hi
 generalize U:pv (.buf E sz l) (Bf ps i) cs.toList=v at*
 obtain⟨S,m⟩:∃S:Nat->Prop,∀c,S c↔v.ownBlock=some c:=⟨_,λ_=>Iff.rfl⟩;have A:=(EP.1 hi).1;have j:∀c,v.ownBlock=some c->F7 w c ps cs.toList:=λc f=>Mv.2 ⟨i,_,hi,by rw[U];exact f⟩
 let⟨I7,C,k1,V,k3⟩:=UM (q:= .any 1 false) (x:=v) k Ov hi z rfl z<|λc f=>f.elim
 rw[show I7=cs.toList by rw[C];exact n] at k1 V k3;have s:HV.le H (λr=>if S r then w.heap[r]? else H r):=by
  intro r o y;by_cases e:S r
  .rw[(Nz k<|j r<|(m r).1 e).2.2.1] at y;cases y
  .simp[e,y]
 have no:∀c,F7 w c (ps.set i<| .any 1 false) cs.toList->F7 w c ps cs.toList/\ ¬S c:=λc f=>by
  rcases k3 c f with h|h
  .exact h.elim
  .exact⟨h.1,λh'=>h.2 (by rw[U];exact(m c).1 h')⟩
 let⟨f1,f2,f3⟩:=dK (w':=w) s k1 (λc f=>⟨rfl,by simp[(no c f).2]⟩);have F:(ps.set i<| .any 1 false)[i]? =some (.any 1 false):=Us A;have G:Bf (ps.set i<| .any 1 false) i=Bf ps i:=(p8 (q:= .any 1 false) k hi z rfl z).2.1;have W:(F2 l).ok (λr=>if S r then w.heap[r]? else H r) v:=Uz (a:=a) h4 s (λc f _ o y=>by have:S c:=(m c).2 f;simp[this,y]);let⟨I,J,X,Y,Z⟩:=UM (q:= .val<|F2 l) (x:=v) f1 (f3 V) F ((F2 l).shape W) rfl W<|λc f=>f.elim
 rw[show I=cs.toList by rw[J,G];exact n,List.set_set] at X Y Z;have nw:∀c,F7 w c (ps.set i<| .val<|F2 l) cs.toList->F7 w c ps cs.toList:=λc f=>by
  rcases Z c f with h|h
  .exact h.elim
  .grind
 have K: ¬S b:=λh=>R<|j b<|(m b).1 h
 refine⟨_,u6 M (B8 L) S (λc f=>⟨⟨b,e,.inr ⟨cs,O,j c<|(m c).1 f⟩⟩,(Nz k<|j c<|(m c).1 f).2.1⟩) ⟨b,cs,e,O,by simp[K,Qr],hm,X,Y,λf=>R<|nw b f⟩ ?_⟩;rintro c ⟨c',e',f⟩;rw[e] at e';cases e';refine⟨b,e,?_⟩;rcases f with f|⟨cs3,hb3,f⟩
 .exact .inl f
 .grind
def pW{w0:Ah P}{α:Type}{f:α->Ty}{l:A3 α}(b:look Γ t=some (.Cg T gg ps))(hi:ps[i]? =some (.buf E sz<|lT f l)):GX w0 N Γ ((t,.Cg T gg<|ps.set i<| .val<|TL f l)::BH t Γ):=ak1 b hi
def alm{w0:Ah P}{K:Ap}{f:A3 (Ty×Cm)}{M:A3 (Ty×Ty)}(m:look Γ t=some (.Fa K E Eb sz f))(s:∀p∈f,p.2.isAny=false)(v:f.map iL=M):GX w0 N Γ ((t,.val<|iV M)::BH t Γ):=λH0 a w H n=>by
 subst v;have j:=n.holds _<|B8 m
 obtain⟨S,h⟩:∃S:Nat->Prop,∀c,S c↔N4 w f (Ad a t) c:=⟨_,λ_=>Iff.rfl⟩;refine⟨_,aQ n (B8 m) S (λc q=>⟨(h c).1 q,(Q9 j<|(h c).1 q).2.1⟩) ?_⟩;refine aiD ?_ j s λb y=>by have:S b:=(h b).2 y;simp[this]
 intro r o k;by_cases e:S r
 .rw[(Q9 j<|(h r).1 e).2.2.1] at k;cases k
 .simp[e,k]
end
section
variable[D:DR]
variable{P:Program}{w0:Ah P}{H0:HV}{N:Nat}{ops:Array Oper}{Q:Exit->Act->World->Prop}{Γ Ar:Ctx}{d:Option Tmp}{ty:TypeId}{pos:String}{af:Array Edge}{g:Option (Nat×Bool)}
variable{α β:Type}[DecidableEq α]
def mix(x:α):A3 (α×β)->A9 Nat
 |[]=>none|p::l=>bif decide (x=p.1) then some 0 else(mix x l).map (· +1)
def Va(l:A3 (α×β))(x:α)(v:β):A3 (α×β):=match mix x l with|none=>l++[(x,v)]|some j=>l.set j (x,v)
def nm{x:α}:∀{l:A3 (α×β)} {j:Nat},mix x l=some j->∃v,l[j]? =some (x,v)
 |[],_,h=>by simp[mix] at h
 |p::l,j,h=>by
  simp[mix] at h;by_cases e:x=p.1
  .simp[e] at h;subst h;subst e;exact⟨p.2,rfl⟩
  .simp[e] at h;obtain⟨k,b,rfl⟩:=h;let⟨v,c⟩:=nm b;exact⟨v,by simpa using c⟩
end
section
variable[D:DR]
variable{P:Program}{w0:Ah P}{H0:HV}{N:Nat}{ops:Array Oper}{Q:Exit->Act->World->Prop}{Γ Ar:Ctx}{d:Option Tmp}{ty:TypeId}{pos:String}{af:Array Edge}{g:Option (Nat×Bool)}
variable{B:Ah P}{w:AS}{H:HV}{Eb:Ap}{sz:Nat}
@[reducible] def mM{α β:Type}(b:α->Ty)(c:β->Cm)(l:A3 (α×β)):A3 (Ty×Cm):=l.map λp=>(b p.1,c p.2)
def T9(P:Bz)(T K E:Ap):Bool:=match P.underlying T with|some (.map k e)=>Nat.beq k K&&Nat.beq e E|_=>false
def XU{T K E:Ap}(h:T9 P T K E=true):P.underlying T=some (.map K E):=by
 unfold T9 at h;split at h
 .rename_i k e hu;simp only[Bq] at h;rw[hu,DX h.1,DX h.2]
 .cases h
structure QT{α:Type}[DecidableEq α](P:Bz)(K:Ap)(f:α->Ty):Prop where
 eq:∀(H:HV) (u v:AW) (x y:α),(f x).ok H u->(f y).ok H v->∀w:AS,(Op.equal K u v).run P w= .ok (decide<|x=y) w
 check:∀(H:HV) (u:AW) (x:α),(f x).ok H u->∀(e:Bool) (w:AS),(Instr.checkKey e 10000 K u).run P w= .ok () w
 kind:∃ud,P.underlying K=some ud/\∀u v,Instr.sameNow ud u v=none
 bits:∀(H:HV) (u v:AW) (x:α),(f x).ok H u->(f x).ok H v->Instr.sameBits 10000 u v=true
def YY{B:Ah P}{w:AS}{H:HV}{Eb:Ap}{sz:Nat}:∀{i:Nat} {l:A3 (Ty×Cm)} {es:A3 MapEntry} {j:Nat} {k:Ty} {e:Cm},II B w H Eb sz i l es->l[j]? =some (k,e)->∃x,es[j]? =some x/\k.ok H x.key/\e.holds B w H Eb sz x.val/\x.born=i+j
 |_,[],_,_,_,_,_,h=>by simp at h|_,(_,_)::_,[],_,_,_,h,_=>h.elim
 |i,(k',e')::l,x::xs,0,k,e,⟨h1,h2,h3,h4⟩,h=>by simp at h;obtain⟨rfl,rfl⟩:=h;exact⟨x,rfl,h1,h2,by simpa using h3⟩
 |i,(k',e')::l,x::xs,j+1,k,e,⟨h1,h2,h3,h4⟩,h=>by obtain⟨y,b,c,f,m⟩:=YY h4 (by simpa using h);exact⟨y,by simpa using b,c,f,by omega⟩
def zM{B:Ah P}{w:AS}{H:HV}{Eb:Ap}{sz:Nat}:∀{i:Nat} {l:A3 (Ty×Cm)} {es:A3 MapEntry},II B w H Eb sz i l es->es.length=l.length
 |_,[],[],_=>rfl|_,[],_::_,h=>h.elim|_,(_,_)::_,[],h=>h.elim|_,(_,_)::_,_::_,⟨_,_,_,h⟩=>by simp[zM h]
def zK{B:Ah P}{w:AS}{H:HV}{Eb:Ap}{sz:Nat}:∀{i:Nat} {l:A3 (Ty×Cm)} {es:A3 MapEntry} {j:Nat} {k:Ty} {e:Cm} {x:MapEntry},II B w H Eb sz i l es->k.ok H x.key->e.holds B w H Eb sz x.val->x.born=i+j->II B w H Eb sz i (l.set j (k,e)) (es.set j x)
 |_,[],[],_,_,_,_,_,_,_,_=>trivial|_,[],_::_,_,_,_,_,h,_,_,_=>h.elim|_,(_,_)::_,[],_,_,_,_,h,_,_,_=>h.elim|i,(k',e')::l,x::xs,0,k,e,y,⟨h1,h2,h3,h4⟩,g1,g2,g3=>⟨g1,g2,g3,h4⟩|i,(k',e')::l,x::xs,j+1,k,e,y,⟨h1,h2,h3,h4⟩,g1,g2,g3=>⟨h1,h2,h3,zK h4 g1 g2 (by omega)⟩
def xj{B:Ah P}{w:AS}{H:HV}{Eb:Ap}{sz:Nat}:∀{i:Nat} {l:A3 (Ty×Cm)} {es:A3 MapEntry} {k:Ty} {e:Cm} {x:MapEntry},II B w H Eb sz i l es->k.ok H x.key->e.holds B w H Eb sz x.val->x.born=i+l.length->II B w H Eb sz i (l++[(k,e)]) (es++[x])
 |_,[],[],_,_,_,_,g1,g2,g3=>⟨g1,g2,by simpa using g3,trivial⟩|_,[],_::_,_,_,_,h,_,_,_=>h.elim|_,(_,_)::_,[],_,_,_,h,_,_,_=>h.elim|i,(k',e')::l,x::xs,k,e,y,⟨h1,h2,h3,h4⟩,g1,g2,g3=>⟨h1,h2,h3,xj h4 g1 g2 (by simp at g3;omega)⟩
def Mw{b:Nat}:∀{l:A3 (Ty×Cm)} {es:A3 MapEntry},GB b l es↔∃(j:Nat) (k:Ty) (e:Cm) (x:MapEntry),l[j]? =some (k,e)/\es[j]? =some x/\e.owns x.val b
 |[],es=>by simp[GB]|(k,e)::l,[]=>by simp[GB]
 |(k,e)::l,x::xs=>by
  simp only[GB,Mw (l:=l)];constructor
  .rintro(h|⟨j,k',e',y,h1,h2,h3⟩)
   .exact⟨0,k,e,x,rfl,rfl,h⟩
   .exact⟨j+1,k',e',y,by simpa using h1,by simpa using h2,h3⟩
  .rintro⟨j,k',e',y,h1,h2,h3⟩;cases j with|zero=>simp at h1 h2;obtain⟨rfl,rfl⟩:=h1;subst h2;exact .inl h3|succ j=>exact .inr ⟨j,k',e',y,by simpa using h1,by simpa using h2,h3⟩
def XN:∀{l:A3 (Ty×Cm)} {es:A3 MapEntry},l.length=es.length->(MU l es↔∀(i j:Nat) (k v:Ty) (e m:Cm) (x y:MapEntry),i<j->l[i]? =some (k,e)->l[j]? =some (v,m)->es[i]? =some x->es[j]? =some y->∀b,e.owns x.val b-> ¬m.owns y.val b)
 |[],[],_=>by simp[MU]|[],_::_,h=>by simp at h|(_,_)::_,[],h=>by simp at h
 |(k,e)::l,x::xs,h=>by
  simp[MU,XN (l:=l) (es:=xs) (by simpa using h)];constructor
  .rintro⟨h1,h2⟩ i j k1 n A o y z C hi q f r b c s;cases j with
   |zero=>omega
   |succ j=>
    cases i with
    |zero=>simp at hi f;obtain⟨rfl,rfl⟩:=hi;subst f;exact h1 b c (Mw.2 ⟨j,n,o,z,by simpa using q,by simpa using r,s⟩)
    |succ i=>exact h2 i j k1 n A o y z (by omega) (by simpa using hi) (by simpa using q) (by simpa using f) (by simpa using r) b c s
  .intro hh;refine⟨λb c F=>?_,λi j k1 n A o y z C hi q f r b c s=>?_⟩
   .let⟨j,v,m,y,h1,h2,h3⟩:=Mw.1 F;exact hh 0 (j+1) k v e m x y (by omega) rfl (by simpa using h1) rfl (by simpa using h2) b c h3
   .exact hh (i+1) (j+1) k1 n A o y z (by omega) (by simpa using hi) (by simpa using q) (by simpa using f) (by simpa using r) b c s
end
section
variable[D:DR]
variable{P:Program}{w0:Ah P}{H0:HV}{N:Nat}{ops:Array Oper}{Q:Exit->Act->World->Prop}{Γ Ar:Ctx}{d:Option Tmp}{ty:TypeId}{pos:String}{af:Array Edge}{g:Option (Nat×Bool)}
variable{α β:Type}[DecidableEq α]{K:TypeId}{fK:α->Ty}{fV:β->Cm}
def sv(b:QT P K fK){H:HV}{u:AW}{x:α}(c:(fK x).ok H u){w:AS}:∀{l:A3 (α×β)} {es:A3 MapEntry} (i:Nat),(∀(j:Nat) (p:α×β),l[j]? =some p->∃y,es[j]? =some y/\(fK p.1).ok H y.key)->es.length=l.length->(Instr.findAsking K u es i).run P w= .ok ((mix x l).map λj=>(i+j,((es[j]?).map (·.val)).getD undef)) w
 |[],[],i,_,_=>by simp[Instr.findAsking,mix]|[],_::_,_,_,h=>by simp at h|_::_,[],_,_,h=>by simp at h
 |p::l,y::es,i,h,hl=>by
  let⟨y',f,k⟩:=h 0 p rfl;simp at f;subst f;have ih:=sv b c (l:=l) (es:=es) (w:=w) (i+1) (λj q m=>by simpa using h (j+1) q (by simpa using m)) (by simpa using hl);have n:=b.eq H u y.key x p.1 c k w;simp[Instr.findAsking,mix,DS,n,DH];by_cases e:x=p.1
  .simp[e]
  .simp[e,decide_false,SM,if_false,Av,ih];cases o:mix x l with|none=>simp|some j=>simp;omega
def run_findKey(c:QT P K fK){H:HV}{u:AW}{x:α}(f:(fK x).ok H u){w:AS}{l:A3 (α×β)}{es:A3 MapEntry}(h:∀(j:Nat) (p:α×β),l[j]? =some p->∃y,es[j]? =some y/\(fK p.1).ok H y.key)(e:es.length=l.length):(Instr.findKey K u es).run P w= .ok ((mix x l).map λj=>(j,((es[j]?).map (·.val)).getD undef)) w:=by
 let⟨n,b,k⟩:=c.kind;have m:=sv c f (w:=w) 0 h e;unfold Instr.findKey;simp[DS,E6 b,DH];cases es with
 |nil=>cases l with|nil=>simp[Instr.findNow,mix]|cons p l=>simp at e
 |cons y es=>simp[Instr.findNow,k];simpa using m
end
section
variable[D:DR]
variable{P:Program}{w0:Ah P}{H0:HV}{N:Nat}{ops:Array Oper}{Q:Exit->Act->World->Prop}{Γ Ar:Ctx}{d:Option Tmp}{ty:TypeId}{pos:String}{af:Array Edge}{g:Option (Nat×Bool)}
inductive Oq(Γ:Ctx):C9->Nat->Prop where
 |own {t:Nat}:Oq Γ (.tmp t) t|same {u t:Nat} (h:look Γ u=some (.same t)):Oq Γ (.tmp u) t
def Oq.ok{x:C9}{t:Nat}(h:Oq Γ x t){a:Act}{w:AS}{H:HV}(b:Sat w0 H0 N Γ a w H):a.eval x=Ad a t:=by cases h with|own=>rfl|same h=>exact b.holds _<|B8 h
def agK{T K E Eb:Ap}{sz:Nat}:B0 P Γ ⟨d,.makeMap T none,ty,pos,af,g⟩ (.Fa K E Eb sz []):=
 Jn λw0 _ _ a w H c=>by
  refine⟨.map<|some w.heap.size,w.alloc<| .map #[] 0,H,?_,Ext.alloc c.sub _,?_,?_⟩
  .simp[execOp,Instr.makeMap,newObj];rfl
  .refine⟨w.heap.size,#[],rfl,JX w _,?_,.inl c.below.size,trivial,trivial⟩;cases f:H w.heap.size with|none=>rfl|some o=>have:=Ft c.sub f;omega
  .rintro b (h|⟨r,es,e,hr,hb⟩)
   .cases h;exact BJ _
   .simp[GB] at hb
end
section
variable[D:DR]
variable{P:Program}{w0:Ah P}{H0:HV}{N:Nat}{ops:Array Oper}{Q:Exit->Act->World->Prop}{Γ Ar:Ctx}{d:Option Tmp}{ty:TypeId}{pos:String}{af:Array Edge}{g:Option (Nat×Bool)}
variable{α β:Type}[DecidableEq α]{K E Eb T:TypeId}{sz:Nat}{fK:α->Ty}
def zd{B:Ah P}{w:AS}{H:HV}{fV:β->Cm}{l:A3 (α×β)}{es:A3 MapEntry}(h:II B w H Eb sz 0 (mM fK fV l) es):(∀(j:Nat) (p:α×β),l[j]? =some p->∃y,es[j]? =some y/\(fK p.1).ok H y.key)/\es.length=l.length:=
 ⟨λj p b=>by let⟨y,c,f,_⟩:=YY h (j:=j) (k:=fK p.1) (e:=fV p.2) (by simp[b]);exact⟨y,c,f⟩,by simpa using zM h⟩
def run_getObj_map{w:AS}{r:Nat}{es:B9 MapEntry}{c:Nat}(h:w.heap[r]? =some (.map es c)):(getObj r).run P w= .ok (.map es c) w:=by simp[getObj,Sem.run,h]
end
section
variable[D:DR]
variable{P:Program}{w0:Ah P}{H0:HV}{N:Nat}{ops:Array Oper}{Q:Exit->Act->World->Prop}{Γ Ar:Ctx}{d:Option Tmp}{ty:TypeId}{pos:String}{af:Array Edge}{g:Option (Nat×Bool)}
variable{w:AS}{c:Nat}{es:B9 MapEntry}{B:Ah P}{H:HV}{sz:Nat}
def v8{r:Nat}{o:Obj}(h:w.heap[r]? =some (.map es c)):(setObj r o).run P w= .ok () (w.putObj r o):=by simp[setObj,Sem.run,h];rfl
def afA{E:Ap}{l:A3 Ty}{v:AW}(h:Ih B w H E sz l v){b:Nat}(f:v.ownBlock=some b):w.heap[b]? ≠some (.map es c):=by
 let⟨xs,⟨_,j⟩,_,_⟩:=h;rcases j with⟨e,_⟩|⟨g,cap,cur,e,_,hc,_⟩
 .subst e;simp[Value.ownBlock] at f
 .subst e;simp[Value.ownBlock] at f;subst f;rw[hc];intro e;cases e
def aeE{Eb:Ap}{l:A3 (Ty×Cm)}{es:A3 MapEntry}(h:II B w H Eb sz 0 l es){b:Nat}(o:GB b l es){f:B9 MapEntry}:w.heap[b]? ≠some (.map f c):=by let⟨j,k,e,x,q,r,m⟩:=Mw.1 o;let⟨y,n,_,s,_⟩:=YY h q;rw[r] at n;cases n;cases e with|val τ=>exact m.elim|any=>exact m.elim|buf bl=>exact afA s m
def am5{Eb:Ap}{r:Nat}{f:B9 MapEntry}{k:A3 (Ty×Cm)}(m:w.heap[r]? =some (.map es c))(o:H r=none)(q:B.Da r)(n:II B w H Eb sz 0 k f.toList)(s:MU k f.toList):Oj B (w.putObj r<| .map f f.size) H Eb sz k (.map<|some r)/\∀b,N4 (w.putObj r<| .map f f.size) k (.map<|some r) b↔b=r\/GB b k f.toList:=by
 have j:(w.putObj r<| .map f f.size).heap[r]? =some (.map f f.size):=pP<|lt_of_heap m
 refine⟨⟨r,f,rfl,j,o,q,pA (HV.le.refl H) n<|λb v=>⟨YF<|λe=>?_,rfl⟩,s⟩,λb=>?_⟩
 .subst e;exact aeE n v m
 .constructor
  .rintro(h|⟨r1,es1,e1,h1,h2⟩)
   .cases h;exact .inl rfl
   .cases e1;rw[j] at h1;cases h1;exact .inr h2
  .rintro(h|h)
   .subst h;exact .inl rfl
   .exact .inr ⟨r,f,rfl,j,h⟩
end
section
variable[D:DR]
variable{P:Program}{w0:Ah P}{H0:HV}{N:Nat}{ops:Array Oper}{Q:Exit->Act->World->Prop}{Γ Ar:Ctx}{d:Option Tmp}{ty:TypeId}{pos:String}{af:Array Edge}{g:Option (Nat×Bool)}
variable{α β:Type}[DecidableEq α]{K E Eb T:TypeId}{sz:Nat}{fK:α->Ty}{fV:β->Cm}
def xO{l:A3 (Ty×Cm)}{es:A3 MapEntry}{j:Nat}{k I:Ty}{e s:Cm}{x v:MapEntry}(f:l.length=es.length)(J:l[j]? =some (I,s))(S:es[j]? =some v)(h:MU l es)(W:∀b,e.owns x.val b->s.owns v.val b\/ ¬GB b l es):MU (l.set j (k,e)) (es.set j x)/\∀b,GB b (l.set j (k,e)) (es.set j x)->e.owns x.val b\/(GB b l es/\ ¬s.owns v.val b):=by
 have U:=(EP.1 J).1;have L:j<es.length:=f▸U;have M:=(XN f).1 h;have A:∀i n m y,(l.set j (k,e))[i]? =some (n,m)->(es.set j x)[i]? =some y->(i=j/\n=k/\m=e/\y=x)\/(i≠j/\l[i]? =some (n,m)/\es[i]? =some y):=λi n m y o q=>by
  by_cases O:i=j
  .subst O;rw[Us U] at o;rw[Us L] at q;cases o;cases q;exact .inl ⟨rfl,rfl,rfl,rfl⟩
  .rw[pN<|Ne.symm O] at o q;exact .inr ⟨O,o,q⟩
 have one:∀i n m y,i≠j->l[i]? =some (n,m)->es[i]? =some y->∀b,m.owns y.val b-> ¬e.owns x.val b/\ ¬s.owns v.val b:=λi n m y hi o q b r=>by
  have F: ¬s.owns v.val b:=λV=>by
   rcases Nat.lt_or_gt_of_ne hi with C|C
   .exact M i j n I m s y v C o J q S b r V
   .exact M j i I n s m v y C J o S q b V r
  refine⟨λG=>?_,F⟩;rcases W b G with R|R
  .exact F R
  .exact R<|Mw.2 ⟨i,n,m,y,o,q,r⟩
 refine⟨(XN (by simpa using f)).2 ?_,λb r=>?_⟩
 .intro i i' k1 F e1 e2 y z pj hi hi' hy hz b r DI;rcases A i k1 e1 y hi hy with⟨rfl,rfl,rfl,rfl⟩|⟨n1,g1,g2⟩<;>rcases A i' F e2 z hi' hz with⟨rfl,rfl,rfl,rfl⟩|⟨n2,g3,g4⟩
  .omega
  .exact(one i' F e2 z n2 g3 g4 b DI).1 r
  .exact(one i k1 e1 y n1 g1 g2 b r).1 DI
  .exact M i i' k1 F e1 e2 y z pj g1 g3 g2 g4 b r DI
 .let⟨i,k1,e1,y,o,q,G⟩:=Mw.1 r;rcases A i k1 e1 y o q with⟨rfl,rfl,rfl,rfl⟩|⟨n1,g1,g2⟩
  .exact .inl G
  .exact .inr ⟨Mw.2 ⟨i,k1,e1,y,g1,g2,G⟩,(one i k1 e1 y n1 g1 g2 b G).2⟩
def wB{l:A3 (Ty×Cm)}{es:A3 MapEntry}{k:Ty}{e:Cm}{x:MapEntry}(f:l.length=es.length)(h:MU l es)(L:∀b,¬e.owns x.val b):MU (l++[(k,e)]) (es++[x])/\∀b,GB b (l++[(k,e)]) (es++[x])->GB b l es:=by
 have n:∀(i:Nat) (A:Ty) (r:Cm) (y:MapEntry) (b:Nat),(l++[(k,e)])[i]? =some (A,r)->(es++[x])[i]? =some y->r.owns y.val b->l[i]? =some (A,r)/\es[i]? =some y:=λi A r y b m o s=>by
  by_cases hi:i<l.length
  .rw[K4 hi] at m;rw[K4<|f▸hi] at o;exact⟨m,o⟩
  .have:i=l.length:=by have:=(EP.1 m).1;simp at this;omega
   subst this;rw[K5<|BJ _] at m;rw[K5 (by omega)] at o;simp[f] at m o;obtain⟨rfl,rfl⟩:=m;subst o;exact absurd s<|L b
 refine⟨(XN (by simp[f])).2 λi j k1 G q I y z M hi O R S b v J=>?_,λb v=>?_⟩
 .let⟨C,F⟩:=n i k1 q y b hi R v;let⟨U,V⟩:=n j G I z b O S J;exact(XN f).1 h i j k1 G q I y z M C U F V b v J
 .let⟨i,k1,q,y,m,o,s⟩:=Mw.1 v;let⟨C,F⟩:=n i k1 q y b m o s;exact Mw.2 ⟨i,k1,q,y,C,F,s⟩
def run_keyThatStays(b:QT P K fK){H:HV}{u v:AW}{x:α}(e:(fK x).ok H u)(f:(fK x).ok H v)(w:AS):(Instr.keyThatStays u v).run P w= .ok v w:=by simp[Instr.keyThatStays,b.bits H u v x e f]
def aeF{b:Type}(es:B9 b)(j:Nat)(f:b->b):(es.modify j f).toList=es.toList.modify j f:=by simp
def wS{b:Type}:∀{l:A3 b} {j:Nat} {f:b->b} {x:b},l[j]? =some x->l.modify j f=l.set j (f x)
 |[],_,_,_,h=>by simp at h|y::l,0,f,x,h=>by simp at h;subst h;rfl
 |y::l,j+1,f,x,h=>by have:=wS (l:=l) (j:=j) (f:=f) (x:=x) (by simpa using h);simpa using this
def aef{F:β->Ty}{m k v:C9}{t:Nat}{l:A3 (α×β)}{x:α}{y:β}{Al:Ctx}(Li:∀q∈Al,q∈Γ)(hT:T9 P T K E=true)(hk:QT P K fK)(hm:Oq Al m t)(ht:look Al t=some (.Fa K E Eb sz<|mM fK (λv=> .val<|F v) l))(hx:Arg Al k (fK x))(hy:Arg Al v (F y)):Step P N ops ⟨none,.mapUpdate T m k v,ty,pos,af,none⟩ Γ ((t,.Fa K E Eb sz<|mM fK (λv=> .val<|F v)<|Va l x y)::BH t Γ):=by
 intro w0 H0 a w H hs K' Q kk;simp[Region.wanted,if_true];let⟨r,es,e,I,hn,J,V,W⟩:=hs.holds _<|Li _<|B8 ht
 simp only at e;have C:=hs.weaken Li;have em:a.eval m= .map (some r):=by rw[hm.ok C];exact e
 have L:=hx.ok C;have M:=hy.ok C;let⟨k1,k2⟩:=zd V;have X:=run_findKey hk L (w:=w) k1 k2;have O:=hk.check H _ x L false w;have f:(mM fK (λv=>Cm.val<|F v) l).length=es.toList.length:=by simp[k2,mM]
 have A:∀b,¬GB b (mM fK (λv=>Cm.val<|F v) l) es.toList:=λb h=>by let⟨j,k',e',z,o,_,Y⟩:=Mw.1 h;simp only[mM,Fp,Option.map_eq_some_iff] at o;let⟨p,_,o⟩:=o;cases o;exact Y
 have R:∀(n:B9 MapEntry) (S:A3 (Ty×Cm)),S=mM fK (λv=>Cm.val<|F v) (Va l x y)->II w0 w H Eb sz 0 S n.toList->MU S n.toList->(∀b,¬GB b S n.toList)->K' (a.put none undef) (w.putObj r<| .map n n.size):=λn S el o h2 Y=>by
  subst el;let⟨g1,g2⟩:=am5 I hn J o h2;refine kk a _ H (Mk hs (Li _<|B8 ht) (Dw.putObj w r _) J (by simp[e];exact .inl rfl) (by simp[e];exact g1) λc O=> .inl ?_);simp[e] at O⊢;rcases(g2 c).1 O with h|h
  .subst h;exact .inl rfl
  .exact absurd h<|Y c
 unfold Oper.wp;cases s:mix x l with
 |none=>
  rw[s] at X;have er:(execOp a.eval ⟨none,.mapUpdate T m k v,ty,pos,af,none⟩).run P w= .ok .skip (w.putObj r<| .map (es.push {key:=a.eval k,val:=a.eval v,born:=es.size})<|es.size+1):=by simp[execOp,em,Instr.mapUpdate,E6<|XU hT,run_getObj_map I,O,X,v8 I]
  rw[er,OF];have:=R (es.push {key:=a.eval k,val:=a.eval v,born:=es.size}) (mM fK (λv=>Cm.val<|F v) l++[(fK x,.val<|F y)]) (by simp[mM,Va,s])
   (by simpa using xj (k:=fK x) (e:= .val<|F y) (x:={key:=a.eval k,val:=a.eval v,born:=es.size}) V L M (by simp[<-k2]))
   (by simpa using(wB (k:=fK x) (e:= .val<|F y) f W<|λ_ h=>h).1)
   (λb Z=>A b ((wB (k:=fK x) (e:= .val<|F y) (x:={key:=a.eval k,val:=a.eval v,born:=es.size}) f W<|λ_ h=>h).2 b (by simpa using Z)))
  simpa using this
 |some j=>
  rw[s] at X;let⟨v0,MX⟩:=nm s;let⟨z,o,h2,Y,h4⟩:=YY V (j:=j) (k:=fK x) (e:= .val<|F v0) (by simp[MX]);have h1':es[j]? =some z:=by simpa using o
  have XH:=run_keyThatStays hk h2 L w;have er:(execOp a.eval ⟨none,.mapUpdate T m k v,ty,pos,af,none⟩).run P w= .ok .skip (w.putObj r<| .map (es.modify j λe=>{e with key:=a.eval k,val:=a.eval v}) es.size):=by simp[execOp,em,Instr.mapUpdate,E6<|XU hT,run_getObj_map I,O,X,v8 I,h1',XH]
  rw[er,OF];have G:(es.modify j λe=>{e with key:=a.eval k,val:=a.eval v}).toList=es.toList.set j {z with key:=a.eval k,val:=a.eval v}:=by rw[aeF,wS o]
  have U:(mM fK (λv=>Cm.val<|F v) l)[j]? =some (fK x,.val<|F v0):=by simp[MX]
  have:=R (es.modify j λe=>{e with key:=a.eval k,val:=a.eval v}) ((mM fK (λv=>Cm.val<|F v) l).set j (fK x,.val<|F y)) (by simp[mM,Va,s,SB])
   (by rw[G];exact zK (k:=fK x) (e:= .val<|F y) (x:={z with key:=a.eval k,val:=a.eval v}) V L M (by simpa using h4))
   (by rw[G];exact(xO (k:=fK x) (e:= .val<|F y) f U o W<|λ_ h=>h.elim).1)
   (λb Z=>by
    rw[G] at Z;rcases(xO (k:=fK x) (e:= .val<|F y) f U o W<|λ_ h=>h.elim).2 b Z with h|h
    .exact h
    .exact A b h.1)
  simpa using this
end
section
variable[D:DR]
variable{P:Program}{w0:Ah P}{H0:HV}{N:Nat}{ops:Array Oper}{Q:Exit->Act->World->Prop}{Γ Ar:Ctx}{d:Option Tmp}{ty:TypeId}{pos:String}{af:Array Edge}{g:Option (Nat×Bool)}
variable{H:HV}{w:AS}{L:A3 (Ty×Ty)}{α:Type}{t r m it:Nat}{seen:A3 Nat}{s s':AT}
def sx{n:Nat}(b:0<n)(w:AS):∃(i:Nat) (k:Nat),w.drawn<=k/\i<n/\(choose<| .mapNext n).run P w= .ok i {w with drawn:=k}:=by
 by_cases h:n<=1
 .refine⟨0,w.drawn,BJ _,b,?_⟩;simp[choose,Sem.run,Question.forced,h]
 .refine⟨w.tape w.drawn (.mapNext n)%n,w.drawn+1,OE _,M1 _ b,?_⟩;simp[choose,Sem.run,Question.forced,h,Question.cut]
def ajf{T:Ap}{K E:Ap}{m:C9}(k:T9 P T K E=true)(n:Arg Γ m (iV L)):B0 P Γ ⟨d,.range T m,ty,pos,af,g⟩ (.HI L []):=
 Jn λw0 _ _ a w H f=>by
  let⟨r,es,e,j,q⟩:=n.ok f;have h:=f.sub _ _ j;refine⟨.pointer<|some ⟨w.heap.size,0,none⟩,w.alloc<| .mapIter (some r) es.size #[] es.size,H,?_,Ext.alloc f.sub _,?_,?_⟩
  .simp[execOp,Instr.range,e,E6<|XU k,run_getObj_map h,newObj];rfl
  .refine⟨w.heap.size,r,es,#[],rfl,JX w _,?_,.inl f.below.size,j,q,rfl⟩;cases v:H w.heap.size with|none=>rfl|some o=>have:=Ft f.sub v;omega
  .rintro b ⟨ad,e,hb⟩;cases e;simp at hb;omega
def p9{H:HV}:∀{i:Nat} {l:A3 (Ty×Ty)} {es:A3 MapEntry},okM H i l es->es.length=l.length
 |_,[],[],_=>rfl|_,[],_::_,h=>h.elim|_,(_,_)::_,[],h=>h.elim|_,(_,_)::_,_::_,⟨_,_,_,h⟩=>by simp[p9 h]
def fe{H:HV}:∀{i:Nat} {l:A3 (Ty×Ty)} {es:A3 MapEntry} {j:Nat} {x:MapEntry},okM H i l es->es[j]? =some x->∃k e,l[j]? =some (k,e)/\k.ok H x.key/\e.ok H x.val/\x.born=i+j
 |_,[],[],_,_,_,h=>by simp at h|_,[],_::_,_,_,h,_=>h.elim|_,(_,_)::_,[],_,_,h,_=>h.elim
 |i,(k,e)::l,x::xs,0,y,⟨h1,h2,h3,h4⟩,h=>by simp at h;subst h;exact⟨k,e,rfl,h1,h2,by simpa using h3⟩
 |i,(k,e)::l,x::xs,j+1,y,⟨h1,h2,h3,h4⟩,h=>by obtain⟨b,f,n,o,q,v⟩:=fe h4 (by simpa using h);exact⟨b,f,by simpa using n,o,q,by omega⟩
def sV{b e:Nat}{seen:B9 Nat}(h:w.heap[r]? =some (.mapIter (some m) b seen e)):(getObj r).run P w= .ok (.mapIter (some m) b seen e) w:=by simp[getObj,Sem.run,h]
def ad1{o:Obj}{b e:Nat}{seen:B9 Nat}(h:w.heap[r]? =some (.mapIter (some m) b seen e)):(setObj r o).run P w= .ok () (w.putObj r o):=by simp[setObj,Sem.run,h];rfl
theorem ajl{es:B9 MapEntry}{b:B9 Nat}{ty:Ap}(W:w.heap[r]? =some (.mapIter (some m) es.size b es.size))(hm:w.heap[m]? =some (.map es es.size))(X:okM H 0 L es.toList):((∀j,j<L.length->j∈b.toList)/\∃k,w.drawn<=k/\(Instr.next (.pointer<|some ⟨r,0,none⟩) false ty).run P w= .ok (.tuple #[.bool false]) {w with drawn:=k})\/
  ∃j x k,j<L.length/\j∉b.toList/\es[j]? =some x/\w.drawn<=k/\(Instr.next (.pointer<|some ⟨r,0,none⟩) false ty).run P w= .ok (.tuple #[.bool true,x.key,x.val]) (World.putObj {w with drawn:=k} r<| .mapIter (some m) es.size (b.push j) es.size):=by
 have f:=p9 X;have A:∀(j:Nat) (x:MapEntry),es[j]? =some x->x.born=j:=λj x hx=>by let⟨_,_,_,_,_,h⟩:=fe X (j:=j) (x:=x) (by simpa using hx);simpa using h
 have G:∀e∈es,e.born<es.size:=λe q=>by let⟨j,v,R⟩:=Array.getElem_of_mem q;have:=A j e (by simp[v,R]);omega
 have I:(!b.isEmpty&& !es.isEmpty&&es.all (·.born>=es.size))=false:=by
  cases hes:es.isEmpty
  .simp only[Bool.not_false,dX];have y:0<es.size:=by grind
   have:es.all (·.born>=es.size)=false:=by grind
   simp[this]
  .simp
 generalize C:es.filter (λe=> !b.contains e.born)=left
 have F:∀e∈left,e∈es/\b.contains e.born=false:=λe q=>by rw[<-C] at q;simpa using Array.mem_filter.1 q
 have z:left.filter (·.born<es.size)=left:=by rw[Array.filter_eq_self];exact λe q=>by simpa using G e (F e q).1
 have Y:left.filter (·.born>=es.size)= #[]:=by rw[Array.filter_eq_empty_iff];intro e q;have:=G e (F e q).1;simp;omega
 have J:=sV (P:=P) W;have M:=run_getObj_map (P:=P) hm;by_cases O:left= #[]
 .left;refine⟨λj v=>?_,?_⟩
  .have hj':j<es.size:=by rw[<-f] at v;simpa using v
   have S:=A j es[j] (by simp[hj']);apply CB;intro hn;have:es[j]∈left:=by grind
   rw[O] at this;simp at this
  .let⟨i,k,U,hi,V⟩:=sx (P:=P) (n:=1) (by omega) w;have:i=0:=by omega
   subst this;refine⟨k,U,?_⟩;unfold Instr.next
   simp only[DS,J,DH,M,I,SM,if_false,C,z,Y];rw[O];simp only[Array.isEmpty_empty,if_true,Array.append_empty,Array.map_empty,dq,DP,SG,N9,V,DH]
   rfl
 .right;have y:0<left.size:=by grind
  let⟨i,k,U,hi,V⟩:=sx (P:=P) (n:=left.size) y w;have jx:=F left[i] (by simp);let⟨j,v,R⟩:=Array.getElem_of_mem jx.1;have S:=A j left[i] (by simp[v,R]);have hr':World.heap {w with drawn:=k}=w.heap:=rfl;refine⟨j,left[i],k,by rw[<-f];simpa using v,?_,by simp[v,R],U,?_⟩
  .grind
  .have hne:left.isEmpty=false:=by
    cases h:left.isEmpty
    .rfl
    .grind
   have Z:=ad1 (P:=P) (w:={w with drawn:=k}) (o:= .mapIter (some m) es.size (b.push left[i].born) es.size) W;rw[S] at Z;unfold Instr.next
   simp only[DS,J,DH,M,I,SM,if_false,C,z,Y,hne,Array.append_empty,Array.empty_append,Array.size_map,V,DH];have:(Array.map some left)[i]? =some (some left[i]):=by simp[hi]
   simp only[this,S,DS,Z,DH]
   rfl
def aoP{f y id:Nat}{ts:A3 Nat}{z:Ctx}{ty A:Ap}{pos o:String}{af C:B9 Edge}(J:look Γ it=some (.HI L seen))(MP:Dm Γ ts z)
 (hN:(Nat.blt f N&&Nat.blt y N&&(f !=it)&&(y !=it)&&(y !=f))=true)(hf:(z.all λp=>p.1 !=it&&p.1 !=f&&p.1 !=y&&p.2.Bv.all (λt=>t !=f&&t !=y&&t !=it))=true)
 (kt:∀j,j<L.length->j∉seen->Df w0 H0 N (Q .normal) ((y,.val<|Az true)::(it,.HI L<|seen++[j])::z))(kf:(∀j,j<L.length->j∈seen)->Df w0 H0 N (Q .normal) ((y,.val<|Az false)::z)):Goal P w0 H0 N (.region id #[⟨some f,.next (.tmp it) false,ty,pos,af,none⟩,⟨some y,.extract (.tmp f) 0,A,o,C,none⟩] false) Q Γ:=by
 intro a w H I;simp only[Bq,Jv,ne_eq] at hN;let⟨⟨⟨⟨h1,h2⟩,h3⟩,h4⟩,h5⟩:=hN;have M:=Ac h1;have W:=Ac h2;let⟨r,m,es,O,e,hr,hn,R,hm,ho,F⟩:=I.holds _<|B8 J
 simp only at e;have fr:∀q∈z,q∈Γ/\q.1≠it/\q.1≠f/\q.1≠y/\f∉q.2.Bv/\y∉q.2.Bv/\it∉q.2.Bv:=λq n=>by have:=DC.1 hf q n;simp[Bq,Jv,ne_eq,DC] at this;let⟨⟨⟨k1,k2⟩,k3⟩,X⟩:=this;exact⟨MP.sub q n,k1,k2,k3,λh=>(X _ h).1.1 rfl,λh=>(X _ h).1.2 rfl,λh=>(X _ h).2 rfl⟩
 have ei:a.eval (.tmp it)= .pointer (some ⟨r,0,none⟩):=e;refine wpIn_region_lit ?_;have S:∀(vs:A3 AW) (b:Bool) (w':AS) (G:Ctx),(∀q∈G,q.1≠f/\q.1≠y/\f∉q.2.Bv/\y∉q.2.Bv)->Sat w0 H0 N G a w' H->vs.head?=some (.bool b)->Df w0 H0 N (Q .normal) ((y,.val<|Az b)::G)->wpListIn (Eo w0.rd) 0 P #[⟨some f,.next (.tmp it) false,ty,pos,af,none⟩,⟨some y,.extract (.tmp f) 0,A,o,C,none⟩] Q [⟨some y,.extract (.tmp f) 0,A,o,C,none⟩] (a.put (some f)<| .tuple vs.toArray) w':=by
  intro vs b w' G V hS hv kk;unfold wpListIn;have Y:Region.wanted (⟨some y,.extract (.tmp f) 0,A,o,C,none⟩:Oper) (yielded #[⟨some f,.next (.tmp it) false,ty,pos,af,none⟩,⟨some y,.extract (.tmp f) 0,A,o,C,none⟩] (a.put (some f)<| .tuple vs.toArray).tmps)=true:=rfl;rw[if_pos Y];refine Xo (λc e=>by cases e) ?_;unfold Oper.wp;have ed:(a.put (some f)<| .tuple vs.toArray).eval (.tmp f)= .tuple vs.toArray:=Tx (by rw[I.sz];exact M);have Z:vs[0]? =some (.bool b):=by rw[<-List.head?_eq_getElem?];exact hv
  have U:(execOp (a.put (some f)<| .tuple vs.toArray).eval ⟨some y,.extract (.tmp f) 0,A,o,C,none⟩).run P w'= .ok (.value<| .bool b) w':=by simp[execOp,ed,Instr.extract,Z]
  rw[U,M6];unfold wpListIn;have KI:=O2 (s:= .gone) (v:= .tuple vs.toArray) hS M (by simp only[Hl,DC,Bq,Jv,ne_eq];exact λq n=>⟨(V q n).1,by simpa using(V q n).2.2.1⟩) (by simp[AT.Bv]) trivial<|λb h=>h.elim
  have hs3:=O2 (s:= .val<|Az b) (v:= .bool b) (KI.weaken (Ar:=G) λq n=>Bg _ n) W (by simp only[Hl,DC,Bq,Jv,ne_eq];exact λq n=>⟨(V q n).2.1,by simpa using(V q n).2.2.2⟩) (by simp[AT.Bv]) rfl<|λb h=>h.elim
  exact kk _ w' H hs3
 unfold wpListIn;have Y:Region.wanted (⟨some f,.next (.tmp it) false,ty,pos,af,none⟩:Oper) (yielded #[⟨some f,.next (.tmp it) false,ty,pos,af,none⟩,⟨some y,.extract (.tmp f) 0,A,o,C,none⟩] a.tmps)=true:=rfl;rw[if_pos Y];refine Xo (λc e=>by cases e) ?_;unfold Oper.wp;rcases ajl (P:=P) (ty:=ty) hr (I.sub _ _ hm) ho with⟨hall,k,hk,G9⟩|⟨j,x,k,hj,hjn,hx,hk,G9⟩
 .have U:(execOp a.eval ⟨some f,.next (.tmp it) false,ty,pos,af,none⟩).run P w= .ok (.value<| .tuple #[.bool false]) {w with drawn:=k}:=by simp only[execOp,ei,DS,G9,DH];rfl
  rw[U,M6];have he:Ext w H {w with drawn:=k} H:=⟨⟨⟨rfl,rfl,rfl,BJ _,λ_ _=>rfl⟩,Fe.of hk⟩,HV.le.refl _,λ_ _=>rfl,I.sub⟩;exact S [.bool false] false _ z (λq n=>⟨(fr q n).2.2.1,(fr q n).2.2.2.1,(fr q n).2.2.2.2.1,(fr q n).2.2.2.2.2.1⟩) (ba (I.weaken MP.sub) he) rfl (kf (by rw[<-F];exact hall))
 .have U:(execOp a.eval ⟨some f,.next (.tmp it) false,ty,pos,af,none⟩).run P w= .ok (.value<| .tuple #[.bool true,x.key,x.val]) (World.putObj {w with drawn:=k} r<| .mapIter (some m) es.size (O.push j) es.size):=by simp only[execOp,ei,DS,G9,DH];rfl
  rw[U,M6];have hg:Dw w (World.putObj {w with drawn:=k} r<| .mapIter (some m) es.size (O.push j) es.size) (some r):=⟨⟨rfl,rfl,rfl,by simp,λi _ hi=>by rw[YF (λe=>hi (by rw[e]))]⟩,Fe.of hk⟩
  have hr':(World.putObj {w with drawn:=k} r<| .mapIter (some m) es.size (O.push j) es.size).heap[r]? =some (.mapIter (some m) es.size (O.push j) es.size):=pP<|lt_of_heap hr
  have KI:=Mk (s':= .HI L<|seen++[j]) I (B8 J) hg R ⟨_,e,rfl⟩ ⟨r,m,es,O.push j,e,hr',hn,R,hm,ho,by simp[F]⟩<|λc hc=> .inl hc
  exact S [.bool true,x.key,x.val] true _ ((it,.HI L<|seen++[j])::z) (λq n=>by
    rcases Ak.1 n with e|n
    .subst e;exact⟨λe=>h3 e.symm,λe=>h4 e.symm,by simp[AT.Bv],by simp[AT.Bv]⟩
    .exact⟨(fr q n).2.2.1,(fr q n).2.2.2.1,(fr q n).2.2.2.2.1,(fr q n).2.2.2.2.2.1⟩)
   (KI.weaken λq n=>by
    rcases Ak.1 n with e|n
    .subst e;simp
    .exact Bg _<|N0 (fr q n).1 (fr q n).2.1) rfl (kt j hj (by rw[<-F];exact hjn))
def ajg{j:Nat}{k e:Ty}(n:look Γ it=some (.HI L<|seen++[j]))(z:L[j]? =some (k,e)):B0 P Γ ⟨d,.entry<| .tmp it,ty,pos,af,g⟩ (.tup [k,e]):=
 DA λw0 _ _ a w H A=>by
  let⟨r,m,es,C,F,I,W,J,M,o,q⟩:=A.holds _<|B8 n
  simp only at F;have O:a.eval (.tmp it)= .pointer (some ⟨r,0,none⟩):=F;have R:=A.sub _ _ M;have f:∀(i:Nat) (x:MapEntry),es[i]? =some x->x.born=i:=λi x S=>by let⟨_,_,_,_,_,h⟩:=fe o (j:=i) (x:=x) (by simpa using S);simpa using h
  have b:j<es.size:=by have:=(EP.1 z).1;rw[<-p9 o] at this;simpa using this
  let⟨X,Y,G,U,V,_⟩:=fe o (j:=j) (x:=es[j]) (by simp[b]);rw[z] at G;cases G;have v:C.back?=some j:=by
   have:C=(seen++[j]).toArray:=by rw[<-q]
   rw[this];simp
  have y:es.find? (λx=>x.born==j)=some es[j]:=by rw[Array.find?_eq_some_iff_getElem];refine⟨by simpa using f j es[j] (by simp[b]),j,b,rfl,λi hi=>?_⟩;have:=f i es[i] (by simp[Nat.lt_trans hi b]);simp[this];omega
  refine⟨.tuple #[es[j].key,es[j].val],?_,⟨_,rfl,_,_,rfl,U,_,[],rfl,V,rfl⟩,rfl⟩;simp[execOp,O,Instr.entry,sV I,run_getObj_map R,v,y]
def NV{α σ:Type}(f:α->σ->A9 σ):A3 α->σ->A9 σ
 |[],s=>some s|x::l,s=>bd (f x s)<|NV f l
def Qz{α σ ρ:Type}(f:α->σ->A9 σ)(l:A3 α)(s:σ)(K:σ->A9 ρ):A9 ρ:=bd (NV f l s) K
def asI{P:Bz}{α σ:Type}(w0:Ah P)(H0:HV)(N it:Nat)(l:A3 α)(enc:α->Ty×Ty)(f:α->σ->A9 σ)(Al:σ->Ctx)(seen:A3 Nat)(s:σ)(a:Act)(w:AS):Prop:=∃j x s',l[j]? =some x/\j∉seen/\f x s=some s'/\∃H,Sat w0 H0 N ((it,.HI (l.map enc)<|seen++[j])::Al s') a w H
def NW{α:Type}(l:A3 α)(seen:A3 Nat):A3 α:=((List.range l.length).filter λj=> !seen.contains j).filterMap λj=>l[j]?
def lX{l:A3 α}{j:Nat}{x:α}(f:l[j]? =some x)(h:j∉seen):(x::NW l (seen++[j])).Perm (NW l seen):=by
 have b:=(EP.1 f).1;have key:((List.range l.length).filter λi=> !seen.contains i).Perm (j::(List.range l.length).filter λi=> !(seen++[j]).contains i):=by
  have k:((List.range l.length).filter λi=> !seen.contains i).Nodup:=List.nodup_range.filter _;have n:j∈(List.range l.length).filter λi=> !seen.contains i:=by simp[b,h]
  have o:=List.perm_cons_erase n;refine o.trans<|List.Perm.cons _ ?_
  rw[k.erase_eq_filter,List.filter_filter];refine List.Perm.of_eq<|List.filter_congr λi _=>?_
  by_cases e:i=j
  .subst e;simp
  .simp[e]
 have q:=(key.filterMap λi=>l[i]?).symm;simpa[NW,f] using q
def wK{α:Type}:∀(l b:A3 α),(List.range' b.length l.length).filterMap (λj=>(b++l)[j]?)=l
 |[],_=>rfl
 |x::l,b=>by
  have ih:=wK l<|b++[x]
  simp[DD,G2,Fz,List.singleton_append] at ih;simp only[DP,List.range'_succ,List.filterMap_cons];rw[K5<|BJ _,pK];simp[List.getElem?_cons_zero,ih]
def aiG(l:A3 α):NW l []=l:=by
 have:=wK l [];simp[SG,Fy] at this;unfold NW;have e:List.filter (λj=> !([]:A3 Nat).contains j) (List.range l.length)=List.range l.length:=List.filter_eq_self.2<|λj _=>rfl
 rw[e,List.range_eq_range'];exact this
def amu{σ ρ:Type}{l:A3 α}(enc:α->Ty×Ty){f:α->σ->A9 σ}{K:σ->A9 ρ}{s0:σ}{r:ρ}(Al:σ->Ctx){c:Code}{z:A3 Nat}(o:∀h,h.Perm l->Qz f h s0 K=some r)(A:Dm Γ z ((it,.HI (l.map enc) [])::Al s0))
 (round:∀(seen:A3 Nat) (s:σ),(∀j x,l[j]? =some x->j∉seen->∃s',f x s=some s')->((∀j,j<(l.map enc).length->j∈seen)->K s=some r)->Goal P w0 H0 N c (Exit.then (asI w0 H0 N it l enc f Al seen s) Q) ((it,.HI (l.map enc) seen)::Al s)):Goal P w0 H0 N (.loop c) Q Γ:=by
 intro a w H y;refine wp_loop_ghost (λ(i:A3 Nat×σ) a w=>(∀h,h.Perm (NW l i.1)->Qz f h i.2 K=some r)/\∃H,Sat w0 H0 N ((it,.HI (l.map enc) i.1)::Al i.2) a w H) (λi=>(NW l i.1).length) ([],s0) ⟨λh k=>o h (k.trans (by rw[aiG])),H,y.weaken A.sub⟩ ?_
 .rintro⟨seen,s⟩ a w ⟨hI,H,y⟩;refine UZ (round seen s (λj x n v=>?_) (λC=>?_) a w H y) λe M w' q=>?_
  .have b:=hI (x::NW l (seen++[j])) (lX n v);unfold Qz at b;simp[NV] at b;let⟨s1,F,_⟩:=Ay b;let⟨s2,G,_⟩:=Ay F;exact⟨s2,G⟩
  .have:NW l seen=[]:=by
    unfold NW;have:((List.range l.length).filter λj=> !seen.contains j)=[]:=List.filter_eq_nil_iff.2 λj n=>by have:=C j (by simpa using n);simp[this]
    rw[this];rfl
   have b:=hI [] (by rw[this]);exact b
  .cases e with
   |normal=>
    let⟨j,x,s',n,v,I,H',J⟩:=q;refine⟨(seen++[j],s'),⟨λh k=>?_,H',J⟩,?_⟩
    .have b:=hI (x::h) ((k.cons x).trans<|lX n v);unfold Qz at b⊢;simp[NV] at b;rw[I] at b;exact b
    .have:=(lX n v).length_eq;simp at this;simp only;omega
   |_=>exact q
def Ah.MV(P:Bz)(w:AS)(X:Nat->Prop):Ah P:=⟨w,X,none,false,[],0,EU _,λ_ _=>EU _⟩
def P7:Act:=⟨#[],[]⟩
structure H7(P:Bz)(f:FuncId)(pre:A3 Ty)(s s':AT)(post:A3 Ty)(Ct:A3 Ty):Prop where
 can:FQ P f=true
 run:∀(w:AS) (H:HV) (v:AW) (ps qs:A3 AW),(∀r o,H r=some o->w.heap[r]? =some o)->JD P H->Du H pre ps->Du H post qs->s.holds (Ah.MV P w λb=>s.owns w v b) P7 w H v->Calls P f (ps++v::qs).toArray w λe w'=>∃r,e= .returned r/\∃H',On (λb=>s.owns w v b) w H w' H'/\s'.holds (Ah.MV P w λb=>s.owns w v b) P7 w' H' v/\(∀b,s'.owns w' v b->s.owns w v b\/w.heap.size<=b)/\JE H' Ct r
inductive E3(Γ:Ctx):C9->Nat->Prop where
 |own {t:Nat}:E3 Γ (.tmp t) t|same {u t:Nat} (h:look Γ u=some (.same t)):E3 Γ (.tmp u) t|ptr {u t:Nat} (h:look Γ u=some (.ptr t 0)):E3 Γ (.tmp u) t
def E3.ok{x:C9}(h:E3 Γ x t){a:Act}(e:Sat w0 H0 N Γ a w H):a.eval x=Ad a t:=by
 cases h with
 |own=>rfl|same h=>exact e.holds _<|B8 h
 |ptr h=>
  let⟨b,f,j⟩:=e.holds _<|B8 h
  simp only at f j;rw[f];exact j
theorem xR{a:Act}{w':AS}{H':HV}(j:Sat w0 H0 N Γ a w H)(R:(t,s)∈Γ)(hi:s.E8=false)(W:s'.E8=false)(Z:∀q∈BH t Γ,q.2.E8=true->∀b,s.owns w (Ad a t) b->w0.lo<=b)
 (f:On (λb=>s.owns w (Ad a t) b) w H w' H')(MB:s'.holds w0 a w' H' (Ad a t))(C:∀b,s'.owns w' (Ad a t) b->s.owns w (Ad a t) b\/w.heap.size<=b):Sat w0 H0 N ((t,s')::BH t Γ) a w' H':=by
 have S:=j.holds _ R;have Da:∀b,s.owns w (Ad a t) b->w0.Da b:=λb v=>AT.My hi S v
 have other:∀q∈BH t Γ,∀b,q.2.owns w (Ad a q.1) b-> ¬s.owns w (Ad a t) b:=λq y b v G=>j.sep _ R q (Cp q y).1 (λe=>(Cp q y).2 e.symm) b G v
 have key:∀q∈BH t Γ,q.2.holds w0 a w' H' (Ad a q.1)/\∀b,q.2.owns w' (Ad a q.1) b↔q.2.owns w (Ad a q.1) b:=λq y=>by
  refine AT.U7 (n:=w0.lo) (j.holds q (Cp q y).1) (λ_=>rfl) ?_;have U:∀b,b<w.heap.size->(b<w0.lo\/q.2.owns w (Ad a q.1) b)->w'.heap[b]? =w.heap[b]? /\H' b=H b:=λb v h=>f.DT b v (λF=>by
   rcases h with h|h
   .have:=Ah.OB (Da b F);omega
   .exact other q y b h F)
  exact⟨f.size,f.os,f.tape,f.output,f.drawn,f.le,λb v h=>(U b v h).1,λb v h=>(U b v h).2,f.sub⟩
 refine⟨?_,j.sz,?_,?_,f.sub,?_,?_,j.gl.mono f.le⟩
 .refine j.nd.kept λD _ I F=>?_
  have X: ¬s.owns w (Ad a t) D:=λJ=>by let⟨_,_,o,C,Y⟩:=AT.H8 S J;rw[I] at C;cases C;exact Y
  have:=f.DT D (lt_of_heap I) X;exact⟨by rw[this.1];exact I,by rw[this.2];exact F⟩
 .refine⟨f.os.trans j.below.os,f.tape.trans j.below.tape,f.output.trans j.below.output,CA j.below.drawn f.drawn,CA j.below.size f.size,λM k V A=>?_⟩;rw[(f.DT k (I6 V j.below.size) (λh=>by
   rcases Da k h with h|h
   .omega
   .exact A h)).1]
  exact j.below.block M k V A
 .intro M r z A;rw[(f.DT r (I6 z j.below.size) (λh=>by
   rcases Da r h with h|h
   .omega
   .exact A h)).2]
  exact j.FY M r z A
 .grind
 .have low:∀q∈BH t Γ,∀b,q.2.owns w' (Ad a q.1) b-> ¬s'.owns w' (Ad a t) b:=λq y b v J=>by
   have v:=((key q y).2 b).1 v;rcases C b J with h|h
   .grind
   .have:=(AT.H8 (j.holds q (Cp q y).1) v).1;omega
  intro q y r z O b v G;rcases Ak.1 y with e|y<;>rcases Ak.1 z with e'|z
  .grind
  .grind
  .grind
  .exact j.sep q (Cp q y).1 r (Cp r z).1 O b (((key q y).2 b).1 v)<|((key r z).2 b).1 G
def agQ{o:Oper}{f:FuncId}{xs ys:A3 C9}{C j I:A3 Ty}{n:Nat}{Al:Ctx}(M:∀q∈Al,q∈Γ)(W:H7 P f C s s' j I)(F:(o.dst,o.guard)=(some n,none))(O:∀{w0:Ah P} {H0:HV} {N:Nat} {a:Act} {w:AS} {H:HV},Sat w0 H0 N Al a w H->execOp a.eval o=callFunc f (xs.map a.eval++Ad a t::ys.map a.eval).toArray)(X:look Al t=some s)(hi:(s.E8||s'.E8)=false)(Z:s.Bv=[])(G:s'.Bv=[])
 (ha:AR Al xs C)(y:AR Al ys j)(MA:n<N)(R:n≠t):Step P N ops o Γ ((n,Gs I)::(t,s')::del n (BH t Γ)):=by
 intro w0 H0 a w H A K Q k;have hg:o.guard=none:=congrArg Prod.snd F;have hd:o.dst=some n:=congrArg Prod.fst F;simp[Region.wanted,hg,if_true];simp[Ie] at hi;have z:=A.weaken M;have J:=A.holds _<|M _<|B8 X
 simp only at J;unfold Oper.wp;rw[O z,Ml W.can,Uh,hd];have S:s.holds (Ah.MV P w λb=>s.owns w (Ad a t) b) P7 w H (Ad a t):=AT.Mx (a:=a) (λt h=>by rw[Z] at h;cases h) (AT.Pg hi.1 J λb y=> .inr y)
 refine(W.run w H _ _ _ A.sub A.gl (ha.ok z) (y.ok z) S).mono ?_;rintro e w' ⟨r,rfl,H',hy,MB,Y,hr⟩;have U:s'.holds w0 a w' H' (Ad a t):=AT.Mx (a:=P7) (λt h=>by rw[G] at h;cases h) (AT.Pg hi.2 MB λb y=>by
  rcases Y b y with h|h
  .exact AT.My hi.1 J h
  .exact .inl<|CA A.below.size h)
 have h1:=xR A (M _<|B8 X) hi.1 hi.2 (λq V _ b y=>Ah.OB<|AT.My hi.1 J y) hy U Y;have h2:=O2 (h1.weaken (Ar:=del n ((t,s')::BH t Γ)) K0) MA N1 (s:=Gs I) (v:=r) (by match I with|[]=>simp[Gs,AT.Bv]|[_]=>simp[Gs,AT.Bv]|_::_::_=>simp[Gs,AT.Bv]) (U3 hr)<|λb e=>absurd e<|AT.free_spec UC
 refine k _ w' H'<|h2.weaken λq V=>?_
 simp[Ak] at V⊢;rcases V with h|h|h
 .exact .inl h
 .subst h;exact .inr (Q8 (by simp) (λe=>R e.symm) (by simp only;rw[G];simp))
 .have:=qR h;exact .inr<|Q8 (Bg _<|K0 _ h) this.1 this.2
def wU{f:FuncId}{x:C9}{xs ys:A3 C9}{v:B9 Ap}{j b y:A3 Ty}{h:Nat}{Al:Ctx}(z:∀q∈Al,q∈Γ)(A:H7 P f j s s' b y)(C:E3 Al x t)(F:look Al t=some s)(hi:(s.E8||s'.E8)=false)(G:s.Bv=[])(k:s'.Bv=[])
 (I:AR Al xs j)(J:AR Al ys b)(M:h<N)(n:h≠t):Step P N ops ⟨some h,.call ⟨.value<| .func f,(xs++x::ys).toArray,v⟩,ty,pos,af,none⟩ Γ ((h,Gs y)::(t,s')::del h (BH t Γ)):=by
 refine agQ z A rfl (λ{_ _ _ a _ _} o=>?_) F hi G k I J M n;have e:execOp a.eval ⟨some h,.call ⟨.value<| .func f,(xs++x::ys).toArray,v⟩,ty,pos,af,none⟩=callFunc f (#[]++(xs++x::ys).toArray.map a.eval++ #[]):=rfl;rw[e]
 congr 1
 simp[C.ok o]
end
section
variable[D:DR]
variable{P:Program}{w0:Ah P}{H0:HV}{N:Nat}{Q:Exit->Act->World->Prop}{Γ Ar:Ctx}
variable{fn:Func}{Ct:A3 Ty}{s s':AT}
def aba(P:Bz)(w:AS)(H:HV)(v:AW)(s s':AT)(Ct:A3 Ty)(e:Ending)(w':AS):Prop:=∃r,e= .returned r/\∃H',On (λb=>s.owns w v b) w H w' H'/\s'.holds (Ah.MV P w λb=>s.owns w v b) P7 w' H' v/\(∀b,s'.owns w' v b->s.owns w v b\/w.heap.size<=b)/\JE H' Ct r
def qw(P:Bz)(fn:Func)(w:AS)(H:HV)(v:AW)(s s':AT)(Ct:A3 Ty):Exit->Act->AS->Prop:=bodyPostM (Eo none) 0 P fn<|aba P w H v s s' Ct
def aiF{rs:A3 ResultVar}{k:AS}{v:AW}{i:Nat}(C:w0=Ah.MV P k λb=>s.owns k v b)(J:∀b,s.owns k v b->H0 b=none)(F:∀r o,H0 r=some o->r<k.heap.size)(G:fn.results=rs.toArray)(h:AY P Γ rs Ct)(M:look Γ i=some s')(O:look Γ N=some (.IH i v))(hi:s'.E8=false)(n:s'.Bv=[])
 {a:Act}{w:AS}{H:HV}(f:Sat w0 H0 N Γ a w H):LeavesInM (Eo none) 0 P fn a.tmps (aba P k H0 v s s' Ct) a.defers .returning w:=by
 subst C;refine Tv rfl rfl (a:=a) (ds:=a.defers) f λw H f=>?_
 let⟨vs,R,j⟩:=h.run f;have q:=Q6 j;rw[Wz G];simp only[DS,Sem.run_map,R,DH,I2];have I:Ad a i=v:=f.holds _<|B8 O
 have y:=f.holds _<|B8 M
 simp only at y;have S:Ad {a with defers:=[]} i=v:=I;rw[S] at y;refine⟨_,rfl,_,rfl,H,⟨f.below.size,f.below.os,f.below.tape,f.below.output,f.below.drawn,?_,?_,f.sub⟩,AT.Mx (λt h=>by rw[n] at h;cases h) y,?_,?_⟩
 .intro r o ho;rw[f.FY rfl r (F r o ho) (λz=>by have:=J r z;rw[this] at ho;cases ho)];exact ho
 .exact λb A z=>⟨f.below.block rfl b A z,f.FY rfl b A z⟩
 .intro b A;rcases AT.My hi y A with h|h
  .exact .inr h
  .exact .inl h
 .match Ct,j,q with
  |[],j,n=>have:vs=[]:=j;subst this;exact⟨#[],rfl,rfl⟩
  |[τ],j,n=>let⟨v,rest,e,I,G⟩:=j;have:rest=[]:=G;subst this;subst e;exact I
  |τ::G5::l,j,n=>
   have: ¬vs.toArray.size=1:=by simp[n]
   rw[dif_neg this];exact⟨vs.toArray,rfl,by simpa using j⟩
structure gU(P:Bz)(w0:Ah P)(H0:HV)(w1:AS)(v:AW)(s:AT):Prop where
 eq:w0=Ah.MV P w1 λb=>s.owns w1 v b
 no:∀b,s.owns w1 v b->H0 b=none
 lt:∀r o,H0 r=some o->r<w1.heap.size
def aaK{rs:A3 ResultVar}{e:AS}{v:AW}{i:Nat}(b:gU P w0 H0 e v s)(f:fn.results=rs.toArray)(h:AY P Γ rs Ct)(j:look Γ i=some s')(k:look Γ N=some (.IH i v))(hi:s'.E8=false)(n:s'.Bv=[]):Df w0 H0 N (λa w=>qw P fn e H0 v s s' Ct .ret a w) Γ:=λ_ _ _ o=>aiF b.eq b.no b.lt f h j k hi n o
def mE:∀{l:A3 Ty} {i:Nat},∀p∈G3 i l,i<=p.1/\p.1<i+l.length/\p.2.free=true/\p.2.E8=false
 |[],_,p,b=>by simp[G3] at b
 |τ::l,i,p,b=>by
  simp only[G3,Ak] at b;rcases b with e|b
  .subst e;exact⟨BJ _,by simp,rfl,rfl⟩
  .have:=mE p b;refine⟨by omega,by simp;omega,this.2.2.1,this.2.2.2⟩
def lW{f:FuncId}{c:Code}{k y:A3 Ty}{N:Nat}(hf:P.funcs[f]? =some fn)(A:fn.body=some c)(hN:fn.ntmps=N)(hn:k.length+1+y.length<=N)(hc:FQ P f=true)(hl:s.Bv=[])(hi:s.E8=false)
 (h:∀(W:AS) (v:AW) (w0:Ah P) (H0:HV),gU P w0 H0 W v s->Goal P w0 H0 N c (qw P fn W H0 v s s' Ct) ((N,.IH k.length v)::(k.length,s)::(G3 0 k++G3 (k.length+1) y))):H7 P f k s s' y Ct:=by
 subst hN;refine⟨hc,λw H v ps O sub gl C G X=>?_⟩;have IP:Du H (k++y) (ps++O):=X0 C G;have Y:=Q6 C;have hql:=Q6 G;have V:gU P (Ah.MV P w λb=>s.owns w v b) H w v s:=⟨rfl,λb A=>(AT.H8 X A).2.1,λr o ho=>Ft sub ho⟩;refine(callsIn_wide (n:=0)).1<|callsIn_of_wp_marks (F:=Fence.wide) hf A trivial<|h w v _ H V _ w H ?_
 obtain⟨a,U⟩:∃a:Act,a={tmps:=(ps++v::O).toArray++Array.replicate (fn.ntmps-(ps++v::O).toArray.size) undef,defers:=[]}:=⟨_,rfl⟩;rw[<-U];have I:∀j x,(ps++v::O)[j]? =some x->Ad a j=x:=λj x J=>by
  have Yj:=(EP.1 J).1;have e:((ps++v::O).toArray++Array.replicate (fn.ntmps-(ps++v::O).toArray.size) undef)[j]? =some x:=by rw[Array.getElem?_append_left (by simpa using Yj)];simpa using J
  rw[U];simp only[Ad,SX,e,Y9]
 have R:Ad a k.length=v:=I _ _ (by rw[<-Y];simp);have e1:∀p∈G3 0 k,p.2.holds (Ah.MV P w λb=>s.owns w v b) a w H (Ad a p.1):=aV 0 C λj x J=>I _ _ (by rw[N9,K4 (EP.1 J).1];exact J)
 have e2:∀p∈G3 (k.length+1) y,p.2.holds (Ah.MV P w λb=>s.owns w v b) a w H (Ad a p.1):=aV (k.length+1) G λj x J=>I _ _ (by rw[K5 (by omega),<-Y,show ps.length+1+j-ps.length=j+1 by omega];simpa using J)
 have S:∀p∈(fn.ntmps,AT.IH k.length v)::(k.length,s)::(G3 0 k++G3 (k.length+1) y),p.1≠k.length->∀b,¬p.2.owns w (Ad a p.1) b:=by
  intro p z M b A;simp only[Ak,Bi] at z;rcases z with e|e|z|z
  .subst e;exact A
  .subst e;exact M rfl
  .exact AT.free_spec (mE p z).2.2.1 A
  .exact AT.free_spec (mE p z).2.2.1 A
 refine⟨by rw[U];trivial,by rw[U];simp;omega,⟨rfl,rfl,rfl,BJ _,BJ _,λ_ _ _ _=>rfl⟩,λ_ _ _ _=>rfl,sub,?_,?_,gl⟩
 .intro p z;simp only[Ak,Bi] at z;rcases z with e|e|z|z
  .subst e;exact R
  .subst e;simp only;rw[R];exact AT.Mx (λt h=>by rw[hl] at h;cases h) X
  .exact e1 p z
  .exact e2 p z
 .intro p z q hq M b A DI;by_cases Z:p.1=k.length
  .exact S q hq (λe=>M<|Z.trans e.symm) b DI
  .exact S p z Z b A
end
@[reducible] def rN(_:Unit):Ty:=TEq .nilIface rfl
def FF:Int:=18446744073709551616
def Fi(x:Int):Bool:=decide (0<=x)&&decide (x<18446744073709551616)
def JR(x y c:Int):A9 (Int×Int):=bif (Fi x&&Fi y)&&(decide (c=0)||decide (c=1)) then some ((x+y+c)%FF,(x+y+c)/FF) else none
def QA(x y b:Int):A9 (Int×Int):=bif (Fi x&&Fi y)&&(decide (b=0)||decide (b=1)) then some ((x-y-b)%FF,bif decide (x<y+b) then 1 else 0) else none
def Cc(z:Int):Bool:=Nat.blt (Nat.log2 z.natAbs) 1099511627776
def Dh{α:Type}(b:Bool)(x:α):A9 α:=bif b then some x else none
def TD(x y:Int):Int:=bif decide (x<y) then -1 else bif decide (y<x) then 1 else 0
def qm(z:Int):A9 Int:=some z.sign
def abX(z:Int):A9 Int:=some<| -z
def rM(z:Int):A9 Int:=some (z.natAbs:Int)
def Z2(x y:Int):A9 Int:=Dh (Cc x&&Cc y)<|TD x y
def R3(x y:Int):A9 Int:=Dh (Cc x&&Cc y)<|x+y
def ID(x y:Int):A9 Int:=Dh (Cc x&&Cc y)<|x*y
def abN(x y:Int):A9 Int:=Dh (Cc x&&Cc y&& !decide (y=0))<|x.fdiv y
def Nf(x y:Int):A9 Int:=Dh (Cc x&&Cc y) (Int.gcd x y:Int)
def aOf(x:Int):A9 Int:=AG x
def Ob(z:Int):A9 (Int×Bool):=Dh (!decide (z= -9223372036854775808))<|bif Gb z then(z,true) else(z.sign,false)
def qn(z:Int):A9 Int:=Dh (Cc z)<|bif decide (z=0) then 0 else(Nat.log2 z.natAbs:Int)+1
def Z0:Nat->Nat->A3 UInt8->A3 UInt8
 |0,_,acc=>acc|f+1,n,acc=>bif Nat.blt n 10 then UInt8.ofNat (48+n)::acc else Z0 f (n/10) (UInt8.ofNat (48+n%10)::acc)
def B5(n:Nat):A3 UInt8:=Z0 (n+1) n []
def Br(z:Int):A3 UInt8:=bif decide (z<0) then 45::B5 z.natAbs else B5 z.natAbs
def Ya(z:Int):A9 (A3 UInt8):=bif Gb z then some (Br z) else none
def fj(z b:Int):A9 (A3 UInt8):=Dh (Fi z&&decide (b=10))<|B5 z.toNat
def iJ(l:A3 UInt8):Nat->A3 UInt8
 |0=>[]|c+1=>l++iJ l c
def fi(s:A3 UInt8)(c:Int):A9 (A3 UInt8):=Dh (decide (0<=c)&&decide (c<=64)&&decide (s=[48]))<|iJ s c.toNat
def ND(z:Int):A9 (A3 UInt8):=Dh (Cc z)<|Br z
def EC(q:Rat):Bool:=Nat.blt (Nat.log2 q.num.natAbs) 68719476736&&Nat.blt (Nat.log2 q.den) 68719476736
def MT(x y:Int):A9 Rat:=Dh (Cc x&&Cc y&& !decide (y=0))<|(x:Rat)/(y:Rat)
def JO(q:Rat):A9 Bool:=some<|decide<|q.den=1
def VI(x:Int):A9 Rat:=some (x:Rat)
def Qw(q:Rat):A9 Rat:=some<| -q
def Jg(x y:Rat):A9 Rat:=Dh (EC x&&EC y)<|x+y
def La(x y:Rat):A9 Rat:=Dh (EC x&&EC y)<|x-y
def FE(x y:Rat):A9 Rat:=Dh (EC x&&EC y)<|x*y
def Qx(x y:Rat):A9 Rat:=Dh (EC x&&EC y&& !decide (y=0))<|x/y
def Yx(x:Rat):A9 Rat:=Dh (EC x&& !decide (x=0)) x⁻¹
def Jf(x y:Rat):A9 Int:=Dh (EC x&&EC y)<|bif decide (x<y) then -1 else bif decide (y<x) then 1 else 0
def Ki(x y:Rat):A9 Bool:=Dh (EC x&&EC y)<|decide<|x=y
def HG(x:Rat):A9 Int:=some x.num.sign
def qF(x:Int):A9 Rat:=(AG x).map λz=>(z:Rat)
def mkq(a b:Int):A9 Rat:=match b with| .ofNat (d+1)=>Dh (Nat.beq (Nat.gcd a.natAbs<|d+1) 1)<|mkRat a<|d+1|_=>none
def xx{a b:Int}{r:Rat}(h:mkq a b=some r):r.num=a/\(r.den:Int)=b:=by
 unfold mkq at h;split at h
 .rename_i d;unfold Dh at h;cases e:Nat.beq (Nat.gcd a.natAbs<|d+1) 1
  .rw[e] at h;cases h
  .rw[e] at h;have h:=(E2 h).symm;subst h;have f:Nat.gcd a.natAbs (d+1)=1:=DX e;rw[Rat.num_mkRat,Rat.den_mkRat];rw[QD] at f;simp[f]
 .cases h
def qI[D:DR]{a b:Int}{r:Rat}(h:mkq a b=some r):(AT.val<|Cl [De a,De b])= .val (Be r):=by let⟨e,f⟩:=xx h;rw[<-e,<-f]
def DM(b:UInt8):Bool:=Nat.ble 48 b.toNat&&Nat.ble b.toNat 57
def BP(l:A3 UInt8):Nat:=l.foldl (λn b=>10*n+(b.toNat-48)) 0
def Yb(s:A3 UInt8):A9 (Int×Unit):=Dh (!s.isEmpty&&Nat.ble s.length 18&&s.all DM) ((BP s:Int),())
def cutAt(sep:UInt8):A3 UInt8->A3 UInt8->A3 UInt8×A3 UInt8×Bool
 |pre,[]=>(pre.reverse,[],false)|pre,b::l=>bif b==sep then(pre.reverse,l,true) else cutAt sep (b::pre) l
def gh(s sep:A3 UInt8):A9 (A3 UInt8×A3 UInt8×Bool):=match sep with|[c]=>Dh (Nat.blt s.length 4294967281)<|cutAt c [] s|_=>none
def Hp(s:A3 UInt8):A9 Int:=match s with|45::ds=>Dh (ds.all DM&&Nat.blt ds.length 1000000)<| -(BP ds:Int)|ds=>Dh (ds.all DM&&Nat.blt ds.length 1000000) (BP ds:Int)
abbrev V3:=Rat×Rat×Rat
abbrev BV:=(Int×Int×Int)×A3 UInt8
def Q4{α:Type}:A3 α->A3 (α×α)
 |[]=>[]|a::l=>(a::l).zip<|l++[a]
def Lc{α:Type}(c:α->α->A9 Int)(x:α):A3 α->A9 (A3 α)
 |[]=>some [x]|y::l=>bd (c x y) λk=>cond (decide<|k<0) (bd (Lc c x l) λr=>some (y::r))<|some (x::y::l)
def fz{α:Type}(c:α->α->A9 Int)(l:A3 α):A9 (A3 α):=HW l (λnext x s=>bd (Lc c x s) next) [] λs=>some s.reverse
def VW{α:Type}(e:α->α->A9 Bool):α->A3 α->A9 (A3 α)
 |_,[]=>some []|x,y::l=>bd (e y x) λb=>bd (VW e y l) λr=>some<|cond b r (y::r)
def akd{α:Type}(e:α->α->A9 Bool):A3 α->A9 (A3 α)
 |[]=>some []|x::l=>bd (VW e x l) λr=>some (x::r)
def Vh{α:Type}[DecidableEq α](c:α×α->A9 Int)(x:α):A3 α->Bool
 |[]=>true
 |y::l=>(bif decide (x=y) then true else match c (x,y),c (y,x) with|some i,some j=>decide (i<0)&&decide (0<=j)|_,_=>false)&&Vh c x l
def MS{α:Type}[DecidableEq α](c:α×α->A9 Int):A3 α->Bool
 |[]=>true
 |x::l=>(match c (x,x) with|some i=>decide<|0<=i|none=>false)&&(Vh c x l&&MS c l)
def totB{α:Type}(c:α×α->A9 Int)(l:A3 α):Bool:=l.all λx=>l.all λy=>(c (x,y)).isSome
def Gk{α:Type}[DecidableEq α](l:A3 α)(c:α×α->A9 Int):A9 (A3 α):=bd (fz (λa b=>c (a,b)) l) λs=>Dh (Nat.blt l.length 4611686018427387904&&(totB c l&&MS c s)) s
def XF{α:Type}(l:A3 α)(e:α×α->A9 Bool):A9 (A3 α):=akd (λa b=>e (a,b)) l
def Pq(l:A3 V3):A9 (A3<|V3×V3):=Dh (Nat.blt l.length 1000000000)<|Q4 l
section
variable[D:DR]
variable{P:Program}{w0:Ah P}{H0:HV}{N:Nat}{ops:Array Oper}{Q:Exit->Act->World->Prop}{Γ Ar:Ctx}{d:Option Tmp}{ty:TypeId}{pos:String}{af:Array Edge}{g:Option (Nat×Bool)}
variable{T:Ap}{ps:A3 Bm}{τ:Ty}{t:Nat}
@[reducible] def TMp{α β:Type}(fK:α->Ty)(F:β->Ty)(l:A3 (α×β)):Ty:=iV<|l.map λp=>(fK p.1,F p.2)
def n5{l:A3 Ty}(gg:Bool)(h:DF P T τ)(j:∀H v,τ.ok H v->Cx H l v.cells.toList)(y:FW l ps):B0 P Γ ⟨d,.alloc T,ty,pos,af,g⟩ (.Cg T gg ps):=
 Jn λw0 _ _ a w H k=>by
  let⟨z,A,C⟩:=h.run w;have F:=Ext.alloc k.sub<| .cells z.cells T (0,0)
  let⟨G,n,I⟩:=y.ok (B:=w0) (a:=a) (w:=w.alloc<| .cells z.cells T (0,0))<|j H z<|C H
  refine⟨.pointer<|some ⟨w.heap.size,0,none⟩,w.alloc<| .cells z.cells T,H,?_,F,?_,?_⟩
  .simp[execOp,Instr.alloc,A,newVar,newRow]
  .refine⟨w.heap.size,z.cells,rfl,JX w _,?_,.inl k.below.size,G,I,n _⟩;cases J:H w.heap.size with|none=>rfl|some o=>have:=Ft k.sub J;omega
  .rintro b ⟨c,e,f⟩;cases e;rcases f with f|⟨cs,q,f⟩
   .omega
   .rw[JX] at q;cases q;exact absurd f<|n b
def alw{x:C9}{l:A3 Ty}(gg:Bool)(q:Arg Γ x τ)(j:∀H v,τ.ok H v->Cx H l v.cells.toList)(y:FW l ps):B0 P Γ ⟨d,.box T x,ty,pos,af,g⟩ (.Cg T gg ps):=
 Jn λw0 _ _ a w H f=>by
  have z:=Ext.alloc f.sub<| .cells (a.eval x).cells T (0,0)
  let⟨A,k,C⟩:=y.ok (B:=w0) (a:=a) (w:=w.alloc<| .cells (a.eval x).cells T (0,0))<|j H _<|q.ok f
  refine⟨.pointer<|some ⟨w.heap.size,0,none⟩,w.alloc<| .cells (a.eval x).cells T,H,?_,z,?_,?_⟩
  .simp[execOp,Instr.box,newVar,newRow]
  .refine⟨w.heap.size,(a.eval x).cells,rfl,JX w _,?_,.inl f.below.size,A,C,k _⟩;cases F:H w.heap.size with|none=>rfl|some o=>have:=Ft f.sub F;omega
  .rintro b ⟨c,e,h⟩;cases e;rcases h with h|⟨cs,n,h⟩
   .omega
   .rw[JX] at n;cases n;exact absurd h<|k b
def apM{u:Nat}(j:look Γ u=some (.same t))(k:look Γ t=some (.val τ)):GX w0 N Γ ((u,.val τ)::BH u Γ):=λH0 a w H f=>by
 have e:=f.holds _<|B8 j
 have n:=f.holds _<|B8 k
 exact⟨H,lP (us:=[]) f (λq o=>Cp q o) (by rw[show Ad a u=Ad a t from e];exact n) (λb h=>h.elim) (λ_ _ h=>by cases h)⟩
def YS{p off i b:Nat}{T':Ap}{gg:Bool}{pp:Bm}(sm:Bool)(j:EY Γ p t off)(k:look Γ t=some (.Cg T' gg ps))(hi:ps[i]? =some pp)(o:Bf ps i=off)(f:(pp.n,pp.agg)=(1,false))(q:Bj P T 1 false=true)(v:b<N)(e:(b !=t&& !(Oh ps).contains b)=true):Step P N ops ⟨some b,.load T<| .tmp p,ty,pos,af,none⟩ Γ ((b,pp.sty)::(t,.Cg T' gg<|ps.set i<|Qi b sm)::del b (BH t Γ)):=by simp[Bq,Jv,ne_eq,F6,pO,Gm] at e;exact zZ (λ_ h=>h) sm j k hi o (congrArg Prod.fst f) (congrArg Prod.snd f) q v e.1 e.2
def aDd{p off i b:Nat}{T':Ap}{gg:Bool}{pp:Bm}(sm:Bool)(h:EY Γ p t off)(j:look Γ t=some (.Cg T' gg ps))(hi:ps[i]? =some pp)(k:Bf ps i=off)(f:(pp.n,pp.agg)=(1,false))(o:Bj P T 1 false=true)(q:b<N)(e:(b !=t&& !(Oh ps).contains b)=true):iU P N ops Γ ⟨some b,.load T<| .tmp p,ty,pos,af,none⟩ t (.Cg T' gg<|ps.set i<|Qi b sm) b pp.sty:=λy v=>by simp[Bq,Jv,ne_eq,F6,pO,Gm] at e;exact zZ v sm h j hi k (congrArg Prod.fst f) (congrArg Prod.snd f) o q e.1 e.2
end
section
variable[D:DR]
variable{P:Program}{w0:Ah P}{H0:HV}{N:Nat}{ops:Array Oper}{Q:Exit->Act->World->Prop}{Γ Ar:Ctx}{d:Option Tmp}{ty:TypeId}{pos:String}{af:Array Edge}{g:Option (Nat×Bool)}
variable{α β:Type}[DecidableEq α]{K E Eb T:TypeId}{sz:Nat}{fK:α->Ty}
def alN{F:β->Ty}{m k v:C9}{t:Nat}{l:A3 (α×β)}{x:α}{y:β}(b:T9 P T K E=true)(e:QT P K fK)(f:Oq Γ m t)(h:look Γ t=some (.Fa K E Eb sz<|mM fK (λv=> .val<|F v) l))(j:Arg Γ k (fK x))(n:Arg Γ v (F y)):Ma P N ops Γ ⟨none,.mapUpdate T m k v,ty,pos,af,none⟩ t (.Fa K E Eb sz<|mM fK (λv=> .val<|F v)<|Va l x y):=λ_ o=>aef o b e f h j n
def ans{K E Eb T:Ap}{sz:Nat}{α β:Type}(fK:α->Ty)(fV:β->Cm):B0 P Γ ⟨d,.makeMap T none,ty,pos,af,g⟩ (.Fa K E Eb sz<|mM fK fV ([]:A3 (α×β))):=agK
def ajP{t:Nat}{F:β->Ty}{l:A3 (α×β)}(b:look Γ t=some (.Fa K E Eb sz<|mM fK (λv=> .val<|F v) l)):GX w0 N Γ ((t,.val<|TMp fK F l)::BH t Γ):=alm b (λp e=>by obtain⟨q,_,rfl⟩:=B4.1 e;rfl) (by simp[mM,iL,Cm.pub])
end
section
variable[D:DR]
variable{P:Program}{w0:Ah P}{H0:HV}{N:Nat}{ops:Array Oper}{Q:Exit->Act->World->Prop}{Γ Ar:Ctx}{d:Option Tmp}{ty:TypeId}{pos:String}{af:Array Edge}{g:Option (Nat×Bool)}
variable{t:Nat}
def Pp{f:FuncId}{x:C9}{xs ys:A3 C9}{o:B9 Ap}{e b Ct:A3 Ty}{s s':AT}{j:Nat}(q:H7 P f e s s' b Ct)(v:E3 Γ x t)(y:look Γ t=some s)(hi:(s.E8||s'.E8)=false)(n:(s.Bv,s'.Bv)=([],[]))
 (z:AR Γ xs e)(A:AR Γ ys b)(C:j<N)(k:(j !=t)=true):Step P N ops ⟨some j,.call ⟨.value<| .func f,(xs++x::ys).toArray,o⟩,ty,pos,af,none⟩ Γ ((j,Gs Ct)::(t,s')::del j (BH t Γ)):=wU (λ_ h=>h) q v y hi (congrArg Prod.fst n) (congrArg Prod.snd n) z A C (by simpa using k)
def aiy{f:FuncId}{x:C9}{xs ys:A3 C9}{n:B9 Ap}{e b Ct:A3 Ty}{s s':AT}{h:Nat}(o:H7 P f e s s' b Ct)(q:E3 Γ x t)(v:look Γ t=some s)(hi:(s.E8||s'.E8)=false)(k:(s.Bv,s'.Bv)=([],[]))
 (y:AR Γ xs e)(z:AR Γ ys b)(A:h<N)(j:(h !=t)=true):iU P N ops Γ ⟨some h,.call ⟨.value<| .func f,(xs++x::ys).toArray,n⟩,ty,pos,af,none⟩ t s' h (Gs Ct):=λ_ C=>wU C o q v hi (congrArg Prod.fst k) (congrArg Prod.snd k) y z A (by simpa using j)
def UR{w0:Ah P}{u i:Nat}{T':Ap}{gg:Bool}{ps:A3 Bm}{E:Ap}{sz:Nat}{l:A3 Ty}(f:look Γ t=some (.Cg T' gg ps))(hi:ps[i]? =some (.sm u))(h:look Γ u=some (.buf E sz l))(b:(u !=t)=true):GX w0 N Γ ((t,.Cg T' gg<|ps.set i<| .buf E sz l)::BH t (BH u Γ)):=amr (.buf E sz l) f hi h b rfl (λe=>by cases e)
end
section
variable[D:DR]
variable{P:Program}{w0:Ah P}{H0:HV}{N:Nat}{Q:Exit->Act->World->Prop}{Γ Ar:Ctx}{d:Option Tmp}{ty:TypeId}{pos:String}{af:Array Edge}{g:Option (Nat×Bool)}
theorem asC{α β:Type}{f:α->β}{l:A3 α}{j:Nat}(h:j<(l.map f).length):∃x,l[j]? =some x:=by simp_all
def aoO{t i k:Nat}{c:Code}{T:Ap}{gg:Bool}{ps:A3 Bm}{E:Ap}{sz:Nat}{l:A3 Ty}(F:look Γ t=some (.Cg T gg ps))(hi:ps[i]? =some (.buf E sz l))(hk:Nat.ble N k=true)(h:∀x (J:x.oneCell'=true),Goal P w0 H0 N c Q ((k,.LY x E sz l)::(t,.Cg T gg<|ps.set i<| .val<|TEq x J)::BH k (BH t Γ))):Goal P w0 H0 N c Q Γ:=λa w H o=>by
 let⟨b,cs,e,M,Y,Z,R,Ov,J⟩:=o.holds _<|B8 F
 simp only at e;let⟨_,W,h4,_⟩:=OV R hi;have S:=dC R hi;have A:∀c,(pv (.buf E sz l) (Bf ps i) cs.toList).ownBlock=some c->F7 w c ps cs.toList:=λc f=>Mv.2 ⟨i,_,hi,f⟩
 generalize hv:pv (.buf E sz l) (Bf ps i) cs.toList=v at*
 have O:v.oneCell'=true:=(kj W).1;let⟨I7,U,k1,k2,k3⟩:=UM (q:= .val<|TEq v O) (x:=v) R Ov hi W rfl rfl<|λc f=>f.elim
 rw[show I7=cs.toList by rw[U];exact S,hv] at*;have V:∀c,F7 w c (ps.set i<| .val<|TEq v O) cs.toList->F7 w c ps cs.toList/\ ¬v.ownBlock=some c:=λc f=>by
  rcases k3 c f with h|h
  .exact h.elim
  .exact h
 have z:∀c,(AT.Cg T gg<|ps.set i<| .val<|TEq v O).owns w (Ad a t) c->(AT.Cg T gg ps).owns w (Ad a t) c/\ ¬v.ownBlock=some c:=by
  rintro c ⟨c',X,f⟩;rw[e] at X;cases X;rcases f with f|⟨cs3,G,f⟩
  .subst f;exact⟨⟨c,e,.inl rfl⟩,λh=>J<|A c h⟩
  .rw[M] at G;cases G;exact⟨⟨b,e,.inr ⟨cs,M,(V c f).1⟩⟩,(V c f).2⟩
 have I:∀c,v.ownBlock=some c->(AT.Cg T gg ps).owns w (Ad a t) c:=λc f=>⟨b,e,.inr ⟨cs,M,A c f⟩⟩
 have sub:∀q∈BH k (BH t Γ),q∈Γ/\q.1≠t/\q.1≠k:=λq j=>⟨(Cp q (Cp q j).1).1,(Cp q (Cp q j).1).2,(Cp q j).2⟩
 refine h v O a w H ⟨o.nd,o.sz,o.below,o.FY,o.sub,?_,?_,o.gl⟩
 .intro p n;rcases Ak.1 n with C|n
  .subst C;exact h4
  rcases Ak.1 n with C|n
  .subst C;exact⟨b,cs,e,M,Y,Z,k1,k2,λf=>J (V b f).1⟩
  .exact o.holds p (sub p n).1
 .intro p n q j hne c f Od;rcases Ak.1 n with C|n
  .subst C;rcases Ak.1 j with y|j
   .subst y;exact hne rfl
   rcases Ak.1 j with y|j
   .subst y;exact(z c Od).2 f
   .exact o.sep _ (B8 F) q (sub q j).1 (λe=>(sub q j).2.1 e.symm) c (I c f) Od
  rcases Ak.1 n with C|n
  .subst C;rcases Ak.1 j with y|j
   .subst y;exact(z c f).2 Od
   rcases Ak.1 j with y|j
   .subst y;exact hne rfl
   .exact o.sep _ (B8 F) q (sub q j).1 (λe=>(sub q j).2.1 e.symm) c (z c f).1 Od
  .rcases Ak.1 j with y|j
   .subst y;exact o.sep p (sub p n).1 _ (B8 F) (sub p n).2.1 c f<|I c Od
   rcases Ak.1 j with y|j
   .subst y;exact o.sep p (sub p n).1 _ (B8 F) (sub p n).2.1 c f (z c Od).1
   .exact o.sep p (sub p n).1 q (sub q j).1 hne c f Od
def aBN{fn:Func}{rs:A3 ResultVar}{Ct:A3 Ty}{z:AS}{v:AW}{s:AT}(A:gU P w0 H0 z v s)(y:fn.results=rs.toArray)(h:AY P Γ rs Ct):Df w0 H0 N (λa w=>qw P fn z H0 v s .gone Ct .ret a w) Γ:=λa w H f=>by
 let⟨C,F,G⟩:=A;subst C;refine Tv rfl rfl (a:=a) (ds:=a.defers) f λw H f=>?_
 let⟨vs,I,j⟩:=h.run f;have k:=Q6 j;rw[Wz y];simp only[DS,Sem.run_map,I,DH,I2];refine⟨_,rfl,_,rfl,H,⟨f.below.size,f.below.os,f.below.tape,f.below.output,f.below.drawn,?_,?_,f.sub⟩,trivial,(λb n=>n.elim),?_⟩
 .intro r o ho;rw[f.FY rfl r (G r o ho) (λq=>by have:=F r q;rw[this] at ho;cases ho)];exact ho
 .exact λb n q=>⟨f.below.block rfl b n q,f.FY rfl b n q⟩
 .match Ct,j,k with
  |[],j,hl=>have:vs=[]:=j;subst this;exact⟨#[],rfl,rfl⟩
  |[τ],j,hl=>let⟨v,rest,e,J,y⟩:=j;have:rest=[]:=y;subst this;subst e;exact J
  |τ::G5::l,j,hl=>
   have: ¬vs.toArray.size=1:=by simp[hl]
   rw[dif_neg this];exact⟨vs.toArray,rfl,by simpa using j⟩
end
section
variable{p:Bz}
def acz{w w':AS}{at_:Addr}{u:Ap}{k:Addr}{v:AW}{b:Bool}{l:A3 Addr}(h:w.viewStore p at_ u k v b= .ok (w',l)):w'.drawn=w.drawn:=by
 unfold World.viewStore at h;simp only[bind,Except.bind,pure,Except.pure,MonadExcept.throw,throwThe,MonadExceptOf.throw] at h
 repeat' (split at h)
 all_goals first|(cases h;done)|skip
 all_goals (cases h;rfl)
def ade{w w':AS}{a:Addr}{v:AW}{b:Bool}{l:A3 Addr}(h:w.farStore p a v b= .ok (w',l)):w'.drawn=w.drawn:=by
 unfold World.farStore at h;split at h
 .split at h
  .cases h;rename_i e;exact acz e
  .cases h
 .cases h
def nG{α:Type}:∀(q:Ask α) (w:AS),w.drawn<=(w.ask q).2.drawn
 | .done a,w=>by simp[World.ask]
 | .ask at1 range k,w=>by
  unfold World.ask;simp only;split
  .exact nG _ w
  .exact CA (OE w.drawn)<|nG _ {w with drawn:=w.drawn+1}
def ahI(w:AS)(c:Sys):w.drawn<=(w.sys c).2.drawn:=by
 unfold World.sys;split
 .exact BJ _
 .rename_i h;have:=nG (Kernel.perform c w.os) w;rw[h] at this;exact this
def ahp{α:Type}:∀(s:Sem α) {w w':AS} {v:α},s.run p w= .ok v w'->w.drawn<=w'.drawn:=by
 intro s
 induction s with
 |pure a=>intro w w' v h;simp only[Sem.run] at h;cases h;exact BJ _
 |load m a k ih=>
  intro w w' v h;simp only[Sem.run] at h;split at h
  .exact ih _ h
  .split at h
   .exact ih _ h
   .cases h
 |store m a u k ih=>
  intro w w' v h;have key:∀r:Result α,(match w.cell? a with
   |some _=>if w.frozen? a then Result.halt (.unsupported<| .unsafePointer "a write to bytes that a string shares") w else k.run p (w.setCell a u)
   |none=>match w.farStore p a u (m== .atomic) with
    | .ok (w,_)=>k.run p w
    | .error h=>Result.halt h w)=r->r= .ok v w'->w.drawn<=w'.drawn:=by
   intro r b e;subst e;split at b
   .split at b
    .cases b
    .have:= @ih _ _ _ b;exact this
   .split at b
    .rename_i w2 l h2;have:=ih b;rwa [ade h2] at this
    .cases b
  cases u<;>first|(unfold Sem.run at h;cases h;done)|(unfold Sem.run at h;exact key _ rfl h)
 |new o k ih=>intro w w' v h;simp only[Sem.run] at h;have:= @ih _ _ _ _ h;exact this|shape r k ih=>intro w w' v h;simp only[Sem.run] at h;exact ih _ h
 |freeze a n k ih=>
  intro w w' v h;simp only[Sem.run] at h;have:=ih h;have e:(w.freeze a n).drawn=w.drawn:=by unfold World.freeze;split<;>rfl
  rwa [e] at this
 |frozen a k ih=>intro w w' v h;simp only[Sem.run] at h;exact ih _ h
 |getObj r k ih=>intro w w' v h;simp only[Sem.run] at h;split at h<;>first|(cases h;done)|exact ih _ h
 |setObj r o k ih=>
  intro w w' v h;simp only[Sem.run] at h;split at h
  .cases h
  .have:= @ih _ _ _ h;exact this
  .cases h
 |choose q k ih=>
  intro w w' v h;simp only[Sem.run] at h;split at h
  .exact ih _ h
  .have:= @ih _ _ _ _ h;exact CA (OE _) this
 |sys c k ih=>intro w w' v h;simp only[Sem.run] at h;exact CA (ahI w c)<|ih _ h
 |program k ih=>intro w w' v h;simp only[Sem.run] at h;exact ih _ h|mark m k ih=>intro w w' v h;simp only[Sem.run] at h;exact ih h|halt h=>intro w w' v e;simp only[Sem.run] at e;cases e
end
section
variable[D:DR]
variable{P:Program}{w0:Ah P}{H0:HV}{N:Nat}{ops:Array Oper}{Q:Exit->Act->World->Prop}{Γ Ar:Ctx}{d:Option Tmp}{ty:TypeId}{pos:String}{af:Array Edge}{g:Option (Nat×Bool)}
def Pl{f:FuncId}{args Ct:A3 Ty}(j:FQ P f=true)
  (h:∀(w:AS) (H:HV) (vs:A3 AW),(∀r o,H r=some o->w.heap[r]? =some o)->JD P H->Du H args vs->Calls P f vs.toArray w λe w'=>∃v,e= .returned v/\Ea w.heap.size w w'/\JE H Ct v):Dy P f args (.vs Ct):=
 ⟨j,λw H vs sub gl k=>(h w H vs sub gl k).mono λe w' ⟨v,n,b,q⟩=>⟨v,n,b,H,λ_ _=>rfl,λr o y=>by have:=sub r o y;rw[b.block r<|lt_of_heap this];exact this,q⟩⟩
def lB(l:A3 UInt8):A3 Ty:=l.map λb=>TI .u8 (b.toNat:Int)
def YX{H:HV}:∀{l:A3 UInt8} {xs:A3 AW},Cx H (lB l) xs↔xs=Lib.byteCells l
 |[],xs=>Iff.rfl
 |b::l,xs=>by
  show Cx H (TI .u8 (b.toNat:Int)::lB l) xs↔_;constructor
  .rintro⟨v,rest,e,f,hr⟩;have f:v= .int .u8 b.toNat:=f;subst f;rw[YX] at hr;subst hr;exact e
  .intro e;exact⟨.int .u8 b.toNat,Lib.byteCells l,e,rfl,YX.2 rfl⟩
def nB(l:A3 UInt8):(lB l).length=l.length:=by simp[lB]
def afM{T E:Ap}(h:(P.info? T).bind (·.zero)=some (.agg #[.pointer none,.slice none 0 0])):B0 P Γ ⟨d,.alloc T,ty,pos,af,g⟩ (.GK T E<|lB []):=
 Jn λw0 _ _ a w H j=>by
  have v:DF P T (Gt 2 true):=Ec _ h<|λ_=>Ij rfl rfl
  have n:(zeroValue T).run P w= .ok (.agg #[.pointer none,.slice none 0 0]) w:=by cases hi:P.info? T with|none=>rw[hi] at h;cases h|some i=>rw[hi] at h;exact tQ hi h w
  refine⟨.pointer<|some ⟨w.heap.size,0,none⟩,w.alloc<| .cells #[.pointer none,.slice none 0 0] T,H,?_,Ext.alloc j.sub _,?_,?_⟩
  .simp[execOp,Instr.alloc,n,newVar,newRow,Value.cells]
  .refine⟨w.heap.size,_,_,rfl,JX w _,.inl rfl,?_,.inl j.below.size,wE,by simp[Value.ownBlock]⟩;cases q:H w.heap.size with|none=>rfl|some o=>have:=Ft j.sub q;omega
  .rintro b ⟨c,e,f⟩;cases e;rcases f with f|⟨p,r,k,f⟩
   .omega
   .rw[JX] at k;simp at k;obtain⟨rfl,rfl⟩:=k;simp[Value.ownBlock] at f
def anD{w:AS}{t u ty e:Ap}{i:TypeInfo}(C:P.underlying t=some (.slice e))(F:P.underlying u=some .string)(hi:P.info? e=some i)(G:i.zero=some (.int .u8 0))(k:i.size=1)(o:i.bytes=1)
  {v:AW}{n:Nat}{xs:A3 AW}(f:w.ownsRow 0 e 1 v n xs)(s:ByteArray)(q:n+s.size<=140737488355328):∃y w',(Builtin.append_ #[t,u] ty #[v,.string s]).run P w= .ok y w'/\w'.ownsRow 0 e 1 y (n+s.size) (xs++Lib.strCells s)/\Dw w w' v.ownBlock/\
   ∀b,y.ownBlock=some b->v.ownBlock=some b\/w.heap.size<=b:=by
 have I:n+s.size<=maxLen:=by unfold maxLen;omega
 let⟨y,w',z,J,M,O⟩:=Lib.run_append_own_string (P:=P) w 0 t u ty e i C F hi G k o v n xs f s I q<|EU _
 refine⟨y,w',z,J,⟨M,Fe.of<|ahp _ z⟩,λb A=>?_⟩;have R:xs.length=n:=by simpa using f.1
 rcases f.2 with⟨rfl,rfl⟩|⟨g,cap,cur,rfl,hbg,hg,hnc,hcm,hcs,htake⟩
 .by_cases hm:s.size=0
  .rw[O.2 ⟨rfl,hm⟩] at A;simp[Value.ownBlock] at A
  .have h:=run_append_nil_string (P:=P) w t u ty e i (.int .u8 0) C F hi G s (by omega) (by omega) (by rw[o];omega);rw[z] at h;cases h;simp[Value.ownBlock] at A;exact .inr (by omega)
 .by_cases VJ:n+s.size<=cap
  .have h:=Lib.run_append_room_string (P:=P) w t u ty e i C F hi k g n cap cur hg s VJ (by omega);rw[z] at h;cases h;exact .inl A
  .have holds:∀j u,xs[j]? =some u->w.cell? ((⟨g,0,none⟩:Addr).add j)=some u:=f.cells (g:=g) rfl;have h:=Lib.run_append_grow_string (P:=P) w t u ty e i (.int .u8 0) C F hi G ⟨g,0,none⟩ n cap xs (by rw[k];simpa using R) holds s (by omega) (by omega) (by rw[o];exact growslice_fits (by omega) (by omega));rw[z] at h;cases h;simp[Value.ownBlock] at A;exact .inr (by omega)
def anJ{w:AS}{ops:B9 Oper}{rest:A3 Oper}{o:Oper}{a:Act}{Q:Exit->Act->AS->Prop}(q:o.guard=none)(A x:C9)(t u:Ap)
  (C:o.op= .call {callee:= .builtin .append,args:= #[A,x],argTypes:= #[t,u]})
  (e:Ap)(i:TypeInfo)(F:P.underlying t=some (.slice e))(G:P.underlying u=some .string)(hi:P.info? e=some i)(I:i.zero=some (.int .u8 0))(y:i.size=1)(z:i.bytes=1)
  (v:AW)(n:Nat)(xs:A3 AW)(J:a.eval A=v)(f:w.ownsRow 0 e 1 v n xs)(s:ByteArray)(M:a.eval x= .string s)(j:n+s.size<=140737488355328)
  (h:∀k w',w'.ownsRow 0 e 1 k (n+s.size) (xs++Lib.strCells s)->Dw w w' v.ownBlock->(∀b,k.ownBlock=some b->v.ownBlock=some b\/w.heap.size<=b)->wpList P ops Q rest (a.put o.dst k) w'):wpList P ops Q (o::rest) a w:=by
 refine wpList_plain q λK O=>?_
 let⟨k,w',R,S,U,V⟩:=anD (P:=P) (ty:=o.type) F G hi I y z f s j;unfold Oper.wp execOp;simp only[C,resolve,invoke,builtin,DS,I2,DH,List.map_toArray,JT,Y1,J,M,R];exact O _ _<|h k w' S U V
end
section
open Go.Shelf
variable[D:DR]
variable{P:Program}{ρ:Ren}
variable{w:AS}{M:Nat->Prop}{b:Nat}{p v:AW}{w':AS}{H:HV}{T:Ap}{l:A3 UInt8}{vs:A3 AW}
structure Tr(M:Nat->Prop)(w w':AS):Prop where
 size:w.heap.size<=w'.heap.size
 os:w'.os=w.os
 tape:w'.tape=w.tape
 output:w'.output=w.output
 drawn:Fe w w'
 DT:∀k,k<w.heap.size-> ¬M k->w'.heap[k]? =w.heap[k]?
def Tr.refl(M:Nat->Prop)(w:AS):Tr M w w:=⟨BJ _,rfl,rfl,rfl,BJ _,λ_ _ _=>rfl⟩
def Tr.trans{M:Nat->Prop}{w w' e:AS}(h:Tr M w w')(k:Tr M w' e):Tr M w e:=⟨CA h.size k.size,k.os.trans h.os,k.tape.trans h.tape,k.output.trans h.output,CA h.drawn k.drawn,λi hi f=>(k.DT i (I6 hi h.size) f).trans<|h.DT i hi f⟩
def Tr.setCell{M:Nat->Prop}(w:AS)(a:Addr)(x:AW)(h:M a.block):Tr M w (w.setCell a x):=⟨by simp[World.setCell],rfl,rfl,rfl,BJ _,λk _ f=>Below.heap_setCell _ _ _ _<|λe=>f<|e▸h⟩
def Tr.grown{f:A9 Nat}(h:Dw w w' f)(j:∀k,f=some k->M k):Tr M w w':=⟨h.size,h.os,h.tape,h.output,h.drawn,λk n o=>h.block k n<|λe=>o<|j k e.symm⟩
def Tr.mono{e:Nat->Prop}{f:AS}(h:Tr M w f)(k:∀b,M b->e b):Tr e w f:=⟨h.size,h.os,h.tape,h.output,h.drawn,λi hi j=>h.DT i hi<|λx=>j<|k i x⟩
def Tr.drew{M:Nat->Prop}(w:AS):Tr M w w.drew:=⟨BJ _,rfl,rfl,rfl,Fe.of<|OE _,λ_ _ _=>rfl⟩
def Tr.JF(h:Tr M w w')(sub:∀r o,H r=some o->w.heap[r]? =some o)(k:∀b,M b->H b=none):On M w H w' H:=
 ⟨h.size,h.os,h.tape,h.output,h.drawn,HV.le.refl _,λb n e=>⟨h.DT b n e,rfl⟩,λr o f=>by have j:=sub r o f;rw[h.DT r (lt_of_heap j) (λe=>by rw[k r e] at f;cases f)];exact j⟩
def mX(e:w.heap[b]? =some (.cells #[p,v] T (0,0))):w.cell? ⟨b,0,none⟩=some p/\w.cell? ⟨b,1,none⟩=some v/\w.shape? b=some (T,2)/\(∀j,w.frozen? ⟨b,j,none⟩=false):=⟨by rw[Y6 e];rfl,by rw[Y6 e];rfl,by simp[World.shape?,e],λj=>Lib.frozen_of_heap e j⟩
def aiM{x:AW}(e:w.heap[b]? =some (.cells #[p,v] T (0,0))):(w.setCell ⟨b,1,none⟩ x).heap[b]? =some (.cells #[p,x] T (0,0)):=by simp[World.setCell,SR,e]
def aiP{x:AW}(e:w.heap[b]? =some (.cells #[p,v] T (0,0))):(w.setCell ⟨b,0,none⟩ x).heap[b]? =some (.cells #[x,v] T (0,0)):=by simp[World.setCell,SR,e]
def aio(L:Lays.n240 P ρ)(X:Builder.X72 P ρ)(h:w.heap[b]? =some (.cells #[p,v] (ρ.t 72) (0,0)))(o:p= .pointer none\/p= .pointer (some ⟨b,0,none⟩)):Calls P (ρ.f 240) #[.pointer<|some ⟨b,0,none⟩] w λe w'=>e= .returned (.tuple #[])/\w'.heap[b]? =some (.cells #[.pointer<|some ⟨b,0,none⟩,v] (ρ.t 72) (0,0))/\Tr (λk=>k=b) w w'/\w'.heap.size=w.heap.size:=by
 let⟨n,y,q,j⟩:=mX h;rcases o with rfl|rfl
 .refine(Any.Builder_copyCheck_fresh L X b w n q<|j 0).mono ?_;rintro e w' ⟨rfl,rfl⟩;exact⟨rfl,aiP h,Tr.setCell w _ _ rfl,by simp[World.setCell]⟩
 .refine(Any.Builder_copyCheck_used L X b w n).mono ?_;rintro e w' ⟨rfl,rfl⟩;exact⟨rfl,h,Tr.refl _ _,rfl⟩
def xU{e:Ap}{n:Nat}{xs:A3 AW}(h:w.ownsRow 0 e 1 v n xs)(j:∀g,v.ownBlock=some g->w'.heap[g]? =w.heap[g]?):w'.ownsRow 0 e 1 v n xs:=by
 refine⟨h.1,?_⟩;rcases h.2 with h|⟨g,cap,cur,f,k,o,q⟩
 .exact .inl h
 .exact .inr ⟨g,cap,cur,f,k,by rw[j g (by rw[f];rfl)];exact o,q⟩
set_option maxHeartbeats 2000000 in
set_option maxRecDepth 100000 in
def ad7(L:Lays.n166 P ρ)(X:Builder.Extra P ρ){bs:A3 AW}(s:ByteArray)(V:w.heap[b]? =some (.cells #[p,v] (ρ.t 72) (0,0)))(hp:p= .pointer none\/p= .pointer (some ⟨b,0,none⟩))
 (o:w.ownsRow 0 (ρ.t 5) 1 v bs.length bs)(y:v.ownBlock≠some b)(F:bs.length+s.size<=140737488355328):Calls P (ρ.f 166) #[.pointer<|some ⟨b,0,none⟩,.string s] w λe w'=>e= .returned (.tuple #[.int .i64 s.size,.nilIface])/\∃z,w'.heap[b]? =some (.cells #[.pointer<|some ⟨b,0,none⟩,z] (ρ.t 72) (0,0))/\w'.ownsRow 0 (ρ.t 5) 1 z (bs.length+s.size) (bs++Lib.strCells s)/\z.ownBlock≠some b/\
   (∀g,z.ownBlock=some g->v.ownBlock=some g\/w.heap.size<=g)/\Tr (λk=>k=b\/v.ownBlock=some k) w w':=by
 let⟨i0,hi,R,S,U⟩:=info_parts X.infoByte;have W:b<w.heap.size:=lt_of_heap V;have mixed:=L.mixed;have t72:=L.t72;have a72:=L.a72;have z72:=L.z72;have v72:=L.v72;have u72:=Ic L.t72;have t70:=L.t70;have a70:=L.a70;have z70:=L.z70;have v70:=L.v70;have u70:=Ic L.t70;have t37:=L.t37;have a37:=L.a37;have z37:=L.z37;have v37:=L.v37;have u37:=Ic L.t37;have t3:=L.t3;have a3:=L.a3;have z3:=L.z3;have v3:=L.v3;have u3:=Ic L.t3;have t9:=L.t9;have a9:=L.a9;have z9:=L.z9;have v9:=L.v9;have u9:=Ic L.t9;have t4:=L.t4;have a4:=L.a4;have z4:=L.z4;have v4:=L.v4;have u4:=Ic L.t4;have t164:=L.t164;have a164:=L.a164;have z164:=L.z164;have v164:=L.v164;have Y:=Ic L.t164;have t5:=X.t5;have a5:=X.a5;have z5:=X.z5;have v5:=X.v5;have u5:=Ic X.t5;have Z:∀args w,(callFunc (ρ.f 240) args).run P w= .ok (.enter (ρ.f 240) args) w:=enters_of L.f240 A6 rfl
 go_enter L.f166,Body.n166_ntmps ρ
 go_wp2_with (go_at_fn (ρ.f 240);refine(aio {L with} X.toX72 V hp).mono ?_)
 rintro e w1 ⟨rfl,G,I,hs1⟩;have A:w1.ownsRow 0 (ρ.t 5) 1 v bs.length bs:=xU o λg C=>I.DT g (o.lt g C).2 (λe=>y (by rw[C,e]))
 let⟨c0,c1,_,_⟩:=mX G
 go_wp2_with (at_builtin;refine anJ rfl _ _ (ρ.t 37) (ρ.t 9) rfl (ρ.t 5) i0 L.t37 L.t9 hi R S U _ _ _ rfl A s rfl F ?_)
 intro z w2 j n J;have O:w2.heap[b]? =some (.cells #[.pointer<|some ⟨b,0,none⟩,v] (ρ.t 72) (0,0)):=by rw[n.block b (by omega)<|λe=>y e.symm];exact G
 let⟨d0,d1,_,hf⟩:=mX O;have f1:=hf 1;have q:z.ownBlock≠some b:=λe=>by
  rcases J b e with h|h
  .exact y h
  .omega
 obtain⟨ao,n',cap,rfl⟩:∃ao n' cap,z= .slice ao n' cap:=by
  rcases j.2 with⟨hv,_⟩|⟨g,cap,cur,hv,_⟩
  .exact⟨_,_,_,hv⟩
  .exact⟨_,_,_,hv⟩
 go_wp2
 go_ret2
 refine⟨rfl,_,aiM O,xU j λg C=>?_,q,λg C=>by have:=J g C;omega,?_⟩
 .exact Below.heap_setCell _ _ _ _ (λe=>q (by rw[C,e]))
 .exact((I.mono<|λk h=> .inl h).trans<|Tr.grown n<|λk h=> .inr h).trans<|Tr.setCell _ _ _<| .inl rfl
def Tr.freeze{M:Nat->Prop}(w:AS)(a:Addr)(n:Nat)(h:M a.block):Tr M w (w.freeze a n):=by
 unfold World.freeze;split
 .exact Tr.refl _ _
 .refine⟨by simp,rfl,rfl,rfl,BJ _,λk _ f=>?_⟩;simp only[SR];rw[if_neg (λ(e:a.block=k)=>f (by rw[<-e];exact h))]
set_option maxHeartbeats 1000000 in
set_option maxRecDepth 100000 in
def aci(L:Lays.n169 P ρ)(X:Builder.Extra P ρ)(n:w.heap[b]? =some (.cells #[p,v] (ρ.t 72) (0,0)))(h:w.ownsRow 0 (ρ.t 5) 1 v l.length (Lib.byteCells l))(A:l≠[]):Calls P (ρ.f 169) #[.pointer<|some ⟨b,0,none⟩] w λe w'=>e= .returned (.string ⟨l.toArray⟩)/\Tr (λk=>v.ownBlock=some k) w w':=by
 have o:l.length≠0:=by simpa using A
 obtain⟨g,cap,cur,rfl,O,R,q,S,y⟩:∃g cap cur,v= .slice (some ⟨g,0,none⟩) l.length cap/\w.heap[g]? =some (.cells cur (ρ.t 5) (0,0))/\l.length<=cap/\cap<=maxLen/\cur.size=cap*1/\cur.toList.take (l.length*1)=Lib.byteCells l:=by
  rcases h.2 with⟨_,hz⟩|⟨g,cap,cur,hv,_,r⟩
  .exact absurd hz o
  .exact⟨g,cap,cur,hv,r⟩
 have c1:w.drew.cell? ⟨b,1,none⟩=some (.slice (some ⟨g,0,none⟩) l.length cap):=by have:w.drew.heap[b]? =some (.cells #[p,.slice (some ⟨g,0,none⟩) l.length cap] (ρ.t 72) (0,0)):=n;rw[Y6 this];rfl
 have U:(Builtin.unsafeSliceData_ #[(ρ.t 37)] (ρ.t 127) #[.slice (some ⟨g,0,none⟩) l.length cap]).run P w.drew= .ok (.pointer<|some ⟨g,0,none⟩) w.drew:=Lib.run_unsafeSliceData_row _ _ _ _ _ _ (by omega)
 have V:(Builtin.unsafeString_ #[(ρ.t 127),(ρ.t 3)] (ρ.t 9) #[.pointer<|some ⟨g,0,none⟩,.int .i64 l.length]).run P w.drew= .ok (.string ⟨l.toArray⟩) (w.drew.freeze ⟨g,0,none⟩ l.length):=by refine Lib.run_unsafeString_row w.drew (ρ.t 127) (ρ.t 3) (ρ.t 9) (ρ.t 5) L.t127 X.cellsByte g cur.size (by have z:w.drew.heap[g]? =some (.cells cur (ρ.t 5) (0,0)):=O;simp[World.shape?,z]) l A (by omega) (by unfold maxLen at q;omega) ?_;intro j x W;exact h.cells (g:=g) rfl j (.int .u8 x.toNat) (by simp[Lib.byteCells,W])
 have mixed:=L.mixed;have t72:=L.t72;have a72:=L.a72;have z72:=L.z72;have v72:=L.v72;have Y:=Ic L.t72;have t70:=L.t70;have a70:=L.a70;have z70:=L.z70;have v70:=L.v70;have Z:=Ic L.t70;have t37:=L.t37;have a37:=L.a37;have z37:=L.z37;have v37:=L.v37;have u37:=Ic L.t37;have C:=L.t127;have F:=L.a127;have G:=L.z127;have I:=L.v127;have J:=Ic L.t127;have t3:=L.t3;have a3:=L.a3;have z3:=L.z3;have v3:=L.v3;have u3:=Ic L.t3;have t9:=L.t9;have a9:=L.a9;have z9:=L.z9;have v9:=L.v9;have u9:=Ic L.t9;have t5:=X.t5;have a5:=X.a5;have z5:=X.z5;have v5:=X.v5;have u5:=Ic X.t5
 go_enter L.f169,Body.n169_ntmps ρ
 go_wp2
 go_region_o
 all_goals (go_wp2;go_ret;exact⟨rfl,(Tr.drew w).trans<|Tr.freeze _ _ _ rfl⟩)
def UP(l s:A3 UInt8):A9 (A3 UInt8×Int×Unit):=Dh (Nat.ble (l.length+s.length) 140737488355328) (l++s,(s.length:Int),())
def XC(l:A3 UInt8):A9 (A3 UInt8):=Dh (!l.isEmpty) l
theorem Fm{α:Type}{b:Bool}{x r:α}(h:Dh b x=some r):b=true/\x=r:=by grind [Dh]
def Xr(h:Du H [] vs):vs=[]:=h
theorem N2{τ:Ty}(h:Du H [τ] vs):∃v,vs=[v]/\τ.ok H v:=by simp_all [Du,Ty.ok]
theorem S3{τ σ:Ty}(h:Du H [τ,σ] vs):∃v u,vs=[v,u]/\τ.ok H v/\σ.ok H u:=by(simp_all [Du,Ty.ok]<;>grind)
def byteCells_append(l s:A3 UInt8):Lib.byteCells (l++s)=Lib.byteCells l++Lib.byteCells s:=by simp[Lib.byteCells]
def ain(L:Lays.n166 P ρ)(X:Builder.Extra P ρ)(Y:FQ P (ρ.f 166)=true){s:A3 UInt8}{r:A3 UInt8×Int×Unit}(Z:UP l s=some r):H7 P (ρ.f 166) [] (.GK (ρ.t 72) (ρ.t 5)<|lB l) (.GK (ρ.t 72) (ρ.t 5)<|lB r.1) [TS s] [TI .i64 r.2.1,rN r.2.2]:=by
 obtain⟨C,rfl⟩:=Fm Z;have C:=Cs C;refine⟨Y,λw H v ps qs sub gl F hq hs=>?_⟩;have F:=Xr F;subst F;obtain⟨x,rfl,G⟩:=N2 hq;have G:x= .string ⟨s.toArray⟩:=G;subst G;obtain⟨b,p,n,rfl,q,I,S,hB,⟨xs,j,U,V⟩,J⟩:=hs;rw[YX] at U;subst U;rw[nB] at j;refine(ad7 L X (bs:=Lib.byteCells l) ⟨s.toArray⟩ q I (by simpa[Lib.byteCells] using j) J (by simpa[Lib.byteCells,ByteArray.size] using C)).mono ?_;rintro e w' ⟨rfl,v',W,Yi,z,A,ht⟩;have XH:Lib.strCells ⟨s.toArray⟩=Lib.byteCells s:=rfl;have y:∀k,k=b\/n.ownBlock=some k->(AT.GK (ρ.t 72) (ρ.t 5)<|lB l).owns w (.pointer<|some ⟨b,0,none⟩) k:=λk h=>⟨b,rfl,h.imp id λh=>⟨p,n,q,h⟩⟩
 have O:∀k,(AT.GK (ρ.t 72) (ρ.t 5)<|lB l).owns w (.pointer<|some ⟨b,0,none⟩) k->k=b\/n.ownBlock=some k:=by
  rintro k ⟨c,e,h⟩;cases e;rcases h with h|⟨p',r',R,h⟩
  .exact .inl h
  .have e2:=q.symm.trans R;simp at e2;obtain⟨rfl,rfl⟩:=e2;exact .inr h
 refine⟨_,rfl,H,(ht.mono y).JF sub<|λk hk=>?_,⟨b,_,v',rfl,W,.inr rfl,S,hB,⟨_,?_,YX.2 rfl,λg hg=>?_⟩,z⟩,?_,⟨#[.int .i64 s.length,.nilIface],?_,_,_,rfl,rfl,_,_,rfl,rfl,rfl⟩⟩
 .rcases O k hk with rfl|h
  .exact S
  .exact(V k h).1
 .rw[nB,byteCells_append,DD];exact(by simpa[Lib.byteCells,ByteArray.size,XH] using Yi)
 .rcases A g hg with h|h
  .exact V g h
  .refine⟨?_,.inl h⟩;cases hh:H g with|none=>rfl|some o=>have:=Ft sub hh;omega
 .rintro k ⟨c,e,h⟩;cases e;rcases h with h|⟨p',r',R,h⟩
  .exact .inl<|y k<| .inl h
  .have e2:=W.symm.trans R;simp at e2;obtain⟨rfl,rfl⟩:=e2;exact(A k h).imp (λh=>y k<| .inr h) id
 .simp[ByteArray.size]
theorem yc{E:Ap}{l:A3 Ty}{e:AW}(f:w.heap[b]? =some (.cells #[p,e] T (0,0)))(k:Nat):(AT.GK T E l).owns w (.pointer<|some ⟨b,0,none⟩) k↔k=b\/e.ownBlock=some k:=by grind [AT.owns]
def agt(L:Lays.n169 P ρ)(X:Builder.Extra P ρ)(A:FQ P (ρ.f 169)=true){r:A3 UInt8}(C:XC l=some r):H7 P (ρ.f 169) [] (.GK (ρ.t 72) (ρ.t 5)<|lB l) .gone [] [TS r]:=by
 obtain⟨F,rfl⟩:=Fm C;refine⟨A,λw H v ps V sub gl o q G=>?_⟩;have o:=Xr o;subst o;have q:=Xr q;subst q;obtain⟨b,p,I,rfl,n,J,O,W,⟨xs,j,z,R⟩,S⟩:=G;rw[YX] at z;subst z;rw[nB] at j;refine(aci L X n j (by rintro rfl;simp at F)).mono ?_;rintro e w' ⟨rfl,U⟩;exact⟨_,rfl,H,(U.mono λk h=>(yc n k).2<| .inr h).JF sub (λk y=>by
  rcases(yc n k).1 y with rfl|h
  .exact O
  .exact(R k h).1),trivial,λk y=>y.elim,rfl⟩
instance instDecAVec:DecidableEq (A3 UInt8×A3 UInt8×A3 UInt8):=inferInstance
end
section
open Go.Shelf
variable[D:DR]
variable{P:Program}{ρ:Ren}
variable{P:Program}{N:Nat}{ops:Array Oper}{Γ:Ctx}{ty:TypeId}{pos:String}{af:Array Edge}
def nP{u t f:Nat}{s:AT}(q:look Γ u=some (.same t))(n:look Γ t=some s)(y:s.Bv=[])(z:f<N)(o:Op)(A:o= .assign (.tmp u)\/o= .move (.tmp u)):Step P N ops ⟨some f,o,ty,pos,af,none⟩ Γ ((f,s)::del f (BH t Γ)):=by
 intro w0 H0 a w H j K Q k;simp[Region.wanted,if_true];have C:Ad a u=Ad a t:=j.holds _<|B8 q
 have F:(execOp a.eval ⟨some f,o,ty,pos,af,none⟩).run P w= .ok (.value<|Ad a t) w:=by rw[<-C];rcases A with rfl|rfl<;>rfl
 unfold Oper.wp;rw[F,M6];exact k _ w H (UI j (B8 n) (lg w) (λ_ e=>by cases e) z (by rw[y];simp) (j.holds _<|B8 n) λ_ h=> .inl h)
end
section
open Go.Shelf
variable[D:DR]
variable{P:Program}{ρ:Ren}
def UA{α:Type}(l:A3 α):A9 (A3 α):=Dh (Nat.blt l.length 4000000000) l
def OC(x y:Int):A9 (Int×Int):=bif Fi x&&Fi y then some (x*y/FF,x*y%FF) else none
def LQ(n:Nat):Nat:=bif Nat.beq n 0 then 0 else Nat.log2 n+1
def Xt(x:Int):A9 Int:=bif Fi x then some (LQ x.toNat:Int) else none
def V9(x:Int):A9 Int:=bif Fi x then some (64-(LQ x.toNat:Int)) else none
end
section
variable[D:DR]
variable{P:Program}{w0:Ah P}{H0:HV}{N:Nat}{ops:Array Oper}{Q:Exit->Act->World->Prop}{Γ Ar:Ctx}{d:Option Tmp}{ty:TypeId}{pos:String}{af:Array Edge}{g:Option (Nat×Bool)}
variable{α:Type}{f:α->Ty}{l:A3 α}{t:Nat}{T E:Ap}{sz:Nat}{pre post:A3 AW}{y:α}{p j:Nat}{x:C9}{z:α}
def Kb{s n:C9}{k:IntKind}{i:Int}(q:Et P T sz=true)(A:E3 Γ s t)(C:look Γ t=some (.EA E pre post<|lT f l))(hi:Arg Γ n (TI k i))(h:AB l i=some y):B0 P Γ ⟨d,.indexAddr T s n,ty,pos,af,g⟩ (.Kl t i.toNat sz):=
 DA λw0 _ _ a w H o=>by
  let⟨F,G,R⟩:=FP h;let⟨b,c,cur,xs,e,_⟩:=o.holds _<|B8 C
  simp only at e;have I:a.eval s= .slice (some ⟨b,pre.length,none⟩) l.length c:=by rw[A.ok o,e,BL]
  have J:a.eval n= .int k i:=hi.ok o;have O:=jg (P:=P) q b pre.length l.length c (k:=k) F G w;exact⟨.pointer<|some ⟨b,pre.length+i.toNat*sz,none⟩,by simp only[execOp,I,J,DS,O,DH];rfl,⟨b,pre.length,_,c,e,rfl⟩,rfl⟩
def OU(J:∀z,(f z).n=sz)(O:look Γ p=some (.Kl t j sz))(R:look Γ t=some (.EA E pre post<|lT f l))(h:l[j]? =some y)(S:Bj P T (f y).n (f y).agg=true):B0 P Γ ⟨d,.load T<| .tmp p,ty,pos,af,g⟩ (.val<|f y):=
 DA λw0 _ _ a w H q=>by
  let⟨b,c,cur,xs,e,U,A,V,hH,hB⟩:=q.holds _<|B8 R
  let⟨b',o,n',c',k,C⟩:=q.holds _<|B8 O
  simp only at e k C;rw[e] at k;cases k;have F:(lT f l)[j]? =some (f y):=by rw[Fp,h];rfl
  have Yj:=(EP.1 F).1;have W:Eu sz (lT f l):=Hy J l;have X:a.eval (.tmp p)= .pointer (some ⟨b,pre.length+j*sz,none⟩):=C;let⟨Y,G⟩:=L3 V F;have Z:C7 ((lT f l).take j)=j*sz:=by rw[IQ<|W.take _,Dd,Ds (by omega)]
  rw[Z] at Y G;have Su:List.take (f y).n (List.drop (pre.length+j*sz) cur.toList)=List.take (f y).n (List.drop (j*sz) xs):=by rw[A,<-Ee,Uc,List.drop_append_of_le_length (by omega),List.take_append_of_le_length (by simp;omega)]
  have adX:cur.size=pre.length+(xs.length+post.length):=by rw[<-En,A];simp
  refine⟨_,?_,G,rfl⟩;have I:=PJ (P:=P) S U (off:=pre.length+j*sz) (by omega);rw[Su] at I;simp[execOp,X,Instr.loadAt,Instr.sureAddr,I]
def yu{Al:Ctx}(C:∀q∈Al,q∈Γ)(A:∀z,(f z).n=sz)(hp:look Al p=some (.Kl t j sz))(R:look Al t=some (.EA E pre post<|lT f l))(h:l[j]? =some z)(hx:Arg Al x (f y))(hT:Bj P T (f y).n (f y).agg=true):Step P N ops ⟨none,.store T (.tmp p) x,ty,pos,af,none⟩ Γ ((t,.EA E pre post<|lT f<|l.set j y)::BH t Γ):=by
 intro w0 H0 a w H F K Q k;simp[Region.wanted,if_true];let⟨b,c,cur,xs,e,S,U,V,hH,W⟩:=F.holds _ (C _<|B8 R);let⟨b',o,n',c',I,X⟩:=F.holds _ (C _<|B8 hp);simp only at e I X;rw[e] at I;cases I;have J:(lT f l)[j]? =some (f z):=by rw[Fp,h];rfl
 have Yj:=(EP.1 J).1;have hu:Eu sz (lT f l):=Hy A l;have ep:a.eval (.tmp p)= .pointer (some ⟨b,pre.length+j*sz,none⟩):=X;have Y:=hx.ok<|F.weaken C
 have Z:=(f y).shape Y;have G:C7 ((lT f l).take j)=j*sz:=by rw[IQ<|hu.take _,Dd,Ds (by omega)]
 let⟨p1,_⟩:=L3 V J;rw[G,A] at p1;have LV:=S5 V J ((A y).trans (A z).symm) Y;rw[G,A] at LV;have adX:cur.size=pre.length+(xs.length+post.length):=by rw[<-En,U];simp
 have G9:=RB (P:=P) (off:=pre.length+j*sz) (Ry hT) Z.size S (by rw[A];omega) Z.cell;rw[A] at G9;unfold Oper.wp;have er:(execOp a.eval ⟨none,.store T (.tmp p) x,ty,pos,af,none⟩).run P w= .ok .skip (w.setRow b (cur.toList.take (pre.length+j*sz)++(a.eval x).cells.toList++cur.toList.drop (pre.length+j*sz+sz)).toArray):=by simp[execOp,ep,Instr.storeAt,Instr.sureAddr,G9]
 rw[er,OF];have O:cur.toList.take (pre.length+j*sz)++(a.eval x).cells.toList++cur.toList.drop (pre.length+j*sz+sz)=pre++((xs.take (j*sz)++(a.eval x).cells.toList++xs.drop (j*sz+sz))++post):=by
  have t1:(pre++(xs++post)).take (pre.length+j*sz)=pre++xs.take (j*sz):=by
   rw[Uj,Ce (by omega)]
   congr 1
   rw[show pre.length+j*sz-pre.length=j*sz from by omega,List.take_append_of_le_length (by omega)]
  have t2:(pre++(xs++post)).drop (pre.length+j*sz+sz)=xs.drop (j*sz+sz)++post:=by rw[Iw,<-Ee,Uc,List.drop_append_of_le_length (by omega)]
  rw[U,t1,t2];simp
 rw[O];have hg:Dw w (w.setRow b (pre++((xs.take (j*sz)++(a.eval x).cells.toList++xs.drop (j*sz+sz))++post)).toArray) (some b):=Dw.setRow w b _;refine k a _ H (Mk F (C _<|B8 R) hg W (by simp[AT.owns,e,Value.ownBlock]) ?_ λc G=> .inl G);refine⟨b,c,_,_,by rw[e];simp[lT],S9 w b _ _ _ _ S,rfl,?_,hH,W⟩;rw[show lT f (l.set j y)=(lT f l).set j (f y) from by simp[lT,SB]];exact LV
def pq(e:∀z,(f z).n=sz)(k:look Γ p=some (.Kl t j sz))(o:look Γ t=some (.EA E pre post<|lT f l))(h:l[j]? =some z)(q:Arg Γ x (f y))(A:Bj P T (f y).n (f y).agg=true):Step P N ops ⟨none,.store T (.tmp p) x,ty,pos,af,none⟩ Γ ((t,.EA E pre post<|lT f<|l.set j y)::BH t Γ):=yu (λ_ h=>h) e k o h q A
def alM(e:∀z,(f z).n=sz)(k:look Γ p=some (.Kl t j sz))(o:look Γ t=some (.EA E pre post<|lT f l))(h:l[j]? =some z)(q:Arg Γ x (f y))(A:Bj P T (f y).n (f y).agg=true):Ma P N ops Γ ⟨none,.store T (.tmp p) x,ty,pos,af,none⟩ t (.EA E pre post<|lT f<|l.set j y):=λ_ C=>yu C e k o h q A
end
section
variable[D:DR]
variable{P:Program}{w0:Ah P}{H0:HV}{N:Nat}{ops:Array Oper}{Γ Ar:Ctx}{d:Option Tmp}{ty:TypeId}{pos:String}{af:Array Edge}{g:Option (Nat×Bool)}
variable{E:Ap}{sz t:Nat}{α:Type}{f:α->Ty}{l:A3 α}{xs:A3 C9}{FX:B9 Ap}{dd:Nat}{x:C9}{i n u:Nat}
def wP{T:Ap}{lo hi:A9 C9}{i j:Int}(O:Et P T sz=true)(R:E3 Γ x t)(S:look Γ t=some (.buf E sz<|lT f l))(U:Lo Γ lo 0 i)(o:Lo Γ hi l.length j)(h:(decide (0<=i)&&decide (i<j)&&decide (j<=l.length))=true):B0 P Γ ⟨d,.slice T x lo hi none,ty,pos,af,g⟩ (.win t i.toNat (j-i).toNat sz):=
 DA λw0 _ _ a w H q=>by
  rw[Bq,Bq,G0,G0,G0] at h;let⟨⟨V,h2⟩,A⟩:=h;let⟨b,cap,cs,xs,e,hb,k,_⟩:=UT (q.holds _<|B8 S) (λe=>by have:l=[]:=List.map_eq_nil_iff.1 e;rw[this] at A;simp at A;omega)
  simp only at e;rw[BL] at e k;let⟨W,ii,C,F,G⟩:=oY O;have X:∀w,(Go.sizeOf W).run P w= .ok sz w:=λw=>by simp[Go.sizeOf,typeInfo,program,Sem.run,F,G]
  have I:=sU (P:=P) (b:=true) (cap:=cap) (w:=w) U o V (by omega) A k q;have Y:a.eval x= .slice (some ⟨b,0,none⟩) l.length cap:=by rw[R.ok q];exact e
  refine⟨.slice (some ⟨b,i.toNat*sz,none⟩) (j-i).toNat<|cap-i.toNat,?_,⟨b,_,cap,cap-i.toNat,e,rfl⟩,rfl⟩;have J: ¬cap=i.toNat:=by omega
  have Z:j.toNat-i.toNat=(j-i).toNat:=by omega
  simp[execOp,Y,Instr.sliceAt,E6 C,Instr.slice,I,X,addr_add,J,Z]
def ala{B:Ah P}{w:AS}{H:HV}{v:AW}(J:∀z,(f z).n=sz)(h:Ih B w H E sz (lT f l) v)(hn:0<n)(U:i+n<=l.length){b:Nat}{len cap:Nat}(V:v= .slice (some ⟨b,0,none⟩) len cap)(c:Nat):∃pre post:A3 AW,pre.length=i*sz/\(AT.EA E pre post<|lT f<|(l.drop i).take n).holds B P7 w H (.slice (some ⟨b,i*sz,none⟩) n c)/\
   ∀(w':AS) (H':HV) (r:A3 α),HV.le H H'->r.length=n->(AT.EA E pre post<|lT f r).holds B P7 w' H' (.slice (some ⟨b,i*sz,none⟩) n c)->Ih B w' H' E sz (lT f<|l.take i++r++l.drop (i+n)) v:=by
 subst V;let⟨xs,⟨F,W⟩,X,O⟩:=h;rcases W with⟨e,_⟩|⟨g',qh,cur,e,h0,hb,hcap,hm,hcs,htake⟩
 .cases e
 cases e;have Y:Eu sz (lT f l):=Hy J l;have F:xs.length=l.length*sz:=by simpa using F
 rw[BL] at htake hcap;have s1:i*sz+n*sz<=xs.length:=by rw[F,<-IX];exact JA _ U
 have Z:cur.toList=xs++cur.toList.drop (l.length*sz):=by conv=>lhs;rw[<-MK (l.length*sz) cur.toList,htake]
 have G:xs=xs.take (i*sz)++((xs.drop<|i*sz).take (n*sz)++xs.drop (i*sz+n*sz)):=by
  conv=>lhs;rw[<-MK (i*sz) xs]
  congr 1
  conv=>lhs;rw[<-MK (n*sz) (xs.drop<|i*sz),Ee]
 have o:(xs.take<|i*sz).length=i*sz:=by rw[Dd];omega
 have q:∀(lo hi:Nat),Cx H ((lT f l).take hi|>.drop lo) ((xs.take<|hi*sz).drop<|lo*sz):=λlo hi=>tU Y X lo hi
 refine⟨xs.take<|i*sz,xs.drop (i*sz+n*sz)++cur.toList.drop (l.length*sz),o,?_,?_⟩
 .refine⟨b,c,cur,(xs.drop<|i*sz).take<|n*sz,?_,hb,?_,?_,(O b rfl).1,(O b rfl).2⟩
  .rw[o];simp;omega
  .have e0:xs++cur.toList.drop (l.length*sz)=(xs.take (i*sz)++((xs.drop<|i*sz).take (n*sz)++xs.drop (i*sz+n*sz)))++cur.toList.drop (l.length*sz):=by rw[<-G]
   exact Z.trans (e0.trans (by rw[Fz,Fz]))
  .have:=q i (i+n);rw[show((lT f l).take<|i+n).drop i=lT f ((l.drop i).take n) from by simp[lT,<-List.map_take,<-List.map_drop,Jy]] at this;rw[IX,Jy,show i*sz+n*sz-i*sz=n*sz from by omega] at this;exact this
 .rintro w' H' r hle hrl ⟨g2,c2,rH,xs2,e2,hb2,V5,ho2,Qn,hB2⟩;have e3:g2=b:=by simp[Value.slice.injEq,Option.some.injEq,Addr.mk.injEq] at e2;exact e2.1.1.symm
  subst e3;have YO:Cx H' (lT f<|l.take i++r++l.drop (i+n)) (xs.take (i*sz)++xs2++xs.drop (i*sz+n*sz)):=by
   have R:=q 0 i;have S:=q (i+n) l.length;rw[dU,NB,NB] at R;rw[Ce (by simp[lT]),Ce (by omega),IX] at S;have:=Pf (Pf (O3 hle R) ho2)<|O3 hle S
   rwa [show(lT f l).take i++lT f r++(lT f l).drop (i+n)=lT f (l.take i++r++l.drop (i+n)) from by simp[lT,List.map_take,List.map_drop]] at this
  have Sw:xs2.length=n*sz:=by have:=KT ho2;rw[IQ<|Hy J r] at this;simpa[hrl] using this
  have k:(lT f<|l.take i++r++l.drop (i+n)).length=l.length:=by simp[hrl];omega
  have A:(xs.take (i*sz)++xs2++xs.drop (i*sz+n*sz)).length=l.length*sz:=by rw[DD,DD,o,Sw,Hj,F];omega
  have C:rH.toList=(xs.take (i*sz)++xs2++xs.drop (i*sz+n*sz))++cur.toList.drop (l.length*sz):=by rw[V5];simp
  have I:rH.toList.take (l.length*sz)=xs.take (i*sz)++xs2++xs.drop (i*sz+n*sz):=by rw[C,List.take_append_of_le_length (by omega),Ce (by omega)]
  refine⟨xs.take (i*sz)++xs2++xs.drop (i*sz+n*sz),⟨by rw[k];exact A,.inr ⟨g2,cap,rH,by rw[k];simp,EU _,hb2,by rw[k];exact hcap,hm,?_,by rw[k];exact I⟩⟩,YO,λb' DI=>?_⟩
  .have q1:cur.toList.length=cap*sz:=by rw[En];exact hcs
   have q2:l.length*sz<=cap*sz:=JA _ hcap;rw[<-En,C,DD,A,Hj,q1];omega
  .have:g2=b':=by simpa[Value.ownBlock] using DI
   subst this;exact⟨Qn,hB2⟩
def ajs{r:A3 α}{fn:FuncId}{ys:A3 C9}{pre post Ct:A3 Ty}{Al:Ctx}(S:∀q∈Al,q∈Γ)(hf:∀z,(f z).n=sz)
 (hS:∀(ps A:A3 AW),ps.length=i*sz->H7 P fn pre (.EA E ps A<|lT f<|(l.drop i).take n) (.EA E ps A<|lT f r) post Ct)(hx:E3 Al x u)(hu:look Al u=some (.win t i n sz))(ht:look Al t=some (.buf E sz<|lT f l))
 (hn:(Nat.blt 0 n&&Nat.ble (i+n) l.length&&Nat.beq r.length n)=true)(ha:AR Al xs pre)(W:AR Al ys post)(MA:dd<N)(X:dd≠t):Step P N ops ⟨some dd,.call ⟨.value<| .func fn,(xs++x::ys).toArray,FX⟩,ty,pos,af,none⟩ Γ ((dd,Gs Ct)::(t,.buf E sz<|lT f<|l.take i++r++l.drop (i+n))::del dd (BH t Γ)):=by
 rw[Bq,Bq] at hn;let⟨⟨C,Y⟩,F⟩:=hn;have C:=Cs C;have Y:=Cs Y;have F:=DX F;intro w0 H0 a w H J K Q k;simp[Region.wanted,if_true];have G:=J.weaken S;have U:=J.holds _<|S _<|B8 ht
 simp only at U;let⟨b,len,cap,c,V,eu⟩:=J.holds _<|S _<|B8 hu
 simp only at V eu;let⟨ps,A,O,hw,Z⟩:=ala hf U C Y V c;have can:FQ P fn=true:=(hS ps A O).can;have e:execOp a.eval ⟨some dd,.call ⟨.value<| .func fn,(xs++x::ys).toArray,FX⟩,ty,pos,af,none⟩=callFunc fn (xs.map a.eval++Ad a u::ys.map a.eval).toArray:=by
  have e:execOp a.eval ⟨some dd,.call ⟨.value<| .func fn,(xs++x::ys).toArray,FX⟩,ty,pos,af,none⟩=callFunc fn (#[]++(xs++x::ys).toArray.map a.eval++ #[]):=rfl;rw[e]
  congr 1
  simp[hx.ok G]
 unfold Oper.wp;rw[e,Ml can,Uh,eu];have hw0:(AT.EA E ps A<|lT f<|(l.drop i).take n).holds (Ah.MV P w λo=>(AT.EA E ps A<|lT f<|(l.drop i).take n).owns w (.slice (some ⟨b,i*sz,none⟩) n c) o) P7 w H (.slice (some ⟨b,i*sz,none⟩) n c):=AT.Pg rfl hw λo I=> .inr I
 have R:∀o,(AT.EA E ps A<|lT f<|(l.drop i).take n).owns w (.slice (some ⟨b,i*sz,none⟩) n c) o↔(AT.buf E sz<|lT f l).owns w (Ad a t) o:=λo=>by rw[V];exact Iff.rfl
 refine((hS ps A O).run w H _ _ _ J.sub J.gl (ha.ok G) (W.ok G) hw0).mono ?_;rintro e w' ⟨rv,rfl,H',hy,MB,ho,hr⟩;have hy':On (λo=>(AT.buf E sz<|lT f l).owns w (Ad a t) o) w H w' H':=by
  have:(λo=>(AT.buf E sz<|lT f l).owns w (Ad a t) o)=λo=>(AT.EA E ps A<|lT f<|(l.drop i).take n).owns w (.slice (some ⟨b,i*sz,none⟩) n c) o:=funext λo=>propext (R o).symm
  rw[this];exact hy
 have KI:(AT.EA E ps A<|lT f r).holds w0 P7 w' H' (.slice (some ⟨b,i*sz,none⟩) n c):=AT.Pg rfl MB λo I=>by
  have I:(AT.buf E sz<|lT f l).owns w (Ad a t) o:=by rw[V];exact I
  exact AT.My rfl U I
 have jX:(AT.buf E sz<|lT f<|l.take i++r++l.drop (i+n)).holds w0 a w' H' (Ad a t):=Z w' H' r hy.le F KI;have h1:=xR J (S _<|B8 ht) rfl rfl (λq hq _ b W=>Ah.OB<|AT.My rfl U W) hy' jX<|λo I=> .inl I
 have h2:=O2 (h1.weaken (Ar:=del dd ((t,.buf E sz<|lT f<|l.take i++r++l.drop (i+n))::BH t Γ)) K0) MA N1 (s:=Gs Ct) (v:=rv) (by match Ct with|[]=>simp[Gs,AT.Bv]|[_]=>simp[Gs,AT.Bv]|_::_::_=>simp[Gs,AT.Bv]) (U3 hr)<|λb e=>absurd e<|AT.free_spec UC
 refine k _ w' H'<|h2.weaken λq hq=>?_
 simp[Ak] at hq⊢;rcases hq with h|h|h
 .exact .inl h
 .subst h;exact .inr (Q8 (by simp) (λe=>X e.symm) (by simp[AT.Bv]))
 .have:=qR h;exact .inr<|Q8 (Bg _<|K0 _ h) this.1 this.2
def xK{r:A3 α}{fn:FuncId}{ys:A3 C9}{pre post Ct:A3 Ty}(o:∀z,(f z).n=sz)
 (q:∀(ps k:A3 AW),ps.length=i*sz->H7 P fn pre (.EA E ps k<|lT f<|(l.drop i).take n) (.EA E ps k<|lT f r) post Ct)(A:E3 Γ x u)(C:look Γ u=some (.win t i n sz))(F:look Γ t=some (.buf E sz<|lT f l))
 (G:(Nat.blt 0 n&&Nat.ble (i+n) l.length&&Nat.beq r.length n)=true)(I:AR Γ xs pre)(J:AR Γ ys post)(O:dd<N)(e:(dd !=t)=true):Step P N ops ⟨some dd,.call ⟨.value<| .func fn,(xs++x::ys).toArray,FX⟩,ty,pos,af,none⟩ Γ ((dd,Gs Ct)::(t,.buf E sz<|lT f<|l.take i++r++l.drop (i+n))::del dd (BH t Γ)):=ajs (λ_ h=>h) o q A C F G I J O (by simpa using e)
structure fN(P:Bz)(f:FuncId)(E:Ap)(sz:Nat)(bl:A3 Ty)(args:A3 Ty)(l:A3 Ty):Prop where
 can:FQ P f=true
 run:∀(w:AS) (H:HV) (v:AW) (xs:A3 AW) (vs:A3 AW),(∀r o,H r=some o->w.heap[r]? =some o)->JD P H->w.ownsRow 0 E sz v bl.length xs->Cx H bl xs->(∀b,v.ownBlock=some b->H b=none)->Du H args vs->Calls P f (v::vs).toArray w λe w'=>∃r,e= .returned r/\Dw w w' v.ownBlock/\∃xs',w'.ownsRow 0 E sz r l.length xs'/\Cx H l xs'/\∀b,r.ownBlock=some b->v.ownBlock=some b
def aiQ{s:C9}{f:FuncId}{bl:A3 Ty}{args l:A3 Ty}(fS:fN P f E sz bl args l)(hs:s= .tmp t\/∃u,s= .tmp u/\look Γ u=some (.same t))(ht:look Γ t=some (.buf E sz bl))(ha:AR Γ xs args)(MA:dd<N):Nh P N ops Γ ⟨some dd,.call ⟨.value<| .func f,(s::xs).toArray,FX⟩,ty,pos,af,none⟩ t dd (.buf E sz l):=by
 intro kT S w0 H0 a w H C K Q k;simp only[Region.wanted,if_true];have A:=C.holds _<|S _<|B8 ht
 let⟨ys,hr,ho,J⟩:=A;have es:a.eval s=Ad a t:=by
  rcases hs with rfl|⟨u,rfl,hu⟩
  .rfl
  .exact C.holds _<|S _<|B8 hu
 have e0:execOp a.eval ⟨some dd,.call ⟨.value<| .func f,(s::xs).toArray,FX⟩,ty,pos,af,none⟩=callFunc f (#[]++(s::xs).toArray.map a.eval++ #[]):=rfl;unfold Oper.wp;rw[e0,Ml fS.can,Uh];have U:(#[]++(s::xs).toArray.map a.eval++ #[])=(Ad a t::xs.map a.eval).toArray:=by simp[es]
 rw[U];refine(fS.run w H _ ys _ C.sub C.gl hr ho (λb A=>(J b A).1)<|ha.ok<|C.weaken S).mono ?_;rintro e w' ⟨r,rfl,O,V,W,X,Y⟩;have Z:∀b,(Ad a t).ownBlock=some b->w0.Da b/\H b=none/\∀l,w.heap[b]? ≠some (.deferred l):=λb A=>⟨(J b A).2,(J b A).1,λl e=>by let⟨_,_,o,W,X⟩:=AT.H8 (s:= .buf E sz bl) (B:=w0) (a:=a) ⟨ys,hr,ho,J⟩ A;rw[W] at e;cases e;exact X⟩
 have R:∀b o,H b=some o->w'.heap[b]? =some o:=λc o G=>by rw[O.block c (lt_of_heap<|C.sub c o G) (λU=>by rw[(J c U.symm).1] at G;cases G)];exact C.sub c o G
 have far:∀q∈del dd (BH t kT),∀c,q.2.owns w (Ad a q.1) c->(Ad a t).ownBlock≠some c:=λq I c G e=>C.sep _ (S _<|B8 ht) q (Cp q<|K0 q I).1 (λe=>(Cp q<|K0 q I).2 e.symm) c e G
 have abf:Sat w0 H0 N (del dd<|BH t kT) a w' H:=ajD C O Z (HV.le.refl _) (λ_ _ _=>rfl) R λq I=>⟨(Cp q<|K0 q I).1,far q I⟩
 refine k _ w' H (O2 abf MA N1 (by simp[AT.Bv]) ⟨V,W,X,λb A=>⟨(J b<|Y b A).1,(J b<|Y b A).2⟩⟩ ?_);intro b A q I hq2;have A:r.ownBlock=some b:=A;have jx:=(Cp q<|K0 q I).1;have F:Far w0.lo (λb=>q.2.owns w (Ad a q.1) b) w H w' H:=by
  have hk:∀c,c<w.heap.size->(c<w0.lo\/q.2.owns w (Ad a q.1) c)->(Ad a t).ownBlock≠some c:=λc _ h e=>by
   rcases h with h|h
   .have:=Ah.OB (J c e).2;omega
   .exact far q I c h e
  exact⟨O.size,O.os,O.tape,O.output,O.drawn,HV.le.refl _,λc G h=>O.block c G<|λe=>hk c G h e.symm,λ_ _ _=>rfl,R⟩
 exact far q I b (((AT.XE (C.holds q jx) F).2 b).1 hq2)<|Y b A
def ahM{f:FuncId}{bl:A3 Ty}{args l:A3 Ty}(e:fN P f E sz bl args l)(k:look Γ u=some (.same t))(o:look Γ t=some (.buf E sz bl))(q:AR Γ xs args)(A:dd<N):Step P N ops ⟨some dd,.call ⟨.value<| .func f,(.tmp u::xs).toArray,FX⟩,ty,pos,af,none⟩ Γ ((dd,.buf E sz l)::del dd (BH t Γ)):=aiQ e (.inr ⟨u,rfl,k⟩) o q A Γ<|λ_ h=>h
end
section
variable[D:DR]
variable{P:Program}{w0:Ah P}{H0:HV}{N:Nat}{Q:Exit->Act->World->Prop}{Γ Ar:Ctx}{d:Option Tmp}{ty:TypeId}{pos:String}{af:Array Edge}{g:Option (Nat×Bool)}
def apA{T:Ap}{τ:Ty}(h:DF P T τ):DF P T (Gt τ.n τ.agg):=⟨λw=>by let⟨z,e,k⟩:=h.run w;exact⟨z,e,λH=>τ.shape<|k H⟩⟩
def oT{β:Type}(F:β->Ty)(n:Nat)(agg:Bool)(h:∀x,(F x).n=n/\(F x).agg=agg)(o:A9 β):Ty where
 n:=n
 agg:=agg
 ok:=λH v=>match o with|some x=>(F x).ok H v|none=>Shape n agg v
 mono:=λ{H H' v} e k=>by cases o with|none=>exact k|some x=>exact(F x).mono e k
 shape:=λ{H v} k=>by cases o with|none=>exact k|some x=>have:=(F x).shape k;rwa [(h x).1,(h x).2] at this
def mlk{α β:Type}[DecidableEq α](l:A3 (α×β))(x:α):A9 β:=match mix x l with|none=>none|some j=>(l[j]?).map (·.2)
def ak2{w0:Ah P}{β:Type}{F:β->Ty}{n:Nat}{agg:Bool}{h:∀x,(F x).n=n/\(F x).agg=agg}{o:A9 β}{t:Nat}{T:Ap}{z:β}(k:look Γ t=some (.own T<|oT F n agg h o))(C:(!o.isSome)=false):GX w0 N Γ ((t,.own T<|F<|o.getD z)::BH t Γ):=λH0 a w H A=>by
 let⟨b,x,e,G,I,J,O⟩:=A.holds _<|B8 k
 refine⟨H,lP (us:=[]) A (λq R=>Cp q R) ⟨b,x,e,G,?_,J,O⟩ (λc S=>⟨_,B8 k,.inl rfl,S⟩) (λ_ _ h=>by cases h)⟩;cases o with|none=>cases C|some y=>exact I
end
section
variable[D:DR]
variable{P:Program}{w0:Ah P}{H0:HV}{N:Nat}{Q:Exit->Act->World->Prop}{Γ Ar:Ctx}{d:Option Tmp}{ty:TypeId}{pos:String}{af:Array Edge}{g:Option (Nat×Bool)}
variable{α β:Type}[DecidableEq α]{K E Eb T:TypeId}{sz:Nat}{fK:α->Ty}
def ant{F:β->Ty}{n:Nat}{agg:Bool}{hF:∀x,(F x).n=n/\(F x).agg=agg}{t:Nat}{m k:C9}{l:A3 (α×β)}{x:α}(G:T9 P T K E=true)(I:QT P K fK)(X:DF P E (Gt n agg))(Y:Oq Γ m t)(Z:look Γ t=some (.Fa K E Eb sz<|mM fK (λv=> .val<|F v) l))(hx:Arg Γ k (fK x)):B0 P Γ ⟨d,.lookup T m k true,ty,pos,af,g⟩ (.tup [oT F n agg hF<|mlk l x,Az (mlk l x).isSome]):=
 DA λ_ _ _ a w H q=>by
  let⟨r,es,e,J,hn,hmi,O,Ov⟩:=q.holds _<|B8 Z
  have R:a.eval m= .map (some r):=by rw[Y.ok q];exact e
  have S:=hx.ok q;let⟨k1,k2⟩:=zd O;have o:=run_findKey I S (w:=w) k1 k2;have U:=I.check H _ x S es.isEmpty w;let⟨V,A,C⟩:=X.run w;cases h:mix x l with
  |none=>
   rw[h] at o;refine⟨.tuple #[V,.bool false],?_,⟨#[V,.bool false],rfl,?_⟩,rfl⟩
   .simp[execOp,R,Instr.lookup,E6<|XU G,run_getObj_map J,U,o,A]
   .have:mlk l x=none:=by simp[mlk,h]
    rw[this];exact⟨_,_,rfl,C H,_,_,rfl,rfl,rfl⟩
  |some j=>
   rw[h] at o;let⟨v,W⟩:=nm h;let⟨y,h1,_,h3,_⟩:=YY O (j:=j) (k:=fK x) (e:= .val<|F v) (by simp[W]);simp only[NC,h1,Y9] at o;refine⟨.tuple #[y.val,.bool true],?_,⟨#[y.val,.bool true],rfl,?_⟩,rfl⟩
   .simp[execOp,R,Instr.lookup,E6<|XU G,run_getObj_map J,U,o]
   .have:mlk l x=some v:=by simp[mlk,h,W]
    rw[this];exact⟨_,_,rfl,h3,_,_,rfl,rfl,rfl⟩
end
section
variable[D:DR]
variable{P:Program}{w0:Ah P}{H0:HV}{N:Nat}{Q:Exit->Act->World->Prop}{Γ Ar:Ctx}{d:Option Tmp}{ty:TypeId}{pos:String}{af:Array Edge}{g:Option (Nat×Bool)}
def aoN{α:Type}{f:α->Ty}{l:A3 α}{ops:B9 Oper}{o:Oper}{t dd:Nat}{E:Ap}{sz:Nat}{s:AT}(S:look Γ t=some (.buf E sz<|lT f l))(h:B0 P ((t,.val<|TL f l)::BH t Γ) o s)(U:o.guard=none)(V:o.dst=some dd)(W:dd<N)(X:s.JB dd=false):Nh P N ops Γ o t dd s:=λkT I=>by
 intro w0 H0 a w H J K Q k;simp only[Region.wanted,U,if_true];have O:=I _<|B8 S
 let⟨xs,Y,Z,C⟩:=J.holds _ O;have R:=aQ (τ:=TL f l) J O (λb=>(Ad a t).ownBlock=some b) (λb h=>⟨h,(C b h).2⟩) (Uz (a:=a) ⟨xs,Y,Z,C⟩ (λr o h=>by
  by_cases e:(Ad a t).ownBlock=some r
  .rw[(C r e).1] at h;cases h
  .simp[e,h]) (λb hb _ o F=>by simp[hb,F]))
 refine h w0 H0 N a w _ (R.weaken ?_) K Q λv w' H'' he hv G=>?_
 .intro q A;rcases Ak.1 A with e|A
  .subst e;exact Ca
  .exact Bg _<|N0 (I q (Cp q A).1) (Cp q A).2
 .rw[V];exact k _ _ _<|Q2 (R.weaken λq A=>Bg _<|K0 q A) he W N1 (X2 X) hv G
end
section
variable[D:DR]
def ck(b:Bool)(p:Prop):Prop:=match b with|true=>p|false=>False
def ck_{b:Bool}{p:Prop}(h:ck b p):b=true/\p:=by
 cases b
 .exact h.elim
 .exact⟨rfl,h⟩
def lkV(o:A9 AT)(K:Ty->Prop):Prop:=match o with|some (.val τ)=>K τ|_=>False
theorem rC{o:A9 AT}{K:Ty->Prop}(h:lkV o K):∃τ,o=some (.val τ)/\K τ:=by
 unfold lkV at h;split at h
 .grind
 .exact h.elim
def IG(Γ:Ctx):A3 Nat->A9 Ctx
 |[]=>some []
 |t::ts=>match look Γ t,IG Γ ts with|some s,some Ar=>some ((t,s)::Ar)|_,_=>none
def Km{Γ:Ctx}:∀{e:A3 Nat} {Ar:Ctx},IG Γ e=some Ar->Dm Γ e Ar
 |[],_,h=>by cases h;exact .nil
 |t::e,Ar,h=>by
  unfold IG at h;split at h
  .rename_i h1 h2;cases h;exact .cons h1<|Km h2
  .cases h
end
section
variable[D:DR]
variable{P:Program}{w0:Ah P}{H0:HV}{N:Nat}{ops:Array Oper}{Γ Ar E0:Ctx}{l:List Oper}{d:Nat}{op:Op}{ty:TypeId}{pos:String}{af:Array Edge}{K:Ctx->Prop}{Q:Exit->Act->World->Prop}
variable{s:AT}
structure CK(P:Bz)(w0:Ah P)(N:Nat)(ops:B9 Oper)(l:A3 Oper)(Γ:Ctx)(K:Ctx->Prop):Prop where
 w:∃Ar,HK P w0 N ops l Γ Ar/\K Ar
def fr(N d:Nat)(s:AT)(Γ:Ctx):Bool:=Nat.blt d N&&(Hl d Γ&& !s.JB d)
def fo(N d:Nat)(s:AT):Bool:=Nat.blt d N&& !s.JB d
def fr_{N d:Nat}{Γ:Ctx}(h:fr N d s Γ=true):d<N/\Hl d Γ=true/\s.JB d=false:=by simp only[fr,Bq,F6] at h;exact⟨Ac h.1,h.2.1,h.2.2⟩
def fo_{N d:Nat}(h:fo N d s=true):d<N/\s.JB d=false:=by simp only[fo,Bq,F6] at h;exact⟨Ac h.1,h.2⟩
def cP(h:B0 P Γ ⟨some d,op,ty,pos,af,none⟩ s)(r:ck (fr N d s Γ) (CK P w0 N ops l ((d,s)::Γ) K)):CK P w0 N ops (⟨some d,op,ty,pos,af,none⟩::l) Γ K:=by let⟨e,Ar,k,o⟩:=ck_ r;let⟨q,b2,b3⟩:=fr_ e;exact⟨Ar,.cons (Step.pure h rfl rfl q b2 b3) k,o⟩
def cO(h:B0 P Γ ⟨some d,op,ty,pos,af,none⟩ s)(r:ck (fo N d s) (CK P w0 N ops l ((d,s)::del d Γ) K)):CK P w0 N ops (⟨some d,op,ty,pos,af,none⟩::l) Γ K:=by let⟨e,Ar,k,o⟩:=ck_ r;let⟨q,b3⟩:=fo_ e;exact⟨Ar,.cons (Step.over h rfl rfl q b3) k,o⟩
def cS{o:Oper}(h:Step P N ops o Γ E0)(r:CK P w0 N ops l E0 K):CK P w0 N ops (o::l) Γ K:=by let⟨Ar,e,k⟩:=r;exact⟨Ar,.cons h e,k⟩
def cG(h:GX w0 N Γ E0)(r:CK P w0 N ops l E0 K):CK P w0 N ops l Γ K:=by let⟨Ar,e,k⟩:=r;exact⟨Ar,.ghost h e,k⟩
def cF(e:A3 Nat)(h:IG Γ e=some E0)(r:K E0):CK P w0 N ops [] Γ K:=⟨E0,.fin<|Km h,r⟩
def cY{e:A3 Nat}(h:Dm Γ e E0)(r:K E0):CK P w0 N ops [] Γ K:=⟨E0,.fin h,r⟩
def cPr(h:B0 P Γ ⟨some d,op,ty,pos,af,none⟩ s)(e:fr N d s Γ=true)(r:CK P w0 N ops l ((d,s)::Γ) K):CK P w0 N ops (⟨some d,op,ty,pos,af,none⟩::l) Γ K:=cP h (by rw[e];exact r)
def asF(m t:Nat):Bool:=Nat.beq (Nat.mod (Nat.div m<|Nat.pow 2 t) 2) 1
def fm(m:Nat):Ctx->A9 Ctx
 |[]=>some []
 |(t,s)::Γ=>match asF m t with
  |true=>match fm m Γ with|some Ar=>some ((t,s)::Ar)|none=>none
  |false=>fm m Γ
def fm_{m:Nat}:∀{Γ Ar:Ctx},fm m Γ=some Ar->∀q∈Ar,q∈Γ
 |[],_,h,q,k=>by cases h;exact k
 |(t,s)::Γ,Ar,h,q,k=>by
  unfold fm at h;split at h
  .split at h
   .rename_i h1;cases h;rcases Ak.1 k with e|k
    .rw[e];simp
    .exact Bg _<|fm_ h1 q k
   .cases h
  .exact Bg _<|fm_ h q k
def gm{m:Nat}(h:fm m Γ=some E0):GX w0 N Γ E0:=λ_ _ _ H e=>⟨H,e.weaken<|fm_ h⟩
def U(m:Nat)(h:fm m Γ=some E0)(r:K E0):CK P w0 N ops [] Γ K:=cG (gm h) ⟨E0,.done,r⟩
def cWm(m:Nat)(h:fm m Γ=some E0)(r:CK P w0 N ops l E0 K):CK P w0 N ops l Γ K:=cG (gm h) r
def cD(r:K Γ):CK P w0 N ops [] Γ K:=⟨Γ,.done,r⟩
end
section
variable[D:DR]
variable{P:Program}{w0:Ah P}{H0:HV}{N:Nat}{ops:Array Oper}{Γ Ar E0:Ctx}{l:List Oper}{d:Nat}{op:Op}{ty:TypeId}{pos:String}{af:Array Edge}{K:Ctx->Prop}{Q:Exit->Act->World->Prop}
variable{x y:Operand}{t t':Nat}{T T':TypeId}{τ σ:Ty}{k:IntKind}{m n:Int}{b e:Bool}
variable{off:Nat}{L:A3 Ty}{g:A9 (Nat×Bool)}{α:Type}{j dj:Nat}{want:Bool}{Al:Ctx}{s:AT}
abbrev G(P:Bz)(w0:Ah P)(N:Nat)(ops:B9 Oper)(l:A3 Oper)(Γ:Ctx)(K:Ctx->Prop)(d:Nat)(s:AT):Prop:=ck (fr N d s Γ)<|CK P w0 N ops l ((d,s)::Γ) K
def lkT(o:A9 AT)(K:A3 Ty->Prop):Prop:=match o with|some (.tup l)=>K l|_=>False
theorem ab7{o:A9 AT}{K:A3 Ty->Prop}(h:lkT o K):∃l,o=some (.tup l)/\K l:=by
 unfold lkT at h;split at h
 .grind
 .exact h.elim
def lkO{α:Type}(o:A9 α)(K:α->Prop):Prop:=match o with|some x=>K x|_=>False
theorem aqR{o:A9 α}{K:α->Prop}(h:lkO o K):∃x,o=some x/\K x:=by
 unfold lkO at h;split at h
 .grind
 .exact h.elim
def cM(r:lkV (look Γ t) λτ=>G P w0 N ops l Γ K d<| .val τ):CK P w0 N ops (⟨some d,.move<| .tmp t,ty,pos,af,none⟩::l) Γ K:=by let⟨τ,h,o⟩:=rC r;exact cP (dI<| .t h) o
def cA(r:lkV (look Γ t) λτ=>G P w0 N ops l Γ K d<| .val τ):CK P w0 N ops (⟨some d,.assign<| .tmp t,ty,pos,af,none⟩::l) Γ K:=by let⟨τ,h,o⟩:=rC r;exact cP (B7<| .t h) o
def cI(r:G P w0 N ops l Γ K d (.val<|TI k n)):CK P w0 N ops (⟨some d,.assign<| .const<| .int k n,ty,pos,af,none⟩::l) Γ K:=cP (B7 .int) r
def cB(r:G P w0 N ops l Γ K d (.val<|Az b)):CK P w0 N ops (⟨some d,.assign<| .const<| .bool b,ty,pos,af,none⟩::l) Γ K:=cP (B7 .bool) r
def cN(r:G P w0 N ops l Γ K d (.val<|TI k n)):CK P w0 N ops (⟨some d,.move<| .const<| .int k n,ty,pos,af,none⟩::l) Γ K:=cP (dI .int) r
def cX(r:lkV (look Γ t) λτ=>G P w0 N ops l Γ K d<| .own T τ):CK P w0 N ops (⟨some d,.box T<| .tmp t,ty,pos,af,none⟩::l) Γ K:=by let⟨τ,h,o⟩:=rC r;exact cP (ao0<| .t h) o
def cE{i:Nat}(r:lkT (look Γ t) λL=>lkO L[i]? λτ=>G P w0 N ops l Γ K d<| .val τ):CK P w0 N ops (⟨some d,.extract (.tmp t) i,ty,pos,af,none⟩::l) Γ K:=by let⟨L,h,o⟩:=ab7 r;let⟨τ,q,A⟩:=aqR o;exact cP (FO h q) A
def cZ(r:lkT (look Γ t) λL=>G P w0 N ops l Γ K d<| .tup L):CK P w0 N ops (⟨some d,.move<| .tmp t,ty,pos,af,none⟩::l) Γ K:=by let⟨L,h,o⟩:=ab7 r;exact cP (L2 h) o
def cQ(r:G P w0 N ops l Γ K d (.same t)):CK P w0 N ops (⟨some d,.move<| .tmp t,ty,pos,af,none⟩::l) Γ K:=cP D6 r
def cU(h:look Γ t=some (.own T' τ))(o:Bj P T τ.n τ.agg=true)(r:G P w0 N ops l Γ K d (.val τ)):CK P w0 N ops (⟨some d,.load T<| .tmp t,ty,pos,af,none⟩::l) Γ K:=cP (Am h o) r
def cR(h:look Γ t=some (.val<|GH τ))(o:Bj P T τ.n τ.agg=true)(r:G P w0 N ops l Γ K d (.val τ)):CK P w0 N ops (⟨some d,.load T<| .tmp t,ty,pos,af,none⟩::l) Γ K:=cP (BU (.t h) o) r
def cRc(h:(look Γ t,Bj P T τ.n τ.agg)=(some<| .val<|GH τ,true))(r:G P w0 N ops l Γ K d (.val τ)):CK P w0 N ops (⟨some d,.load T<| .tmp t,ty,pos,af,none⟩::l) Γ K:=cR (congrArg (·.1) h) (congrArg (·.2) h) r
def lk2(Γ:Ctx)(t:Nat):A9 (Nat×Ty):=match look Γ t with
 |some (.ptr t' off)=>match look Γ t' with|some (.own _ τ)=>some (off,τ)|_=>none
 |_=>none
theorem aqS{Γ:Ctx}{t:Nat}{τ:Ty}(h:lk2 Γ t=some (off,τ)):∃t' T,look Γ t=some (.ptr t' off)/\look Γ t'=some (.own T τ):=by
 unfold lk2 at h;split at h
 .grind
 .cases h
def pick(L:A3 Ty)(i off:Nat):A9 Ty:=match Nat.beq (C7<|L.take i) off with|true=>L[i]?|false=>none
def qd{i:Nat}{σ:Ty}(h:pick L i off=some σ):BM (Cl L) off σ:=by
 unfold pick at h;split at h
 .rename_i e;exact .agg h<|DX e
 .cases h
def oP{d:A9 Tmp}(i:Nat)(h:lk2 Γ t=some (off,Cl L))(o:pick L i off=some σ)(q:Bj P T σ.n σ.agg=true):B0 P Γ ⟨d,.load T<| .tmp t,ty,pos,af,g⟩ (.val σ):=by let⟨t',T',k1,A⟩:=aqS h;exact Ej k1 A (qd o) q
def BN{d:A9 Tmp}(i:Nat)(h:(lk2 Γ t,pick L i off)=(some (off,Cl L),some σ))(o:Bj P T σ.n σ.agg=true):B0 P Γ ⟨d,.load T<| .tmp t,ty,pos,af,g⟩ (.val σ):=oP i (congrArg (·.1) h) (congrArg (·.2) h) o
def cV(i:Nat)(h:lk2 Γ t=some (off,Cl L))(o:pick L i off=some σ)(q:Bj P T σ.n σ.agg=true)(r:G P w0 N ops l Γ K d (.val σ)):CK P w0 N ops (⟨some d,.load T<| .tmp t,ty,pos,af,none⟩::l) Γ K:=cP (oP i h o q) r
def cK{o:Nat}(h:look Γ t=some (.own T' τ))(q:FI P T o off=true)(r:G P w0 N ops l Γ K d (.ptr t off)):CK P w0 N ops (⟨some d,.fieldAddr T (.tmp t) o,ty,pos,af,none⟩::l) Γ K:=cP (Ei h q) r
def cJ{f:α->Ty}{L:A3 α}(o:DJ P T=true)(h:look Γ t=some (.val<|TL f L))(r:G P w0 N ops l Γ K d (.val<|TI .i64 L.length)):CK P w0 N ops (⟨some d,.call ⟨.builtin .len,#[.tmp t],#[T]⟩,ty,pos,af,none⟩::l) Γ K:=cP (It o<| .t h) r
def cT(h:DF P T τ)(r:G P w0 N ops l Γ K d (.own T τ)):CK P w0 N ops (⟨some d,.alloc T,ty,pos,af,none⟩::l) Γ K:=cP (IU h) r
def cH{o:Int}(h:look Γ t=some (.val<|TI .i64 m))(q:AG (m+n)=some o)(r:G P w0 N ops l Γ K d (.val<|TI .i64 o)):CK P w0 N ops (⟨some d,.binOp .add T (.tmp t) (.const<| .int .i64 n) T',ty,pos,af,none⟩::l) Γ K:=cP (CX (.t h) .int q) r
def cL(h:look Γ t=some (.val<|TI k m))(o:look Γ t'=some (.val<|TI k n))(r:G P w0 N ops l Γ K d (.val<|Az<|decide<|m<n)):CK P w0 N ops (⟨some d,.binOp .lss T (.tmp t) (.tmp t') T',ty,pos,af,none⟩::l) Γ K:=cP (CH (.t h)<| .t o) r
def B6(h:(look Γ t,look Γ t')=(some<| .val<|TI k m,some<| .val<|TI k n))(r:G P w0 N ops l Γ K d (.val<|Az<|decide<|m<n)):CK P w0 N ops (⟨some d,.binOp .lss T (.tmp t) (.tmp t') T',ty,pos,af,none⟩::l) Γ K:=cL (congrArg (·.1) h) (congrArg (·.2) h) r
def oX{f:α->Ty}{L:A3 α}{d:A9 Tmp}{i:Int}{sz:Nat}{y:α}(o:Et P T sz=true)(q:∀z,(f z).n=sz)(A:look Γ t=some (.val<|TL f L))(hi:look Γ t'=some (.val<|TI k i))(h:AB L i=some y):B0 P Γ ⟨d,.indexAddr T (.tmp t)<| .tmp t',ty,pos,af,g⟩ (.val<|GH<|f y):=DW o q (.t A) (.t hi) h
def Nd(Γ:Ctx):A3 C9->A9 (A3 Ty)
 |[]=>some []
 | .tmp t::xs=>match look Γ t,Nd Γ xs with|some (.val τ),some l=>some (τ::l)|_,_=>none
 | .const (.int k n)::xs=>match Nd Γ xs with|some l=>some (TI k n::l)|_=>none
 | .const (.bool b)::xs=>match Nd Γ xs with|some l=>some (Az b::l)|_=>none
 |_=>none
def Yt{Γ:Ctx}:∀{xs:A3 C9} {l:A3 Ty},Nd Γ xs=some l->AR Γ xs l
 |[],_,h=>by cases h;exact .nil
 | .tmp t::xs,l,h=>by
  unfold Nd at h;split at h
  .rename_i h1 h2;cases h;exact .cons (.t h1)<|Yt h2
  .cases h
 | .const (.int k n)::xs,l,h=>by
  unfold Nd at h;split at h
  .rename_i h2;cases h;exact .cons .int<|Yt h2
  .cases h
 | .const (.bool b)::xs,l,h=>by
  unfold Nd at h;split at h
  .rename_i h2;cases h;exact .cons .bool<|Yt h2
  .cases h
def oC{f:FuncId}{xs:A3 C9}{FX:B9 Ap}{args:A3 Ty}{Ct:Res}{d:A9 Tmp}(h:Dy P f args Ct)(o:Nd Γ xs=some args):B0 P Γ ⟨d,.call ⟨.value<| .func f,xs.toArray,FX⟩,ty,pos,af,g⟩ (rA Ct):=ES h<|Yt o
def cC{f:FuncId}{xs:A3 C9}{FX:B9 Ap}{args:A3 Ty}{Ct:Res}(h:Dy P f args Ct)(o:Nd Γ xs=some args)(r:G P w0 N ops l Γ K d (rA Ct)):CK P w0 N ops (⟨some d,.call ⟨.value<| .func f,xs.toArray,FX⟩,ty,pos,af,none⟩::l) Γ K:=cP (oC h o) r
def gV(q:(ops[j]?).bind (·.dst)=some dj)(A:look Γ dj=some (.val<|Az b))(C:Gu Γ (gd b want) Al)(h:gd b want=true->B0 P Al ⟨some d,op,ty,pos,af,some (j,want)⟩ s)(r:ck (Nat.blt dj N&&fr N d s Γ) (CK P w0 N ops l ((d,.opt (gd b want) s)::Γ) K)):CK P w0 N ops (⟨some d,op,ty,pos,af,some (j,want)⟩::l) Γ K:=by let⟨o,Ar,F,G⟩:=ck_ r;rw[Bq] at o;let⟨I,b2,b3⟩:=fr_ o.2;exact⟨Ar,.cons (Step.guarded (.v rfl q A<|Ac o.1) (opO C h) rfl I b2 b3) F,G⟩
def AH(o:((ops[j]?).bind (·.dst),look Γ dj)=(some dj,some<| .val<|Az b))(q:Gu Γ (gd b want) Al)(h:gd b want=true->B0 P Al ⟨some d,op,ty,pos,af,some (j,want)⟩ s)(r:ck (Nat.blt dj N&&fr N d s Γ) (CK P w0 N ops l ((d,.opt (gd b want) s)::Γ) K)):CK P w0 N ops (⟨some d,op,ty,pos,af,some (j,want)⟩::l) Γ K:=gV (congrArg (·.1) o) (congrArg (·.2) o) q h r
def gO(A:(ops[j]?).bind (·.dst)=some dj)(C:look Γ dj=some (.opt e<| .val<|Az b))(F:Gu Γ (e&&gd b want) Al)(h:(e&&gd b want)=true->B0 P Al ⟨some d,op,ty,pos,af,some (j,want)⟩ s)(r:ck (Nat.blt dj N&&fr N d s Γ) (CK P w0 N ops l ((d,.opt (e&&gd b want) s)::Γ) K)):CK P w0 N ops (⟨some d,op,ty,pos,af,some (j,want)⟩::l) Γ K:=by let⟨q,Ar,G,I⟩:=ck_ r;rw[Bq] at q;let⟨J,b2,b3⟩:=fr_ q.2;exact⟨Ar,.cons (Step.guarded (.o rfl A C<|Ac q.1) (opO F h) rfl J b2 b3) G,I⟩
end
section
variable[D:DR]
variable{P:Program}{w0:Ah P}{H0:HV}{N:Nat}{ops:Array Oper}{Γ Ar E0:Ctx}{l:List Oper}{d:Nat}{op:Op}{ty:TypeId}{pos:String}{af:Array Edge}{K:Ctx->Prop}{Q:Exit->Act->World->Prop}
def rS{id:Nat}{y:Code}(r:ck (Hn l) (CK P w0 N l.toArray l Γ λAr=>Goal P w0 H0 N y Q Ar)):Goal P w0 H0 N (.seq (.region id l.toArray false) y) Q Γ:=by let⟨h,Ar,o,q⟩:=ck_ r;exact A8<|yG h o<|A7 q
def rK{id:Nat}(r:ck (Hn l) (CK P w0 N l.toArray l Γ λAr=>Df w0 H0 N (Q .normal) Ar)):Goal P w0 H0 N (.region id l.toArray false) Q Γ:=by let⟨h,Ar,o,q⟩:=ck_ r;exact yG h o q
structure PK(P:Bz)(N:Nat)(ops:B9 Oper)(Γ:Ctx)(acc:A3 Ctx)(l:A3 Oper)(K:A3 (A3 Nat)->A3 Bool->A3 Ctx->Prop):Prop where
 w:∃ER EJ S,E4 P N ops Γ acc l ER EJ S/\K ER EJ S
end
section
variable[D:DR]
variable{P:Program}{w0:Ah P}{H0:HV}{N:Nat}{ops:Array Oper}{Γ Ar E0:Ctx}{l:List Oper}{d:Nat}{op:Op}{ty:TypeId}{pos:String}{af:Array Edge}{K:Ctx->Prop}{Q:Exit->Act->World->Prop}
variable{acc:List Ctx}{ts:List Nat}{Al:Ctx}{s s' su:AT}{t u:Nat}{o:Oper}{R:List (List Nat)->List Bool->List Ctx->Prop}
def dN(r:R [] [] acc):PK P N ops Γ acc [] R:=⟨_,_,_,.nil,r⟩
def dP(ts:A3 Nat)(q:IG (acc.flatten++Γ) ts=some Al)(h:B0 P Al ⟨some d,op,ty,pos,af,none⟩ s)(r:ck (Nat.blt d N) (PK P N ops Γ ([(d,s)]::acc) l λn p S=>R (ts::n) (true::p) S)):PK P N ops Γ acc (⟨some d,op,ty,pos,af,none⟩::l) R:=by let⟨A,n,p,S,C,F⟩:=ck_ r;exact⟨_,_,S,.cons (Km q) h rfl rfl (Ac A) C,F⟩
def dM{τ:Ty}(i:Nat)(h:(IG (acc.flatten++Γ) [i],look Al t)=(some Al,some<| .val τ))(r:ck (Nat.blt d N) (PK P N ops Γ ([(d,.val τ)]::acc) l λn p S=>R ([i]::n) (true::p) S)):PK P N ops Γ acc (⟨some d,.move<| .tmp t,ty,pos,af,none⟩::l) R:=dP [i] (congrArg (·.1) h) (dI<| .t<|congrArg (·.2) h) r
def dV{j dj:Nat}{want b:Bool}{q:Ctx}(ts:A3 Nat)(C:IG (acc.flatten++Γ) ts=some Al)(F:(ops[j]?).bind (·.dst)=some dj)(G:look Al dj=some (.val<|Az b))(I:Gu Al (gd b want) q)(h:gd b want=true->B0 P q ⟨some d,op,ty,pos,af,some (j,want)⟩ s)(r:ck (Nat.blt dj N&&Nat.blt d N) (PK P N ops Γ ([(d,.opt (gd b want) s)]::acc) l λn p S=>R (ts::n) (true::p) S)):PK P N ops Γ acc (⟨some d,op,ty,pos,af,some (j,want)⟩::l) R:=by let⟨A,n,p,S,J,O⟩:=ck_ r;rw[Bq] at A;exact⟨_,_,S,.guarded (Km C) (.v rfl F G<|Ac A.1) (opO I h) rfl (Ac A.2) J,O⟩
def dS(ts:A3 Nat)(q:IG (acc.flatten++Γ) ts=some Al)(h:Ma P N ops Al o t s)(r:PK P N ops Γ ([(t,s)]::acc) l λn p S=>R (ts::n) (false::p) S):PK P N ops Γ acc (o::l) R:=by let⟨n,p,S,A,C⟩:=r;exact⟨_,_,S,.store (Km q) h A,C⟩
def dG(q ts:A3 Nat)(A:IG (acc.flatten++Γ) ts=some Al)(h:Nh P N ops Al o t d s)(r:PK P N ops Γ (((d,s)::(t,.gone)::q.map λu=>(u,.gone))::acc) l λn p S=>R (ts::n) (true::p) S):PK P N ops Γ acc (o::l) R:=by let⟨n,p,S,C,F⟩:=r;exact⟨_,_,S,.arz q (Km A) h C,F⟩
def dT(ts:A3 Nat)(q:IG (acc.flatten++Γ) ts=some Al)(h:iU P N ops Al o t s' d s)(r:PK P N ops Γ ([(d,s),(t,s')]::acc) l λn p S=>R (ts::n) (true::p) S):PK P N ops Γ acc (o::l) R:=by let⟨n,p,S,A,C⟩:=r;exact⟨_,_,S,.two (Km q) h A,C⟩
end
section
variable[D:DR]
variable{P:Program}{w0:Ah P}{H0:HV}{N:Nat}{ops:Array Oper}{Γ Ar E0:Ctx}{l:List Oper}{d:Nat}{op:Op}{ty:TypeId}{pos:String}{af:Array Edge}{K:Ctx->Prop}{Q:Exit->Act->World->Prop}
def Vg(ops:A3 Oper):A3 (A3 Nat):=ops.foldl (λh o=>h++[(List.range h.length).filter λj=>(QS o).any λe=>e.on==j||(h.getD e.on []).contains j]) []
def DE(P:Bz)(w0:Ah P)(N:Nat)(ops:A3 Oper)(k:Nat)(Γ:Ctx)(K:Ctx->Prop)(q:A3 (A3 Nat))(A:A3 Bool)(S:A3 Ctx):Prop:=∃ts h,(LS ops.toArray (Vg ops)&&R2 k (S.reverse.map Il) q A (M9 Γ) (Vg ops)&&OP ops.toArray k (Vg ops))=true/\IG (S.flatten++Γ) ts=some h/\CK P w0 N ops.toArray (ops.drop k) h K
def dE{q:A3 (A3 Nat)}{A:A3 Bool}{S:A3 Ctx}{k:Nat}{h:Ctx}(ts:A3 Nat)(C:IG (S.flatten++Γ) ts=some h)(F:(LS l.toArray (Vg l)&&R2 k (S.reverse.map Il) q A (M9 Γ) (Vg l)&&OP l.toArray k (Vg l))=true)(r:CK P w0 N l.toArray (l.drop k) h K):DE P w0 N l k Γ K q A S:=⟨ts,h,F,C,r⟩
def gD{id:Nat}(k:Nat)(h:P.follows .mixedOrders=true)(r:ck (Hn l) (PK P N l.toArray Γ [] (l.take k)<|DE P w0 N l k Γ λAr=>Df w0 H0 N (Q .normal) Ar)):Goal P w0 H0 N (.region id l.toArray true) Q Γ:=by let⟨q,n,p,S,A,ts,J,C,F,Ar,G,I⟩:=ck_ r;exact aoQ (k:=k) q _ _ _ _ _ h C A rfl rfl (Km F) G I
def gE{id:Nat}{y:Code}(k:Nat)(h:P.follows .mixedOrders=true)(r:ck (Hn l) (PK P N l.toArray Γ [] (l.take k)<|DE P w0 N l k Γ λAr=>Goal P w0 H0 N y Q Ar)):Goal P w0 H0 N (.seq (.region id l.toArray true) y) Q Γ:=
 A8 (gD k h (by let⟨q,r⟩:=ck_ r;rw[q];let⟨n,p,S,A,ts,C,F,G,Ar,I,J⟩:=r;exact⟨n,p,S,A,ts,C,F,G,Ar,I,A7 J⟩))
end
section
variable[D:DR]
variable{P:Program}{w0:Ah P}{H0:HV}{N:Nat}{ops:Array Oper}{Γ Ar E0:Ctx}{l:List Oper}{d:Nat}{op:Op}{ty:TypeId}{pos:String}{af:Array Edge}{K:Ctx->Prop}{Q:Exit->Act->World->Prop}
variable{x y:Operand}{t t':Nat}{T T':TypeId}{τ σ:Ty}{k:IntKind}{m n:Int}{b e:Bool}{g:Option (Nat×Bool)}{dd:Option Tmp}
variable{s:AT}{sz:Nat}{ps:A3 (Nat×C9)}{l':A3 Ty}
def aT(h:look Γ t=some (.val τ)):Arg Γ (.tmp t) τ:= .t h
def aI:Arg Γ (.const<| .int k n) (TI k n):= .int
def aB:Arg Γ (.const<| .bool b) (Az b):= .bool
def sS(ts:A3 Nat)(h:IG Γ ts=some Ar):Dm Γ ts Ar:=Km h
def oM(h:look Γ t=some (.val τ)):B0 P Γ ⟨dd,.move<| .tmp t,ty,pos,af,g⟩ (.val τ):=dI<| .t h
def oA(h:look Γ t=some (.val τ)):B0 P Γ ⟨dd,.assign<| .tmp t,ty,pos,af,g⟩ (.val τ):=B7<| .t h
def iO{i:Int}{len:Nat}(h:look Γ t=some (.own T' τ))(A:IC P T len sz=true)(q:(decide (0<=i)&&decide (i<(len:Int)))=true):B0 P Γ ⟨dd,.indexAddr T (.tmp t)<| .const<| .int k i,ty,pos,af,g⟩ (.ptr t<|i.toNat*sz):=by rw[Bq,Um,Um] at q;exact uB h A .int q.1 q.2
def VS(Γ:Ctx):A3 (Nat×C9)->A3 Ty->A9 (A3 Ty)
 |[],l=>some l
 |(i,x)::ps,l=>match Nd Γ [x],l[i]? with
  |some [σ],some τ=>match Nat.beq σ.n τ.n with|true=>VS Γ ps<|l.set i σ|false=>none
  |_,_=>none
def pV{Γ:Ctx}:∀{ps:A3 (Nat×C9)} {l l':A3 Ty},VS Γ ps l=some l'->Cw P Γ ps l l'
 |[],_,_,h=>by cases h;exact .nil
 |(i,x)::ps,l,l',h=>by
  unfold VS at h;split at h
  .rename_i σ τ h1 h2;split at h
   .rename_i h3;cases Yt h1 with|cons q _=>exact .cons q h2 (DX h3)<|pV h
   .cases h
  .cases h
def bB{l:A3 Ty}(h:DF P T (Cl l))(q:L7 P T (EZ l)=true)(A:VS Γ ps l=some l'):B0 P Γ ⟨dd,.build T ps.toArray,ty,pos,af,g⟩ (.val<|Cl l'):=Ru h q<|pV A
def bA{n:Nat}{l:A3 Ty}(q:DF P T (Cl l))(A:IC P T n sz=true)(C:(l.all λτ=>Nat.beq τ.n sz)=true)(F:VS Γ ps l=some l'):B0 P Γ ⟨dd,.build T ps.toArray,ty,pos,af,g⟩ (.val<|Cl l'):=Wo q A (λτ h=>DX<|DC.1 C τ h) (pV F)
def bS{E:Ap}{n:Nat}(q:DF P E τ)(A:FJ P T E sz=true)(C:VS Γ ps (List.replicate n τ)=some l')(h:(Nat.beq τ.n sz&&(Nat.blt 0 (n*sz)&&(Nat.ble (n*sz) 16777216&&Nat.beq l'.length n)))=true):B0 P Γ ⟨dd,.buildSlice T n ps.toArray,ty,pos,af,g⟩ (.val<|F2 l'):=by simp only[Bq] at h;exact kM q A (DX h.1) h.2.1 h.2.2.1 (pV C)<|DX h.2.2.2
def cs(h:look Γ t=some (.own T' τ))(q:look Γ t'=some (.val σ))(A:σ.n=τ.n)(C:Bj P T σ.n σ.agg=true)(r:CK P w0 N ops l ((t,.own T' σ)::BH t Γ) K):CK P w0 N ops (⟨none,.store T (.tmp t)<| .tmp t',ty,pos,af,none⟩::l) Γ K:=cS (aeS h (.t q) A C) r
def Ag(h:(look Γ t,look Γ t',σ.n)=(some<| .own T' τ,some<| .val σ,τ.n))(q:Bj P T σ.n σ.agg=true)(r:CK P w0 N ops l ((t,.own T' σ)::BH t Γ) K):CK P w0 N ops (⟨none,.store T (.tmp t)<| .tmp t',ty,pos,af,none⟩::l) Γ K:=cs (congrArg (·.1) h) (congrArg (·.2.1) h) (congrArg (·.2.2) h) q r
def ds(h:look Γ t=some (.own T' τ))(q:look Γ t'=some (.val σ))(A:σ.n=τ.n)(C:Bj P T σ.n σ.agg=true):Ma P N ops Γ ⟨none,.store T (.tmp t)<| .tmp t',ty,pos,af,none⟩ t (.own T' σ):=ae6 h (.t q) A C
def Bu(h:(look Γ t,look Γ t',σ.n)=(some<| .own T' τ,some<| .val σ,τ.n))(q:Bj P T σ.n σ.agg=true):Ma P N ops Γ ⟨none,.store T (.tmp t)<| .tmp t',ty,pos,af,none⟩ t (.own T' σ):=ds (congrArg (·.1) h) (congrArg (·.2.1) h) (congrArg (·.2.2) h) q
def ov(t:Nat)(h:look Γ t=some s)(r:Gu Γ e Ar):Gu Γ e ((t,s)::Ar):= .v h r
def oo(t:Nat){c:Bool}(h:look Γ t=some (.opt c s))(k:e=true->c=true)(r:Gu Γ e Ar):Gu Γ e ((t,s)::Ar):= .o h k r
def on:Gu Γ e []:= .nil
def AU(t:Nat)(h:look Γ t=some s):Gu Γ e [(t,s)]:= .v h .nil
def AP(t:Nat)(h:look Γ t=some (.opt e s)):Gu Γ e [(t,s)]:= .o h id .nil
end
section
variable[D:DR]
variable{P:Program}{w0:Ah P}{H0:HV}{N:Nat}{ops:Array Oper}{Γ Ar E0:Ctx}{l:List Oper}{d:Nat}{op:Op}{ty:TypeId}{pos:String}{af:Array Edge}{K:Ctx->Prop}{Q:Exit->Act->World->Prop}
variable{α β γ δ ε ζ ρ:Type}{r:ρ}{e:Option α}{f:α->Option β}{g:α->β->Option γ}{h:α->β->γ->Option δ}{i:α->β->γ->δ->Option ε}{j:α->β->γ->δ->ε->Option ζ}
def b2{K:α->β->A9 ρ}(q:(bd e λx=>bd (f x)<|K x)=some r):∃x,e=some x/\∃y,f x=some y/\K x y=some r:=by let⟨x,A,q⟩:=Ay q;let⟨y,C,q⟩:=Ay q;exact⟨x,A,y,C,q⟩
def b3{K:α->β->γ->A9 ρ}(q:(bd e λx=>bd (f x) λy=>bd (g x y)<|K x y)=some r):∃x,e=some x/\∃y,f x=some y/\∃z,g x y=some z/\K x y z=some r:=by let⟨x,A,y,C,q⟩:=b2 q;let⟨z,F,q⟩:=Ay q;exact⟨x,A,y,C,z,F,q⟩
def b4{K:α->β->γ->δ->A9 ρ}(q:(bd e λx=>bd (f x) λy=>bd (g x y) λz=>bd (h x y z)<|K x y z)=some r):∃x,e=some x/\∃y,f x=some y/\∃z,g x y=some z/\∃u,h x y z=some u/\K x y z u=some r:=by let⟨x,A,y,C,z,F,q⟩:=b3 q;let⟨u,G,q⟩:=Ay q;exact⟨x,A,y,C,z,F,u,G,q⟩
def b5{K:α->β->γ->δ->ε->A9 ρ}(q:(bd e λx=>bd (f x) λy=>bd (g x y) λz=>bd (h x y z) λu=>bd (i x y z u)<|K x y z u)=some r):∃x,e=some x/\∃y,f x=some y/\∃z,g x y=some z/\∃u,h x y z=some u/\∃v,i x y z u=some v/\K x y z u v=some r:=by let⟨x,A,y,C,z,F,u,G,q⟩:=b4 q;let⟨v,I,q⟩:=Ay q;exact⟨x,A,y,C,z,F,u,G,v,I,q⟩
def b6{K:α->β->γ->δ->ε->ζ->A9 ρ}(q:(bd e λx=>bd (f x) λy=>bd (g x y) λz=>bd (h x y z) λu=>bd (i x y z u) λv=>bd (j x y z u v)<|K x y z u v)=some r):∃x,e=some x/\∃y,f x=some y/\∃z,g x y=some z/\∃u,h x y z=some u/\∃v,i x y z u=some v/\∃w,j x y z u v=some w/\K x y z u v w=some r:=by let⟨x,A,y,C,z,F,u,G,v,I,q⟩:=b5 q;let⟨w,J,q⟩:=Ay q;exact⟨x,A,y,C,z,F,u,G,v,I,w,J,q⟩
end
section
variable[D:DR]
variable{P:Program}{w0:Ah P}{H0:HV}{N:Nat}{ops:Array Oper}{Γ Ar E0:Ctx}{l:List Oper}{d:Nat}{op:Op}{ty:TypeId}{pos:String}{af:Array Edge}{K:Ctx->Prop}{Q:Exit->Act->World->Prop}
variable{α β γ δ ε ζ ρ:Type}{r:ρ}{e:Option α}{f:α->Option β}{g:α->β->Option γ}{h:α->β->γ->Option δ}{i:α->β->γ->δ->Option ε}{j:α->β->γ->δ->ε->Option ζ}
variable{P:Program}{w0:Ah P}{H0:HV}{N:Nat}{c:Code}{Q:Exit->Act->World->Prop}{Γ:Ctx}
def AD{e:A9 α}{K:α->A9 ρ}(q:bd e K=some r)(k:∀x,e=some x->K x=some r->Goal P w0 H0 N c Q Γ):Goal P w0 H0 N c Q Γ:=by let⟨x,h,q⟩:=Ay q;exact k x h q
def BR{b:Bool}{d:α}{e:A9 α}{K:α->A9 ρ}(q:Aw b d e K=some r)(k:∀x,(b=true->e=some x)->K x=some r->Goal P w0 H0 N c Q Γ):Goal P w0 H0 N c Q Γ:=by let⟨x,h,q⟩:=GM q;exact k x h q
def gcI{b:Bool}{K:A9 ρ}(q:gC b K=some r)(k:b=true->K=some r->Goal P w0 H0 N c Q Γ):Goal P w0 H0 N c Q Γ:=k (Uw q).1 (Uw q).2
def BD{K:α->β->A9 ρ}(q:(bd e λx=>bd (f x)<|K x)=some r)(k:∀x,e=some x->∀y,f x=some y->K x y=some r->Goal P w0 H0 N c Q Γ):Goal P w0 H0 N c Q Γ:=AD q λx A q=>AD q λy C q=>k x A y C q
def CU{K:α->β->γ->A9 ρ}(q:(bd e λx=>bd (f x) λy=>bd (g x y)<|K x y)=some r)(k:∀x,e=some x->∀y,f x=some y->∀z,g x y=some z->K x y z=some r->Goal P w0 H0 N c Q Γ):Goal P w0 H0 N c Q Γ:=BD q λx A y C q=>AD q λz F q=>k x A y C z F q
def Ha{K:α->β->γ->δ->A9 ρ}(q:(bd e λx=>bd (f x) λy=>bd (g x y) λz=>bd (h x y z)<|K x y z)=some r)(k:∀x,e=some x->∀y,f x=some y->∀z,g x y=some z->∀u,h x y z=some u->K x y z u=some r->Goal P w0 H0 N c Q Γ):Goal P w0 H0 N c Q Γ:=CU q λx A y C z F q=>AD q λu G q=>k x A y C z F u G q
def b5I{K:α->β->γ->δ->ε->A9 ρ}(q:(bd e λx=>bd (f x) λy=>bd (g x y) λz=>bd (h x y z) λu=>bd (i x y z u)<|K x y z u)=some r)(k:∀x,e=some x->∀y,f x=some y->∀z,g x y=some z->∀u,h x y z=some u->∀v,i x y z u=some v->K x y z u v=some r->Goal P w0 H0 N c Q Γ):Goal P w0 H0 N c Q Γ:=Ha q λx A y C z F u G q=>AD q λv I q=>k x A y C z F u G v I q
def GL{K:α->β->γ->δ->ε->ζ->A9 ρ}(q:(bd e λx=>bd (f x) λy=>bd (g x y) λz=>bd (h x y z) λu=>bd (i x y z u) λv=>bd (j x y z u v)<|K x y z u v)=some r)(k:∀x,e=some x->∀y,f x=some y->∀z,g x y=some z->∀u,h x y z=some u->∀v,i x y z u=some v->∀w,j x y z u v=some w->K x y z u v w=some r->Goal P w0 H0 N c Q Γ):Goal P w0 H0 N c Q Γ:=b5I q λx A y C z F u G v I q=>AD q λw J q=>k x A y C z F u G v I w J q
end
section
variable[D:DR]
variable{P:Program}{w0:Ah P}{H0:HV}{N:Nat}{ops:Array Oper}{Γ Ar E0:Ctx}{l:List Oper}{d:Nat}{op:Op}{ty:TypeId}{pos:String}{af:Array Edge}{K:Ctx->Prop}{Q:Exit->Act->World->Prop}
variable{t:Nat}{x y:Code}{b:Bool}{ρ α:Type}{r:ρ}
def gc{X Y:A9 ρ}(A:look Γ t=some (.val<|Az b))(q:cond b X Y=some r)(C:b=true->X=some r->Goal P w0 H0 N x Q Γ)(F:b=false->Y=some r->Goal P w0 H0 N y Q Γ):Goal P w0 H0 N (.cond (.tmp t) x y) Q Γ:=Sq A (λh=>C h<|aol q h) (λh=>F h<|aoq q h)
def gQ{X Y:A9 ρ}(q:look Γ t=some (.val<|Az b))(A:cond b X Y=some r)(C:X=some r->Goal P w0 H0 N x Q Γ)(F:Y=some r->Goal P w0 H0 N y Q Γ):Goal P w0 H0 N (.cond (.tmp t) x y) Q Γ:=gc q A (λ_=>C) λ_=>F
def cm{q:α->Ctx}{k:α->A9 ρ}{i:α}(A:k i=some r)(h:IG Γ ((q i).map (·.1))=some (q i)):Df w0 H0 N (λa w=>Mid w0 H0 N q k r a w) Γ:=aq9 A<|Km h
def gl{σ:Type}(Al:σ->Ctx){n:Nat}{B:(σ->A9 ρ)->σ->A9 ρ}{s0:σ}{c:Code}(q:lp n B s0=some r)(A:IG Γ ((Al s0).map (·.1))=some (Al s0))
  (round:∀(k:σ->A9 ρ) (s:σ),B k s=some r->Goal P w0 H0 N c (Exit.then (Mid w0 H0 N Al k r) Q) (Al s)):Goal P w0 H0 N (.loop c) Q Γ:=aaD Al q (Km A) round
end
section
variable[D:DR]
variable{P:Program}{w0:Ah P}{H0:HV}{N:Nat}{ops:Array Oper}{Γ Ar E0:Ctx}{l:List Oper}{d:Nat}{op:Op}{ty:TypeId}{pos:String}{af:Array Edge}{K:Ctx->Prop}{Q:Exit->Act->World->Prop}
variable{f:FuncId}{fn:Func}{t t' T:Nat}{T':TypeId}{τ G5 σ σ':Ty}{Q:Exit->Act->World->Prop}
def AX{c:Code}{args:A3 Ty}{Ct:Res}{N:Nat}(C:P.funcs[f]? =some fn)(q:(fn.body,fn.ntmps)=(some c,N))(A:(FQ P f&&Nat.ble args.length N)=true)
  (h:∀{w0 H0},Goal P (Ah.call P w0) H0 N c (Oc P fn (Ah.call P w0) H0 Ct)<|G3 0 args):Dy P f args Ct:=by
 rw[Bq] at A;rw[Iv] at q;exact afw C q.1 q.2 (Cs A.2) A.1 λ_ _=>h
def r1(h:(((w0.X,w0.Gy,w0.ds,w0.rd),fn.results),look Γ t)=(((IJ,false,[],none),[.tmp t].toArray),some<| .val τ)):Df w0 H0 N (λa w=>Oc P fn w0 H0 (.vs [τ]) .ret a w) Γ:=by simp[Iv] at h;exact C8 (by simp[h]) h.1.2<| .tmp h.2 rfl .nil
def Aa{ρ:Type}{r x:ρ}{F:ρ->Ty}(q:some x=some r)(h:(((w0.X,w0.Gy,w0.ds,w0.rd),fn.results),look Γ t)=(((IJ,false,[],none),[.tmp t].toArray),some<| .val<|F x)):Df w0 H0 N (λa w=>Oc P fn w0 H0 (.vs [F r]) .ret a w) Γ:=by cases q;exact r1 h
def r2(h:(((w0.X,w0.Gy,w0.ds,w0.rd),fn.results),look Γ t,look Γ t')=(((IJ,false,[],none),[.tmp t,.tmp t'].toArray),some<| .val τ,some<| .val σ)):Df w0 H0 N (λa w=>Oc P fn w0 H0 (.vs [τ,σ]) .ret a w) Γ:=by simp[Iv] at h;exact C8 (by simp[h]) h.1.2<| .tmp h.2.1 rfl<| .tmp h.2.2 rfl .nil
def q1(h:(((w0.X,w0.Gy,w0.ds,w0.rd),fn.results),look Γ t)=(((IJ,false,[],none),[.cell t T].toArray),some<| .own T' τ))(q:Bj P T τ.n τ.agg=true):Df w0 H0 N (λa w=>Oc P fn w0 H0 (.vs [τ]) .ret a w) Γ:=by simp[Iv] at h;exact C8 (by simp[h]) h.1.2<| .cell h.2 (Eg q) rfl .nil
def C5{ρ:Type}{r x:ρ}{F:ρ->Ty}(q:some x=some r)(h:(((w0.X,w0.Gy,w0.ds,w0.rd),fn.results),look Γ t)=(((IJ,false,[],none),[.cell t T].toArray),some<| .own T'<|F x))(A:Bj P T (F x).n (F x).agg=true):Df w0 H0 N (λa w=>Oc P fn w0 H0 (.vs [F r]) .ret a w) Γ:=by cases q;exact q1 h A
end
section
variable[D:DR]
variable{P:Program}{w0:Ah P}{H0:HV}{N:Nat}{ops:Array Oper}{Γ Ar E0:Ctx}{l:List Oper}{d:Nat}{op:Op}{ty:TypeId}{pos:String}{af:Array Edge}{K:Ctx->Prop}{Q:Exit->Act->World->Prop}
variable{t d' k' off:Nat}{T T' T2 Qm:TypeId}{σ:Ty}{L:List Ty}{pos':String}{Qo:Array Edge}{acc:List Ctx}{R:List (List Nat)->List Bool->List Ctx->Prop}
def Xu{Γ:Ctx}{t:Nat}{s:AT}:look ((t,s)::Γ) t=some s:=by simp[look]
def pI{Γ:Ctx}{d t:Nat}{s s':AT}(h:Nat.beq d t=false)(k:look Γ t=some s'):look ((d,s)::Γ) t=some s':=by unfold look;rw[h];exact k
def Bn(i:Nat)(h:look Γ t=some (.own T'<|Cl L))(A:FI P T k' off=true)(C:pick L i off=some σ)(F:Bj P T2 σ.n σ.agg=true)(r:ck (fr N d (.ptr t off) Γ&&(!Nat.beq d t&&fr N d' (.val σ) ((d,.ptr t off)::Γ))) (CK P w0 N ops l ((d',.val σ)::(d,.ptr t off)::Γ) K)):CK P w0 N ops (⟨some d,.fieldAddr T (.tmp t) k',ty,pos,af,none⟩::⟨some d',.load T2<| .tmp d,Qm,pos',Qo,none⟩::l) Γ K:=by let⟨q,G⟩:=ck_ r;simp[Bq,F6] at q;refine cP (Ei h A) ?_;rw[q.1];refine cP (Ej Xu (pI q.2.1 h) (qd C) F) ?_;rw[q.2.2];exact G
def dQ(i:Nat)(h:look (acc.flatten++Γ) t=some (.own T'<|Cl L))(A:FI P T k' off=true)(C:pick L i off=some σ)(F:Bj P T2 σ.n σ.agg=true)(r:ck (Nat.blt d N&&(Nat.blt d' N&& !Nat.beq d t)) (PK P N ops Γ ([(d',.val σ)]::[(d,.ptr t off)]::acc) l λn p S=>R ([t]::[d,t]::n) (true::true::p) S)):PK P N ops Γ acc (⟨some d,.fieldAddr T (.tmp t) k',ty,pos,af,none⟩::⟨some d',.load T2<| .tmp d,Qm,pos',Qo,none⟩::l) R:=by
 let⟨q,n,p,S,k1,G⟩:=ck_ r;simp only[Bq,F6] at q;have e:look (([(d,AT.ptr t off)]::acc).flatten++Γ) d=some (.ptr t off):=by simpa using Xu
 have I:look (([(d,AT.ptr t off)]::acc).flatten++Γ) t=some (.own T'<|Cl L):=by simpa using pI q.2.2 h
 exact⟨_,_,S,.cons (.cons h .nil) (Ei Xu A) rfl rfl (Ac q.1)<| .cons (.cons e<| .cons I .nil) (Ej Xu (pI q.2.2 Xu) (qd C) F) rfl rfl (Ac q.2.1) k1,G⟩
end
section
variable[D:DR]
variable{P:Program}{w0:Ah P}{H0:HV}{N:Nat}{ops:Array Oper}{Γ Ar E0:Ctx}{l:List Oper}{d:Nat}{op:Op}{ty:TypeId}{pos:String}{af:Array Edge}{K:Ctx->Prop}{Q:Exit->Act->World->Prop}
variable{ρ:Type}{r:ρ}
def alU{A B:Ctx}{ts us:A3 Nat}(h:Dm Γ ts A)(k:Dm Γ us B):Dm Γ (ts++us) (A++B):=by induction h with|nil=>exact k|cons h _ ih=>exact .cons h ih
def Ax{σ:Type}(A:A3 Nat){q:Ctx}(C:IG Γ A=some q)(Al:σ->Ctx){n:Nat}{B:(σ->A9 ρ)->σ->A9 ρ}{s0:σ}{c:Code}(F:lp n B s0=some r)(G:IG Γ ((Al s0).map (·.1))=some (Al s0))
  (round:∀(k:σ->A9 ρ) (s:σ),B k s=some r->Goal P w0 H0 N c (Exit.then (Mid w0 H0 N (λs=>Al s++q) k r) Q) (Al s++q)):Goal P w0 H0 N (.loop c) Q Γ:=aaD (λs=>Al s++q) F (alU (Km G)<|Km C) round
def CO{α:Type}(C:A3 Nat){q:Ctx}(G:IG Γ C=some q)(A:α->Ctx){K:α->A9 ρ}{E:(α->A9 ρ)->A9 ρ}{x:Code}(F:jn K E=some r)
  (h:∀k,E k=some r->Goal P w0 H0 N x (Exit.then (Mid w0 H0 N (λs=>A s++q) k r) Q) Γ)(kk:∀i,K i=some r->Df w0 H0 N (Q .normal) (A i++q)):Goal P w0 H0 N x Q Γ:=QY (λs=>A s++q) F h kk
end
section
variable{α:Type}{c:α->α->Option Int}
theorem LM{α ρ:Type}{e:A9 α}{K:α->A9 ρ}{r:ρ}(h:bd e K=some r):∃x,e=some x/\K x=some r:=by(simp_all [bd]<;>grind)
def bI:∀{l r:A3 α} {x:α},Lc c x l=some r->r.Perm (x::l)
 |[],r,x,h=>by cases h;exact .refl _
 |y::l,r,x,h=>by
  let⟨k,_,h⟩:=LM h;cases q:decide (k<0) with
  |true=>rw[q] at h;let⟨C,A,h⟩:=LM (K:=λr=>some (y::r)) h;cases h;exact((bI A).cons y).trans<| .swap x y l
  |false=>rw[q] at h;have h:some (x::y::l)=some r:=h;cases h;exact .refl _
def wY:∀(l:A3 α) (s r:A3 α),HW l (λnext x s=>bd (Lc c x s) next) s (λs=>some s.reverse)=some r->r.Perm (s++l)
 |[],s,r,h=>by have h:some s.reverse=some r:=h;cases h;simpa using s.reverse_perm
 |x::l,s,r,h=>by let⟨s',q,h⟩:=LM h;refine(wY l s' r h).trans ?_;refine((bI q).append_right l).trans ?_;exact List.perm_middle.symm
def ub{l r:A3 α}(h:fz c l=some r):r.Perm l:=by simpa using wY l [] r h
end
section
variable{α:Type}[DecidableEq α]{c:α×α->Option Int}
variable{s:A3 α}
def wz:∀{l:A3 α} {x:α},Vh c x l=true->∀y∈l,x=y\/∃i j,c (x,y)=some i/\c (y,x)=some j/\i<0/\0<=j
 |[],_,_,y,q=>by cases q
 |z::l,x,h,y,q=>by
  unfold Vh at h;rw[Bq] at h;rcases Ak.1 q with e|q
  .subst e;cases A:decide (x=y) with
   |true=>exact .inl<|Aq A
   |false=>
    rw[A] at h;refine .inr ?_;have h:=h.1;simp only[Av] at h;split at h
    .rename_i i j e1 e2;rw[Bq,G0,G0] at h;exact⟨i,j,e1,e2,h.1,h.2⟩
    .cases h
  .exact wz h.2 y q
def mI:∀{s:A3 α},MS c s=true->(∀x∈s,∃i,c (x,x)=some i/\0<=i)/\s.Pairwise λx y=>x=y\/∃i j,c (x,y)=some i/\c (y,x)=some j/\i<0/\0<=j
 |[],_=>⟨λx h=>(by cases h),.nil⟩
 |x::s,h=>by
  unfold MS at h;rw[Bq,Bq] at h;let⟨q,C,F⟩:=h;let⟨k1,G⟩:=mI F;refine⟨λy A=>?_,.cons (wz C) G⟩;rcases Ak.1 A with e|A
  .subst e;split at q
   .rename_i i e;exact⟨i,e,Aq q⟩
   .cases q
  .exact k1 y A
theorem gF{x:α}(h:x∈s):∃q:s.idxOf x<s.length,s[s.idxOf x]=x:=by grind
def bb(h:MS c s=true){x y:α}(O:x∈s)(X:y∈s){v:Int}(A:c (x,y)=some v):v<0↔s.idxOf x<s.idxOf y:=by
 let⟨k1,Y⟩:=mI h;let⟨S,C⟩:=gF O;let⟨U,F⟩:=gF X;have V:=YI.1 Y;rcases Nat.lt_trichotomy (s.idxOf x) (s.idxOf y) with q|Z|G
 .have:=V _ _ S U q;rw[C,F] at this;rcases this with e|⟨i,j,I,J,W,h2⟩
  .subst e;omega
  .rw[A] at I;cases I;exact⟨λ_=>q,λ_=>W⟩
 .have:x=y:=by rw[<-C,<-F];congr 1
  subst this;let⟨i,e,hi⟩:=k1 x O;rw[A] at e;cases e;omega
 .have:=V _ _ U S G;rw[C,F] at this;rcases this with e|⟨i,j,I,J,W,h2⟩
  .subst e;omega
  .rw[A] at J;cases J;omega
def af5(h:MS c s=true):s.Pairwise λx y=>s.idxOf x<=s.idxOf y:=by
 let⟨k1,A⟩:=mI h;refine YI.2 λi j hi q C=>?_
 rcases YI.1 A i j hi q C with e|⟨a,b,F,I,G,J⟩
 .rw[e];exact BJ _
 .have:=(bb h (Ja hi) (Ja q) F).1 G;omega
def w8{r:A3 α}(h:MS c s=true)(q:r.Perm s)(A:r.Pairwise λx y=>s.idxOf x<=s.idxOf y):r=s:=by
 refine List.Perm.eq_of_pairwise (le:=λx y=>s.idxOf x<=s.idxOf y) ?_ A (af5 h) q;intro a b C F J O;let⟨S,G⟩:=gF<|q.mem_iff.1 C
 let⟨U,I⟩:=gF F;have e:s.idxOf a=s.idxOf b:=by omega
 rw[<-G,<-I]
 congr 1
def Wm{l:A3 α}(h:Gk l c=some s):s.Perm l/\MS c s=true/\(∀x∈l,∀y∈l,∃v,c (x,y)=some v)/\l.length<4611686018427387904:=by
 let⟨s',A,h⟩:=LM h;unfold Dh at h;cases q:Nat.blt l.length 4611686018427387904&&(totB c l&&MS c s') with
 |false=>rw[q] at h;cases h
 |true=>rw[q] at h;cases h;rw[Bq,Bq] at q;refine⟨ub A,q.2.2,λx C y F=>?_,Cs q.1⟩;have:=DC.1 q.2.1 x C;have:=DC.1 this y F;exact Option.isSome_iff_exists.1 this
end
def O{α:Sort _}{a:α}:a=a:=rfl
def AM{α:Type}{f:α->Ty}{sz:Nat}(h:(λz=>(f z).n)=λ_=>sz):∀z,(f z).n=sz:=congrFun h
abbrev TiZ(n:Int):Ty:=TI .i64 n
abbrev AA:=List UInt8
abbrev Ba:=AA×AA×AA
abbrev HfZ:=(Int×Int×Int)×List UInt8
abbrev PlZ:=(Rat×Rat×Rat)×Rat
abbrev FcZ:=((Rat×Rat×Rat)×Rat)×List (Rat×Rat×Rat)
abbrev BdZ:=List ((Int×Int×Int)×List UInt8)
abbrev SpZ:=List (((Rat×Rat×Rat)×Rat)×List (Rat×Rat×Rat))
abbrev ShZ:=List ((Int×Int×Int)×List UInt8)×List (List UInt8×List UInt8×List UInt8)×List (List Int)
end Trn
