/-
  Part of the proof of SolidFacets.
-/
import Derived.Test.YtiacmffbhnfhdaaGreatDoorEb
set_option maxRecDepth 100000
set_option maxHeartbeats 20000000
set_option linter.all false
open Go Go.RowKit Go.Proofs
namespace Trn
section
variable[D:DR]
variable{P:Program}{w0:Ae P}{H0:HV}{N:Nat}{ops:Array Oper}{Q:Exit->Act->World->Prop}{Γ Al:Ctx}{d:Option Tmp}{ty:TypeId}{pos:String}{af:Array Edge}{g:Option (Nat×Bool)}
variable{ps:A3 Bt}{t:Nat}{w:AQ}{H:HV}{T:Ah}{l:A3 Ty}{p i:Nat}{gg:Bool}{a:Act}{B:Ae P}{sz:Nat}{T':Ah}{off:Nat}{pp:Bt}{x:CB}{u:Nat}{E:Ah}{H':HV}{Eb:Ah}
def pJ{Ag:Ctx}(BE:∀q∈Ag,q∈Γ){q:Bt}(hp:FP Ag p t off)(ht:look Ag t=some (.Cx T' gg ps))(hi:ps[i]? =some pp)(ho:Bh ps i=off)(hn:q.n=pp.n)
 (hT:Bm P T q.n q.agg=true)(hq:∀(a:Act) (w:AQ) (H:HV),Sat w0 H0 N Ag a w H->Shape q.n q.agg (a.eval x)/\q.holds w0 a w H (a.eval x))(ET:∀w v b,¬q.owns w v b)
 (BA:Sat w0 H0 N Γ a w H){K:Act->AQ->Prop}(k:∀w',Sat w0 H0 N ((t,.Cx T' gg<|ps.set i q)::BF t Γ) a w' H->K a w'):
  (⟨none,.store T (.tmp p) x,ty,pos,af,none⟩:Oper).wp P a w K Q:=by
 obtain⟨b,cs,e,ep,hb,LI,hm,As,IX,hx⟩:=hp.ok ht<|BA.weaken BE
 subst ho;obtain⟨C6,hqh⟩:=hq a w H<|BA.weaken BE
 obtain⟨h2,_,_,_⟩:=Qa As hi;obtain⟨E2,hcs,k1,k2,k3⟩:=Vg As IX hi C6 hn hqh<|λc hc=>absurd hc<|ET _ _ c
 have F9:=Sq (P:=P) (x:=a.eval x) (off:=Bh ps i) (TZ hT) C6.size hb (by rw[hn];simpa using h2) C6.cell;rw[hn,<-hcs] at F9;unfold Oper.wp;have er:(execOp a.eval ⟨none,.store T (.tmp p) x,ty,pos,af,none⟩).run P w= .ok .skip (w.setRow b E2.toArray):=by
  simp[execOp,ep,Instr.storeAt,Instr.sureAddr,F9]
 rw[er,QI];have hg:Ef w (w.setRow b E2.toArray) (some b):=Ef.setRow w b _;have BD:(w.setRow b E2.toArray).heap[b]? =some (.cells E2.toArray T' (0,0)):=Th w b _ _ _ _ hb;have hnx: ¬Fv w b (ps.set i q) E2:=λhc=>by
  rcases k3 b hc with h|h
  ·exact ET _ _ b h
  ·exact hx h.1
 have LL:=ft (w':=w.setRow b E2.toArray) (H':=H) (HV.le.refl H) k1 (λc hc=>⟨hg.block c (Q4 k1 hc).1 (λe=>by cases e;exact hnx hc),rfl⟩);refine k _ (Ov BA (BE _<|B5 ht) hg hm ⟨b,e,.inl rfl⟩ ⟨b,E2.toArray,e,BD,LI,hm,by simpa using LL.1,by simpa using LL.2.2 k2,by simpa using λh=>hnx<|(LL.2.1 b).1 h⟩ ?_);rintro c ⟨c',e',hc⟩;simp only[e] at e';cases e';rcases hc with hc|⟨cs2,hb2,hc⟩
 ·subst hc;exact .inl ⟨c,e,.inl rfl⟩
 ·rw[BD] at hb2;cases hb2;have hc:=(LL.2.1 c).1 (by simpa using hc);rcases k3 c hc with h|h
  ·exact absurd h<|ET _ _ c
  ·exact .inl ⟨b,e,.inr ⟨cs,hb,h.1⟩⟩
def anv{σ:Ty}(hp:FP Γ p t off)(ht:look Γ t=some (.Cx T' gg ps))(hi:ps[i]? =some pp)(ho:Bh ps i=off)(hx:Arg Γ x σ)(hn:σ.n=pp.n)(hT:Bm P T σ.n σ.agg=true):
  Step P N ops ⟨none,.store T (.tmp p) x,ty,pos,af,none⟩ Γ ((t,.Cx T' gg<|ps.set i<| .val σ)::BF t Γ):=by
 intro w0 H0 a w H hs K Q k;simp only[Region.wanted,if_true];exact pJ (λ_ h=>h) (q:= .val σ) hp ht hi ho hn hT (λa w H hs=>⟨σ.shape<|hx.ok hs,hx.ok hs⟩) (λ_ _ _ h=>h) hs λw' Co=>k a w' H Co
inductive Pm(Γ:Ctx)(u:Nat):Prop where
 |buf {E:Ah} {sz:Nat} {l:A3 Ty} (h:look Γ u=some (.buf E sz l))
 |Gn {K E Eb:Ah} {sz:Nat} {l:A3 (Ty×Cv)} (h:look Γ u=some (.Gn K E Eb sz l))
 |Cx {T:Ah} {g:Bool} {l:A3 Bt} (h:look Γ u=some (.Cx T g l))
def Pm.ok(h:Pm Γ u)(hs:Sat w0 H0 N Γ a w H):(Ab a u).oneCell'=true:=by
 cases h with
 |buf h=>
  obtain⟨xs,⟨_,hr⟩,_,_⟩:=hs.holds _<|B5 h
  rcases hr with⟨e,_⟩|⟨g,cap,cur,e,_⟩
  ·simp only at e;rw[e];rfl
  ·simp only at e;rw[e];rfl
 |Gn h=>
  obtain⟨r,es,e,_⟩:=hs.holds _<|B5 h
  simp only at e;rw[e];rfl
 |Cx h=>
  obtain⟨b,cs,e,_⟩:=hs.holds _<|B5 h
  simp only at e;rw[e];rfl
def qd(hp:FP Γ p t off)(ht:look Γ t=some (.Cx T' gg ps))(hi:ps[i]? =some pp)(ho:Bh ps i=off)(hu:Pm Γ u)(hn:pp.n=1)(hT:Bm P T 1 false=true):
  Step P N ops ⟨none,.store T (.tmp p)<| .tmp u,ty,pos,af,none⟩ Γ ((t,.Cx T' gg<|ps.set i<| .sm u)::BF t Γ):=by
 intro w0 H0 a w H hs K Q k;simp only[Region.wanted,if_true];exact pJ (λ_ h=>h) (x:= .tmp u) (q:= .sm u) hp ht hi ho hn.symm hT (λa w H hs=>⟨Shape.one<|hu.ok hs,rfl,hu.ok hs⟩) (λ_ _ _ h=>h) hs λw' Co=>k a w' H Co
def pH(hp:FP Γ p t off)(ht:look Γ t=some (.Cx T' gg ps))(hi:ps[i]? =some pp)(ho:Bh ps i=off)(hu:Pm Γ u)(hn:pp.n=1)(hT:Bm P T 1 false=true):
  Pl P N ops Γ ⟨none,.store T (.tmp p)<| .tmp u,ty,pos,af,none⟩ t (.Cx T' gg<|ps.set i<| .sm u):=λDs BE=>by
 intro w0 H0 a w H hs K Q k;simp only[Region.wanted,if_true];exact pJ BE (x:= .tmp u) (q:= .sm u) hp ht hi ho hn.symm hT (λa w H hs=>⟨Shape.one<|hu.ok hs,rfl,hu.ok hs⟩) (λ_ _ _ h=>h) hs λw' Co=>k a w' H Co
def mi{s':AN}{us:A3 Nat}{G:Ctx}(hs:Sat w0 H0 N Γ a w H)(ht:∀q∈G,q∈Γ/\q.1≠t)(hh:s'.holds w0 a w H (Ab a t))
 (ho:∀b,s'.owns w (Ab a t) b->∃p∈Γ,(p.1=t\/p.1∈us)/\p.2.owns w (Ab a p.1) b)(hu:∀q∈G,q.1∉us):Sat w0 H0 N ((t,s')::G) a w H:=by
 have key:∀q∈G,∀b,s'.owns w (Ab a t) b-> ¬q.2.owns w (Ab a q.1) b:=λq hq b hb Kf=>by
  obtain⟨p,hp,h1,h2⟩:=ho b hb;refine hs.sep p hp q (ht q hq).1 (λe=>?_) b h2 Kf;rcases h1 with h1|h1
  ·exact(ht q hq).2 (by rw[<-e,h1])
  ·exact hu q hq<|e▸h1
 refine⟨hs.nd,hs.sz,hs.below,hs.GK,hs.sub,?_,?_,hs.gl⟩
 ·intro q hq;rcases Ai.1 hq with e|hq
  ·subst e;exact hh
  ·exact hs.holds q (ht q hq).1
 ·intro q hq r hr hn b hb BD;rcases Ai.1 hq with e|hq<;>rcases Ai.1 hr with e'|hr
  ·subst e;subst e';exact hn rfl
  ·subst e;exact key r hr b hb BD
  ·subst e';exact key q hq b BD hb
  ·exact hs.sep q (ht q hq).1 r (ht r hr).1 hn b hb BD
def anH{w0:Ae P}(pp:Bt)(ht:look Γ t=some (.Cx T' gg ps))(hi:ps[i]? =some (.sm u))(hu:look Γ u=some pp.sty)(hne:(u !=t)=true)(hpp:(pp.n,pp.agg)=(1,false))(hg: ¬pp.sty= .gone):
  IK w0 N Γ ((t,.Cx T' gg<|ps.set i pp)::BF t (BF u Γ)):=λH0 a w H hs=>by
 obtain⟨b,cs,e,hb,LI,hm,As,IX,hx⟩:=hs.holds _<|B5 ht
 have hph:=hs.holds _<|B5 hu
 simp only at e hph;have hut:u≠t:=by simpa using hne
 obtain⟨_,h3,h4,_⟩:=Qa As hi;have hv:pv (.sm u) (Bh ps i) cs.toList=Ab a u:=h4.1;have h1:pp.n=1:=congrArg Prod.fst hpp;have h2:pp.agg=false:=congrArg Prod.snd hpp;have C6:Shape pp.n pp.agg (Ab a u):=by rw[h1,h2,<-hv];exact h3
 have hq:pp.holds w0 a w H (Ab a u):=by
  cases pp with
  |buf E sz l=>exact hph
  |map K E Eb sz E1=>exact hph
  |val τ=>exact absurd rfl hg
  |any n g=>exact absurd rfl hg
  |sm v=>exact absurd rfl hg
 have sI:∀c,pp.owns w (Ab a u) c-> ¬Fv w c ps cs.toList:=λc hc ho=>by
  refine hs.sep _ (B5 hu) _ (B5 ht) hut c (Bt.Yf.2 hc) ⟨b,e,.inr ⟨cs,hb,ho⟩⟩
 have atA: ¬pp.owns w (Ab a u) b:=λhc=>hs.sep _ (B5 hu) _ (B5 ht) hut b (Bt.Yf.2 hc) ⟨b,e,.inl rfl⟩
 obtain⟨E2,hcs,k1,k2,k3⟩:=Vg As IX hi C6 (by rw[h1];rfl) hq<|λc hc=> .inr<|sI c hc
 have hcc:E2=cs.toList:=by rw[hcs,<-hv];exact fh As hi
 rw[hcc] at k1 k2 k3;refine⟨H,mi (us:=[u]) hs (λq hq=>⟨(DI q (DI q hq).1).1,(DI q hq).2⟩) ⟨b,cs,e,hb,LI,hm,k1,k2,λhc=>?_⟩ ?_ (λq hq=>by simpa using(DI q (DI q hq).1).2)⟩
 ·rcases k3 b hc with h|h
  ·exact atA h
  ·exact hx h.1
 ·rintro c ⟨c',e',hc⟩;simp only[e] at e';cases e';rcases hc with hc|⟨cs2,hb2,hc⟩
  ·exact⟨_,B5 ht,.inl rfl,b,e,.inl hc⟩
  ·rw[hb] at hb2;cases hb2;rcases k3 c hc with h|h
   ·exact⟨_,B5 hu,.inr (by simp),Bt.Yf.2 h⟩
   ·exact⟨_,B5 ht,.inl rfl,b,e,.inr ⟨cs,hb,h.1⟩⟩
inductive Gk:A3 Ty->A3 Bt->Prop where
 |nil:Gk [] []
 |val {τ:Ty} {l:A3 Ty} {ps:A3 Bt} (r:Gk l ps):Gk (τ::l) (.val τ::ps)
 |buf {α:Type} {f:α->Ty} {x:A3 α} {E:Ah} {sz:Nat} {l:A3 Ty} {ps:A3 Bt} (hx:x=[]) (r:Gk l ps):Gk (TN f x::l) (.buf E sz []::ps)
def xL:KQ B w H E sz [] (.slice none 0 0):=
 ⟨[],⟨by simp,.inl ⟨rfl,rfl⟩⟩,rfl,λb h=>by simp[Value.ownBlock] at h⟩
def Gk.ok(h:Gk l ps):∀{cs:A3 AR},DJ H l cs->IV B a w H ps cs/\(∀b,¬Fv w b ps cs)/\Nj w ps cs:=by
 induction h with
 |nil=>exact λe=>⟨e,λ_ h=>h,trivial⟩
 | @val τ l ps r ih=>
  rintro cs ⟨v,rest,e,hv,hr⟩;subst e;obtain⟨h1,h2,h3⟩:=ih hr;have hd:=(N8 (p:= .val τ) (rest:=rest)<|τ.shape hv).2;refine⟨⟨v,rest,rfl,τ.shape hv,hv,h1⟩,λb h=>?_,λb h=>h.elim,?_⟩
  ·rcases h with h|h
   ·exact h
   ·rw[hd] at h;exact h2 b h
  ·rw[hd];exact h3
 | @buf α f x E sz l ps hx r ih=>
  rintro cs ⟨v,rest,e,hv,hr⟩;subst e;subst hx;obtain⟨h1,h2,h3⟩:=ih hr;have ev:=hv.2 rfl;subst ev;have C6:Shape (Bt.buf E sz []).n (Bt.buf E sz []).agg (.slice none 0 0):=Shape.one rfl;obtain⟨e1,hd⟩:=N8 (p:= .buf E sz []) (rest:=rest) C6;refine⟨⟨_,rest,rfl,C6,xL,h1⟩,λb h=>?_,λb h=>?_,?_⟩
  ·rcases h with h|h
   ·rw[e1] at h;simp[Bt.owns,Value.ownBlock] at h
   ·rw[hd] at h;exact h2 b h
  ·rw[e1] at h;simp[Bt.owns,Value.ownBlock] at h
  ·rw[hd];exact h3
def zV:∀H v,(DG l).ok H v->DJ H l v.cells.toList:=λ_ _ ⟨cs,e,h⟩=>by subst e;exact h
def zU{τ:Ty}:∀H v,τ.ok H v->DJ H [τ] v.cells.toList:=λ_ v h=>⟨v,[],by simp,h,rfl⟩
def Cv.pub:Cv->Ty
 | .val τ=>τ
 | .buf l=>FT l
 | .any=>Sl ⟨#[]⟩
def Cv.isAny:Cv->Bool
 | .any=>true
 |_=>false
def X7(p:Ty×Cv):Ty×Ty:=(p.1,p.2.pub)
def zb{B:Ae P}{w:AQ}{H H':HV}{Eb:Ah}{sz:Nat}(hle:HV.le H H'):∀{i:Nat} {l:A3 (Ty×Cv)} {es:A3 MapEntry},K9 B w H Eb sz i l es->(∀p∈l,p.2.isAny=false)->(∀b,Ht b l es->H' b=w.heap[b]?)->okM H' i (l.map X7) es
 |_,[],[],_,_,_=>trivial
 |_,[],_::_,h,_,_=>h.elim
 |_,(_,_)::_,[],h,_,_=>h.elim
 |i,(k,e)::l,x::xs,⟨h1,h2,h3,h4⟩,hn,hw=>by
  refine⟨k.mono hle h1,?_,h3,zb hle h4 (λp hp=>hn p (by simp[hp])) λb hb=>hw b<| .inr hb⟩;cases e with
  |val τ=>exact τ.mono hle h2
  |any=>have:=hn (k,.any) (by simp);cases this
  |buf bl=>exact QT (a:=⟨#[],[]⟩) (B:=B) h2 hle λb hb _ o ho=>by rw[hw b<| .inl hb];exact ho
def xZ{E1:A3 (Ty×Cv)}{v:AR}(hle:HV.le H H')(h:Qj B w H Eb sz E1 v)(hn:∀p∈E1,p.2.isAny=false)(hw:∀b,PE w E1 v b->H' b=w.heap[b]?):(az<|E1.map X7).ok H' v:=by
 obtain⟨r,es,e,hr,_,_,ho,_⟩:=h;subst e;exact⟨r,es,rfl,by rw[hw r<| .inl rfl];exact hr,zb hle ho hn λb hb=>hw b<| .inr ⟨r,es,rfl,hr,hb⟩⟩
inductive Nr:A3 Bt->A3 Ty->Prop where
 |nil:Nr [] []
 |val {τ:Ty} {l:A3 Ty} {ps:A3 Bt} (r:Nr ps l):Nr (.val τ::ps) (τ::l)
 |buf {E:Ah} {sz:Nat} {bl l:A3 Ty} {ps:A3 Bt} (r:Nr ps l):Nr (.buf E sz bl::ps) (FT bl::l)
 |map {K E Eb:Ah} {sz:Nat} {E1:A3 (Ty×Cv)} {M:A3 (Ty×Ty)} {l:A3 Ty} {ps:A3 Bt} (hn:∀p∈E1,p.2.isAny=false) (hM:E1.map X7=M) (r:Nr ps l):Nr (.map K E Eb sz E1::ps) (az M::l)
def Nr.ok(hle:HV.le H H')(h:Nr ps l):∀{cs:A3 AR},IV B a w H ps cs->(∀b,Fv w b ps cs->H' b=w.heap[b]?)->DJ H' l cs:=by
 induction h with
 |nil=>exact λe _=>e
 | @val τ l ps r ih=>
  rintro cs ⟨v,rest,e,C6,hv,hr⟩ hw;subst e;obtain⟨e1,hd⟩:=N8 (p:= .val τ) (rest:=rest) C6;exact⟨v,rest,rfl,τ.mono hle hv,ih hr λb hb=>hw b (.inr (by rw[hd];exact hb))⟩
 | @buf E sz bl l ps r ih=>
  rintro cs ⟨v,rest,e,C6,hv,hr⟩ hw;subst e;obtain⟨e1,hd⟩:=N8 (p:= .buf E sz bl) (rest:=rest) C6;refine⟨v,rest,rfl,QT (a:=a) hv hle<|λb hb _ o ho=>?_,ih hr λb hb=>hw b (.inr (by rw[hd];exact hb))⟩;rw[hw b (.inl (by rw[e1];exact hb))];exact ho
 | @map K E Eb sz E1 M l ps hn hM r ih=>
  rintro cs ⟨v,rest,e,C6,hv,hr⟩ hw;subst e;subst hM;obtain⟨e1,hd⟩:=N8 (p:= .map K E Eb sz E1) (rest:=rest) C6;exact⟨v,rest,rfl,xZ hle hv hn (λb hb=>hw b (.inl (by rw[e1];exact hb))),ih hr λb hb=>hw b (.inr (by rw[hd];exact hb))⟩
def ajg{Ag:Ctx}(BE:∀q∈Ag,q∈Γ){ps':A3 Bt}(hp:FP Ag p t 0)(ht:look Ag t=some (.Cx T true ps))(hx:Arg Ag x (DG l))(hl:Gk l ps')(hn:(ps.map Bt.n).sum=CH l)(hT:Bm P T (CH l) true=true)
 (BA:Sat w0 H0 N Γ a w H){K:Act->AQ->Prop}(k:∀w',Sat w0 H0 N ((t,.Cx T true ps')::BF t Γ) a w' H->K a w'):
  (⟨none,.store T (.tmp p) x,ty,pos,af,none⟩:Oper).wp P a w K Q:=by
 obtain⟨b,cs,e,ep,hb,LI,hm,As,IX,hx'⟩:=hp.ok ht<|BA.weaken BE
 have hxo:=hx.ok<|BA.weaken BE
 have C6:=(DG l).shape hxo;obtain⟨ys,ey,hy⟩:=hxo;have hcs:cs.size=CH l:=by have:=zZ As;simpa[hn] using this
 have hsz:(a.eval x).cells.size=CH l:=C6.size;have F9:=Sq (P:=P) (x:=a.eval x) (off:=0) (TZ hT) hsz hb (by omega) C6.cell;rw[List.take_zero,Mo (by simp[hcs]),Ii,J6,Array.toArray_toList] at F9;rw[ey] at F9;unfold Oper.wp;have er:(execOp a.eval ⟨none,.store T (.tmp p) x,ty,pos,af,none⟩).run P w= .ok .skip (w.setRow b ys):=by
  simp[execOp,ep,Instr.storeAt,Instr.sureAddr,ey,F9,Value.cells]
 rw[er,QI];have hg:Ef w (w.setRow b ys) (some b):=Ef.setRow w b _;have BD:(w.setRow b ys).heap[b]? =some (.cells ys T (0,0)):=Th w b _ _ _ _ hb;obtain⟨k1,k2,k3⟩:=hl.ok (B:=w0) (a:=a) (w:=w.setRow b ys) hy;refine k _<|Ov BA (BE _<|B5 ht) hg hm ⟨b,e,.inl rfl⟩ ⟨b,ys,e,BD,LI,hm,k1,k3,k2 _⟩ ?_
 rintro c ⟨c',e',hc⟩;simp only[e] at e';cases e';rcases hc with hc|⟨cs2,hb2,hc⟩
 ·subst hc;exact .inl ⟨c,e,.inl rfl⟩
 ·rw[BD] at hb2;cases hb2;exact absurd hc<|k2 c
def alu(ps':A3 Bt)(hp:FP Γ p t 0)(ht:look Γ t=some (.Cx T true ps))(hx:Arg Γ x (DG l))(hl:Gk l ps')(hn:(ps.map Bt.n).sum=CH l)(hT:Bm P T (CH l) true=true):
  Step P N ops ⟨none,.store T (.tmp p) x,ty,pos,af,none⟩ Γ ((t,.Cx T true ps')::BF t Γ):=by
 intro w0 H0 a w H hs K Q k;simp only[Region.wanted,if_true];exact ajg (λ_ h=>h) hp ht hx hl hn hT hs λw' Co=>k a w' H Co
inductive MS:A3 Bt->A3 Ty->Prop where
 |n:MS [] []
 |c {τ:Ty} {l:A3 Ty} {ps:A3 Bt} (r:MS ps l):MS (.val τ::ps) (τ::l)
def MS.ok(h:MS ps l):∀{cs:A3 AR},IV B a w H ps cs->DJ H l cs:=by
 induction h with
 |n=>exact λe=>e
 |c r ih=>rintro cs ⟨v,rest,e,_,hv,hr⟩;exact⟨v,rest,e,hv,ih hr⟩
def zY(hp:FP Γ p t 0)(ht:look Γ t=some (.Cx T true ps))(hl:MS ps l)(hT:Bm P T (CH l) true=true):
  B1 P Γ ⟨d,.load T<| .tmp p,ty,pos,af,g⟩ (.val<|DG l):=
 Di λ_ _ _ a w _ hs=>by
  obtain⟨b,cs,e,ep,hb,_,_,As,_⟩:=hp.ok ht hs;have h1:=hl.ok As;have h2:cs.size=CH l:=by have:=Md h1;simpa using this
  have h3:=R9 (off:=0) hT hb (by omega);rw[PJ,Cd (by simp[h2])] at h3;exact⟨.agg cs,by simp[execOp,ep,Instr.loadAt,Instr.sureAddr,h3,Gp],⟨cs,rfl,h1⟩,rfl⟩
open Classical in
def akm{w0:Ae P}(ht:look Γ t=some (.Cx T gg ps))(hi:ps[i]? =some (.buf E sz l)):IK w0 N Γ ((t,.Cx T gg<|ps.set i<| .val<|FT l)::BF t Γ):=λH0 a w H hs=>by
 obtain⟨b,cs,e,hb,LI,hm,As,IX,hx⟩:=hs.holds _<|B5 ht
 simp only at e;obtain⟨_,h3,h4,_⟩:=Qa As hi;have jB:=fh As hi
 generalize hv:pv (.buf E sz l) (Bh ps i) cs.toList=v at*
 obtain⟨S,hS⟩:∃S:Nat->Prop,∀c,S c↔v.ownBlock=some c:=⟨_,λ_=>Iff.rfl⟩;have hlt:=(GD.1 hi).1;have hown:∀c,v.ownBlock=some c->Fv w c ps cs.toList:=λc hc=>P3.2 ⟨i,_,hi,by rw[hv];exact hc⟩
 obtain⟨E2,hcs,k1,k2,k3⟩:=Vg (q:= .any 1 false) (x:=v) As IX hi h3 rfl h3<|λc hc=>hc.elim
 rw[show E2=cs.toList by rw[hcs];exact jB] at k1 k2 k3;have hle:HV.le H (λr=>if S r then w.heap[r]? else H r):=by
  intro r o ho;by_cases e:S r
  ·rw[(Q4 As<|hown r<|(hS r).1 e).2.2.1] at ho;cases ho
  ·simp[e,ho]
 have no:∀c,Fv w c (ps.set i<| .any 1 false) cs.toList->Fv w c ps cs.toList/\ ¬S c:=λc hc=>by
  rcases k3 c hc with h|h
  ·exact h.elim
  ·exact⟨h.1,λh'=>h.2 (by rw[hv];exact(hS c).1 h')⟩
 obtain⟨f1,f2,f3⟩:=ft (w':=w) hle k1 (λc hc=>⟨rfl,by simp[(no c hc).2]⟩);have hi':(ps.set i<| .any 1 false)[i]? =some (.any 1 false):=ZT hlt;have sM:Bh (ps.set i<| .any 1 false) i=Bh ps i:=(pd (q:= .any 1 false) As hi h3 rfl h3).2.1;have Jv:(FT l).ok (λr=>if S r then w.heap[r]? else H r) v:=QT (a:=a) h4 hle (λc hc _ o ho=>by have:S c:=(hS c).2 hc;simp[this,ho]);obtain⟨cs2,sR,m1,m2,m3⟩:=Vg (q:= .val<|FT l) (x:=v) f1 (f3 k2) hi' ((FT l).shape Jv) rfl Jv<|λc hc=>hc.elim
 rw[show cs2=cs.toList by rw[sR,sM];exact jB,List.set_set] at m1 m2 m3;have nw:∀c,Fv w c (ps.set i<| .val<|FT l) cs.toList->Fv w c ps cs.toList:=λc hc=>by
  rcases m3 c hc with h|h
  ·exact h.elim
  ·exact(no c h.1).1
 have hSb: ¬S b:=λh=>hx<|hown b<|(hS b).1 h
 refine⟨_,v7 hs (B5 ht) S (λc hc=>⟨⟨b,e,.inr ⟨cs,hb,hown c<|(hS c).1 hc⟩⟩,(Q4 As<|hown c<|(hS c).1 hc).2.1⟩) ⟨b,cs,e,hb,by simp[hSb,LI],hm,m1,m2,λhc=>hx<|nw b hc⟩ ?_⟩;rintro c ⟨c',e',hc⟩;rw[e] at e';cases e';refine⟨b,e,?_⟩;rcases hc with hc|⟨cs3,hb3,hc⟩
 ·exact .inl hc
 ·rw[hb] at hb3;cases hb3;exact .inr ⟨cs,hb,nw c hc⟩
def qP{w0:Ae P}{α:Type}{f:α->Ty}{l:A3 α}(ht:look Γ t=some (.Cx T gg ps))(hi:ps[i]? =some (.buf E sz<|lT f l)):IK w0 N Γ ((t,.Cx T gg<|ps.set i<| .val<|TL f l)::BF t Γ):=akm ht hi
def am9{w0:Ae P}{K:Ah}{E1:A3 (Ty×Cv)}{M:A3 (Ty×Ty)}(ht:look Γ t=some (.Gn K E Eb sz E1))(hn:∀p∈E1,p.2.isAny=false)(hM:E1.map X7=M):IK w0 N Γ ((t,.val<|az M)::BF t Γ):=λH0 a w H hs=>by
 subst hM;have As:=hs.holds _<|B5 ht
 obtain⟨S,hS⟩:∃S:Nat->Prop,∀c,S c↔PE w E1 (Ab a t) c:=⟨_,λ_=>Iff.rfl⟩;refine⟨_,df hs (B5 ht) S (λc hc=>⟨(hS c).1 hc,(Rq As<|(hS c).1 hc).2.1⟩) ?_⟩;refine xZ ?_ As hn λb hb=>by have:S b:=(hS b).2 hb;simp[this]
 intro r o ho;by_cases e:S r
 ·rw[(Rq As<|(hS r).1 e).2.2.1] at ho;cases ho
 ·simp[e,ho]
end
section
variable[D:DR]
variable{P:Program}{w0:Ae P}{H0:HV}{N:Nat}{ops:Array Oper}{Q:Exit->Act->World->Prop}{Γ Al:Ctx}{d:Option Tmp}{ty:TypeId}{pos:String}{af:Array Edge}{g:Option (Nat×Bool)}
variable{α β:Type}[DecidableEq α]
def mix(x:α):A3 (α×β)->A9 Nat
 |[]=>none
 |p::l=>bif decide (x=p.1) then some 0 else(mix x l).map (· +1)
def X8(l:A3 (α×β))(x:α)(v:β):A3 (α×β):=match mix x l with
 |none=>l++[(x,v)]
 |some j=>l.set j (x,v)
def oV{x:α}:∀{l:A3 (α×β)} {j:Nat},mix x l=some j->∃v,l[j]? =some (x,v)
 |[],_,h=>by simp[mix] at h
 |p::l,j,h=>by
  simp only[mix] at h;by_cases e:x=p.1
  ·simp[e] at h;subst h;subst e;exact⟨p.2,rfl⟩
  ·simp[e] at h;obtain⟨k,hk,rfl⟩:=h;obtain⟨v,hv⟩:=oV hk;exact⟨v,by simpa using hv⟩
end
section
variable[D:DR]
variable{P:Program}{w0:Ae P}{H0:HV}{N:Nat}{ops:Array Oper}{Q:Exit->Act->World->Prop}{Γ Al:Ctx}{d:Option Tmp}{ty:TypeId}{pos:String}{af:Array Edge}{g:Option (Nat×Bool)}
variable{B:Ae P}{w:AQ}{H:HV}{Eb:Ah}{sz:Nat}
@[reducible] def mM{α β:Type}(fK:α->Ty)(fV:β->Cv)(l:A3 (α×β)):A3 (Ty×Cv):=l.map λp=>(fK p.1,fV p.2)
def Sf(P:C7)(T K E:Ah):Bool:=match P.underlying T with
 |some (.map k e)=>Nat.beq k K&&Nat.beq e E
 |_=>false
def Ym{T K E:Ah}(h:Sf P T K E=true):P.underlying T=some (.map K E):=by
 unfold Sf at h;split at h
 ·rename_i k e hu;simp only[Bx] at h;rw[hu,EG h.1,EG h.2]
 ·cases h
structure S6{α:Type}[DecidableEq α](P:C7)(K:Ah)(f:α->Ty):Prop where
 eq:∀(H:HV) (u v:AR) (x y:α),(f x).ok H u->(f y).ok H v->∀w:AQ,(Op.equal K u v).run P w= .ok (decide<|x=y) w
 check:∀(H:HV) (u:AR) (x:α),(f x).ok H u->∀(e:Bool) (w:AQ),(Instr.checkKey e 10000 K u).run P w= .ok () w
 kind:∃ud,P.underlying K=some ud/\∀u v,Instr.sameNow ud u v=none
 bits:∀(H:HV) (u v:AR) (x:α),(f x).ok H u->(f x).ok H v->Instr.sameBits 10000 u v=true
def Zq{B:Ae P}{w:AQ}{H:HV}{Eb:Ah}{sz:Nat}:∀{i:Nat} {l:A3 (Ty×Cv)} {es:A3 MapEntry} {j:Nat} {k:Ty} {e:Cv},K9 B w H Eb sz i l es->l[j]? =some (k,e)->
  ∃x,es[j]? =some x/\k.ok H x.key/\e.holds B w H Eb sz x.val/\x.born=i+j
 |_,[],_,_,_,_,_,h=>by simp at h
 |_,(_,_)::_,[],_,_,_,h,_=>h.elim
 |i,(k',e')::l,x::xs,0,k,e,⟨h1,h2,h3,h4⟩,h=>by
  simp at h;obtain⟨rfl,rfl⟩:=h;exact⟨x,rfl,h1,h2,by simpa using h3⟩
 |i,(k',e')::l,x::xs,j+1,k,e,⟨h1,h2,h3,h4⟩,h=>by
  obtain⟨y,g1,g2,g3,g4⟩:=Zq h4 (by simpa using h);exact⟨y,by simpa using g1,g2,g3,by omega⟩
def zd{B:Ae P}{w:AQ}{H:HV}{Eb:Ah}{sz:Nat}:∀{i:Nat} {l:A3 (Ty×Cv)} {es:A3 MapEntry},K9 B w H Eb sz i l es->es.length=l.length
 |_,[],[],_=>rfl
 |_,[],_::_,h=>h.elim
 |_,(_,_)::_,[],h=>h.elim
 |_,(_,_)::_,_::_,⟨_,_,_,h⟩=>by simp[zd h]
def za{B:Ae P}{w:AQ}{H:HV}{Eb:Ah}{sz:Nat}:∀{i:Nat} {l:A3 (Ty×Cv)} {es:A3 MapEntry} {j:Nat} {k:Ty} {e:Cv} {x:MapEntry},K9 B w H Eb sz i l es->k.ok H x.key->e.holds B w H Eb sz x.val->x.born=i+j->
  K9 B w H Eb sz i (l.set j (k,e)) (es.set j x)
 |_,[],[],_,_,_,_,_,_,_,_=>trivial
 |_,[],_::_,_,_,_,_,h,_,_,_=>h.elim
 |_,(_,_)::_,[],_,_,_,_,h,_,_,_=>h.elim
 |i,(k',e')::l,x::xs,0,k,e,y,⟨h1,h2,h3,h4⟩,g1,g2,g3=>⟨g1,g2,g3,h4⟩
 |i,(k',e')::l,x::xs,j+1,k,e,y,⟨h1,h2,h3,h4⟩,g1,g2,g3=>⟨h1,h2,h3,za h4 g1 g2 (by omega)⟩
def yT{B:Ae P}{w:AQ}{H:HV}{Eb:Ah}{sz:Nat}:∀{i:Nat} {l:A3 (Ty×Cv)} {es:A3 MapEntry} {k:Ty} {e:Cv} {x:MapEntry},K9 B w H Eb sz i l es->k.ok H x.key->e.holds B w H Eb sz x.val->x.born=i+l.length->
  K9 B w H Eb sz i (l++[(k,e)]) (es++[x])
 |_,[],[],_,_,_,_,g1,g2,g3=>⟨g1,g2,by simpa using g3,trivial⟩
 |_,[],_::_,_,_,_,h,_,_,_=>h.elim
 |_,(_,_)::_,[],_,_,_,h,_,_,_=>h.elim
 |i,(k',e')::l,x::xs,k,e,y,⟨h1,h2,h3,h4⟩,g1,g2,g3=>⟨h1,h2,h3,yT h4 g1 g2 (by simp at g3;omega)⟩
def P4{b:Nat}:∀{l:A3 (Ty×Cv)} {es:A3 MapEntry},Ht b l es↔∃(j:Nat) (k:Ty) (e:Cv) (x:MapEntry),l[j]? =some (k,e)/\es[j]? =some x/\e.owns x.val b
 |[],es=>by simp[Ht]
 |(k,e)::l,[]=>by simp[Ht]
 |(k,e)::l,x::xs=>by
  simp only[Ht,P4 (l:=l)];constructor
  ·rintro(h|⟨j,k',e',y,h1,h2,h3⟩)
   ·exact⟨0,k,e,x,rfl,rfl,h⟩
   ·exact⟨j+1,k',e',y,by simpa using h1,by simpa using h2,h3⟩
  ·rintro⟨j,k',e',y,h1,h2,h3⟩;cases j with
   |zero=>simp at h1 h2;obtain⟨rfl,rfl⟩:=h1;subst h2;exact .inl h3
   |succ j=>exact .inr ⟨j,k',e',y,by simpa using h1,by simpa using h2,h3⟩
def Yi:∀{l:A3 (Ty×Cv)} {es:A3 MapEntry},l.length=es.length->(Of l es↔∀(i j:Nat) (k k':Ty) (e e':Cv) (x y:MapEntry),i<j->l[i]? =some (k,e)->l[j]? =some (k',e')->es[i]? =some x->es[j]? =some y->∀b,e.owns x.val b-> ¬e'.owns y.val b)
 |[],[],_=>by simp[Of]
 |[],_::_,h=>by simp at h
 |(_,_)::_,[],h=>by simp at h
 |(k,e)::l,x::xs,h=>by
  simp only[Of,Yi (l:=l) (es:=xs) (by simpa using h)];constructor
  ·rintro⟨h1,h2⟩ i j k1 k2 e1 e2 y z LJ hi hj hx hy b hb BD;cases j with
   |zero=>omega
   |succ j=>
    cases i with
    |zero=>
     simp at hi hx;obtain⟨rfl,rfl⟩:=hi;subst hx;exact h1 b hb (P4.2 ⟨j,k2,e2,z,by simpa using hj,by simpa using hy,BD⟩)
    |succ i=>exact h2 i j k1 k2 e1 e2 y z (by omega) (by simpa using hi) (by simpa using hj) (by simpa using hx) (by simpa using hy) b hb BD
  ·intro hh;refine⟨λb hb ho=>?_,λi j k1 k2 e1 e2 y z LJ hi hj hx hy b hb BD=>?_⟩
   ·obtain⟨j,k',e',y,h1,h2,h3⟩:=P4.1 ho;exact hh 0 (j+1) k k' e e' x y (by omega) rfl (by simpa using h1) rfl (by simpa using h2) b hb h3
   ·exact hh (i+1) (j+1) k1 k2 e1 e2 y z (by omega) (by simpa using hi) (by simpa using hj) (by simpa using hx) (by simpa using hy) b hb BD
end
section
variable[D:DR]
variable{P:Program}{w0:Ae P}{H0:HV}{N:Nat}{ops:Array Oper}{Q:Exit->Act->World->Prop}{Γ Al:Ctx}{d:Option Tmp}{ty:TypeId}{pos:String}{af:Array Edge}{g:Option (Nat×Bool)}
variable{α β:Type}[DecidableEq α]{K:TypeId}{fK:α->Ty}{fV:β->Cv}
def uM(hk:S6 P K fK){H:HV}{u:AR}{x:α}(hu:(fK x).ok H u){w:AQ}:∀{l:A3 (α×β)} {es:A3 MapEntry} (i:Nat),(∀(j:Nat) (p:α×β),l[j]? =some p->∃y,es[j]? =some y/\(fK p.1).ok H y.key)->es.length=l.length->
  (Instr.findAsking K u es i).run P w= .ok ((mix x l).map λj=>(i+j,((es[j]?).map (·.val)).getD undef)) w
 |[],[],i,_,_=>by simp[Instr.findAsking,mix]
 |[],_::_,_,_,h=>by simp at h
 |_::_,[],_,_,h=>by simp at h
 |p::l,y::es,i,h,hl=>by
  obtain⟨y',h1,h2⟩:=h 0 p rfl;simp at h1;subst h1;have ih:=uM hk hu (l:=l) (es:=es) (w:=w) (i+1) (λj q hq=>by simpa using h (j+1) q (by simpa using hq)) (by simpa using hl);have he:=hk.eq H u y.key x p.1 hu h2 w;simp only[Instr.findAsking,mix,E4,he,Dp];by_cases e:x=p.1
  ·simp[e]
  ·simp only[e,decide_false,Tw,if_false,B8,ih];cases hm:mix x l with
   |none=>simp
   |some j=>simp;omega
def run_findKey(hk:S6 P K fK){H:HV}{u:AR}{x:α}(hu:(fK x).ok H u){w:AQ}{l:A3 (α×β)}{es:A3 MapEntry}(h:∀(j:Nat) (p:α×β),l[j]? =some p->∃y,es[j]? =some y/\(fK p.1).ok H y.key)(hl:es.length=l.length):
  (Instr.findKey K u es).run P w= .ok ((mix x l).map λj=>(j,((es[j]?).map (·.val)).getD undef)) w:=by
 obtain⟨ud,hud,ET⟩:=hk.kind;have hf:=uM hk hu (w:=w) 0 h hl;unfold Instr.findKey;simp only[E4,F0 hud,Dp];cases es with
 |nil=>
  cases l with
  |nil=>simp[Instr.findNow,mix]
  |cons p l=>simp at hl
 |cons y es=>
  simp only[Instr.findNow,ET];simpa using hf
end
section
variable[D:DR]
variable{P:Program}{w0:Ae P}{H0:HV}{N:Nat}{ops:Array Oper}{Q:Exit->Act->World->Prop}{Γ Al:Ctx}{d:Option Tmp}{ty:TypeId}{pos:String}{af:Array Edge}{g:Option (Nat×Bool)}
inductive Qo(Γ:Ctx):CB->Nat->Prop where
 |own {t:Nat}:Qo Γ (.tmp t) t
 |same {u t:Nat} (h:look Γ u=some (.same t)):Qo Γ (.tmp u) t
def Qo.ok{x:CB}{t:Nat}(h:Qo Γ x t){a:Act}{w:AQ}{H:HV}(hs:Sat w0 H0 N Γ a w H):a.eval x=Ab a t:=by
 cases h with
 |own=>rfl
 |same h=>exact hs.holds _<|B5 h
def ah6{T K E Eb:Ah}{sz:Nat}:B1 P Γ ⟨d,.makeMap T none,ty,pos,af,g⟩ (.Gn K E Eb sz []):=
 Lz λw0 _ _ a w H hs=>by
  refine⟨.map<|some w.heap.size,w.alloc<| .map #[] 0,H,?_,Ext.alloc hs.sub _,?_,?_⟩
  ·simp[execOp,Instr.makeMap,newObj];rfl
  ·refine⟨w.heap.size,#[],rfl,Lc w _,?_,.inl hs.below.size,trivial,trivial⟩;cases hh:H w.heap.size with
   |none=>rfl
   |some o=>have:=HH hs.sub hh;omega
  ·rintro b (h|⟨r,es,e,hr,hb⟩)
   ·cases h;exact BM _
   ·simp[Ht] at hb
end
section
variable[D:DR]
variable{P:Program}{w0:Ae P}{H0:HV}{N:Nat}{ops:Array Oper}{Q:Exit->Act->World->Prop}{Γ Al:Ctx}{d:Option Tmp}{ty:TypeId}{pos:String}{af:Array Edge}{g:Option (Nat×Bool)}
variable{α β:Type}[DecidableEq α]{K E Eb T:TypeId}{sz:Nat}{fK:α->Ty}
def zw{B:Ae P}{w:AQ}{H:HV}{fV:β->Cv}{l:A3 (α×β)}{es:A3 MapEntry}(h:K9 B w H Eb sz 0 (mM fK fV l) es):(∀(j:Nat) (p:α×β),l[j]? =some p->∃y,es[j]? =some y/\(fK p.1).ok H y.key)/\es.length=l.length:=
 ⟨λj p hp=>by
  obtain⟨y,h1,h2,_⟩:=Zq h (j:=j) (k:=fK p.1) (e:=fV p.2) (by simp[hp]);exact⟨y,h1,h2⟩,by simpa using zd h⟩
def run_getObj_map{w:AQ}{r:Nat}{es:B6 MapEntry}{c:Nat}(h:w.heap[r]? =some (.map es c)):(getObj r).run P w= .ok (.map es c) w:=by
 simp[getObj,Sem.run,h]
end
section
variable[D:DR]
variable{P:Program}{w0:Ae P}{H0:HV}{N:Nat}{ops:Array Oper}{Q:Exit->Act->World->Prop}{Γ Al:Ctx}{d:Option Tmp}{ty:TypeId}{pos:String}{af:Array Edge}{g:Option (Nat×Bool)}
variable{w:AQ}{c:Nat}{es:B6 MapEntry}{B:Ae P}{H:HV}{sz:Nat}
def wC{r:Nat}{o:Obj}(h:w.heap[r]? =some (.map es c)):(setObj r o).run P w= .ok () (w.putObj r o):=by
 simp[setObj,Sem.run,h];rfl
def agI{E:Ah}{l:A3 Ty}{v:AR}(h:KQ B w H E sz l v){b:Nat}(hb:v.ownBlock=some b):w.heap[b]? ≠some (.map es c):=by
 obtain⟨xs,⟨_,hr⟩,_,_⟩:=h;rcases hr with⟨e,_⟩|⟨g,cap,cur,e,_,hc,_⟩
 ·subst e;simp[Value.ownBlock] at hb
 ·subst e;simp[Value.ownBlock] at hb;subst hb;rw[hc];intro e;cases e
def af8{Eb:Ah}{l:A3 (Ty×Cv)}{es:A3 MapEntry}(h:K9 B w H Eb sz 0 l es){b:Nat}(hb:Ht b l es){I4:B6 MapEntry}:w.heap[b]? ≠some (.map I4 c):=by
 obtain⟨j,k,e,x,h1,h2,h3⟩:=P4.1 hb;obtain⟨y,g1,_,g3,_⟩:=Zq h h1;rw[h2] at g1;cases g1;cases e with
 |val τ=>exact h3.elim
 |any=>exact h3.elim
 |buf bl=>exact agI g3 h3
def amX{Eb:Ah}{r:Nat}{I4:B6 MapEntry}{l':A3 (Ty×Cv)}(hr:w.heap[r]? =some (.map es c))(hn:H r=none)(hm:B.EI r)(ho:K9 B w H Eb sz 0 l' I4.toList)(hs:Of l' I4.toList):
  Qj B (w.putObj r<| .map I4 I4.size) H Eb sz l' (.map<|some r)/\∀b,PE (w.putObj r<| .map I4 I4.size) l' (.map<|some r) b↔b=r\/Ht b l' I4.toList:=by
 have Ke:(w.putObj r<| .map I4 I4.size).heap[r]? =some (.map I4 I4.size):=qK<|lt_of_heap hr
 refine⟨⟨r,I4,rfl,Ke,hn,hm,pf (HV.le.refl H) ho<|λb hb=>⟨ZV<|λe=>?_,rfl⟩,hs⟩,λb=>?_⟩
 ·subst e;exact af8 ho hb hr
 ·constructor
  ·rintro(h|⟨r1,es1,e1,h1,h2⟩)
   ·cases h;exact .inl rfl
   ·cases e1;rw[Ke] at h1;cases h1;exact .inr h2
  ·rintro(h|h)
   ·subst h;exact .inl rfl
   ·exact .inr ⟨r,I4,rfl,Ke,h⟩
end
section
variable[D:DR]
variable{P:Program}{w0:Ae P}{H0:HV}{N:Nat}{ops:Array Oper}{Q:Exit->Act->World->Prop}{Γ Al:Ctx}{d:Option Tmp}{ty:TypeId}{pos:String}{af:Array Edge}{g:Option (Nat×Bool)}
variable{α β:Type}[DecidableEq α]{K E Eb T:TypeId}{sz:Nat}{fK:α->Ty}{fV:β->Cv}
def yC{l:A3 (Ty×Cv)}{es:A3 MapEntry}{j:Nat}{k k0:Ty}{e e0:Cv}{x x0:MapEntry}(hlen:l.length=es.length)(hl:l[j]? =some (k0,e0))(hx:es[j]? =some x0)(h:Of l es)(hn:∀b,e.owns x.val b->e0.owns x0.val b\/ ¬Ht b l es):
  Of (l.set j (k,e)) (es.set j x)/\∀b,Ht b (l.set j (k,e)) (es.set j x)->e.owns x.val b\/(Ht b l es/\ ¬e0.owns x0.val b):=by
 have hj:=(GD.1 hl).1;have hj':j<es.length:=hlen▸hj;have hs:=(Yi hlen).1 h;have at':∀i k' e' y,(l.set j (k,e))[i]? =some (k',e')->(es.set j x)[i]? =some y->(i=j/\k'=k/\e'=e/\y=x)\/(i≠j/\l[i]? =some (k',e')/\es[i]? =some y):=λi k' e' y h1 h2=>by
  by_cases ei:i=j
  ·subst ei;rw[ZT hj] at h1;rw[ZT hj'] at h2;cases h1;cases h2;exact .inl ⟨rfl,rfl,rfl,rfl⟩
  ·rw[List.getElem?_set_ne<|Ne.symm ei] at h1 h2;exact .inr ⟨ei,h1,h2⟩
 have one:∀i k' e' y,i≠j->l[i]? =some (k',e')->es[i]? =some y->∀b,e'.owns y.val b-> ¬e.owns x.val b/\ ¬e0.owns x0.val b:=λi k' e' y hi h1 h2 b hb=>by
  have k2: ¬e0.owns x0.val b:=λh0=>by
   rcases Nat.lt_or_gt_of_ne hi with hlt|hlt
   ·exact hs i j k' k0 e' e0 y x0 hlt h1 hl h2 hx b hb h0
   ·exact hs j i k0 k' e0 e' x0 y hlt hl h1 hx h2 b h0 hb
  refine⟨λh3=>?_,k2⟩;rcases hn b h3 with h4|h4
  ·exact k2 h4
  ·exact h4<|P4.2 ⟨i,k',e',y,h1,h2,hb⟩
 refine⟨(Yi (by simpa using hlen)).2 ?_,λb hb=>?_⟩
 ·intro i i' k1 k2 e1 e2 y z LJ hi hi' hy hz b hb BD;rcases at' i k1 e1 y hi hy with⟨rfl,rfl,rfl,rfl⟩|⟨n1,g1,g2⟩<;>rcases at' i' k2 e2 z hi' hz with⟨rfl,rfl,rfl,rfl⟩|⟨n2,g3,g4⟩
  ·omega
  ·exact(one i' k2 e2 z n2 g3 g4 b BD).1 hb
  ·exact(one i k1 e1 y n1 g1 g2 b hb).1 BD
  ·exact hs i i' k1 k2 e1 e2 y z LJ g1 g3 g2 g4 b hb BD
 ·obtain⟨i,k1,e1,y,h1,h2,h3⟩:=P4.1 hb;rcases at' i k1 e1 y h1 h2 with⟨rfl,rfl,rfl,rfl⟩|⟨n1,g1,g2⟩
  ·exact .inl h3
  ·exact .inr ⟨P4.2 ⟨i,k1,e1,y,g1,g2,h3⟩,(one i k1 e1 y n1 g1 g2 b h3).2⟩
def xI{l:A3 (Ty×Cv)}{es:A3 MapEntry}{k:Ty}{e:Cv}{x:MapEntry}(hlen:l.length=es.length)(h:Of l es)(hn:∀b,¬e.owns x.val b):
  Of (l++[(k,e)]) (es++[x])/\∀b,Ht b (l++[(k,e)]) (es++[x])->Ht b l es:=by
 have at':∀(i:Nat) (k':Ty) (e':Cv) (y:MapEntry) (b:Nat),(l++[(k,e)])[i]? =some (k',e')->(es++[x])[i]? =some y->e'.owns y.val b->l[i]? =some (k',e')/\es[i]? =some y:=λi k' e' y b h1 h2 h3=>by
  by_cases hi:i<l.length
  ·rw[MG hi] at h1;rw[MG<|hlen▸hi] at h2;exact⟨h1,h2⟩
  ·have:i=l.length:=by
    have:=(GD.1 h1).1;simp at this;omega
   subst this;rw[NU<|BM _] at h1;rw[NU (by omega)] at h2;simp[hlen] at h1 h2;obtain⟨rfl,rfl⟩:=h1;subst h2;exact absurd h3<|hn b
 refine⟨(Yi (by simp[hlen])).2 λi j k1 k2 e1 e2 y z LJ hi hj hy hz b hb BD=>?_,λb hb=>?_⟩
 ·obtain⟨g1,g2⟩:=at' i k1 e1 y b hi hy hb;obtain⟨g3,g4⟩:=at' j k2 e2 z b hj hz BD;exact(Yi hlen).1 h i j k1 k2 e1 e2 y z LJ g1 g3 g2 g4 b hb BD
 ·obtain⟨i,k1,e1,y,h1,h2,h3⟩:=P4.1 hb;obtain⟨g1,g2⟩:=at' i k1 e1 y b h1 h2 h3;exact P4.2 ⟨i,k1,e1,y,g1,g2,h3⟩
def run_keyThatStays(hk:S6 P K fK){H:HV}{u v:AR}{x:α}(hu:(fK x).ok H u)(hv:(fK x).ok H v)(w:AQ):(Instr.keyThatStays u v).run P w= .ok v w:=by
 simp[Instr.keyThatStays,hk.bits H u v x hu hv]
def af9{γ:Type}(es:B6 γ)(j:Nat)(f:γ->γ):(es.modify j f).toList=es.toList.modify j f:=by simp
def xX{γ:Type}:∀{l:A3 γ} {j:Nat} {f:γ->γ} {x:γ},l[j]? =some x->l.modify j f=l.set j (f x)
 |[],_,_,_,h=>by simp at h
 |y::l,0,f,x,h=>by simp at h;subst h;rfl
 |y::l,j+1,f,x,h=>by
  have:=xX (l:=l) (j:=j) (f:=f) (x:=x) (by simpa using h);simpa using this
def afT{F:β->Ty}{m k v:CB}{t:Nat}{l:A3 (α×β)}{x:α}{y:β}{Ag:Ctx}(BE:∀q∈Ag,q∈Γ)(hT:Sf P T K E=true)(hk:S6 P K fK)(hm:Qo Ag m t)(ht:look Ag t=some (.Gn K E Eb sz<|mM fK (λv=> .val<|F v) l))(hx:Arg Ag k (fK x))(hy:Arg Ag v (F y)):
  Step P N ops ⟨none,.mapUpdate T m k v,ty,pos,af,none⟩ Γ ((t,.Gn K E Eb sz<|mM fK (λv=> .val<|F v)<|X8 l x y)::BF t Γ):=by
 intro w0 H0 a w H hs K' Q kk;simp only[Region.wanted,if_true];obtain⟨r,es,e,hr,hn,hmi,ho,IX⟩:=hs.holds _<|BE _<|B5 ht
 simp only at e;have hsi:=hs.weaken BE;have em:a.eval m= .map (some r):=by rw[hm.ok hsi];exact e
 have I1:=hx.ok hsi;have hyv:=hy.ok hsi;obtain⟨k1,k2⟩:=zw ho;have hf:=run_findKey hk I1 (w:=w) k1 k2;have hc:=hk.check H _ x I1 false w;have hlen:(mM fK (λv=>Cv.val<|F v) l).length=es.toList.length:=by simp[k2,mM]
 have hown:∀b,¬Ht b (mM fK (λv=>Cv.val<|F v) l) es.toList:=λb h=>by
  obtain⟨j,k',e',z,h1,_,h3⟩:=P4.1 h;simp only[mM,Gg,Option.map_eq_some_iff] at h1;obtain⟨p,_,h1⟩:=h1;cases h1;exact h3
 have fin:∀(I4:B6 MapEntry) (l':A3 (Ty×Cv)),l'=mM fK (λv=>Cv.val<|F v) (X8 l x y)->K9 w0 w H Eb sz 0 l' I4.toList->Of l' I4.toList->(∀b,¬Ht b l' I4.toList)->
   K' (a.put none undef) (w.putObj r<| .map I4 I4.size):=λI4 l' el h1 h2 h3=>by
  subst el;obtain⟨g1,g2⟩:=amX hr hn hmi h1 h2;refine kk a _ H (Ov hs (BE _<|B5 ht) (Ef.putObj w r _) hmi (by simp only[e];exact .inl rfl) (by simp only[e];exact g1) λc hc=> .inl ?_);simp only[e] at hc⊢;rcases(g2 c).1 hc with h|h
  ·subst h;exact .inl rfl
  ·exact absurd h<|h3 c
 unfold Oper.wp;cases hmx:mix x l with
 |none=>
  rw[hmx] at hf;have er:(execOp a.eval ⟨none,.mapUpdate T m k v,ty,pos,af,none⟩).run P w= .ok .skip (w.putObj r<| .map (es.push {key:=a.eval k,val:=a.eval v,born:=es.size})<|es.size+1):=by
   simp[execOp,em,Instr.mapUpdate,F0<|Ym hT,run_getObj_map hr,hc,hf,wC hr]
  rw[er,QI];have:=fin (es.push {key:=a.eval k,val:=a.eval v,born:=es.size}) (mM fK (λv=>Cv.val<|F v) l++[(fK x,.val<|F y)]) (by simp[mM,X8,hmx])
   (by simpa using yT (k:=fK x) (e:= .val<|F y) (x:={key:=a.eval k,val:=a.eval v,born:=es.size}) ho I1 hyv (by simp[<-k2]))
   (by simpa using(xI (k:=fK x) (e:= .val<|F y) hlen IX<|λ_ h=>h).1)
   (λb hb=>hown b ((xI (k:=fK x) (e:= .val<|F y) (x:={key:=a.eval k,val:=a.eval v,born:=es.size}) hlen IX<|λ_ h=>h).2 b (by simpa using hb)))
  simpa using this
 |some j=>
  rw[hmx] at hf;obtain⟨v0,I2⟩:=oV hmx;obtain⟨z,h1,h2,h3,h4⟩:=Zq ho (j:=j) (k:=fK x) (e:= .val<|F v0) (by simp[I2]);have h1':es[j]? =some z:=by simpa using h1
  have Ez:=run_keyThatStays hk h2 I1 w;have er:(execOp a.eval ⟨none,.mapUpdate T m k v,ty,pos,af,none⟩).run P w= .ok .skip (w.putObj r<| .map (es.modify j λe=>{e with key:=a.eval k,val:=a.eval v}) es.size):=by
   simp[execOp,em,Instr.mapUpdate,F0<|Ym hT,run_getObj_map hr,hc,hf,wC hr,h1',Ez]
  rw[er,QI];have hml:(es.modify j λe=>{e with key:=a.eval k,val:=a.eval v}).toList=es.toList.set j {z with key:=a.eval k,val:=a.eval v}:=by rw[af9,xX h1]
  have hl0:(mM fK (λv=>Cv.val<|F v) l)[j]? =some (fK x,.val<|F v0):=by simp[I2]
  have:=fin (es.modify j λe=>{e with key:=a.eval k,val:=a.eval v}) ((mM fK (λv=>Cv.val<|F v) l).set j (fK x,.val<|F y)) (by simp[mM,X8,hmx,Tj])
   (by rw[hml];exact za (k:=fK x) (e:= .val<|F y) (x:={z with key:=a.eval k,val:=a.eval v}) ho I1 hyv (by simpa using h4))
   (by rw[hml];exact(yC (k:=fK x) (e:= .val<|F y) hlen hl0 h1 IX<|λ_ h=>h.elim).1)
   (λb hb=>by
    rw[hml] at hb;rcases(yC (k:=fK x) (e:= .val<|F y) hlen hl0 h1 IX<|λ_ h=>h.elim).2 b hb with h|h
    ·exact h
    ·exact hown b h.1)
  simpa using this
end
section
variable[D:DR]
variable{P:Program}{w0:Ae P}{H0:HV}{N:Nat}{ops:Array Oper}{Q:Exit->Act->World->Prop}{Γ Al:Ctx}{d:Option Tmp}{ty:TypeId}{pos:String}{af:Array Edge}{g:Option (Nat×Bool)}
variable{H:HV}{w:AQ}{L:A3 (Ty×Ty)}{α:Type}{t r m it:Nat}{seen:A3 Nat}{s s':AN}
def uN{n:Nat}(hn:0<n)(w:AQ):∃(i:Nat) (k:Nat),w.drawn<=k/\i<n/\(choose<| .mapNext n).run P w= .ok i {w with drawn:=k}:=by
 by_cases h:n<=1
 ·refine⟨0,w.drawn,BM _,hn,?_⟩;simp[choose,Sem.run,Question.forced,h]
 ·refine⟨w.tape w.drawn (.mapNext n)%n,w.drawn+1,QG _,OH _ hn,?_⟩;simp[choose,Sem.run,Question.forced,h,Question.cut]
def akJ{T:Ah}{K E:Ah}{m:CB}(hT:Sf P T K E=true)(hm:Arg Γ m (az L)):B1 P Γ ⟨d,.range T m,ty,pos,af,g⟩ (.JC L []):=
 Lz λw0 _ _ a w H hs=>by
  obtain⟨r,es,e,hr,ho⟩:=hm.ok hs;have Ke:=hs.sub _ _ hr;refine⟨.pointer<|some ⟨w.heap.size,0,none⟩,w.alloc<| .mapIter (some r) es.size #[] es.size,H,?_,Ext.alloc hs.sub _,?_,?_⟩
  ·simp[execOp,Instr.range,e,F0<|Ym hT,run_getObj_map Ke,newObj];rfl
  ·refine⟨w.heap.size,r,es,#[],rfl,Lc w _,?_,.inl hs.below.size,hr,ho,rfl⟩;cases hh:H w.heap.size with
   |none=>rfl
   |some o=>have:=HH hs.sub hh;omega
  ·rintro b ⟨ad,e,hb⟩;cases e;simp at hb;omega
def pe{H:HV}:∀{i:Nat} {l:A3 (Ty×Ty)} {es:A3 MapEntry},okM H i l es->es.length=l.length
 |_,[],[],_=>rfl
 |_,[],_::_,h=>h.elim
 |_,(_,_)::_,[],h=>h.elim
 |_,(_,_)::_,_::_,⟨_,_,_,h⟩=>by simp[pe h]
def iR{H:HV}:∀{i:Nat} {l:A3 (Ty×Ty)} {es:A3 MapEntry} {j:Nat} {x:MapEntry},okM H i l es->es[j]? =some x->∃k e,l[j]? =some (k,e)/\k.ok H x.key/\e.ok H x.val/\x.born=i+j
 |_,[],[],_,_,_,h=>by simp at h
 |_,[],_::_,_,_,h,_=>h.elim
 |_,(_,_)::_,[],_,_,h,_=>h.elim
 |i,(k,e)::l,x::xs,0,y,⟨h1,h2,h3,h4⟩,h=>by
  simp at h;subst h;exact⟨k,e,rfl,h1,h2,by simpa using h3⟩
 |i,(k,e)::l,x::xs,j+1,y,⟨h1,h2,h3,h4⟩,h=>by
  obtain⟨k',e',g1,g2,g3,g4⟩:=iR h4 (by simpa using h);exact⟨k',e',by simpa using g1,g2,g3,by omega⟩
def u6{since last:Nat}{seen:B6 Nat}(h:w.heap[r]? =some (.mapIter (some m) since seen last)):(getObj r).run P w= .ok (.mapIter (some m) since seen last) w:=by
 simp[getObj,Sem.run,h]
def ae1{o:Obj}{since last:Nat}{seen:B6 Nat}(h:w.heap[r]? =some (.mapIter (some m) since seen last)):(setObj r o).run P w= .ok () (w.putObj r o):=by
 simp[setObj,Sem.run,h];rfl
def akZ{es:B6 MapEntry}{sn:B6 Nat}{ty:Ah}(hr:w.heap[r]? =some (.mapIter (some m) es.size sn es.size))(hm:w.heap[m]? =some (.map es es.size))(ho:okM H 0 L es.toList):
  ((∀j,j<L.length->j∈sn.toList)/\∃k,w.drawn<=k/\(Instr.next (.pointer<|some ⟨r,0,none⟩) false ty).run P w= .ok (.tuple #[.bool false]) {w with drawn:=k})\/
  ∃j x k,j<L.length/\j∉sn.toList/\es[j]? =some x/\w.drawn<=k/\(Instr.next (.pointer<|some ⟨r,0,none⟩) false ty).run P w= .ok (.tuple #[.bool true,x.key,x.val]) (World.putObj {w with drawn:=k} r<| .mapIter (some m) es.size (sn.push j) es.size):=by
 have hlen:=pe ho;have Ws:∀(j:Nat) (x:MapEntry),es[j]? =some x->x.born=j:=λj x hx=>by
  obtain⟨_,_,_,_,_,h⟩:=iR ho (j:=j) (x:=x) (by simpa using hx);simpa using h
 have hbl:∀e∈es,e.born<es.size:=λe he=>by
  obtain⟨j,hj,e1⟩:=Array.getElem_of_mem he;have:=Ws j e (by simp[hj,e1]);omega
 have abh:(!sn.isEmpty&& !es.isEmpty&&es.all (·.born>=es.size))=false:=by
  cases hes:es.isEmpty
  ·simp only[Bool.not_false,gI];have hpos:0<es.size:=by
    cases h:es.size with
    |zero=>rw[Array.isEmpty_iff_size_eq_zero.2 h] at hes;cases hes
    |succ n=>omega
   have:es.all (·.born>=es.size)=false:=by
    rw[Array.all_eq_false'];refine⟨es[0],by simp,?_⟩;have:=hbl es[0] (by simp);simp;omega
   simp[this]
  ·simp
 generalize Wr:es.filter (λe=> !sn.contains e.born)=left
 have hlm:∀e∈left,e∈es/\sn.contains e.born=false:=λe he=>by
  rw[<-Wr] at he;simpa using Array.mem_filter.1 he
 have hold:left.filter (·.born<es.size)=left:=by
  rw[Array.filter_eq_self];exact λe he=>by simpa using hbl e (hlm e he).1
 have Pg:left.filter (·.born>=es.size)= #[]:=by
  rw[Array.filter_eq_empty_iff];intro e he;have:=hbl e (hlm e he).1;simp;omega
 have kF:=u6 (P:=P) hr;have hg2:=run_getObj_map (P:=P) hm;by_cases jg:left= #[]
 ·left;refine⟨λj hj=>?_,?_⟩
  ·have hj':j<es.size:=by rw[<-hlen] at hj;simpa using hj
   have hb:=Ws j es[j] (by simp[hj']);apply Cl;intro hn;have:es[j]∈left:=by
    rw[<-Wr];refine Array.mem_filter.2 ⟨by simp,?_⟩;rw[hb];simpa using hn
   rw[jg] at this;simp at this
  ·obtain⟨i,k,hk,hi,hc⟩:=uN (P:=P) (n:=1) (by omega) w;have:i=0:=by omega
   subst this;refine⟨k,hk,?_⟩;unfold Instr.next
   simp only[E4,kF,Dp,hg2,abh,Tw,if_false,Wr,hold,Pg];rw[jg];simp only[Array.isEmpty_empty,if_true,Array.append_empty,Array.map_empty,WB,Dj,W6,PH,hc,Dp]
   rfl
 ·right;have hpos:0<left.size:=by
   cases h:left.size with
   |zero=>exact absurd (Array.eq_empty_of_size_eq_zero h) jg
   |succ n=>omega
  obtain⟨i,k,hk,hi,hc⟩:=uN (P:=P) (n:=left.size) hpos w;have Hf:=hlm left[i] (by simp);obtain⟨j,hj,e1⟩:=Array.getElem_of_mem Hf.1;have hb:=Ws j left[i] (by simp[hj,e1]);have Ke:World.heap {w with drawn:=k}=w.heap:=rfl;refine⟨j,left[i],k,by rw[<-hlen];simpa using hj,?_,by simp[hj,e1],hk,?_⟩
  ·have:=Hf.2;rw[hb] at this;simpa using this
  ·have hne:left.isEmpty=false:=by
    cases h:left.isEmpty
    ·rfl
    ·rw[Array.isEmpty_iff] at h;exact absurd h jg
   have MP:=ae1 (P:=P) (w:={w with drawn:=k}) (o:= .mapIter (some m) es.size (sn.push left[i].born) es.size) hr;rw[hb] at MP;unfold Instr.next
   simp only[E4,kF,Dp,hg2,abh,Tw,if_false,Wr,hold,Pg,hne,Array.append_empty,Array.empty_append,Array.size_map,hc,Dp];have:(Array.map some left)[i]? =some (some left[i]):=by simp[hi]
   simp only[this,hb,E4,MP,Dp]
   rfl
def ap6{dn de id:Nat}{ts:A3 Nat}{G4:Ctx}{ty LC:Ah}{pos pos':String}{af LD:B6 Edge}(hit:look Γ it=some (.JC L seen))(KX:E7 Γ ts G4)
 (hN:(Nat.blt dn N&&Nat.blt de N&&(dn !=it)&&(de !=it)&&(de !=dn))=true)(hf:(G4.all λp=>p.1 !=it&&p.1 !=dn&&p.1 !=de&&p.2.By.all (λt=>t !=dn&&t !=de&&t !=it))=true)
 (kt:∀j,j<L.length->j∉seen->ES w0 H0 N (Q .normal) ((de,.val<|Ay true)::(it,.JC L<|seen++[j])::G4))(kf:(∀j,j<L.length->j∈seen)->ES w0 H0 N (Q .normal) ((de,.val<|Ay false)::G4)):
  Goal P w0 H0 N (.region id #[⟨some dn,.next (.tmp it) false,ty,pos,af,none⟩,⟨some de,.extract (.tmp dn) 0,LC,pos',LD,none⟩] false) Q Γ:=by
 intro a w H hs;simp only[Bx,M8,ne_eq] at hN;obtain⟨⟨⟨⟨h1,h2⟩,h3⟩,h4⟩,h5⟩:=hN;have hdn:=AZ h1;have hde:=AZ h2;obtain⟨r,m,es,sn,e,hr,hn,hmi,hm,ho,hsn⟩:=hs.holds _<|B5 hit
 simp only at e;have fr:∀q∈G4,q∈Γ/\q.1≠it/\q.1≠dn/\q.1≠de/\dn∉q.2.By/\de∉q.2.By/\it∉q.2.By:=λq hq=>by
  have:=DZ.1 hf q hq;simp only[Bx,M8,ne_eq,DZ] at this;obtain⟨⟨⟨k1,k2⟩,k3⟩,k4⟩:=this;exact⟨KX.sub q hq,k1,k2,k3,λh=>(k4 _ h).1.1 rfl,λh=>(k4 _ h).1.2 rfl,λh=>(k4 _ h).2 rfl⟩
 have ei:a.eval (.tmp it)= .pointer (some ⟨r,0,none⟩):=e;refine wpIn_region_lit ?_;have fin:∀(vs:A3 AR) (b:Bool) (w':AQ) (G:Ctx),(∀q∈G,q.1≠dn/\q.1≠de/\dn∉q.2.By/\de∉q.2.By)->Sat w0 H0 N G a w' H->vs.head?=some (.bool b)->ES w0 H0 N (Q .normal) ((de,.val<|Ay b)::G)->
   wpListIn (Fk w0.rd) 0 P #[⟨some dn,.next (.tmp it) false,ty,pos,af,none⟩,⟨some de,.extract (.tmp dn) 0,LC,pos',LD,none⟩] Q [⟨some de,.extract (.tmp dn) 0,LC,pos',LD,none⟩] (a.put (some dn)<| .tuple vs.toArray) w':=by
  intro vs b w' G hG hS hv kk;unfold wpListIn;have hw:Region.wanted (⟨some de,.extract (.tmp dn) 0,LC,pos',LD,none⟩:Oper) (yielded #[⟨some dn,.next (.tmp it) false,ty,pos,af,none⟩,⟨some de,.extract (.tmp dn) 0,LC,pos',LD,none⟩] (a.put (some dn)<| .tuple vs.toArray).tmps)=true:=rfl;rw[if_pos hw];refine Yy (λc e=>by cases e) ?_;unfold Oper.wp;have ed:(a.put (some dn)<| .tuple vs.toArray).eval (.tmp dn)= .tuple vs.toArray:=VO (by rw[hs.sz];exact hdn);have LG:vs[0]? =some (.bool b):=by rw[<-List.head?_eq_getElem?];exact hv
  have er:(execOp (a.put (some dn)<| .tuple vs.toArray).eval ⟨some de,.extract (.tmp dn) 0,LC,pos',LD,none⟩).run P w'= .ok (.value<| .bool b) w':=by
   simp[execOp,ed,Instr.extract,LG]
  rw[er,OJ];unfold wpListIn;have KB:=Q7 (s:= .gone) (v:= .tuple vs.toArray) hS hdn (by
   simp only[JT,DZ,Bx,M8,ne_eq];exact λq hq=>⟨(hG q hq).1,by simpa using(hG q hq).2.2.1⟩) (by simp[AN.By]) trivial<|λb h=>h.elim
  have hs3:=Q7 (s:= .val<|Ay b) (v:= .bool b) (KB.weaken (Al:=G) λq hq=>Bq _ hq) hde (by
   simp only[JT,DZ,Bx,M8,ne_eq];exact λq hq=>⟨(hG q hq).2.1,by simpa using(hG q hq).2.2.2⟩) (by simp[AN.By]) rfl<|λb h=>h.elim
  exact kk _ w' H hs3
 unfold wpListIn;have hw:Region.wanted (⟨some dn,.next (.tmp it) false,ty,pos,af,none⟩:Oper) (yielded #[⟨some dn,.next (.tmp it) false,ty,pos,af,none⟩,⟨some de,.extract (.tmp dn) 0,LC,pos',LD,none⟩] a.tmps)=true:=rfl;rw[if_pos hw];refine Yy (λc e=>by cases e) ?_;unfold Oper.wp;rcases akZ (P:=P) (ty:=ty) hr (hs.sub _ _ hm) ho with⟨hall,k,hk,F9⟩|⟨j,x,k,hj,hjn,hx,hk,F9⟩
 ·have er:(execOp a.eval ⟨some dn,.next (.tmp it) false,ty,pos,af,none⟩).run P w= .ok (.value<| .tuple #[.bool false]) {w with drawn:=k}:=by
   simp only[execOp,ei,E4,F9,Dp];rfl
  rw[er,OJ];have he:Ext w H {w with drawn:=k} H:=⟨⟨⟨rfl,rfl,rfl,BM _,λ_ _=>rfl⟩,Gu.of hk⟩,HV.le.refl _,λ_ _=>rfl,hs.sub⟩;exact fin [.bool false] false _ G4 (λq hq=>⟨(fr q hq).2.2.1,(fr q hq).2.2.2.1,(fr q hq).2.2.2.2.1,(fr q hq).2.2.2.2.2.1⟩) (fJ (hs.weaken KX.sub) he) rfl (kf (by rw[<-hsn];exact hall))
 ·have er:(execOp a.eval ⟨some dn,.next (.tmp it) false,ty,pos,af,none⟩).run P w= .ok (.value<| .tuple #[.bool true,x.key,x.val]) (World.putObj {w with drawn:=k} r<| .mapIter (some m) es.size (sn.push j) es.size):=by
   simp only[execOp,ei,E4,F9,Dp];rfl
  rw[er,OJ];have hg:Ef w (World.putObj {w with drawn:=k} r<| .mapIter (some m) es.size (sn.push j) es.size) (some r):=
   ⟨⟨rfl,rfl,rfl,by simp,λi _ hi=>by rw[ZV (λe=>hi (by rw[e]))]⟩,Gu.of hk⟩
  have Ke:(World.putObj {w with drawn:=k} r<| .mapIter (some m) es.size (sn.push j) es.size).heap[r]? =some (.mapIter (some m) es.size (sn.push j) es.size):=qK<|lt_of_heap hr
  have KB:=Ov (s':= .JC L<|seen++[j]) hs (B5 hit) hg hmi ⟨_,e,rfl⟩ ⟨r,m,es,sn.push j,e,Ke,hn,hmi,hm,ho,by simp[hsn]⟩<|λc hc=> .inl hc
  exact fin [.bool true,x.key,x.val] true _ ((it,.JC L<|seen++[j])::G4) (λq hq=>by
    rcases Ai.1 hq with e|hq
    ·subst e;exact⟨λe=>h3 e.symm,λe=>h4 e.symm,by simp[AN.By],by simp[AN.By]⟩
    ·exact⟨(fr q hq).2.2.1,(fr q hq).2.2.2.1,(fr q hq).2.2.2.2.1,(fr q hq).2.2.2.2.2.1⟩)
   (KB.weaken λq hq=>by
    rcases Ai.1 hq with e|hq
    ·subst e;simp
    ·exact Bq _<|O9 (fr q hq).1 (fr q hq).2.1) rfl (kt j hj (by rw[<-hsn];exact hjn))
def akK{j:Nat}{k e:Ty}(hit:look Γ it=some (.JC L<|seen++[j]))(hj:L[j]? =some (k,e)):B1 P Γ ⟨d,.entry<| .tmp it,ty,pos,af,g⟩ (.LF [k,e]):=
 Di λw0 _ _ a w H hs=>by
  obtain⟨r,m,es,sn,ev,hr,hn,hmi,hm,ho,hsn⟩:=hs.holds _<|B5 hit
  simp only at ev;have ei:a.eval (.tmp it)= .pointer (some ⟨r,0,none⟩):=ev;have hm':=hs.sub _ _ hm;have Ws:∀(i:Nat) (x:MapEntry),es[i]? =some x->x.born=i:=λi x hx=>by
   obtain⟨_,_,_,_,_,h⟩:=iR ho (j:=i) (x:=x) (by simpa using hx);simpa using h
  have hlt:j<es.size:=by
   have:=(GD.1 hj).1;rw[<-pe ho] at this;simpa using this
  obtain⟨k',e',h1,h2,h3,_⟩:=iR ho (j:=j) (x:=es[j]) (by simp[hlt]);rw[hj] at h1;cases h1;have rR:sn.back?=some j:=by
   have:sn=(seen++[j]).toArray:=by rw[<-hsn]
   rw[this];simp
  have arA:es.find? (λx=>x.born==j)=some es[j]:=by
   rw[Array.find?_eq_some_iff_getElem];refine⟨by simpa using Ws j es[j] (by simp[hlt]),j,hlt,rfl,λi hi=>?_⟩;have:=Ws i es[i] (by simp[Nat.lt_trans hi hlt]);simp[this];omega
  refine⟨.tuple #[es[j].key,es[j].val],?_,⟨_,rfl,_,_,rfl,h2,_,[],rfl,h3,rfl⟩,rfl⟩;simp[execOp,ei,Instr.entry,u6 hr,run_getObj_map hm',rR,arA]
def Pd{α σ:Type}(f:α->σ->A9 σ):A3 α->σ->A9 σ
 |[],s=>some s
 |x::l,s=>bd (f x s)<|Pd f l
def Se{α σ ρ:Type}(f:α->σ->A9 σ)(l:A3 α)(s:σ)(K:σ->A9 ρ):A9 ρ:=bd (Pd f l s) K
def aur{P:C7}{α σ:Type}(w0:Ae P)(H0:HV)(N it:Nat)(l:A3 α)(enc:α->Ty×Ty)(f:α->σ->A9 σ)(Ag:σ->Ctx)(seen:A3 Nat)(s:σ)(a:Act)(w:AQ):Prop:=
 ∃j x s',l[j]? =some x/\j∉seen/\f x s=some s'/\∃H,Sat w0 H0 N ((it,.JC (l.map enc)<|seen++[j])::Ag s') a w H
def Pe{α:Type}(l:A3 α)(seen:A3 Nat):A3 α:=((List.range l.length).filter λj=> !seen.contains j).filterMap λj=>l[j]?
def nC{l:A3 α}{j:Nat}{x:α}(hj:l[j]? =some x)(hn:j∉seen):(x::Pe l (seen++[j])).Perm (Pe l seen):=by
 have hlt:=(GD.1 hj).1;have key:((List.range l.length).filter λi=> !seen.contains i).Perm (j::(List.range l.length).filter λi=> !(seen++[j]).contains i):=by
  have KC:((List.range l.length).filter λi=> !seen.contains i).Nodup:=List.nodup_range.filter _;have Hf:j∈(List.range l.length).filter λi=> !seen.contains i:=by simp[hlt,hn]
  have h1:=List.perm_cons_erase Hf;refine h1.trans<|List.Perm.cons _ ?_
  rw[KC.erase_eq_filter,List.filter_filter];refine List.Perm.of_eq<|List.filter_congr λi _=>?_
  by_cases e:i=j
  ·subst e;simp
  ·simp[e]
 have h2:=(key.filterMap λi=>l[i]?).symm;simpa[Pe,hj] using h2
def xP{α:Type}:∀(l pre:A3 α),(List.range' pre.length l.length).filterMap (λj=>(pre++l)[j]?)=l
 |[],_=>rfl
 |x::l,pre=>by
  have ih:=xP l<|pre++[x]
  simp only[ED,Ij,ID,zr] at ih;simp only[Dj,List.range'_succ,List.filterMap_cons];rw[NU<|BM _,q9];simp only[List.getElem?_cons_zero,ih]
def aiz(l:A3 α):Pe l []=l:=by
 have:=xP l [];simp only[W6,Ii] at this;unfold Pe;have e:List.filter (λj=> !([]:A3 Nat).contains j) (List.range l.length)=List.range l.length:=List.filter_eq_self.2<|λj _=>rfl
 rw[e,List.range_eq_range'];exact this
def anL{σ ρ:Type}{l:A3 α}(enc:α->Ty×Ty){f:α->σ->A9 σ}{K:σ->A9 ρ}{s0:σ}{r:ρ}(Ag:σ->Ctx){c:Code}{ts:A3 Nat}(hall:∀π,π.Perm l->Se f π s0 K=some r)(h0:E7 Γ ts ((it,.JC (l.map enc) [])::Ag s0))
 (round:∀(seen:A3 Nat) (s:σ),(∀j x,l[j]? =some x->j∉seen->∃s',f x s=some s')->((∀j,j<(l.map enc).length->j∈seen)->K s=some r)->
 Goal P w0 H0 N c (Exit.then (aur w0 H0 N it l enc f Ag seen s) Q) ((it,.JC (l.map enc) seen)::Ag s)):Goal P w0 H0 N (.loop c) Q Γ:=by
 intro a w H hs;refine wp_loop_ghost (λ(i:A3 Nat×σ) a w=>(∀π,π.Perm (Pe l i.1)->Se f π i.2 K=some r)/\∃H,Sat w0 H0 N ((it,.JC (l.map enc) i.1)::Ag i.2) a w H) (λi=>(Pe l i.1).length) ([],s0) ⟨λπ hπ=>hall π (hπ.trans (by rw[aiz])),H,hs.weaken h0.sub⟩ ?_
 ·rintro⟨seen,s⟩ a w ⟨hI,H,hs⟩;refine Vu (round seen s (λj x hj hn=>?_) (λhd=>?_) a w H hs) λe a' w' q=>?_
  ·have h1:=hI (x::Pe l (seen++[j])) (nC hj hn);unfold Se at h1;simp only[Pd] at h1;obtain⟨s1,h2,_⟩:=Ax h1;obtain⟨s2,h3,_⟩:=Ax h2;exact⟨s2,h3⟩
  ·have:Pe l seen=[]:=by
    unfold Pe;have:((List.range l.length).filter λj=> !seen.contains j)=[]:=List.filter_eq_nil_iff.2 λj hj=>by
     have:=hd j (by simpa using hj);simp[this]
    rw[this];rfl
   have h1:=hI [] (by rw[this]);exact h1
  ·cases e with
   |normal=>
    obtain⟨j,x,s',hj,hn,hf,H',Co⟩:=q;refine⟨(seen++[j],s'),⟨λπ hπ=>?_,H',Co⟩,?_⟩
    ·have h1:=hI (x::π) ((hπ.cons x).trans<|nC hj hn);unfold Se at h1⊢;simp only[Pd] at h1;rw[hf] at h1;exact h1
    ·have:=(nC hj hn).length_eq;simp at this;simp only;omega
   |_=>exact q
def Ae.No(P:C7)(w:AQ)(X:Nat->Prop):Ae P:=⟨w,X,none,false,[],0,FM _,λ_ _=>FM _⟩
def R1:Act:=⟨#[],[]⟩
structure I9(P:C7)(f:FuncId)(pre:A3 Ty)(s s':AN)(post:A3 Ty)(Bb:A3 Ty):Prop where
 can:GL P f=true
 run:∀(w:AQ) (H:HV) (v:AR) (ps qs:A3 AR),(∀r o,H r=some o->w.heap[r]? =some o)->KP P H->Ee H pre ps->Ee H post qs->s.holds (Ae.No P w λb=>s.owns w v b) R1 w H v->
  Calls P f (ps++v::qs).toArray w λe w'=>∃r,e= .returned r/\∃H',Qn (λb=>s.owns w v b) w H w' H'/\s'.holds (Ae.No P w λb=>s.owns w v b) R1 w' H' v/\(∀b,s'.owns w' v b->s.owns w v b\/w.heap.size<=b)/\KR H' Bb r
inductive Ej(Γ:Ctx):CB->Nat->Prop where
 |own {t:Nat}:Ej Γ (.tmp t) t
 |same {u t:Nat} (h:look Γ u=some (.same t)):Ej Γ (.tmp u) t
 |ptr {u t:Nat} (h:look Γ u=some (.ptr t 0)):Ej Γ (.tmp u) t
def Ej.ok{x:CB}(h:Ej Γ x t){a:Act}(hs:Sat w0 H0 N Γ a w H):a.eval x=Ab a t:=by
 cases h with
 |own=>rfl
 |same h=>exact hs.holds _<|B5 h
 |ptr h=>
  obtain⟨b,e1,e2⟩:=hs.holds _<|B5 h
  simp only at e1 e2;rw[e1];exact e2
def yE{a:Act}{w':AQ}{H':HV}(hs:Sat w0 H0 N Γ a w H)(ht:(t,s)∈Γ)(hi:s.F2=false)(hi':s'.F2=false)(ET:∀q∈BF t Γ,q.2.F2=true->∀b,s.owns w (Ab a t) b->w0.lo<=b)
 (hy:Qn (λb=>s.owns w (Ab a t) b) w H w' H')(Co:s'.holds w0 a w' H' (Ab a t))(ho:∀b,s'.owns w' (Ab a t) b->s.owns w (Ab a t) b\/w.heap.size<=b):Sat w0 H0 N ((t,s')::BF t Γ) a w' H':=by
 have Ez:=hs.holds _ ht;have EI:∀b,s.owns w (Ab a t) b->w0.EI b:=λb hb=>AN.P7 hi Ez hb
 have other:∀q∈BF t Γ,∀b,q.2.owns w (Ab a q.1) b-> ¬s.owns w (Ab a t) b:=λq hq b hb BD=>hs.sep _ ht q (DI q hq).1 (λe=>(DI q hq).2 e.symm) b BD hb
 have key:∀q∈BF t Γ,q.2.holds w0 a w' H' (Ab a q.1)/\∀b,q.2.owns w' (Ab a q.1) b↔q.2.owns w (Ab a q.1) b:=λq hq=>by
  refine AN.VT (n:=w0.lo) (hs.holds q (DI q hq).1) (λ_=>rfl) ?_;have kp:∀b,b<w.heap.size->(b<w0.lo\/q.2.owns w (Ab a q.1) b)->w'.heap[b]? =w.heap[b]? /\H' b=H b:=λb hb h=>hy.E6 b hb (λh2=>by
   rcases h with h|h
   ·have:=Ae.QC (EI b h2);omega
   ·exact other q hq b h h2)
  exact⟨hy.size,hy.os,hy.tape,hy.output,hy.drawn,hy.le,λb hb h=>(kp b hb h).1,λb hb h=>(kp b hb h).2,hy.sub⟩
 refine⟨?_,hs.sz,?_,?_,hy.sub,?_,?_,hs.gl.mono hy.le⟩
 ·refine hs.nd.kept λD _ h1 h2=>?_
  have hn: ¬s.owns w (Ab a t) D:=λhm=>by
   obtain⟨_,_,o,ho,LH⟩:=AN.J5 Ez hm;rw[h1] at ho;cases ho;exact LH
  have:=hy.E6 D (lt_of_heap h1) hn;exact⟨by rw[this.1];exact h1,by rw[this.2];exact h2⟩
 ·refine⟨hy.os.trans hs.below.os,hy.tape.trans hs.below.tape,hy.output.trans hs.below.output,Ca hs.below.drawn hy.drawn,Ca hs.below.size hy.size,λhv k hk hx=>?_⟩;rw[(hy.E6 k (J8 hk hs.below.size) (λh=>by
   rcases EI k h with h|h
   ·omega
   ·exact hx h)).1]
  exact hs.below.block hv k hk hx
 ·intro hv r hr hx;rw[(hy.E6 r (J8 hr hs.below.size) (λh=>by
   rcases EI r h with h|h
   ·omega
   ·exact hx h)).2]
  exact hs.GK hv r hr hx
 ·intro q hq;rcases Ai.1 hq with e|hq
  ·subst e;exact Co
  ·exact(key q hq).1
 ·have low:∀q∈BF t Γ,∀b,q.2.owns w' (Ab a q.1) b-> ¬s'.owns w' (Ab a t) b:=λq hq b hb hm=>by
   have hb:=((key q hq).2 b).1 hb;rcases ho b hm with h|h
   ·exact other q hq b hb h
   ·have:=(AN.J5 (hs.holds q (DI q hq).1) hb).1;omega
  intro q hq r hr hne b hb BD;rcases Ai.1 hq with e|hq<;>rcases Ai.1 hr with e'|hr
  ·subst e;subst e';exact hne rfl
  ·subst e;exact low r hr b BD hb
  ·subst e';exact low q hq b hb BD
  ·exact hs.sep q (DI q hq).1 r (DI r hr).1 hne b (((key q hq).2 b).1 hb)<|((key r hr).2 b).1 BD
def ahG{o:Oper}{f:FuncId}{xs ys:A3 CB}{pre post Bb:A3 Ty}{dd:Nat}{Ag:Ctx}(BE:∀q∈Ag,q∈Γ)(hf:I9 P f pre s s' post Bb)(hod:(o.dst,o.guard)=(some dd,none))(hoe:∀{w0:Ae P} {H0:HV} {N:Nat} {a:Act} {w:AQ} {H:HV},Sat w0 H0 N Ag a w H->execOp a.eval o=callFunc f (xs.map a.eval++Ab a t::ys.map a.eval).toArray)(ht:look Ag t=some s)(hi:(s.F2||s'.F2)=false)(hl:s.By=[])(hl':s'.By=[])
 (ha:AO Ag xs pre)(hb:AO Ag ys post)(DH:dd<N)(hne:dd≠t):
  Step P N ops o Γ ((dd,Ip Bb)::(t,s')::del dd (BF t Γ)):=by
 intro w0 H0 a w H hs K Q k;have hg:o.guard=none:=congrArg Prod.snd hod;have hd:o.dst=some dd:=congrArg Prod.fst hod;simp only[Region.wanted,hg,if_true];simp only[Jr] at hi;have hsi:=hs.weaken BE;have Ez:=hs.holds _<|BE _<|B5 ht
 simp only at Ez;unfold Oper.wp;rw[hoe hsi,Ow hf.can,W7,hd];have at2:s.holds (Ae.No P w λb=>s.owns w (Ab a t) b) R1 w H (Ab a t):=
  AN.P5 (a:=a) (λt h=>by rw[hl] at h;cases h) (AN.RU hi.1 Ez λb hb=> .inr hb)
 refine(hf.run w H _ _ _ hs.sub hs.gl (ha.ok hsi) (hb.ok hsi) at2).mono ?_;rintro e w' ⟨r,rfl,H',hy,Co,ho,hr⟩;have at3:s'.holds w0 a w' H' (Ab a t):=AN.P5 (a:=R1) (λt h=>by rw[hl'] at h;cases h) (AN.RU hi.2 Co λb hb=>by
  rcases ho b hb with h|h
  ·exact AN.P7 hi.1 Ez h
  ·exact .inl<|Ca hs.below.size h)
 have h1:=yE hs (BE _<|B5 ht) hi.1 hi.2 (λq hq _ b hb=>Ae.QC<|AN.P7 hi.1 Ez hb) hy at3 ho;have h2:=Q7 (h1.weaken (Al:=del dd ((t,s')::BF t Γ)) MC) DH PA (s:=Ip Bb) (v:=r) (by
  match Bb with
  |[]=>simp[Ip,AN.By]
  |[_]=>simp[Ip,AN.By]
  |_::_::_=>simp[Ip,AN.By]) (VQ hr)<|λb e=>absurd e<|AN.free_spec VX
 refine k _ w' H'<|h2.weaken λq hq=>?_
 simp only[Ai] at hq⊢;rcases hq with h|h|h
 ·exact .inl h
 ·subst h;exact .inr (QD (by simp) (λe=>hne e.symm) (by simp only;rw[hl'];simp))
 ·have:=qy h;exact .inr<|QD (Bq _<|MC _ h) this.1 this.2
def xc{f:FuncId}{x:CB}{xs ys:A3 CB}{F4:B6 Ah}{pre post Bb:A3 Ty}{dd:Nat}{Ag:Ctx}(BE:∀q∈Ag,q∈Γ)(hf:I9 P f pre s s' post Bb)(hx:Ej Ag x t)(ht:look Ag t=some s)(hi:(s.F2||s'.F2)=false)(hl:s.By=[])(hl':s'.By=[])
 (ha:AO Ag xs pre)(hb:AO Ag ys post)(DH:dd<N)(hne:dd≠t):
  Step P N ops ⟨some dd,.call ⟨.value<| .func f,(xs++x::ys).toArray,F4⟩,ty,pos,af,none⟩ Γ ((dd,Ip Bb)::(t,s')::del dd (BF t Γ)):=by
 refine ahG BE hf rfl (λ{_ _ _ a _ _} hsi=>?_) ht hi hl hl' ha hb DH hne;have e:execOp a.eval ⟨some dd,.call ⟨.value<| .func f,(xs++x::ys).toArray,F4⟩,ty,pos,af,none⟩=callFunc f (#[]++(xs++x::ys).toArray.map a.eval++ #[]):=rfl;rw[e]
 congr 1
 simp[hx.ok hsi]
end
section
variable[D:DR]
variable{P:Program}{w0:Ae P}{H0:HV}{N:Nat}{Q:Exit->Act->World->Prop}{Γ Al:Ctx}
variable{fn:Func}{Bb:A3 Ty}{s s':AN}
def acf(P:C7)(w:AQ)(H:HV)(v:AR)(s s':AN)(Bb:A3 Ty)(e:Ending)(w':AQ):Prop:=
 ∃r,e= .returned r/\∃H',Qn (λb=>s.owns w v b) w H w' H'/\s'.holds (Ae.No P w λb=>s.owns w v b) R1 w' H' v/\(∀b,s'.owns w' v b->s.owns w v b\/w.heap.size<=b)/\KR H' Bb r
def ra(P:C7)(fn:Func)(w:AQ)(H:HV)(v:AR)(s s':AN)(Bb:A3 Ty):Exit->Act->AQ->Prop:=bodyPostM (Fk none) 0 P fn<|acf P w H v s s' Bb
def aiy{rs:A3 ResultVar}{w1:AQ}{v:AR}{i:Nat}(hw0:w0=Ae.No P w1 λb=>s.owns w1 v b)(ET:∀b,s.owns w1 v b->H0 b=none)(hlt:∀r o,H0 r=some o->r<w1.heap.size)(hr:fn.results=rs.toArray)(h:AX P Γ rs Bb)(Co:look Γ i=some s')(hp:look Γ N=some (.K8 i v))(hi:s'.F2=false)(hl:s'.By=[])
 {a:Act}{w:AQ}{H:HV}(hs:Sat w0 H0 N Γ a w H):LeavesInM (Fk none) 0 P fn a.tmps (acf P w1 H0 v s s' Bb) a.defers .returning w:=by
 subst hw0;refine VM rfl rfl (a:=a) (ds:=a.defers) hs λw H hs=>?_
 obtain⟨vs,h1,h2⟩:=h.run hs;have hlen:=Ro h2;rw[YO hr];simp only[E4,Sem.run_map,h1,Dp,Jp];have hv:Ab a i=v:=hs.holds _<|B5 hp
 have Ez:=hs.holds _<|B5 Co
 simp only at Ez;have ea:Ab {a with defers:=[]} i=v:=hv;rw[ea] at Ez;refine⟨_,rfl,_,rfl,H,⟨hs.below.size,hs.below.os,hs.below.tape,hs.below.output,hs.below.drawn,?_,?_,hs.sub⟩,AN.P5 (λt h=>by rw[hl] at h;cases h) Ez,?_,?_⟩
 ·intro r o ho;rw[hs.GK rfl r (hlt r o ho) (λhx=>by have:=ET r hx;rw[this] at ho;cases ho)];exact ho
 ·exact λb hb hx=>⟨hs.below.block rfl b hb hx,hs.GK rfl b hb hx⟩
 ·intro b hb;rcases AN.P7 hi Ez hb with h|h
  ·exact .inr h
  ·exact .inl h
 ·match Bb,h2,hlen with
  |[],h2,hl=>
   have:vs=[]:=h2;subst this;exact⟨#[],rfl,rfl⟩
  |[τ],h2,hl=>
   obtain⟨v,rest,e,hv,hr⟩:=h2;have:rest=[]:=hr;subst this;subst e;exact hv
  |τ::Gl::l,h2,hl=>
   have: ¬vs.toArray.size=1:=by simp[hl]
   rw[dif_neg this];exact⟨vs.toArray,rfl,by simpa using h2⟩
structure iu(P:C7)(w0:Ae P)(H0:HV)(w1:AQ)(v:AR)(s:AN):Prop where
 eq:w0=Ae.No P w1 λb=>s.owns w1 v b
 no:∀b,s.owns w1 v b->H0 b=none
 lt:∀r o,H0 r=some o->r<w1.heap.size
def abC{rs:A3 ResultVar}{w1:AQ}{v:AR}{i:Nat}(hk:iu P w0 H0 w1 v s)(hr:fn.results=rs.toArray)(h:AX P Γ rs Bb)(Co:look Γ i=some s')(hp:look Γ N=some (.K8 i v))(hi:s'.F2=false)(hl:s'.By=[]):
  ES w0 H0 N (λa w=>ra P fn w1 H0 v s s' Bb .ret a w) Γ:=λ_ _ _ hs=>aiy hk.eq hk.no hk.lt hr h Co hp hi hl hs
def nI:∀{l:A3 Ty} {i:Nat},∀p∈Ha i l,i<=p.1/\p.1<i+l.length/\p.2.free=true/\p.2.F2=false
 |[],_,p,hp=>by simp[Ha] at hp
 |τ::l,i,p,hp=>by
  simp only[Ha,Ai] at hp;rcases hp with e|hp
  ·subst e;exact⟨BM _,by simp,rfl,rfl⟩
  ·have:=nI p hp;refine⟨by omega,by simp;omega,this.2.2.1,this.2.2.2⟩
def eI{f:FuncId}{c:Code}{pre post:A3 Ty}{N:Nat}(hf:P.funcs[f]? =some fn)(hb:fn.body=some c)(hN:fn.ntmps=N)(hn:pre.length+1+post.length<=N)(hc:GL P f=true)(hl:s.By=[])(hi:s.F2=false)
 (h:∀(w1:AQ) (v:AR) (w0:Ae P) (H0:HV),iu P w0 H0 w1 v s->Goal P w0 H0 N c (ra P fn w1 H0 v s s' Bb) ((N,.K8 pre.length v)::(pre.length,s)::(Ha 0 pre++Ha (pre.length+1) post))):I9 P f pre s s' post Bb:=by
 subst hN;refine⟨hc,λw H v ps qs sub gl hps hqs hs=>?_⟩;have As:Ee H (pre++post) (ps++qs):=YP hps hqs;have Jg:=Ro hps;have hql:=Ro hqs;have aqo:iu P (Ae.No P w λb=>s.owns w v b) H w v s:=⟨rfl,λb hb=>(AN.J5 hs hb).2.1,λr o ho=>HH sub ho⟩;refine(callsIn_wide (n:=0)).1<|callsIn_of_wp_marks (F:=Fence.wide) hf hb trivial<|h w v _ H aqo _ w H ?_
 obtain⟨a,ha⟩:∃a:Act,a={tmps:=(ps++v::qs).toArray++Array.replicate (fn.ntmps-(ps++v::qs).toArray.size) undef,defers:=[]}:=⟨_,rfl⟩;rw[<-ha];have sO:∀j x,(ps++v::qs)[j]? =some x->Ab a j=x:=λj x hj=>by
  have JI:=(GD.1 hj).1;have e:((ps++v::qs).toArray++Array.replicate (fn.ntmps-(ps++v::qs).toArray.size) undef)[j]? =some x:=by
   rw[Array.getElem?_append_left (by simpa using JI)];simpa using hj
  rw[ha];simp only[Ab,U5,e,ZM]
 have hvv:Ab a pre.length=v:=sO _ _ (by rw[<-Jg];simp);have e1:∀p∈Ha 0 pre,p.2.holds (Ae.No P w λb=>s.owns w v b) a w H (Ab a p.1):=dr 0 hps λj x hj=>sO _ _ (by
  rw[PH,MG (GD.1 hj).1];exact hj)
 have e2:∀p∈Ha (pre.length+1) post,p.2.holds (Ae.No P w λb=>s.owns w v b) a w H (Ab a p.1):=dr (pre.length+1) hqs λj x hj=>sO _ _ (by
  rw[NU (by omega),<-Jg,show ps.length+1+j-ps.length=j+1 by omega];simpa using hj)
 have JD:∀p∈(fn.ntmps,AN.K8 pre.length v)::(pre.length,s)::(Ha 0 pre++Ha (pre.length+1) post),p.1≠pre.length->∀b,¬p.2.owns w (Ab a p.1) b:=by
  intro p hp hne b hb;simp only[Ai,Cp] at hp;rcases hp with e|e|hp|hp
  ·subst e;exact hb
  ·subst e;exact hne rfl
  ·exact AN.free_spec (nI p hp).2.2.1 hb
  ·exact AN.free_spec (nI p hp).2.2.1 hb
 refine⟨by rw[ha];trivial,by rw[ha];simp;omega,⟨rfl,rfl,rfl,BM _,BM _,λ_ _ _ _=>rfl⟩,λ_ _ _ _=>rfl,sub,?_,?_,gl⟩
 ·intro p hp;simp only[Ai,Cp] at hp;rcases hp with e|e|hp|hp
  ·subst e;exact hvv
  ·subst e;simp only;rw[hvv];exact AN.P5 (λt h=>by rw[hl] at h;cases h) hs
  ·exact e1 p hp
  ·exact e2 p hp
 ·intro p hp q hq hne b hb BD;by_cases h1:p.1=pre.length
  ·exact JD q hq (λe=>hne<|h1.trans e.symm) b BD
  ·exact JD p hp h1 b hb
end
@[reducible] def sr(_:Unit):Ty:=TEq .nilIface rfl
def GO:Int:=18446744073709551616
def H4(x:Int):Bool:=decide (0<=x)&&decide (x<18446744073709551616)
def LX(x y c:Int):A9 (Int×Int):=bif (H4 x&&H4 y)&&(decide (c=0)||decide (c=1)) then some ((x+y+c)%GO,(x+y+c)/GO) else none
def Rr(x y b:Int):A9 (Int×Int):=bif (H4 x&&H4 y)&&(decide (b=0)||decide (b=1)) then some ((x-y-b)%GO,bif decide (x<y+b) then 1 else 0) else none
def Cn(z:Int):Bool:=Nat.blt (Nat.log2 z.natAbs) 1099511627776
def EV{α:Type}(b:Bool)(x:α):A9 α:=bif b then some x else none
def Uf(x y:Int):Int:=bif decide (x<y) then -1 else bif decide (y<x) then 1 else 0
def rX(z:Int):A9 Int:=some z.sign
def aca(z:Int):A9 Int:=some<| -z
def so(z:Int):A9 Int:=some (z.natAbs:Int)
def ay(x y:Int):A9 Int:=EV (Cn x&&Cn y)<|Uf x y
def Sk(x y:Int):A9 Int:=EV (Cn x&&Cn y)<|x+y
def K0(x y:Int):A9 Int:=EV (Cn x&&Cn y)<|x*y
def acZ(x y:Int):A9 Int:=EV (Cn x&&Cn y&& !decide (y=0))<|x.fdiv y
def Oj(x y:Int):A9 Int:=EV (Cn x&&Cn y) (Int.gcd x y:Int)
def aOf(x:Int):A9 Int:=AG x
def PZ(z:Int):A9 (Int×Bool):=EV (!decide (z= -9223372036854775808))<|bif Hd z then(z,true) else(z.sign,false)
def jK(z:Int):A9 Int:=EV (Cn z)<|bif decide (z=0) then 0 else(Nat.log2 z.natAbs:Int)+1
def aq:Nat->Nat->A3 UInt8->A3 UInt8
 |0,_,acc=>acc
 |f+1,n,acc=>bif Nat.blt n 10 then UInt8.ofNat (48+n)::acc else aq f (n/10) (UInt8.ofNat (48+n%10)::acc)
def Am(n:Nat):A3 UInt8:=aq (n+1) n []
def Bo(z:Int):A3 UInt8:=bif decide (z<0) then 45::Am z.natAbs else Am z.natAbs
def Zt(z:Int):A9 (A3 UInt8):=bif Hd z then some (Bo z) else none
def iV(z b:Int):A9 (A3 UInt8):=EV (H4 z&&decide (b=10))<|Am z.toNat
def jZ(l:A3 UInt8):Nat->A3 UInt8
 |0=>[]
 |c+1=>l++jZ l c
def iU(s:A3 UInt8)(c:Int):A9 (A3 UInt8):=EV (decide (0<=c)&&decide (c<=64)&&decide (s=[48]))<|jZ s c.toNat
def OO(z:Int):A9 (A3 UInt8):=EV (Cn z)<|Bo z
def FE(q:Rat):Bool:=Nat.blt (Nat.log2 q.num.natAbs) 68719476736&&Nat.blt (Nat.log2 q.den) 68719476736
def Od(x y:Int):A9 Rat:=EV (Cn x&&Cn y&& !decide (y=0))<|(x:Rat)/(y:Rat)
def LU(q:Rat):A9 Bool:=some<|decide<|q.den=1
def Wh(x:Int):A9 Rat:=some (x:Rat)
def Sa(q:Rat):A9 Rat:=some<| -q
def Lk(x y:Rat):A9 Rat:=EV (FE x&&FE y)<|x+y
def Nn(x y:Rat):A9 Rat:=EV (FE x&&FE y)<|x-y
def GG(x y:Rat):A9 Rat:=EV (FE x&&FE y)<|x*y
def Sb(x y:Rat):A9 Rat:=EV (FE x&&FE y&& !decide (y=0))<|x/y
def aY(x:Rat):A9 Rat:=EV (FE x&& !decide (x=0)) x⁻¹
def Og(x y:Rat):A9 Int:=EV (FE x&&FE y)<|bif decide (x<y) then -1 else bif decide (y<x) then 1 else 0
def SI(x y:Rat):A9 Bool:=EV (FE x&&FE y)<|decide<|x=y
def JB(x:Rat):A9 Int:=some x.num.sign
def qF(x:Int):A9 Rat:=(AG x).map λz=>(z:Rat)
def mkq(a b:Int):A9 Rat:=match b with
 | .ofNat (d+1)=>EV (Nat.beq (Nat.gcd a.natAbs<|d+1) 1)<|mkRat a<|d+1
 |_=>none
def yX{a b:Int}{r:Rat}(h:mkq a b=some r):r.num=a/\(r.den:Int)=b:=by
 unfold mkq at h;split at h
 ·rename_i d;unfold EV at h;cases hc:Nat.beq (Nat.gcd a.natAbs<|d+1) 1
  ·rw[hc] at h;cases h
  ·rw[hc] at h;have h:=(E5 h).symm;subst h;have hg:Nat.gcd a.natAbs (d+1)=1:=EG hc;rw[Rat.num_mkRat,Rat.den_mkRat];rw[Rt] at hg;simp[hg]
 ·cases h
def qo[D:DR]{a b:Int}{r:Rat}(h:mkq a b=some r):(AN.val<|DG [ER a,ER b])= .val (Br r):=by
 obtain⟨h1,h2⟩:=yX h;rw[<-h1,<-h2]
def Dr(b:UInt8):Bool:=Nat.ble 48 b.toNat&&Nat.ble b.toNat 57
def BR(l:A3 UInt8):Nat:=l.foldl (λn b=>10*n+(b.toNat-48)) 0
def Zu(s:A3 UInt8):A9 (Int×Unit):=EV (!s.isEmpty&&Nat.ble s.length 18&&s.all Dr) ((BR s:Int),())
def cutAt(sep:UInt8):A3 UInt8->A3 UInt8->A3 UInt8×A3 UInt8×Bool
 |pre,[]=>(pre.reverse,[],false)
 |pre,b::l=>bif b==sep then(pre.reverse,l,true) else cutAt sep (b::pre) l
def j6(s sep:A3 UInt8):A9 (A3 UInt8×A3 UInt8×Bool):=match sep with
 |[c]=>EV (Nat.blt s.length 4294967281)<|cutAt c [] s
 |_=>none
def Hw(s:A3 UInt8):A9 Int:=match s with
 |45::ds=>EV (ds.all Dr&&Nat.blt ds.length 1000000)<| -(BR ds:Int)
 |ds=>EV (ds.all Dr&&Nat.blt ds.length 1000000) (BR ds:Int)
abbrev V3:=Rat×Rat×Rat
abbrev C3:=(Int×Int×Int)×A3 UInt8
def Rm{α:Type}:A3 α->A3 (α×α)
 |[]=>[]
 |a::l=>(a::l).zip<|l++[a]
def Nq{α:Type}(c:α->α->A9 Int)(x:α):A3 α->A9 (A3 α)
 |[]=>some [x]
 |y::l=>bd (c x y) λk=>cond (decide<|k<0) (bd (Nq c x l) λr=>some (y::r))<|some (x::y::l)
def iY{α:Type}(c:α->α->A9 Int)(l:A3 α):A9 (A3 α):=
 IW l (λnext x s=>bd (Nq c x s) next) [] λs=>some s.reverse
def Ww{α:Type}(e:α->α->A9 Bool):α->A3 α->A9 (A3 α)
 |_,[]=>some []
 |x,y::l=>bd (e y x) λb=>bd (Ww e y l) λr=>some<|cond b r (y::r)
def alH{α:Type}(e:α->α->A9 Bool):A3 α->A9 (A3 α)
 |[]=>some []
 |x::l=>bd (Ww e x l) λr=>some (x::r)
def XG{α:Type}[DecidableEq α](c:α×α->A9 Int)(x:α):A3 α->Bool
 |[]=>true
 |y::l=>(bif decide (x=y) then true else match c (x,y),c (y,x) with
  |some i,some j=>decide (i<0)&&decide (0<=j)
  |_,_=>false)&&XG c x l
def Oc{α:Type}[DecidableEq α](c:α×α->A9 Int):A3 α->Bool
 |[]=>true
 |x::l=>(match c (x,x) with
  |some i=>decide<|0<=i
  |none=>false)&&(XG c x l&&Oc c l)
def totB{α:Type}(c:α×α->A9 Int)(l:A3 α):Bool:=l.all λx=>l.all λy=>(c (x,y)).isSome
def Hn{α:Type}[DecidableEq α](l:A3 α)(c:α×α->A9 Int):A9 (A3 α):=
 bd (iY (λa b=>c (a,b)) l) λs=>EV (Nat.blt l.length 4611686018427387904&&(totB c l&&Oc c s)) s
def Yb{α:Type}(l:A3 α)(e:α×α->A9 Bool):A9 (A3 α):=alH (λa b=>e (a,b)) l
def Rc(l:A3 V3):A9 (A3<|V3×V3):=EV (Nat.blt l.length 1000000000)<|Rm l
section
variable[D:DR]
variable{P:Program}{w0:Ae P}{H0:HV}{N:Nat}{ops:Array Oper}{Q:Exit->Act->World->Prop}{Γ Al:Ctx}{d:Option Tmp}{ty:TypeId}{pos:String}{af:Array Edge}{g:Option (Nat×Bool)}
variable{T:Ah}{ps:A3 Bt}{τ:Ty}{t:Nat}
@[reducible] def TMp{α β:Type}(fK:α->Ty)(F:β->Ty)(l:A3 (α×β)):Ty:=az<|l.map λp=>(fK p.1,F p.2)
def ni{l:A3 Ty}(gg:Bool)(h:Dk P T τ)(hτ:∀H v,τ.ok H v->DJ H l v.cells.toList)(ho:Gk l ps):B1 P Γ ⟨d,.alloc T,ty,pos,af,g⟩ (.Cx T gg ps):=
 Lz λw0 _ _ a w H hs=>by
  obtain⟨z,hr,hz⟩:=h.run w;have he:=Ext.alloc hs.sub<| .cells z.cells T (0,0)
  obtain⟨h1,h2,h3⟩:=ho.ok (B:=w0) (a:=a) (w:=w.alloc<| .cells z.cells T (0,0))<|hτ H z<|hz H
  refine⟨.pointer<|some ⟨w.heap.size,0,none⟩,w.alloc<| .cells z.cells T,H,?_,he,?_,?_⟩
  ·simp[execOp,Instr.alloc,hr,newVar,newRow]
  ·refine⟨w.heap.size,z.cells,rfl,Lc w _,?_,.inl hs.below.size,h1,h3,h2 _⟩;cases hh:H w.heap.size with
   |none=>rfl
   |some o=>have:=HH hs.sub hh;omega
  ·rintro b ⟨c,e,hb⟩;cases e;rcases hb with hb|⟨cs,hc,hb⟩
   ·omega
   ·rw[Lc] at hc;cases hc;exact absurd hb<|h2 b
def amQ{x:CB}{l:A3 Ty}(gg:Bool)(hx:Arg Γ x τ)(hτ:∀H v,τ.ok H v->DJ H l v.cells.toList)(ho:Gk l ps):B1 P Γ ⟨d,.box T x,ty,pos,af,g⟩ (.Cx T gg ps):=
 Lz λw0 _ _ a w H hs=>by
  have he:=Ext.alloc hs.sub<| .cells (a.eval x).cells T (0,0)
  obtain⟨h1,h2,h3⟩:=ho.ok (B:=w0) (a:=a) (w:=w.alloc<| .cells (a.eval x).cells T (0,0))<|hτ H _<|hx.ok hs
  refine⟨.pointer<|some ⟨w.heap.size,0,none⟩,w.alloc<| .cells (a.eval x).cells T,H,?_,he,?_,?_⟩
  ·simp[execOp,Instr.box,newVar,newRow]
  ·refine⟨w.heap.size,(a.eval x).cells,rfl,Lc w _,?_,.inl hs.below.size,h1,h3,h2 _⟩;cases hh:H w.heap.size with
   |none=>rfl
   |some o=>have:=HH hs.sub hh;omega
  ·rintro b ⟨c,e,hb⟩;cases e;rcases hb with hb|⟨cs,hc,hb⟩
   ·omega
   ·rw[Lc] at hc;cases hc;exact absurd hb<|h2 b
def aqa{u:Nat}(hu:look Γ u=some (.same t))(ht:look Γ t=some (.val τ)):IK w0 N Γ ((u,.val τ)::BF u Γ):=λH0 a w H hs=>by
 have e:=hs.holds _<|B5 hu
 have hv:=hs.holds _<|B5 ht
 exact⟨H,mi (us:=[]) hs (λq hq=>DI q hq) (by rw[show Ab a u=Ab a t from e];exact hv) (λb h=>h.elim) (λ_ _ h=>by cases h)⟩
def Zi{p off i dd:Nat}{T':Ah}{gg:Bool}{pp:Bt}(sm:Bool)(hp:FP Γ p t off)(ht:look Γ t=some (.Cx T' gg ps))(hi:ps[i]? =some pp)(ho:Bh ps i=off)(h1:(pp.n,pp.agg)=(1,false))(hT:Bm P T 1 false=true)(DH:dd<N)(hd:(dd !=t&& !(Qf ps).contains dd)=true):
  Step P N ops ⟨some dd,.load T<| .tmp p,ty,pos,af,none⟩ Γ ((dd,pp.sty)::(t,.Cx T' gg<|ps.set i<|SK dd sm)::del dd (BF t Γ)):=by
 simp only[Bx,M8,ne_eq,GW,qG,Ik] at hd;exact zt (λ_ h=>h) sm hp ht hi ho (congrArg Prod.fst h1) (congrArg Prod.snd h1) hT DH hd.1 hd.2
def aaT{p off i dd:Nat}{T':Ah}{gg:Bool}{pp:Bt}(sm:Bool)(hp:FP Γ p t off)(ht:look Γ t=some (.Cx T' gg ps))(hi:ps[i]? =some pp)(ho:Bh ps i=off)(h1:(pp.n,pp.agg)=(1,false))(hT:Bm P T 1 false=true)(DH:dd<N)(hd:(dd !=t&& !(Qf ps).contains dd)=true):
  jk P N ops Γ ⟨some dd,.load T<| .tmp p,ty,pos,af,none⟩ t (.Cx T' gg<|ps.set i<|SK dd sm) dd pp.sty:=λDs BE=>by
 simp only[Bx,M8,ne_eq,GW,qG,Ik] at hd;exact zt BE sm hp ht hi ho (congrArg Prod.fst h1) (congrArg Prod.snd h1) hT DH hd.1 hd.2
end
section
variable[D:DR]
variable{P:Program}{w0:Ae P}{H0:HV}{N:Nat}{ops:Array Oper}{Q:Exit->Act->World->Prop}{Γ Al:Ctx}{d:Option Tmp}{ty:TypeId}{pos:String}{af:Array Edge}{g:Option (Nat×Bool)}
variable{α β:Type}[DecidableEq α]{K E Eb T:TypeId}{sz:Nat}{fK:α->Ty}
def als{F:β->Ty}{m k v:CB}{t:Nat}{l:A3 (α×β)}{x:α}{y:β}(hT:Sf P T K E=true)(hk:S6 P K fK)(hm:Qo Γ m t)(ht:look Γ t=some (.Gn K E Eb sz<|mM fK (λv=> .val<|F v) l))(hx:Arg Γ k (fK x))(hy:Arg Γ v (F y)):
  Pl P N ops Γ ⟨none,.mapUpdate T m k v,ty,pos,af,none⟩ t (.Gn K E Eb sz<|mM fK (λv=> .val<|F v)<|X8 l x y):=λ_ BE=>afT BE hT hk hm ht hx hy
def aoP{K E Eb T:Ah}{sz:Nat}{α β:Type}(fK:α->Ty)(fV:β->Cv):B1 P Γ ⟨d,.makeMap T none,ty,pos,af,g⟩ (.Gn K E Eb sz<|mM fK fV ([]:A3 (α×β))):=ah6
def ak0{t:Nat}{F:β->Ty}{l:A3 (α×β)}(ht:look Γ t=some (.Gn K E Eb sz<|mM fK (λv=> .val<|F v) l)):IK w0 N Γ ((t,.val<|TMp fK F l)::BF t Γ):=
 am9 ht (λp hp=>by obtain⟨q,_,rfl⟩:=Bv.1 hp;rfl) (by simp[mM,X7,Cv.pub])
def Nr.Sf{γ:Type}{F:γ->Ty}{l:A3 (α×A3 γ)}{ls:A3 Ty}{ps:A3 Bt}(r:Nr ps ls):Nr (.map K E Eb sz (mM fK (λv=> .buf<|lT F v) l)::ps) (TMp fK (TL F) l::ls):=
 .map (λp hp=>by obtain⟨q,_,rfl⟩:=Bv.1 hp;rfl) (by simp[mM,X7,Cv.pub]) r
end
section
variable[D:DR]
variable{P:Program}{w0:Ae P}{H0:HV}{N:Nat}{ops:Array Oper}{Q:Exit->Act->World->Prop}{Γ Al:Ctx}{d:Option Tmp}{ty:TypeId}{pos:String}{af:Array Edge}{g:Option (Nat×Bool)}
variable{t:Nat}
def P6{f:FuncId}{x:CB}{xs ys:A3 CB}{F4:B6 Ah}{pre post Bb:A3 Ty}{s s':AN}{dd:Nat}(hf:I9 P f pre s s' post Bb)(hx:Ej Γ x t)(ht:look Γ t=some s)(hi:(s.F2||s'.F2)=false)(hl:(s.By,s'.By)=([],[]))
 (ha:AO Γ xs pre)(hb:AO Γ ys post)(DH:dd<N)(hne:(dd !=t)=true):
  Step P N ops ⟨some dd,.call ⟨.value<| .func f,(xs++x::ys).toArray,F4⟩,ty,pos,af,none⟩ Γ ((dd,Ip Bb)::(t,s')::del dd (BF t Γ)):=xc (λ_ h=>h) hf hx ht hi (congrArg Prod.fst hl) (congrArg Prod.snd hl) ha hb DH (by simpa using hne)
def ajU{f:FuncId}{x:CB}{xs ys:A3 CB}{F4:B6 Ah}{pre post Bb:A3 Ty}{s s':AN}{dd:Nat}(hf:I9 P f pre s s' post Bb)(hx:Ej Γ x t)(ht:look Γ t=some s)(hi:(s.F2||s'.F2)=false)(hl:(s.By,s'.By)=([],[]))
 (ha:AO Γ xs pre)(hb:AO Γ ys post)(DH:dd<N)(hne:(dd !=t)=true):
  jk P N ops Γ ⟨some dd,.call ⟨.value<| .func f,(xs++x::ys).toArray,F4⟩,ty,pos,af,none⟩ t s' dd (Ip Bb):=λ_ BE=>xc BE hf hx ht hi (congrArg Prod.fst hl) (congrArg Prod.snd hl) ha hb DH (by simpa using hne)
def Vn{w0:Ae P}{u i:Nat}{T':Ah}{gg:Bool}{ps:A3 Bt}{E:Ah}{sz:Nat}{l:A3 Ty}(ht:look Γ t=some (.Cx T' gg ps))(hi:ps[i]? =some (.sm u))(hu:look Γ u=some (.buf E sz l))(hne:(u !=t)=true):
  IK w0 N Γ ((t,.Cx T' gg<|ps.set i<| .buf E sz l)::BF t (BF u Γ)):=anH (.buf E sz l) ht hi hu hne rfl (λe=>by cases e)
end
section
variable[D:DR]
variable{P:Program}{w0:Ae P}{H0:HV}{N:Nat}{Q:Exit->Act->World->Prop}{Γ Al:Ctx}{d:Option Tmp}{ty:TypeId}{pos:String}{af:Array Edge}{g:Option (Nat×Bool)}
theorem auh{α β:Type}{f:α->β}{l:A3 α}{j:Nat}(h:j<(l.map f).length):∃x,l[j]? =some x:=by simp_all
def ap3{t i k:Nat}{c:Code}{T:Ah}{gg:Bool}{ps:A3 Bt}{E:Ah}{sz:Nat}{l:A3 Ty}(ht:look Γ t=some (.Cx T gg ps))(hi:ps[i]? =some (.buf E sz l))(hk:Nat.ble N k=true)(h:∀x (hx:x.oneCell'=true),Goal P w0 H0 N c Q ((k,.Nk x E sz l)::(t,.Cx T gg<|ps.set i<| .val<|TEq x hx)::BF k (BF t Γ))):Goal P w0 H0 N c Q Γ:=λa w H hs=>by
 obtain⟨b,cs,e,hb,LI,hm,As,IX,hx⟩:=hs.holds _<|B5 ht
 simp only at e;obtain⟨_,h3,h4,_⟩:=Qa As hi;have jB:=fh As hi;have hown:∀c,(pv (.buf E sz l) (Bh ps i) cs.toList).ownBlock=some c->Fv w c ps cs.toList:=λc hc=>P3.2 ⟨i,_,hi,hc⟩
 generalize hv:pv (.buf E sz l) (Bh ps i) cs.toList=v at*
 have h1:v.oneCell'=true:=(mH h3).1;obtain⟨E2,hcs,k1,k2,k3⟩:=Vg (q:= .val<|TEq v h1) (x:=v) As IX hi h3 rfl rfl<|λc hc=>hc.elim
 rw[show E2=cs.toList by rw[hcs];exact jB,hv] at*;have nw:∀c,Fv w c (ps.set i<| .val<|TEq v h1) cs.toList->Fv w c ps cs.toList/\ ¬v.ownBlock=some c:=λc hc=>by
  rcases k3 c hc with h|h
  ·exact h.elim
  ·exact h
 have hb1:∀c,(AN.Cx T gg<|ps.set i<| .val<|TEq v h1).owns w (Ab a t) c->(AN.Cx T gg ps).owns w (Ab a t) c/\ ¬v.ownBlock=some c:=by
  rintro c ⟨c',e',hc⟩;rw[e] at e';cases e';rcases hc with hc|⟨cs3,hb3,hc⟩
  ·subst hc;exact⟨⟨c,e,.inl rfl⟩,λh=>hx<|hown c h⟩
  ·rw[hb] at hb3;cases hb3;exact⟨⟨b,e,.inr ⟨cs,hb,(nw c hc).1⟩⟩,(nw c hc).2⟩
 have hb2:∀c,v.ownBlock=some c->(AN.Cx T gg ps).owns w (Ab a t) c:=λc hc=>⟨b,e,.inr ⟨cs,hb,hown c hc⟩⟩
 have sub:∀q∈BF k (BF t Γ),q∈Γ/\q.1≠t/\q.1≠k:=λq hq=>⟨(DI q (DI q hq).1).1,(DI q (DI q hq).1).2,(DI q hq).2⟩
 refine h v h1 a w H ⟨hs.nd,hs.sz,hs.below,hs.GK,hs.sub,?_,?_,hs.gl⟩
 ·intro p hp;rcases Ai.1 hp with e1|hp
  ·subst e1;exact h4
  rcases Ai.1 hp with e1|hp
  ·subst e1;exact⟨b,cs,e,hb,LI,hm,k1,k2,λhc=>hx (nw b hc).1⟩
  ·exact hs.holds p (sub p hp).1
 ·intro p hp q hq hne c hc EU;rcases Ai.1 hp with e1|hp
  ·subst e1;rcases Ai.1 hq with e2|hq
   ·subst e2;exact hne rfl
   rcases Ai.1 hq with e2|hq
   ·subst e2;exact(hb1 c EU).2 hc
   ·exact hs.sep _ (B5 ht) q (sub q hq).1 (λe=>(sub q hq).2.1 e.symm) c (hb2 c hc) EU
  rcases Ai.1 hp with e1|hp
  ·subst e1;rcases Ai.1 hq with e2|hq
   ·subst e2;exact(hb1 c hc).2 EU
   rcases Ai.1 hq with e2|hq
   ·subst e2;exact hne rfl
   ·exact hs.sep _ (B5 ht) q (sub q hq).1 (λe=>(sub q hq).2.1 e.symm) c (hb1 c hc).1 EU
  ·rcases Ai.1 hq with e2|hq
   ·subst e2;exact hs.sep p (sub p hp).1 _ (B5 ht) (sub p hp).2.1 c hc<|hb2 c EU
   rcases Ai.1 hq with e2|hq
   ·subst e2;exact hs.sep p (sub p hp).1 _ (B5 ht) (sub p hp).2.1 c hc (hb1 c EU).1
   ·exact hs.sep p (sub p hp).1 q (sub q hq).1 hne c hc EU
def qX{fn:Func}{rs:A3 ResultVar}{Bb:A3 Ty}{w1:AQ}{v:AR}{s:AN}(hk:iu P w0 H0 w1 v s)(hr:fn.results=rs.toArray)(h:AX P Γ rs Bb):
  ES w0 H0 N (λa w=>ra P fn w1 H0 v s .gone Bb .ret a w) Γ:=λa w H hs=>by
 obtain⟨e1,e2,e3⟩:=hk;subst e1;refine VM rfl rfl (a:=a) (ds:=a.defers) hs λw H hs=>?_
 obtain⟨vs,h1,h2⟩:=h.run hs;have hlen:=Ro h2;rw[YO hr];simp only[E4,Sem.run_map,h1,Dp,Jp];refine⟨_,rfl,_,rfl,H,⟨hs.below.size,hs.below.os,hs.below.tape,hs.below.output,hs.below.drawn,?_,?_,hs.sub⟩,trivial,(λb hb=>hb.elim),?_⟩
 ·intro r o ho;rw[hs.GK rfl r (e3 r o ho) (λhx=>by have:=e2 r hx;rw[this] at ho;cases ho)];exact ho
 ·exact λb hb hx=>⟨hs.below.block rfl b hb hx,hs.GK rfl b hb hx⟩
 ·match Bb,h2,hlen with
  |[],h2,hl=>
   have:vs=[]:=h2;subst this;exact⟨#[],rfl,rfl⟩
  |[τ],h2,hl=>
   obtain⟨v,rest,e,hv,hr⟩:=h2;have:rest=[]:=hr;subst this;subst e;exact hv
  |τ::Gl::l,h2,hl=>
   have: ¬vs.toArray.size=1:=by simp[hl]
   rw[dif_neg this];exact⟨vs.toArray,rfl,by simpa using h2⟩
end
section
variable[D:DR]
variable{P:Program}{N:Nat}{ops:Array Oper}{w0:Ae P}{H0:HV}
variable{α β:Type}[DecidableEq α]{K E T:TypeId}{fK:α->Ty}{F:β->Ty}{l:List (α×β)}{x:α}{z y:β}{t dL dB dM dX:Nat}{G4:Ctx}
structure av7(N t dL dB dM dX:Nat)(G4:Ctx):Prop where
 lt:dL<N/\dB<N/\dM<N/\dX<N
 ne:dL≠t/\dB≠t/\dM≠t/\dX≠t/\dL≠dB/\dL≠dM/\dL≠dX/\dB≠dM/\dB≠dX/\dM≠dX
 fr:∀q∈G4,q.1≠t/\∀d∈[dL,dB,dM,dX],q.1≠d/\d∉q.2.By
end
section
variable{p:C7}
def ady{w w':AQ}{at_:Addr}{u:Ah}{k:Addr}{v:AR}{b:Bool}{l:A3 Addr}(h:w.viewStore p at_ u k v b= .ok (w',l)):w'.drawn=w.drawn:=by
 unfold World.viewStore at h;simp only[bind,Except.bind,pure,Except.pure,MonadExcept.throw,throwThe,MonadExceptOf.throw] at h
 repeat' (split at h)
 all_goals first|(cases h;done)|skip
 all_goals (cases h;rfl)
def aeZ{w w':AQ}{a:Addr}{v:AR}{b:Bool}{l:A3 Addr}(h:w.farStore p a v b= .ok (w',l)):w'.drawn=w.drawn:=by
 unfold World.farStore at h;split at h
 ·split at h
  ·cases h;rename_i h2;exact ady h2
  ·cases h
 ·cases h
def o6{α:Type}:∀(q:Ask α) (w:AQ),w.drawn<=(w.ask q).2.drawn
 | .done a,w=>by simp[World.ask]
 | .ask av8 range k,w=>by
  unfold World.ask;simp only;split
  ·exact o6 _ w
  ·exact Ca (QG w.drawn)<|o6 _ {w with drawn:=w.drawn+1}
def ahv(w:AQ)(c:Sys):w.drawn<=(w.sys c).2.drawn:=by
 unfold World.sys;split
 ·exact BM _
 ·rename_i h;have:=o6 (Kernel.perform c w.os) w;rw[h] at this;exact this
def aiQ{α:Type}:∀(s:Sem α) {w w':AQ} {v:α},s.run p w= .ok v w'->w.drawn<=w'.drawn:=by
 intro s
 induction s with
 |pure a=>intro w w' v h;simp only[Sem.run] at h;cases h;exact BM _
 |load m a k ih=>
  intro w w' v h;simp only[Sem.run] at h;split at h
  ·exact ih _ h
  ·split at h
   ·exact ih _ h
   ·cases h
 |store m a u k ih=>
  intro w w' v h;have key:∀r:Result α,(match w.cell? a with
   |some _=>if w.frozen? a then Result.halt (.unsupported<| .unsafePointer "a write to bytes that a string shares") w else k.run p (w.setCell a u)
   |none=>match w.farStore p a u (m== .atomic) with
    | .ok (w,_)=>k.run p w
    | .error h=>Result.halt h w)=r->r= .ok v w'->w.drawn<=w'.drawn:=by
   intro r hr e;subst e;split at hr
   ·split at hr
    ·cases hr
    ·have:= @ih _ _ _ hr;exact this
   ·split at hr
    ·rename_i w2 l h2;have:=ih hr;rwa [aeZ h2] at this
    ·cases hr
  cases u<;>first|(unfold Sem.run at h;cases h;done)|(unfold Sem.run at h;exact key _ rfl h)
 |new o k ih=>intro w w' v h;simp only[Sem.run] at h;have:= @ih _ _ _ _ h;exact this
 |shape r k ih=>intro w w' v h;simp only[Sem.run] at h;exact ih _ h
 |freeze a n k ih=>
  intro w w' v h;simp only[Sem.run] at h;have:=ih h;have e:(w.freeze a n).drawn=w.drawn:=by unfold World.freeze;split<;>rfl
  rwa [e] at this
 |frozen a k ih=>intro w w' v h;simp only[Sem.run] at h;exact ih _ h
 |getObj r k ih=>
  intro w w' v h;simp only[Sem.run] at h;split at h<;>first|(cases h;done)|exact ih _ h
 |setObj r o k ih=>
  intro w w' v h;simp only[Sem.run] at h;split at h
  ·cases h
  ·have:= @ih _ _ _ h;exact this
  ·cases h
 |choose q k ih=>
  intro w w' v h;simp only[Sem.run] at h;split at h
  ·exact ih _ h
  ·have:= @ih _ _ _ _ h;exact Ca (QG _) this
 |sys c k ih=>
  intro w w' v h;simp only[Sem.run] at h;exact Ca (ahv w c)<|ih _ h
 |program k ih=>intro w w' v h;simp only[Sem.run] at h;exact ih _ h
 |mark m k ih=>intro w w' v h;simp only[Sem.run] at h;exact ih h
 |halt h=>intro w w' v e;simp only[Sem.run] at e;cases e
end
section
variable[D:DR]
variable{P:Program}{w0:Ae P}{H0:HV}{N:Nat}{ops:Array Oper}{Q:Exit->Act->World->Prop}{Γ Al:Ctx}{d:Option Tmp}{ty:TypeId}{pos:String}{af:Array Edge}{g:Option (Nat×Bool)}
def RY{f:FuncId}{args Bb:A3 Ty}(hc:GL P f=true)
  (h:∀(w:AQ) (H:HV) (vs:A3 AR),(∀r o,H r=some o->w.heap[r]? =some o)->KP P H->Ee H args vs->Calls P f vs.toArray w λe w'=>∃v,e= .returned v/\FL w.heap.size w w'/\KR H Bb v):E0 P f args (.vs Bb):=
 ⟨hc,λw H vs sub gl ha=>(h w H vs sub gl ha).mono λe w' ⟨v,he,hb,hv⟩=>⟨v,he,hb,H,λ_ _=>rfl,λr o hr=>by
  have:=sub r o hr;rw[hb.block r<|lt_of_heap this];exact this,hv⟩⟩
def lB(l:A3 UInt8):A3 Ty:=l.map λb=>TI .u8 (b.toNat:Int)
def Zp{H:HV}:∀{l:A3 UInt8} {xs:A3 AR},DJ H (lB l) xs↔xs=Lib.byteCells l
 |[],xs=>Iff.rfl
 |b::l,xs=>by
  show DJ H (TI .u8 (b.toNat:Int)::lB l) xs↔_;constructor
  ·rintro⟨v,rest,e,hv,hr⟩;have hv:v= .int .u8 b.toNat:=hv;subst hv;rw[Zp] at hr;subst hr;exact e
  ·intro e;exact⟨.int .u8 b.toNat,Lib.byteCells l,e,rfl,Zp.2 rfl⟩
def nu(l:A3 UInt8):(lB l).length=l.length:=by simp[lB]
def agQ{T E:Ah}(h:(P.info? T).bind (·.zero)=some (.agg #[.pointer none,.slice none 0 0])):B1 P Γ ⟨d,.alloc T,ty,pos,af,g⟩ (.I5 T E<|lB []):=
 Lz λw0 _ _ a w H hs=>by
  have hz:Dk P T (Ir 2 true):=FV _ h<|λ_=>KU rfl rfl
  have hr:(zeroValue T).run P w= .ok (.agg #[.pointer none,.slice none 0 0]) w:=by
   cases hi:P.info? T with
   |none=>rw[hi] at h;cases h
   |some i=>rw[hi] at h;exact ug hi h w
  refine⟨.pointer<|some ⟨w.heap.size,0,none⟩,w.alloc<| .cells #[.pointer none,.slice none 0 0] T,H,?_,Ext.alloc hs.sub _,?_,?_⟩
  ·simp[execOp,Instr.alloc,hr,newVar,newRow,Value.cells]
  ·refine⟨w.heap.size,_,_,rfl,Lc w _,.inl rfl,?_,.inl hs.below.size,xL,by simp[Value.ownBlock]⟩;cases hh:H w.heap.size with
   |none=>rfl
   |some o=>have:=HH hs.sub hh;omega
  ·rintro b ⟨c,e,hb⟩;cases e;rcases hb with hb|⟨p,r,hc,hb⟩
   ·omega
   ·rw[Lc] at hc;simp at hc;obtain⟨rfl,rfl⟩:=hc;simp[Value.ownBlock] at hb
def anc{w:AQ}{t u ty e:Ah}{i:TypeInfo}(ht:P.underlying t=some (.slice e))(hu:P.underlying u=some .string)(hi:P.info? e=some i)(hz:i.zero=some (.int .u8 0))(UN:i.size=1)(hby:i.bytes=1)
  {v:AR}{n:Nat}{xs:A3 AR}(hown:w.ownsRow 0 e 1 v n xs)(s:ByteArray)(hlen:n+s.size<=140737488355328):
  ∃v' w',(Builtin.append_ #[t,u] ty #[v,.string s]).run P w= .ok v' w'/\w'.ownsRow 0 e 1 v' (n+s.size) (xs++Lib.strCells s)/\Ef w w' v.ownBlock/\
   ∀b,v'.ownBlock=some b->v.ownBlock=some b\/w.heap.size<=b:=by
 have Gq:n+s.size<=maxLen:=by unfold maxLen;omega
 obtain⟨v',w',hr,h2,h3,h4⟩:=Lib.run_append_own_string (P:=P) w 0 t u ty e i ht hu hi hz UN hby v n xs hown s Gq hlen<|FM _
 refine⟨v',w',hr,h2,⟨h3,Gu.of<|aiQ _ hr⟩,λb hb=>?_⟩;have GR:xs.length=n:=by simpa using hown.1
 rcases hown.2 with⟨rfl,rfl⟩|⟨g,cap,cur,rfl,hbg,hg,hnc,hcm,hcs,htake⟩
 ·by_cases hm:s.size=0
  ·rw[h4.2 ⟨rfl,hm⟩] at hb;simp[Value.ownBlock] at hb
  ·have Hj:=run_append_nil_string (P:=P) w t u ty e i (.int .u8 0) ht hu hi hz s (by omega) (by omega) (by rw[hby];omega);rw[hr] at Hj;cases Hj;simp[Value.ownBlock] at hb;exact .inr (by omega)
 ·by_cases SN:n+s.size<=cap
  ·have Hj:=Lib.run_append_room_string (P:=P) w t u ty e i ht hu hi UN g n cap cur hg s SN (by omega);rw[hr] at Hj;cases Hj;exact .inl hb
  ·have holds:∀j u,xs[j]? =some u->w.cell? ((⟨g,0,none⟩:Addr).add j)=some u:=hown.cells (g:=g) rfl;have Hj:=Lib.run_append_grow_string (P:=P) w t u ty e i (.int .u8 0) ht hu hi hz ⟨g,0,none⟩ n cap xs (by rw[UN];simpa using GR) holds s (by omega) (by omega) (by rw[hby];exact growslice_fits (by omega) (by omega));rw[hr] at Hj;cases Hj;simp[Value.ownBlock] at hb;exact .inr (by omega)
def anm{w:AQ}{ops:B6 Oper}{rest:A3 Oper}{o:Oper}{a:Act}{Q:Exit->Act->AQ->Prop}(hgd:o.guard=none)(sl x:CB)(t u:Ah)
  (ho:o.op= .call {callee:= .builtin .append,args:= #[sl,x],argTypes:= #[t,u]})
  (e:Ah)(i:TypeInfo)(ht:P.underlying t=some (.slice e))(hu:P.underlying u=some .string)(hi:P.info? e=some i)(hz:i.zero=some (.int .u8 0))(UN:i.size=1)(hby:i.bytes=1)
  (v:AR)(n:Nat)(xs:A3 AR)(hs:a.eval sl=v)(hown:w.ownsRow 0 e 1 v n xs)(s:ByteArray)(hx:a.eval x= .string s)(hlen:n+s.size<=140737488355328)
  (h:∀v' w',w'.ownsRow 0 e 1 v' (n+s.size) (xs++Lib.strCells s)->Ef w w' v.ownBlock->(∀b,v'.ownBlock=some b->v.ownBlock=some b\/w.heap.size<=b)->wpList P ops Q rest (a.put o.dst v') w'):wpList P ops Q (o::rest) a w:=by
 refine wpList_plain hgd λK hK=>?_
 obtain⟨v',w',hr,h2,h3,h4⟩:=anc (P:=P) (ty:=o.type) ht hu hi hz UN hby hown s hlen;unfold Oper.wp execOp;simp only[ho,resolve,invoke,builtin,E4,Jp,Dp,List.map_toArray,Mf,ZA,hs,hx,hr];exact hK _ _<|h v' w' h2 h3 h4
end
section
open Go.Shelf
variable[D:DR]
variable{P:Program}{ρ:Ren}
variable{w:AQ}{M:Nat->Prop}{b:Nat}{p v:AR}{w':AQ}{H:HV}{T:Ah}{l:A3 UInt8}{vs:A3 AR}
structure Tr(M:Nat->Prop)(w w':AQ):Prop where
 size:w.heap.size<=w'.heap.size
 os:w'.os=w.os
 tape:w'.tape=w.tape
 output:w'.output=w.output
 drawn:Gu w w'
 E6:∀k,k<w.heap.size-> ¬M k->w'.heap[k]? =w.heap[k]?
def Tr.refl(M:Nat->Prop)(w:AQ):Tr M w w:=⟨BM _,rfl,rfl,rfl,BM _,λ_ _ _=>rfl⟩
def Tr.trans{M:Nat->Prop}{w w' w'':AQ}(h:Tr M w w')(k:Tr M w' w''):Tr M w w'':=
 ⟨Ca h.size k.size,k.os.trans h.os,k.tape.trans h.tape,k.output.trans h.output,Ca h.drawn k.drawn,λi hi hm=>(k.E6 i (J8 hi h.size) hm).trans<|h.E6 i hi hm⟩
def Tr.setCell{M:Nat->Prop}(w:AQ)(a:Addr)(x:AR)(h:M a.block):Tr M w (w.setCell a x):=
 ⟨by simp[World.setCell],rfl,rfl,rfl,BM _,λk _ hk=>Below.heap_setCell _ _ _ _<|λe=>hk<|e▸h⟩
def Tr.grown{row:A9 Nat}(h:Ef w w' row)(hr:∀k,row=some k->M k):Tr M w w':=
 ⟨h.size,h.os,h.tape,h.output,h.drawn,λk hk hm=>h.block k hk<|λe=>hm<|hr k e.symm⟩
def Tr.mono{M2:Nat->Prop}{w2:AQ}(h:Tr M w w2)(k:∀b,M b->M2 b):Tr M2 w w2:=⟨h.size,h.os,h.tape,h.output,h.drawn,λi hi hm=>h.E6 i hi<|λx=>hm<|k i x⟩
def Tr.drew{M:Nat->Prop}(w:AQ):Tr M w w.drew:=⟨BM _,rfl,rfl,rfl,Gu.of<|QG _,λ_ _ _=>rfl⟩
def Tr.below(h:FL w.heap.size w w'):Tr M w w':=⟨h.size,h.os,h.tape,h.output,h.drawn,λk hk _=>h.block k hk⟩
def Tr.LA(h:Tr M w w')(sub:∀r o,H r=some o->w.heap[r]? =some o)(hM:∀b,M b->H b=none):Qn M w H w' H:=
 ⟨h.size,h.os,h.tape,h.output,h.drawn,HV.le.refl _,λb hb hm=>⟨h.E6 b hb hm,rfl⟩,λr o hr=>by
  have hw:=sub r o hr;rw[h.E6 r (lt_of_heap hw) (λhm=>by rw[hM r hm] at hr;cases hr)];exact hw⟩
def nZ(hb:w.heap[b]? =some (.cells #[p,v] T (0,0))):w.cell? ⟨b,0,none⟩=some p/\w.cell? ⟨b,1,none⟩=some v/\w.shape? b=some (T,2)/\(∀j,w.frozen? ⟨b,j,none⟩=false):=
 ⟨by rw[ZI hb];rfl,by rw[ZI hb];rfl,by simp[World.shape?,hb],λj=>Lib.frozen_of_heap hb j⟩
def aj5{x:AR}(hb:w.heap[b]? =some (.cells #[p,v] T (0,0))):(w.setCell ⟨b,1,none⟩ x).heap[b]? =some (.cells #[p,x] T (0,0)):=by
 simp[World.setCell,Tz,hb]
def aj6{x:AR}(hb:w.heap[b]? =some (.cells #[p,v] T (0,0))):(w.setCell ⟨b,0,none⟩ x).heap[b]? =some (.cells #[x,v] T (0,0)):=by
 simp[World.setCell,Tz,hb]
def ajN(L:Lays.n240 P ρ)(X:Builder.X72 P ρ)(hb:w.heap[b]? =some (.cells #[p,v] (ρ.t 72) (0,0)))(hp:p= .pointer none\/p= .pointer (some ⟨b,0,none⟩)):
  Calls P (ρ.f 240) #[.pointer<|some ⟨b,0,none⟩] w λe w'=>e= .returned (.tuple #[])/\w'.heap[b]? =some (.cells #[.pointer<|some ⟨b,0,none⟩,v] (ρ.t 72) (0,0))/\Tr (λk=>k=b) w w'/\w'.heap.size=w.heap.size:=by
 obtain⟨c0,c1,C6,hfz⟩:=nZ hb;rcases hp with rfl|rfl
 ·refine(Any.Builder_copyCheck_fresh L X b w c0 C6<|hfz 0).mono ?_;rintro e w' ⟨rfl,rfl⟩;exact⟨rfl,aj6 hb,Tr.setCell w _ _ rfl,by simp[World.setCell]⟩
 ·refine(Any.Builder_copyCheck_used L X b w c0).mono ?_;rintro e w' ⟨rfl,rfl⟩;exact⟨rfl,hb,Tr.refl _ _,rfl⟩
def yH{e:Ah}{n:Nat}{xs:A3 AR}(h:w.ownsRow 0 e 1 v n xs)(hk:∀g,v.ownBlock=some g->w'.heap[g]? =w.heap[g]?):w'.ownsRow 0 e 1 v n xs:=by
 refine⟨h.1,?_⟩;rcases h.2 with h|⟨g,cap,cur,e1,h1,hc,h2⟩
 ·exact .inl h
 ·exact .inr ⟨g,cap,cur,e1,h1,by rw[hk g (by rw[e1];rfl)];exact hc,h2⟩
set_option maxHeartbeats 2000000 in
set_option maxRecDepth 100000 in
def ae5(L:Lays.n166 P ρ)(X:Builder.Extra P ρ){bs:A3 AR}(s:ByteArray)(hb:w.heap[b]? =some (.cells #[p,v] (ρ.t 72) (0,0)))(hp:p= .pointer none\/p= .pointer (some ⟨b,0,none⟩))
 (hown:w.ownsRow 0 (ρ.t 5) 1 v bs.length bs)(hne:v.ownBlock≠some b)(hlen:bs.length+s.size<=140737488355328):
  Calls P (ρ.f 166) #[.pointer<|some ⟨b,0,none⟩,.string s] w λe w'=>e= .returned (.tuple #[.int .i64 s.size,.nilIface])/\∃v',w'.heap[b]? =some (.cells #[.pointer<|some ⟨b,0,none⟩,v'] (ρ.t 72) (0,0))/\w'.ownsRow 0 (ρ.t 5) 1 v' (bs.length+s.size) (bs++Lib.strCells s)/\v'.ownBlock≠some b/\
   (∀g,v'.ownBlock=some g->v.ownBlock=some g\/w.heap.size<=g)/\Tr (λk=>k=b\/v.ownBlock=some k) w w':=by
 obtain⟨i0,hi,hz0,hz1,hz2⟩:=info_parts X.infoByte;have hblt:b<w.heap.size:=lt_of_heap hb;have mixed:=L.mixed;have t72:=L.t72;have a72:=L.a72;have z72:=L.z72;have v72:=L.v72;have u72:=KM L.t72;have t70:=L.t70;have a70:=L.a70;have z70:=L.z70;have v70:=L.v70;have u70:=KM L.t70;have t37:=L.t37;have a37:=L.a37;have z37:=L.z37;have v37:=L.v37;have u37:=KM L.t37;have t3:=L.t3;have a3:=L.a3;have z3:=L.z3;have v3:=L.v3;have u3:=KM L.t3;have t9:=L.t9;have a9:=L.a9;have z9:=L.z9;have v9:=L.v9;have u9:=KM L.t9;have t4:=L.t4;have a4:=L.a4;have z4:=L.z4;have v4:=L.v4;have u4:=KM L.t4;have t164:=L.t164;have a164:=L.a164;have z164:=L.z164;have v164:=L.v164;have u164:=KM L.t164;have t5:=X.t5;have a5:=X.a5;have z5:=X.z5;have v5:=X.v5;have u5:=KM X.t5;have e240:∀args w,(callFunc (ρ.f 240) args).run P w= .ok (.enter (ρ.f 240) args) w:=enters_of L.f240 A6 rfl
 go_enter L.f166,Body.n166_ntmps ρ
 go_wp2_with (go_at_fn (ρ.f 240);refine(ajN {L with} X.toX72 hb hp).mono ?_)
 rintro e w1 ⟨rfl,hb1,ht1,hs1⟩;have hown1:w1.ownsRow 0 (ρ.t 5) 1 v bs.length bs:=yH hown λg hg=>ht1.E6 g (hown.lt g hg).2 (λe=>hne (by rw[hg,e]))
 obtain⟨c0,c1,_,_⟩:=nZ hb1
 go_wp2_with (at_builtin;refine anm rfl _ _ (ρ.t 37) (ρ.t 9) rfl (ρ.t 5) i0 L.t37 L.t9 hi hz0 hz1 hz2 _ _ _ rfl hown1 s rfl hlen ?_)
 intro v' w2 hown' hgrow hfr;have hb2:w2.heap[b]? =some (.cells #[.pointer<|some ⟨b,0,none⟩,v] (ρ.t 72) (0,0)):=by
  rw[hgrow.block b (by omega)<|λe=>hne e.symm];exact hb1
 obtain⟨d0,d1,_,hf⟩:=nZ hb2;have f1:=hf 1;have hne':v'.ownBlock≠some b:=λe=>by
  rcases hfr b e with h|h
  ·exact hne h
  ·omega
 obtain⟨ao,n',cap,rfl⟩:∃ao n' cap,v'= .slice ao n' cap:=by
  rcases hown'.2 with⟨hv,_⟩|⟨g,cap,cur,hv,_⟩
  ·exact⟨_,_,_,hv⟩
  ·exact⟨_,_,_,hv⟩
 go_wp2
 go_ret2
 refine⟨rfl,_,aj5 hb2,yH hown' λg hg=>?_,hne',λg hg=>by have:=hfr g hg;omega,?_⟩
 ·exact Below.heap_setCell _ _ _ _ (λe=>hne' (by rw[hg,e]))
 ·exact((ht1.mono<|λk h=> .inl h).trans<|Tr.grown hgrow<|λk h=> .inr h).trans<|Tr.setCell _ _ _<| .inl rfl
def Tr.freeze{M:Nat->Prop}(w:AQ)(a:Addr)(n:Nat)(h:M a.block):Tr M w (w.freeze a n):=by
 unfold World.freeze;split
 ·exact Tr.refl _ _
 ·refine⟨by simp,rfl,rfl,rfl,BM _,λk _ hk=>?_⟩;simp only[Tz];rw[if_neg (λ(e:a.block=k)=>hk (by rw[<-e];exact h))]
set_option maxHeartbeats 1000000 in
set_option maxRecDepth 100000 in
def adZ(L:Lays.n169 P ρ)(X:Builder.Extra P ρ)(hbk:w.heap[b]? =some (.cells #[p,v] (ρ.t 72) (0,0)))(hown:w.ownsRow 0 (ρ.t 5) 1 v l.length (Lib.byteCells l))(h0:l≠[]):
  Calls P (ρ.f 169) #[.pointer<|some ⟨b,0,none⟩] w λe w'=>e= .returned (.string ⟨l.toArray⟩)/\Tr (λk=>v.ownBlock=some k) w w':=by
 have hl0:l.length≠0:=by simpa using h0
 obtain⟨g,cap,cur,rfl,hg,hnc,hcm,hcs,htake⟩:∃g cap cur,v= .slice (some ⟨g,0,none⟩) l.length cap/\w.heap[g]? =some (.cells cur (ρ.t 5) (0,0))/\l.length<=cap/\cap<=maxLen/\cur.size=cap*1/\cur.toList.take (l.length*1)=Lib.byteCells l:=by
  rcases hown.2 with⟨_,hz⟩|⟨g,cap,cur,hv,_,r⟩
  ·exact absurd hz hl0
  ·exact⟨g,cap,cur,hv,r⟩
 have c1:w.drew.cell? ⟨b,1,none⟩=some (.slice (some ⟨g,0,none⟩) l.length cap):=by
  have:w.drew.heap[b]? =some (.cells #[p,.slice (some ⟨g,0,none⟩) l.length cap] (ρ.t 72) (0,0)):=hbk;rw[ZI this];rfl
 have hSD:(Builtin.unsafeSliceData_ #[(ρ.t 37)] (ρ.t 127) #[.slice (some ⟨g,0,none⟩) l.length cap]).run P w.drew= .ok (.pointer<|some ⟨g,0,none⟩) w.drew:=
  Lib.run_unsafeSliceData_row _ _ _ _ _ _ (by omega)
 have hUS:(Builtin.unsafeString_ #[(ρ.t 127),(ρ.t 3)] (ρ.t 9) #[.pointer<|some ⟨g,0,none⟩,.int .i64 l.length]).run P w.drew= .ok (.string ⟨l.toArray⟩) (w.drew.freeze ⟨g,0,none⟩ l.length):=by
  refine Lib.run_unsafeString_row w.drew (ρ.t 127) (ρ.t 3) (ρ.t 9) (ρ.t 5) L.t127 X.cellsByte g cur.size (by have hg':w.drew.heap[g]? =some (.cells cur (ρ.t 5) (0,0)):=hg;simp[World.shape?,hg']) l h0 (by omega) (by unfold maxLen at hcm;omega) ?_;intro j x hx;exact hown.cells (g:=g) rfl j (.int .u8 x.toNat) (by simp[Lib.byteCells,hx])
 have mixed:=L.mixed;have t72:=L.t72;have a72:=L.a72;have z72:=L.z72;have v72:=L.v72;have u72:=KM L.t72;have t70:=L.t70;have a70:=L.a70;have z70:=L.z70;have v70:=L.v70;have u70:=KM L.t70;have t37:=L.t37;have a37:=L.a37;have z37:=L.z37;have v37:=L.v37;have u37:=KM L.t37;have t127:=L.t127;have a127:=L.a127;have z127:=L.z127;have v127:=L.v127;have u127:=KM L.t127;have t3:=L.t3;have a3:=L.a3;have z3:=L.z3;have v3:=L.v3;have u3:=KM L.t3;have t9:=L.t9;have a9:=L.a9;have z9:=L.z9;have v9:=L.v9;have u9:=KM L.t9;have t5:=X.t5;have a5:=X.a5;have z5:=X.z5;have v5:=X.v5;have u5:=KM X.t5
 go_enter L.f169,Body.n169_ntmps ρ
 go_wp2
 go_region_o
 all_goals (go_wp2;go_ret;exact⟨rfl,(Tr.drew w).trans<|Tr.freeze _ _ _ rfl⟩)
def Vl(l s:A3 UInt8):A9 (A3 UInt8×Int×Unit):=EV (Nat.ble (l.length+s.length) 140737488355328) (l++s,(s.length:Int),())
def YX(l:A3 UInt8):A9 (A3 UInt8):=EV (!l.isEmpty) l
theorem HC{α:Type}{b:Bool}{x r:α}(h:EV b x=some r):b=true/\x=r:=by grind [EV]
def Z1(h:Ee H [] vs):vs=[]:=h
theorem PD{τ:Ty}(h:Ee H [τ] vs):∃v,vs=[v]/\τ.ok H v:=by simp_all [Ee,Ty.ok]
theorem Tc{τ σ:Ty}(h:Ee H [τ,σ] vs):∃v u,vs=[v,u]/\τ.ok H v/\σ.ok H u:=by(simp_all [Ee,Ty.ok]<;>grind)
def byteCells_append(l s:A3 UInt8):Lib.byteCells (l++s)=Lib.byteCells l++Lib.byteCells s:=by simp[Lib.byteCells]
def ajM(L:Lays.n166 P ρ)(X:Builder.Extra P ρ)(hc:GL P (ρ.f 166)=true){s:A3 UInt8}{r:A3 UInt8×Int×Unit}(hm:Vl l s=some r):
  I9 P (ρ.f 166) [] (.I5 (ρ.t 72) (ρ.t 5)<|lB l) (.I5 (ρ.t 72) (ρ.t 5)<|lB r.1) [TS s] [TI .i64 r.2.1,sr r.2.2]:=by
 obtain⟨hb,rfl⟩:=HC hm;have hb:=F1 hb;refine⟨hc,λw H v ps qs sub gl hp hq hs=>?_⟩;have hp:=Z1 hp;subst hp;obtain⟨x,rfl,hx⟩:=PD hq;have hx:x= .string ⟨s.toArray⟩:=hx;subst hx;obtain⟨b,p,row,rfl,hbk,hpp,hn,hB,⟨xs,hown,As,hH⟩,hne⟩:=hs;rw[Zp] at As;subst As;rw[nu] at hown;refine(ae5 L X (bs:=Lib.byteCells l) ⟨s.toArray⟩ hbk hpp (by simpa[Lib.byteCells] using hown) hne (by simpa[Lib.byteCells,ByteArray.size] using hb)).mono ?_;rintro e w' ⟨rfl,v',BD,LH,hne',hfr,ht⟩;have Ez:Lib.strCells ⟨s.toArray⟩=Lib.byteCells s:=rfl;have hmo:∀k,k=b\/row.ownBlock=some k->(AN.I5 (ρ.t 72) (ρ.t 5)<|lB l).owns w (.pointer<|some ⟨b,0,none⟩) k:=λk h=>⟨b,rfl,h.imp id λh=>⟨p,row,hbk,h⟩⟩
 have hMn:∀k,(AN.I5 (ρ.t 72) (ρ.t 5)<|lB l).owns w (.pointer<|some ⟨b,0,none⟩) k->k=b\/row.ownBlock=some k:=by
  rintro k ⟨c,e,h⟩;cases e;rcases h with h|⟨p',r',EU,h⟩
  ·exact .inl h
  ·have e2:=hbk.symm.trans EU;simp at e2;obtain⟨rfl,rfl⟩:=e2;exact .inr h
 refine⟨_,rfl,H,(ht.mono hmo).LA sub<|λk hk=>?_,⟨b,_,v',rfl,BD,.inr rfl,hn,hB,⟨_,?_,Zp.2 rfl,λg hg=>?_⟩,hne'⟩,?_,⟨#[.int .i64 s.length,.nilIface],?_,_,_,rfl,rfl,_,_,rfl,rfl,rfl⟩⟩
 ·rcases hMn k hk with rfl|h
  ·exact hn
  ·exact(hH k h).1
 ·rw[nu,byteCells_append,ED];exact(by simpa[Lib.byteCells,ByteArray.size,Ez] using LH)
 ·rcases hfr g hg with h|h
  ·exact hH g h
  ·refine⟨?_,.inl h⟩;cases hh:H g with
   |none=>rfl
   |some o=>have:=HH sub hh;omega
 ·rintro k ⟨c,e,h⟩;cases e;rcases h with h|⟨p',r',EU,h⟩
  ·exact .inl<|hmo k<| .inl h
  ·have e2:=BD.symm.trans EU;simp at e2;obtain⟨rfl,rfl⟩:=e2;exact(hfr k h).imp (λh=>hmo k<| .inr h) id
 ·simp[ByteArray.size]
theorem yz{E:Ah}{l:A3 Ty}{row:AR}(hbk:w.heap[b]? =some (.cells #[p,row] T (0,0)))(k:Nat):(AN.I5 T E l).owns w (.pointer<|some ⟨b,0,none⟩) k↔k=b\/row.ownBlock=some k:=by grind [AN.owns]
def ahe(L:Lays.n169 P ρ)(X:Builder.Extra P ρ)(hc:GL P (ρ.f 169)=true){r:A3 UInt8}(hm:YX l=some r):
  I9 P (ρ.f 169) [] (.I5 (ρ.t 72) (ρ.t 5)<|lB l) .gone [] [TS r]:=by
 obtain⟨h0,rfl⟩:=HC hm;refine⟨hc,λw H v ps qs sub gl hp hq hs=>?_⟩;have hp:=Z1 hp;subst hp;have hq:=Z1 hq;subst hq;obtain⟨b,p,row,rfl,hbk,hpp,hn,hB,⟨xs,hown,As,hH⟩,hne⟩:=hs;rw[Zp] at As;subst As;rw[nu] at hown;refine(adZ L X hbk hown (by rintro rfl;simp at h0)).mono ?_;rintro e w' ⟨rfl,ht⟩;exact⟨_,rfl,H,(ht.mono λk h=>(yz hbk k).2<| .inr h).LA sub (λk hk=>by
  rcases(yz hbk k).1 hk with rfl|h
  ·exact hn
  ·exact(hH k h).1),trivial,λk hk=>hk.elim,rfl⟩
instance instDecAVec:DecidableEq (A3 UInt8×A3 UInt8×A3 UInt8):=inferInstance
end
section
open Go.Shelf
variable[D:DR]
variable{P:Program}{ρ:Ren}
variable{P:Program}{N:Nat}{ops:Array Oper}{Γ:Ctx}{ty:TypeId}{pos:String}{af:Array Edge}
def oH{u t dd:Nat}{s:AN}(hu:look Γ u=some (.same t))(ht:look Γ t=some s)(hl:s.By=[])(DH:dd<N)(o:Op)(ho:o= .assign (.tmp u)\/o= .move (.tmp u)):
  Step P N ops ⟨some dd,o,ty,pos,af,none⟩ Γ ((dd,s)::del dd (BF t Γ)):=by
 intro w0 H0 a w H BA K Q k;simp only[Region.wanted,if_true];have eu:Ab a u=Ab a t:=BA.holds _<|B5 hu
 have er:(execOp a.eval ⟨some dd,o,ty,pos,af,none⟩).run P w= .ok (.value<|Ab a t) w:=by
  rw[<-eu];rcases ho with rfl|rfl<;>rfl
 unfold Oper.wp;rw[er,OJ];exact k _ w H (Vd BA (B5 ht) (nE w) (λ_ e=>by cases e) DH (by rw[hl];simp) (BA.holds _<|B5 ht) λ_ h=> .inl h)
end
section
open Go.Shelf
variable[D:DR]
variable{P:Program}{ρ:Ren}
def VW{α:Type}(l:A3 α):A9 (A3 α):=EV (Nat.blt l.length 4000000000) l
def QE(x y:Int):A9 (Int×Int):=bif H4 x&&H4 y then some (x*y/GO,x*y%GO) else none
def Nb(n:Nat):Nat:=bif Nat.beq n 0 then 0 else Nat.log2 n+1
def Z3(x:Int):A9 Int:=bif H4 x then some (Nb x.toNat:Int) else none
def WY(x:Int):A9 Int:=bif H4 x then some (64-(Nb x.toNat:Int)) else none
end
section
variable[D:DR]
variable{P:Program}{w0:Ae P}{H0:HV}{N:Nat}{ops:Array Oper}{Q:Exit->Act->World->Prop}{Γ Al:Ctx}{d:Option Tmp}{ty:TypeId}{pos:String}{af:Array Edge}{g:Option (Nat×Bool)}
variable{α:Type}{f:α->Ty}{l:A3 α}{t:Nat}{T E:Ah}{sz:Nat}{pre post:A3 AR}{y:α}{p j:Nat}{x:CB}{z:α}
def Mk{s ix:CB}{k:IntKind}{i:Int}(hT:G7 P T sz=true)(hs:Ej Γ s t)(ht:look Γ t=some (.F3 E pre post<|lT f l))(hi:Arg Γ ix (TI k i))(h:AA l i=some y):
  B1 P Γ ⟨d,.indexAddr T s ix,ty,pos,af,g⟩ (.Mv t i.toNat sz):=
 Di λw0 _ _ a w H BA=>by
  obtain⟨h0,h1,h3⟩:=HW h;obtain⟨b,c,cur,xs,e,_⟩:=BA.holds _<|B5 ht
  simp only at e;have e3:a.eval s= .slice (some ⟨b,pre.length,none⟩) l.length c:=by
   rw[hs.ok BA,e,Bp]
  have ei:a.eval ix= .int k i:=hi.ok BA;have hr:=kn (P:=P) hT b pre.length l.length c (k:=k) h0 h1 w;exact⟨.pointer<|some ⟨b,pre.length+i.toNat*sz,none⟩,by simp only[execOp,e3,ei,E4,hr,Dp];rfl,⟨b,pre.length,_,c,e,rfl⟩,rfl⟩
def QZ(hf:∀z,(f z).n=sz)(hp:look Γ p=some (.Mv t j sz))(ht:look Γ t=some (.F3 E pre post<|lT f l))(h:l[j]? =some y)(hT:Bm P T (f y).n (f y).agg=true):
  B1 P Γ ⟨d,.load T<| .tmp p,ty,pos,af,g⟩ (.val<|f y):=
 Di λw0 _ _ a w H BA=>by
  obtain⟨b,c,cur,xs,e,hb,Lm,ho,hH,hB⟩:=BA.holds _<|B5 ht
  obtain⟨b',o,n',c',e1,e2⟩:=BA.holds _<|B5 hp
  simp only at e e1 e2;rw[e] at e1;cases e1;have hj:(lT f l)[j]? =some (f y):=by rw[Gg,h];rfl
  have JI:=(GD.1 hj).1;have hu:Fq sz (lT f l):=Jn hf l;have e3:a.eval (.tmp p)= .pointer (some ⟨b,pre.length+j*sz,none⟩):=e2;obtain⟨p1,p2⟩:=N7 ho hj;have hc:CH ((lT f l).take j)=j*sz:=by rw[KG<|hu.take _,Dn,EN (by omega)]
  rw[hc] at p1 p2;have Ll:List.take (f y).n (List.drop (pre.length+j*sz) cur.toList)=List.take (f y).n (List.drop (j*sz) xs):=by
   rw[Lm,<-FW,To,List.drop_append_of_le_length (by omega),List.take_append_of_le_length (by simp;omega)]
  have UN:cur.size=pre.length+(xs.length+post.length):=by rw[<-Ex,Lm];simp
  refine⟨_,?_,p2,rfl⟩;have hr:=R9 (P:=P) hT hb (off:=pre.length+j*sz) (by omega);rw[Ll] at hr;simp[execOp,e3,Instr.loadAt,Instr.sureAddr,hr]
def zM{Ag:Ctx}(BE:∀q∈Ag,q∈Γ)(hf:∀z,(f z).n=sz)(hp:look Ag p=some (.Mv t j sz))(ht:look Ag t=some (.F3 E pre post<|lT f l))(h:l[j]? =some z)(hx:Arg Ag x (f y))(hT:Bm P T (f y).n (f y).agg=true):
  Step P N ops ⟨none,.store T (.tmp p) x,ty,pos,af,none⟩ Γ ((t,.F3 E pre post<|lT f<|l.set j y)::BF t Γ):=by
 intro w0 H0 a w H BA K Q k;simp only[Region.wanted,if_true];obtain⟨b,c,cur,xs,e,hb,Lm,ho,hH,hB⟩:=BA.holds _ (BE _<|B5 ht);obtain⟨b',o,n',c',e1,e2⟩:=BA.holds _ (BE _<|B5 hp);simp only at e e1 e2;rw[e] at e1;cases e1;have hj:(lT f l)[j]? =some (f z):=by rw[Gg,h];rfl
 have JI:=(GD.1 hj).1;have hu:Fq sz (lT f l):=Jn hf l;have ep:a.eval (.tmp p)= .pointer (some ⟨b,pre.length+j*sz,none⟩):=e2;have I1:=hx.ok<|BA.weaken BE
 have C6:=(f y).shape I1;have hc:CH ((lT f l).take j)=j*sz:=by rw[KG<|hu.take _,Dn,EN (by omega)]
 obtain⟨p1,_⟩:=N7 ho hj;rw[hc,hf] at p1;have MP:=Te ho hj ((hf y).trans (hf z).symm) I1;rw[hc,hf] at MP;have UN:cur.size=pre.length+(xs.length+post.length):=by rw[<-Ex,Lm];simp
 have F9:=Sq (P:=P) (off:=pre.length+j*sz) (TZ hT) C6.size hb (by rw[hf];omega) C6.cell;rw[hf] at F9;unfold Oper.wp;have er:(execOp a.eval ⟨none,.store T (.tmp p) x,ty,pos,af,none⟩).run P w= .ok .skip (w.setRow b (cur.toList.take (pre.length+j*sz)++(a.eval x).cells.toList++cur.toList.drop (pre.length+j*sz+sz)).toArray):=by
  simp[execOp,ep,Instr.storeAt,Instr.sureAddr,F9]
 rw[er,QI];have aqn:cur.toList.take (pre.length+j*sz)++(a.eval x).cells.toList++cur.toList.drop (pre.length+j*sz+sz)=pre++((xs.take (j*sz)++(a.eval x).cells.toList++xs.drop (j*sz+sz))++post):=by
  have t1:(pre++(xs++post)).take (pre.length+j*sz)=pre++xs.take (j*sz):=by
   rw[W9,Cd (by omega)]
   congr 1
   rw[show pre.length+j*sz-pre.length=j*sz from by omega,List.take_append_of_le_length (by omega)]
  have t2:(pre++(xs++post)).drop (pre.length+j*sz+sz)=xs.drop (j*sz+sz)++post:=by
   rw[Kx,<-FW,To,List.drop_append_of_le_length (by omega)]
  rw[Lm,t1,t2];simp
 rw[aqn];have hg:Ef w (w.setRow b (pre++((xs.take (j*sz)++(a.eval x).cells.toList++xs.drop (j*sz+sz))++post)).toArray) (some b):=Ef.setRow w b _;refine k a _ H (Ov BA (BE _<|B5 ht) hg hB (by simp[AN.owns,e,Value.ownBlock]) ?_ λc hc=> .inl hc);refine⟨b,c,_,_,by rw[e];simp[lT],Th w b _ _ _ _ hb,rfl,?_,hH,hB⟩;rw[show lT f (l.set j y)=(lT f l).set j (f y) from by simp[lT,Tj]];exact MP
def qc(hf:∀z,(f z).n=sz)(hp:look Γ p=some (.Mv t j sz))(ht:look Γ t=some (.F3 E pre post<|lT f l))(h:l[j]? =some z)(hx:Arg Γ x (f y))(hT:Bm P T (f y).n (f y).agg=true):
  Step P N ops ⟨none,.store T (.tmp p) x,ty,pos,af,none⟩ Γ ((t,.F3 E pre post<|lT f<|l.set j y)::BF t Γ):=zM (λ_ h=>h) hf hp ht h hx hT
def alr(hf:∀z,(f z).n=sz)(hp:look Γ p=some (.Mv t j sz))(ht:look Γ t=some (.F3 E pre post<|lT f l))(h:l[j]? =some z)(hx:Arg Γ x (f y))(hT:Bm P T (f y).n (f y).agg=true):
  Pl P N ops Γ ⟨none,.store T (.tmp p) x,ty,pos,af,none⟩ t (.F3 E pre post<|lT f<|l.set j y):=λ_ BE=>zM BE hf hp ht h hx hT
end
section
variable[D:DR]
variable{P:Program}{w0:Ae P}{H0:HV}{N:Nat}{ops:Array Oper}{Γ Al:Ctx}{d:Option Tmp}{ty:TypeId}{pos:String}{af:Array Edge}{g:Option (Nat×Bool)}
variable{E:Ah}{sz t:Nat}{α:Type}{f:α->Ty}{l:A3 α}{xs:A3 CB}{F4:B6 Ah}{dd:Nat}{x:CB}{i n u:Nat}{bl args:A3 Ty}
def xU{T:Ah}{lo hi:A9 CB}{i j:Int}(hT:G7 P T sz=true)(hs:Ej Γ x t)(ht:look Γ t=some (.buf E sz<|lT f l))(Fp:Lo Γ lo 0 i)(Kg:Lo Γ hi l.length j)(h:(decide (0<=i)&&decide (i<j)&&decide (j<=l.length))=true):
  B1 P Γ ⟨d,.slice T x lo hi none,ty,pos,af,g⟩ (.win t i.toNat (j-i).toNat sz):=
 Di λw0 _ _ a w H BA=>by
  rw[Bx,Bx,J7,J7,J7] at h;obtain⟨⟨h1,h2⟩,h3⟩:=h;obtain⟨b,cap,cs,xs,e,hb,hcap,_⟩:=Vp (BA.holds _<|B5 ht) (λe=>by
   have:l=[]:=List.map_eq_nil_iff.1 e;rw[this] at h3;simp at h3;omega)
  simp only at e;rw[Bp] at e hcap;obtain⟨el,ii,hue,hii,hsz⟩:=pL hT;have IQ:∀w,(Go.sizeOf el).run P w= .ok sz w:=λw=>by simp[Go.sizeOf,typeInfo,program,Sem.run,hii,hsz]
  have hbd:=tt (P:=P) (b:=true) (cap:=cap) (w:=w) Fp Kg h1 (by omega) h3 hcap BA;have e3:a.eval x= .slice (some ⟨b,0,none⟩) l.length cap:=by rw[hs.ok BA];exact e
  refine⟨.slice (some ⟨b,i.toNat*sz,none⟩) (j-i).toNat<|cap-i.toNat,?_,⟨b,_,cap,cap-i.toNat,e,rfl⟩,rfl⟩;have hne: ¬cap=i.toNat:=by omega
  have hn:j.toNat-i.toNat=(j-i).toNat:=by omega
  simp[execOp,e3,Instr.sliceAt,F0 hue,Instr.slice,hbd,IQ,addr_add,hne,hn]
def am2{B:Ae P}{w:AQ}{H:HV}{v:AR}(hf:∀z,(f z).n=sz)(h:KQ B w H E sz (lT f l) v)(hn:0<n)(hl:i+n<=l.length){b:Nat}{len cap:Nat}(hv:v= .slice (some ⟨b,0,none⟩) len cap)(c:Nat):
  ∃pre post:A3 AR,pre.length=i*sz/\(AN.F3 E pre post<|lT f<|(l.drop i).take n).holds B R1 w H (.slice (some ⟨b,i*sz,none⟩) n c)/\
   ∀(w':AQ) (H':HV) (r:A3 α),HV.le H H'->r.length=n->(AN.F3 E pre post<|lT f r).holds B R1 w' H' (.slice (some ⟨b,i*sz,none⟩) n c)->KQ B w' H' E sz (lT f<|l.take i++r++l.drop (i+n)) v:=by
 subst hv;obtain⟨xs,⟨GR,hr⟩,ho,hH⟩:=h;rcases hr with⟨e,_⟩|⟨g',aw,cur,e,h0,hb,hcap,hm,hcs,htake⟩
 ·cases e
 cases e;have hu:Fq sz (lT f l):=Jn hf l;have GR:xs.length=l.length*sz:=by simpa using GR
 rw[Bp] at htake hcap;have s1:i*sz+n*sz<=xs.length:=by rw[GR,<-JR];exact J9 _ hl
 have Lm:cur.toList=xs++cur.toList.drop (l.length*sz):=by
  conv=>lhs;rw[<-OX (l.length*sz) cur.toList,htake]
 have hx3:xs=xs.take (i*sz)++((xs.drop<|i*sz).take (n*sz)++xs.drop (i*sz+n*sz)):=by
  conv=>lhs;rw[<-OX (i*sz) xs]
  congr 1
  conv=>lhs;rw[<-OX (n*sz) (xs.drop<|i*sz),FW]
 have UU:(xs.take<|i*sz).length=i*sz:=by rw[Dn];omega
 have qi:∀(lo hi:Nat),DJ H ((lT f l).take hi|>.drop lo) ((xs.take<|hi*sz).drop<|lo*sz):=λlo hi=>uj hu ho lo hi
 refine⟨xs.take<|i*sz,xs.drop (i*sz+n*sz)++cur.toList.drop (l.length*sz),UU,?_,?_⟩
 ·refine⟨b,c,cur,(xs.drop<|i*sz).take<|n*sz,?_,hb,?_,?_,(hH b rfl).1,(hH b rfl).2⟩
  ·rw[UU];simp;omega
  ·have e0:xs++cur.toList.drop (l.length*sz)=(xs.take (i*sz)++((xs.drop<|i*sz).take (n*sz)++xs.drop (i*sz+n*sz)))++cur.toList.drop (l.length*sz):=by rw[<-hx3]
   exact Lm.trans (e0.trans (by rw[ID,ID]))
  ·have:=qi i (i+n);rw[show((lT f l).take<|i+n).drop i=lT f ((l.drop i).take n) from by simp[lT,<-List.map_take,<-List.map_drop,MA]] at this;rw[JR,MA,show i*sz+n*sz-i*sz=n*sz from by omega] at this;exact this
 ·rintro w' H' r hle hrl ⟨g2,c2,se,xs2,e2,hb2,Gb,ho2,IY,hB2⟩;have e3:g2=b:=by
   simp only[Value.slice.injEq,Option.some.injEq,Addr.mk.injEq] at e2;exact e2.1.1.symm
  subst e3;have Hj:DJ H' (lT f<|l.take i++r++l.drop (i+n)) (xs.take (i*sz)++xs2++xs.drop (i*sz+n*sz)):=by
   have p1:=qi 0 i;have p2:=qi (i+n) l.length;rw[gH,PJ,PJ] at p1;rw[Cd (by simp[lT]),Cd (by omega),JR] at p2;have:=RT (RT (Q8 hle p1) ho2)<|Q8 hle p2
   rwa [show(lT f l).take i++lT f r++(lT f l).drop (i+n)=lT f (l.take i++r++l.drop (i+n)) from by simp[lT,List.map_take,List.map_drop]] at this
  have UO:xs2.length=n*sz:=by
   have:=Md ho2;rw[KG<|Jn hf r] at this;simpa[hrl] using this
  have hlen:(lT f<|l.take i++r++l.drop (i+n)).length=l.length:=by simp[hrl];omega
  have acK:(xs.take (i*sz)++xs2++xs.drop (i*sz+n*sz)).length=l.length*sz:=by
   rw[ED,ED,UU,UO,IC,GR];omega
  have hc3:se.toList=(xs.take (i*sz)++xs2++xs.drop (i*sz+n*sz))++cur.toList.drop (l.length*sz):=by
   rw[Gb];simp
  have htk:se.toList.take (l.length*sz)=xs.take (i*sz)++xs2++xs.drop (i*sz+n*sz):=by
   rw[hc3,List.take_append_of_le_length (by omega),Cd (by omega)]
  refine⟨xs.take (i*sz)++xs2++xs.drop (i*sz+n*sz),⟨by rw[hlen];exact acK,.inr ⟨g2,cap,se,by rw[hlen];simp,FM _,hb2,by rw[hlen];exact hcap,hm,?_,by rw[hlen];exact htk⟩⟩,Hj,λb' BD=>?_⟩
  ·have q1:cur.toList.length=cap*sz:=by rw[Ex];exact hcs
   have q2:l.length*sz<=cap*sz:=J9 _ hcap;rw[<-Ex,hc3,ED,acK,IC,q1];omega
  ·have:g2=b':=by simpa[Value.ownBlock] using BD
   subst this;exact⟨IY,hB2⟩
def ake{r:A3 α}{fn:FuncId}{ys:A3 CB}{pre post Bb:A3 Ty}{Ag:Ctx}(BE:∀q∈Ag,q∈Γ)(hf:∀z,(f z).n=sz)
 (hS:∀(ps qs:A3 AR),ps.length=i*sz->I9 P fn pre (.F3 E ps qs<|lT f<|(l.drop i).take n) (.F3 E ps qs<|lT f r) post Bb)(hx:Ej Ag x u)(hu:look Ag u=some (.win t i n sz))(ht:look Ag t=some (.buf E sz<|lT f l))
 (hn:(Nat.blt 0 n&&Nat.ble (i+n) l.length&&Nat.beq r.length n)=true)(ha:AO Ag xs pre)(hb:AO Ag ys post)(DH:dd<N)(hne:dd≠t):
  Step P N ops ⟨some dd,.call ⟨.value<| .func fn,(xs++x::ys).toArray,F4⟩,ty,pos,af,none⟩ Γ ((dd,Ip Bb)::(t,.buf E sz<|lT f<|l.take i++r++l.drop (i+n))::del dd (BF t Γ)):=by
 rw[Bx,Bx] at hn;obtain⟨⟨hn1,IY⟩,hn3⟩:=hn;have hn1:=F1 hn1;have IY:=F1 IY;have hn3:=EG hn3;intro w0 H0 a w H hs K Q k;simp only[Region.wanted,if_true];have hsi:=hs.weaken BE;have Ez:=hs.holds _<|BE _<|B5 ht
 simp only at Ez;obtain⟨b,len,cap,c,ev,eu⟩:=hs.holds _<|BE _<|B5 hu
 simp only at ev eu;obtain⟨ps,qs,hps,hw,rR⟩:=am2 hf Ez hn1 IY ev c;have can:GL P fn=true:=(hS ps qs hps).can;have e:execOp a.eval ⟨some dd,.call ⟨.value<| .func fn,(xs++x::ys).toArray,F4⟩,ty,pos,af,none⟩=callFunc fn (xs.map a.eval++Ab a u::ys.map a.eval).toArray:=by
  have e:execOp a.eval ⟨some dd,.call ⟨.value<| .func fn,(xs++x::ys).toArray,F4⟩,ty,pos,af,none⟩=callFunc fn (#[]++(xs++x::ys).toArray.map a.eval++ #[]):=rfl;rw[e]
  congr 1
  simp[hx.ok hsi]
 unfold Oper.wp;rw[e,Ow can,W7,eu];have hw0:(AN.F3 E ps qs<|lT f<|(l.drop i).take n).holds (Ae.No P w λb'=>(AN.F3 E ps qs<|lT f<|(l.drop i).take n).owns w (.slice (some ⟨b,i*sz,none⟩) n c) b') R1 w H (.slice (some ⟨b,i*sz,none⟩) n c):=
  AN.RU rfl hw λb' BD=> .inr BD
 have hown:∀b',(AN.F3 E ps qs<|lT f<|(l.drop i).take n).owns w (.slice (some ⟨b,i*sz,none⟩) n c) b'↔(AN.buf E sz<|lT f l).owns w (Ab a t) b':=λb'=>by
  rw[ev];exact Iff.rfl
 refine((hS ps qs hps).run w H _ _ _ hs.sub hs.gl (ha.ok hsi) (hb.ok hsi) hw0).mono ?_;rintro e w' ⟨rv,rfl,H',hy,Co,ho,hr⟩;have hy':Qn (λb'=>(AN.buf E sz<|lT f l).owns w (Ab a t) b') w H w' H':=by
  have:(λb'=>(AN.buf E sz<|lT f l).owns w (Ab a t) b')=λb'=>(AN.F3 E ps qs<|lT f<|(l.drop i).take n).owns w (.slice (some ⟨b,i*sz,none⟩) n c) b':=funext λb'=>propext (hown b').symm
  rw[this];exact hy
 have KB:(AN.F3 E ps qs<|lT f r).holds w0 R1 w' H' (.slice (some ⟨b,i*sz,none⟩) n c):=AN.RU rfl Co λb' BD=>by
  have BD:(AN.buf E sz<|lT f l).owns w (Ab a t) b':=by rw[ev];exact BD
  exact AN.P7 rfl Ez BD
 have He:(AN.buf E sz<|lT f<|l.take i++r++l.drop (i+n)).holds w0 a w' H' (Ab a t):=rR w' H' r hy.le hn3 KB;have h1:=yE hs (BE _<|B5 ht) rfl rfl (λq hq _ b hb=>Ae.QC<|AN.P7 rfl Ez hb) hy' He<|λb' BD=> .inl BD
 have h2:=Q7 (h1.weaken (Al:=del dd ((t,.buf E sz<|lT f<|l.take i++r++l.drop (i+n))::BF t Γ)) MC) DH PA (s:=Ip Bb) (v:=rv) (by
  match Bb with
  |[]=>simp[Ip,AN.By]
  |[_]=>simp[Ip,AN.By]
  |_::_::_=>simp[Ip,AN.By]) (VQ hr)<|λb e=>absurd e<|AN.free_spec VX
 refine k _ w' H'<|h2.weaken λq hq=>?_
 simp only[Ai] at hq⊢;rcases hq with h|h|h
 ·exact .inl h
 ·subst h;exact .inr (QD (by simp) (λe=>hne e.symm) (by simp[AN.By]))
 ·have:=qy h;exact .inr<|QD (Bq _<|MC _ h) this.1 this.2
def y9{r:A3 α}{fn:FuncId}{ys:A3 CB}{pre post Bb:A3 Ty}(hf:∀z,(f z).n=sz)
 (hS:∀(ps qs:A3 AR),ps.length=i*sz->I9 P fn pre (.F3 E ps qs<|lT f<|(l.drop i).take n) (.F3 E ps qs<|lT f r) post Bb)(hx:Ej Γ x u)(hu:look Γ u=some (.win t i n sz))(ht:look Γ t=some (.buf E sz<|lT f l))
 (hn:(Nat.blt 0 n&&Nat.ble (i+n) l.length&&Nat.beq r.length n)=true)(ha:AO Γ xs pre)(hb:AO Γ ys post)(DH:dd<N)(hne:(dd !=t)=true):
  Step P N ops ⟨some dd,.call ⟨.value<| .func fn,(xs++x::ys).toArray,F4⟩,ty,pos,af,none⟩ Γ ((dd,Ip Bb)::(t,.buf E sz<|lT f<|l.take i++r++l.drop (i+n))::del dd (BF t Γ)):=
 ake (λ_ h=>h) hf hS hx hu ht hn ha hb DH (by simpa using hne)
structure WS(P:C7)(f:FuncId)(E:Ah)(sz:Nat)(bl:A3 Ty)(args:A3 Ty)(l:A3 Ty):Prop where
 can:GL P f=true
 run:∀(w:AQ) (H:HV) (v:AR) (xs:A3 AR) (vs:A3 AR),(∀r o,H r=some o->w.heap[r]? =some o)->KP P H->w.ownsRow 0 E sz v bl.length xs->DJ H bl xs->(∀b,v.ownBlock=some b->H b=none)->Ee H args vs->
  Calls P f (v::vs).toArray w λe w'=>∃r,e= .returned r/\Ef w w' v.ownBlock/\∃xs',w'.ownsRow 0 E sz r l.length xs'/\DJ H l xs'/\∀b,r.ownBlock=some b->v.ownBlock=some b
def WS.pub{f:FuncId}{l:A3 Ty}(h:WS P f E sz bl args l):anj P f E sz bl args [FT l]:=
 ⟨h.can,λw H v xs vs sub gl ho hx hb ha=>(h.run w H v xs vs sub gl ho hx hb ha).mono λ_ w' ⟨r,e,hg,xs',h3,h4,h5⟩=>by
  have hn:∀b,r.ownBlock=some b->H b=none:=λb hbr=>hb b<|h5 b hbr
  have hle:HV.le H (λc=>if r.ownBlock=some c then w'.heap[c]? else H c):=by
   intro c o hc;by_cases e:r.ownBlock=some c
   ·rw[hn c e] at hc;cases hc
   ·simp[e,hc]
  refine⟨r,e,hg,λc=>if r.ownBlock=some c then w'.heap[c]? else H c,hle,?_,?_,?_⟩
  ·intro c _ hc;have:r.ownBlock≠some c:=λe=>hc<|h5 c e
   simp[this]
  ·intro c o hc;by_cases e:r.ownBlock=some c
   ·simpa[e] using hc
   ·simp only[e,if_false] at hc;rw[hg.block c (lt_of_heap<|sub c o hc) (λe2=>by rw[hb c e2.symm] at hc;cases hc)];exact sub c o hc
  ·exact QT (a:=⟨#[],[]⟩) (B:=Ae.No P w λb=>v.ownBlock=some b) (w:=w') (H:=H) ⟨xs',h3,h4,λb hb2=>⟨hn b hb2,.inr<|h5 b hb2⟩⟩ hle (λb hb2 _ o hbo=>by simp[hb2,hbo])⟩
def aj7{s:CB}{f:FuncId}{l:A3 Ty}(Wp:WS P f E sz bl args l)(hs:s= .tmp t\/∃u,s= .tmp u/\look Γ u=some (.same t))(ht:look Γ t=some (.buf E sz bl))(ha:AO Γ xs args)(DH:dd<N):
  Pn P N ops Γ ⟨some dd,.call ⟨.value<| .func f,(s::xs).toArray,F4⟩,ty,pos,af,none⟩ t dd (.buf E sz l):=by
 intro Ds BE w0 H0 a w H BA K Q k;simp only[Region.wanted,if_true];have hb:=BA.holds _<|BE _<|B5 ht
 obtain⟨ys,hr,ho,hn⟩:=hb;have es:a.eval s=Ab a t:=by
  rcases hs with rfl|⟨u,rfl,hu⟩
  ·rfl
  ·exact BA.holds _<|BE _<|B5 hu
 have e0:execOp a.eval ⟨some dd,.call ⟨.value<| .func f,(s::xs).toArray,F4⟩,ty,pos,af,none⟩=callFunc f (#[]++(s::xs).toArray.map a.eval++ #[]):=rfl;unfold Oper.wp;rw[e0,Ow Wp.can,W7];have e2:(#[]++(s::xs).toArray.map a.eval++ #[])=(Ab a t::xs.map a.eval).toArray:=by simp[es]
 rw[e2];refine(Wp.run w H _ ys _ BA.sub BA.gl hr ho (λb hb=>(hn b hb).1)<|ha.ok<|BA.weaken BE).mono ?_;rintro e w' ⟨r,rfl,hg,xs',h3,h4,h5⟩;have jD:∀b,(Ab a t).ownBlock=some b->w0.EI b/\H b=none/\∀l,w.heap[b]? ≠some (.deferred l):=λb hb=>⟨(hn b hb).2,(hn b hb).1,λl e=>by
  obtain⟨_,_,o,h3,h4⟩:=AN.J5 (s:= .buf E sz bl) (B:=w0) (a:=a) ⟨ys,hr,ho,hn⟩ hb;rw[h3] at e;cases e;exact h4⟩
 have j8:∀b o,H b=some o->w'.heap[b]? =some o:=λc o hc=>by
  rw[hg.block c (lt_of_heap<|BA.sub c o hc) (λe2=>by rw[(hn c e2.symm).1] at hc;cases hc)];exact BA.sub c o hc
 have LL:∀q∈del dd (BF t Ds),∀c,q.2.owns w (Ab a q.1) c->(Ab a t).ownBlock≠some c:=λq hq c hc e=>
  BA.sep _ (BE _<|B5 ht) q (DI q<|MC q hq).1 (λe=>(DI q<|MC q hq).2 e.symm) c e hc
 have IH:Sat w0 H0 N (del dd<|BF t Ds) a w' H:=
  ajn BA hg jD (HV.le.refl _) (λ_ _ _=>rfl) j8 λq hq=>⟨(DI q<|MC q hq).1,LL q hq⟩
 refine k _ w' H (Q7 IH DH PA (by simp[AN.By]) ⟨xs',h3,h4,λb hb=>⟨(hn b<|h5 b hb).1,(hn b<|h5 b hb).2⟩⟩ ?_);intro b hb q hq hq2;have hb:r.ownBlock=some b:=hb;have Hf:=(DI q<|MC q hq).1;have F:Far w0.lo (λb=>q.2.owns w (Ab a q.1) b) w H w' H:=by
  have hk:∀c,c<w.heap.size->(c<w0.lo\/q.2.owns w (Ab a q.1) c)->(Ab a t).ownBlock≠some c:=λc _ h e=>by
   rcases h with h|h
   ·have:=Ae.QC (hn c e).2;omega
   ·exact LL q hq c h e
  exact⟨hg.size,hg.os,hg.tape,hg.output,hg.drawn,HV.le.refl _,λc hc h=>hg.block c hc<|λe=>hk c hc h e.symm,λ_ _ _=>rfl,j8⟩
 exact LL q hq b (((AN.YZ (BA.holds q Hf) F).2 b).1 hq2)<|h5 b hb
def aiA{f:FuncId}{l:A3 Ty}(Wp:WS P f E sz bl args l)(hu:look Γ u=some (.same t))(ht:look Γ t=some (.buf E sz bl))(ha:AO Γ xs args)(DH:dd<N):
  Step P N ops ⟨some dd,.call ⟨.value<| .func f,(.tmp u::xs).toArray,F4⟩,ty,pos,af,none⟩ Γ ((dd,.buf E sz l)::del dd (BF t Γ)):=aj7 Wp (.inr ⟨u,rfl,hu⟩) ht ha DH Γ<|λ_ h=>h
end
section
variable[D:DR]
variable{P:Program}{w0:Ae P}{H0:HV}{N:Nat}{Q:Exit->Act->World->Prop}{Γ Al:Ctx}{d:Option Tmp}{ty:TypeId}{pos:String}{af:Array Edge}{g:Option (Nat×Bool)}
def aqB{T:Ah}{τ:Ty}(h:Dk P T τ):Dk P T (Ir τ.n τ.agg):=⟨λw=>by
 obtain⟨z,h1,h2⟩:=h.run w;exact⟨z,h1,λH=>τ.shape<|h2 H⟩⟩
def oT{β:Type}(F:β->Ty)(n:Nat)(agg:Bool)(h:∀x,(F x).n=n/\(F x).agg=agg)(o:A9 β):Ty where
 n:=n
 agg:=agg
 ok:=λH v=>match o with
  |some x=>(F x).ok H v
  |none=>Shape n agg v
 mono:=λ{H H' v} hl k=>by
  cases o with
  |none=>exact k
  |some x=>exact(F x).mono hl k
 shape:=λ{H v} k=>by
  cases o with
  |none=>exact k
  |some x=>have:=(F x).shape k;rwa [(h x).1,(h x).2] at this
def mlk{α β:Type}[DecidableEq α](l:A3 (α×β))(x:α):A9 β:=match mix x l with
 |none=>none
 |some j=>(l[j]?).map (·.2)
def akn{w0:Ae P}{β:Type}{F:β->Ty}{n:Nat}{agg:Bool}{h:∀x,(F x).n=n/\(F x).agg=agg}{o:A9 β}{t:Nat}{T:Ah}{z:β}(ht:look Γ t=some (.own T<|oT F n agg h o))(hs:(!o.isSome)=false):IK w0 N Γ ((t,.own T<|F<|o.getD z)::BF t Γ):=λH0 a w H BA=>by
 obtain⟨b,x,e,hb,hx,hH,hB⟩:=BA.holds _<|B5 ht
 refine⟨H,mi (us:=[]) BA (λq hq=>DI q hq) ⟨b,x,e,hb,?_,hH,hB⟩ (λc hc=>⟨_,B5 ht,.inl rfl,hc⟩) (λ_ _ h=>by cases h)⟩;cases o with
 |none=>cases hs
 |some y=>exact hx
end
section
variable[D:DR]
variable{P:Program}{w0:Ae P}{H0:HV}{N:Nat}{Q:Exit->Act->World->Prop}{Γ Al:Ctx}{d:Option Tmp}{ty:TypeId}{pos:String}{af:Array Edge}{g:Option (Nat×Bool)}
variable{α β:Type}[DecidableEq α]{K E Eb T:TypeId}{sz:Nat}{fK:α->Ty}
def aoQ{F:β->Ty}{n:Nat}{agg:Bool}{hF:∀x,(F x).n=n/\(F x).agg=agg}{t:Nat}{m k:CB}{l:A3 (α×β)}{x:α}(hT:Sf P T K E=true)(hk:S6 P K fK)(hz:Dk P E (Ir n agg))(hm:Qo Γ m t)(ht:look Γ t=some (.Gn K E Eb sz<|mM fK (λv=> .val<|F v) l))(hx:Arg Γ k (fK x)):
  B1 P Γ ⟨d,.lookup T m k true,ty,pos,af,g⟩ (.LF [oT F n agg hF<|mlk l x,Ay (mlk l x).isSome]):=
 Di λ_ _ _ a w H hs=>by
  obtain⟨r,es,e,hr,hn,hmi,ho,IX⟩:=hs.holds _<|B5 ht
  have em:a.eval m= .map (some r):=by rw[hm.ok hs];exact e
  have I1:=hx.ok hs;obtain⟨k1,k2⟩:=zw ho;have hf:=run_findKey hk I1 (w:=w) k1 k2;have hc:=hk.check H _ x I1 es.isEmpty w;obtain⟨zv,hzr,hzo⟩:=hz.run w;cases hmx:mix x l with
  |none=>
   rw[hmx] at hf;refine⟨.tuple #[zv,.bool false],?_,⟨#[zv,.bool false],rfl,?_⟩,rfl⟩
   ·simp[execOp,em,Instr.lookup,F0<|Ym hT,run_getObj_map hr,hc,hf,hzr]
   ·have:mlk l x=none:=by simp[mlk,hmx]
    rw[this];exact⟨_,_,rfl,hzo H,_,_,rfl,rfl,rfl⟩
  |some j=>
   rw[hmx] at hf;obtain⟨v,hv⟩:=oV hmx;obtain⟨y,h1,_,h3,_⟩:=Zq ho (j:=j) (k:=fK x) (e:= .val<|F v) (by simp[hv]);simp only[Rx,h1,ZM] at hf;refine⟨.tuple #[y.val,.bool true],?_,⟨#[y.val,.bool true],rfl,?_⟩,rfl⟩
   ·simp[execOp,em,Instr.lookup,F0<|Ym hT,run_getObj_map hr,hc,hf]
   ·have:mlk l x=some v:=by simp[mlk,hmx,hv]
    rw[this];exact⟨_,_,rfl,h3,_,_,rfl,rfl,rfl⟩
end
section
variable[D:DR]
variable{P:Program}{w0:Ae P}{H0:HV}{N:Nat}{Q:Exit->Act->World->Prop}{Γ Al:Ctx}{d:Option Tmp}{ty:TypeId}{pos:String}{af:Array Edge}{g:Option (Nat×Bool)}
def ap2{α:Type}{f:α->Ty}{l:A3 α}{ops:B6 Oper}{o:Oper}{t dd:Nat}{E:Ah}{sz:Nat}{s:AN}(ht:look Γ t=some (.buf E sz<|lT f l))(h:B1 P ((t,.val<|TL f l)::BF t Γ) o s)(hg:o.guard=none)(hd:o.dst=some dd)(hN:dd<N)(hl:s.L3 dd=false):Pn P N ops Γ o t dd s:=λDs BE=>by
 intro w0 H0 a w H BA K Q k;simp only[Region.wanted,hg,if_true];have Hf:=BE _<|B5 ht
 obtain⟨xs,hr,ho,hn⟩:=BA.holds _ Hf;have Co:=df (τ:=TL f l) BA Hf (λb=>(Ab a t).ownBlock=some b) (λb h=>⟨h,(hn b h).2⟩) (QT (a:=a) ⟨xs,hr,ho,hn⟩ (λr o h=>by
  by_cases e:(Ab a t).ownBlock=some r
  ·rw[(hn r e).1] at h;cases h
  ·simp[e,h]) (λb hb _ o hbo=>by simp[hb,hbo]))
 refine h w0 H0 N a w _ (Co.weaken ?_) K Q λv w' H'' he hv hbb=>?_
 ·intro q hq;rcases Ai.1 hq with e|hq
  ·subst e;exact Dq
  ·exact Bq _<|O9 (BE q (DI q hq).1) (DI q hq).2
 ·rw[hd];exact k _ _ _<|Rk (Co.weaken λq hq=>Bq _<|MC q hq) he hN PA (YR hl) hv hbb
end
section
variable[D:DR]
def ck(b:Bool)(p:Prop):Prop:=match b with
 |true=>p
 |false=>False
def ck_{b:Bool}{p:Prop}(h:ck b p):b=true/\p:=by
 cases b
 ·exact h.elim
 ·exact⟨rfl,h⟩
def lkV(o:A9 AN)(K:Ty->Prop):Prop:=match o with
 |some (.val τ)=>K τ
 |_=>False
def sB{o:A9 AN}{K:Ty->Prop}(h:lkV o K):∃τ,o=some (.val τ)/\K τ:=by
 unfold lkV at h;split at h
 ·exact⟨_,rfl,h⟩
 ·exact h.elim
def K7(Γ:Ctx):A3 Nat->A9 Ctx
 |[]=>some []
 |t::ts=>match look Γ t,K7 Γ ts with
  |some s,some Al=>some ((t,s)::Al)
  |_,_=>none
def MM{Γ:Ctx}:∀{ts:A3 Nat} {Al:Ctx},K7 Γ ts=some Al->E7 Γ ts Al
 |[],_,h=>by cases h;exact .nil
 |t::ts,Al,h=>by
  unfold K7 at h;split at h
  ·rename_i h1 h2;cases h;exact .cons h1<|MM h2
  ·cases h
end
section
variable[D:DR]
variable{P:Program}{w0:Ae P}{H0:HV}{N:Nat}{ops:Array Oper}{Γ Al Ew:Ctx}{l:List Oper}{d:Nat}{op:Op}{ty:TypeId}{pos:String}{af:Array Edge}{K:Ctx->Prop}{Q:Exit->Act->World->Prop}
variable{s:AN}
structure CK(P:C7)(w0:Ae P)(N:Nat)(ops:B6 Oper)(l:A3 Oper)(Γ:Ctx)(K:Ctx->Prop):Prop where
 w:∃Al,JE P w0 N ops l Γ Al/\K Al
def fr(N d:Nat)(s:AN)(Γ:Ctx):Bool:=Nat.blt d N&&(JT d Γ&& !s.L3 d)
def fo(N d:Nat)(s:AN):Bool:=Nat.blt d N&& !s.L3 d
def fr_{N d:Nat}{Γ:Ctx}(h:fr N d s Γ=true):d<N/\JT d Γ=true/\s.L3 d=false:=by
 simp only[fr,Bx,GW] at h;exact⟨AZ h.1,h.2.1,h.2.2⟩
def fo_{N d:Nat}(h:fo N d s=true):d<N/\s.L3 d=false:=by
 simp only[fo,Bx,GW] at h;exact⟨AZ h.1,h.2⟩
def cP(h:B1 P Γ ⟨some d,op,ty,pos,af,none⟩ s)(r:ck (fr N d s Γ) (CK P w0 N ops l ((d,s)::Γ) K)):CK P w0 N ops (⟨some d,op,ty,pos,af,none⟩::l) Γ K:=by
 obtain⟨hb,Al,h1,h2⟩:=ck_ r;obtain⟨b1,b2,b3⟩:=fr_ hb;exact⟨Al,.cons (Step.pure h rfl rfl b1 b2 b3) h1,h2⟩
def cO(h:B1 P Γ ⟨some d,op,ty,pos,af,none⟩ s)(r:ck (fo N d s) (CK P w0 N ops l ((d,s)::del d Γ) K)):CK P w0 N ops (⟨some d,op,ty,pos,af,none⟩::l) Γ K:=by
 obtain⟨hb,Al,h1,h2⟩:=ck_ r;obtain⟨b1,b3⟩:=fo_ hb;exact⟨Al,.cons (Step.over h rfl rfl b1 b3) h1,h2⟩
def cS{o:Oper}(h:Step P N ops o Γ Ew)(r:CK P w0 N ops l Ew K):CK P w0 N ops (o::l) Γ K:=by
 obtain⟨Al,h1,h2⟩:=r;exact⟨Al,.cons h h1,h2⟩
def cG(h:IK w0 N Γ Ew)(r:CK P w0 N ops l Ew K):CK P w0 N ops l Γ K:=by
 obtain⟨Al,h1,h2⟩:=r;exact⟨Al,.ghost h h1,h2⟩
def cF(ts:A3 Nat)(h:K7 Γ ts=some Ew)(r:K Ew):CK P w0 N ops [] Γ K:=⟨Ew,.fin<|MM h,r⟩
def cY{ts:A3 Nat}(h:E7 Γ ts Ew)(r:K Ew):CK P w0 N ops [] Γ K:=⟨Ew,.fin h,r⟩
def cPr(h:B1 P Γ ⟨some d,op,ty,pos,af,none⟩ s)(hb:fr N d s Γ=true)(r:CK P w0 N ops l ((d,s)::Γ) K):CK P w0 N ops (⟨some d,op,ty,pos,af,none⟩::l) Γ K:=cP h (by rw[hb];exact r)
def aum(m t:Nat):Bool:=Nat.beq (Nat.mod (Nat.div m<|Nat.pow 2 t) 2) 1
def fm(m:Nat):Ctx->A9 Ctx
 |[]=>some []
 |(t,s)::Γ=>match aum m t with
  |true=>match fm m Γ with
   |some Al=>some ((t,s)::Al)
   |none=>none
  |false=>fm m Γ
def fm_{m:Nat}:∀{Γ Al:Ctx},fm m Γ=some Al->∀q∈Al,q∈Γ
 |[],_,h,q,hq=>by cases h;exact hq
 |(t,s)::Γ,Al,h,q,hq=>by
  unfold fm at h;split at h
  ·split at h
   ·rename_i h1;cases h;rcases Ai.1 hq with e|hq
    ·rw[e];simp
    ·exact Bq _<|fm_ h1 q hq
   ·cases h
  ·exact Bq _<|fm_ h q hq
def gm{m:Nat}(h:fm m Γ=some Ew):IK w0 N Γ Ew:=λ_ _ _ H hs=>⟨H,hs.weaken<|fm_ h⟩
def U(m:Nat)(h:fm m Γ=some Ew)(r:K Ew):CK P w0 N ops [] Γ K:=cG (gm h) ⟨Ew,.done,r⟩
def cWm(m:Nat)(h:fm m Γ=some Ew)(r:CK P w0 N ops l Ew K):CK P w0 N ops l Γ K:=cG (gm h) r
def cD(r:K Γ):CK P w0 N ops [] Γ K:=⟨Γ,.done,r⟩
end
section
variable[D:DR]
variable{P:Program}{w0:Ae P}{H0:HV}{N:Nat}{ops:Array Oper}{Γ Al Ew:Ctx}{l:List Oper}{d:Nat}{op:Op}{ty:TypeId}{pos:String}{af:Array Edge}{K:Ctx->Prop}{Q:Exit->Act->World->Prop}
variable{x y:Operand}{t t':Nat}{T T':TypeId}{τ σ:Ty}{k:IntKind}{m n:Int}{b e:Bool}
variable{off:Nat}{L:A3 Ty}{g:A9 (Nat×Bool)}{α:Type}{j dj:Nat}{want:Bool}{Ag:Ctx}{s:AN}
abbrev G(P:C7)(w0:Ae P)(N:Nat)(ops:B6 Oper)(l:A3 Oper)(Γ:Ctx)(K:Ctx->Prop)(d:Nat)(s:AN):Prop:=ck (fr N d s Γ)<|CK P w0 N ops l ((d,s)::Γ) K
def lkT(o:A9 AN)(K:A3 Ty->Prop):Prop:=match o with
 |some (.LF l)=>K l
 |_=>False
def acC{o:A9 AN}{K:A3 Ty->Prop}(h:lkT o K):∃l,o=some (.LF l)/\K l:=by
 unfold lkT at h;split at h
 ·exact⟨_,rfl,h⟩
 ·exact h.elim
def lkO{α:Type}(o:A9 α)(K:α->Prop):Prop:=match o with
 |some x=>K x
 |_=>False
def arz{o:A9 α}{K:α->Prop}(h:lkO o K):∃x,o=some x/\K x:=by
 unfold lkO at h;split at h
 ·exact⟨_,rfl,h⟩
 ·exact h.elim
def cM(r:lkV (look Γ t) λτ=>G P w0 N ops l Γ K d<| .val τ):CK P w0 N ops (⟨some d,.move<| .tmp t,ty,pos,af,none⟩::l) Γ K:=by
 obtain⟨τ,h1,h2⟩:=sB r;exact cP (pX<| .t h1) h2
def cA(r:lkV (look Γ t) λτ=>G P w0 N ops l Γ K d<| .val τ):CK P w0 N ops (⟨some d,.assign<| .tmp t,ty,pos,af,none⟩::l) Γ K:=by
 obtain⟨τ,h1,h2⟩:=sB r;exact cP (BG<| .t h1) h2
def cI(r:G P w0 N ops l Γ K d (.val<|TI k n)):CK P w0 N ops (⟨some d,.assign<| .const<| .int k n,ty,pos,af,none⟩::l) Γ K:=cP (BG .int) r
def cB(r:G P w0 N ops l Γ K d (.val<|Ay b)):CK P w0 N ops (⟨some d,.assign<| .const<| .bool b,ty,pos,af,none⟩::l) Γ K:=cP (BG .bool) r
def cN(r:G P w0 N ops l Γ K d (.val<|TI k n)):CK P w0 N ops (⟨some d,.move<| .const<| .int k n,ty,pos,af,none⟩::l) Γ K:=cP (pX .int) r
def cX(r:lkV (look Γ t) λτ=>G P w0 N ops l Γ K d<| .own T τ):CK P w0 N ops (⟨some d,.box T<| .tmp t,ty,pos,af,none⟩::l) Γ K:=by
 obtain⟨τ,h1,h2⟩:=sB r;exact cP (aoU<| .t h1) h2
def cE{i:Nat}(r:lkT (look Γ t) λL=>lkO L[i]? λτ=>G P w0 N ops l Γ K d<| .val τ):CK P w0 N ops (⟨some d,.extract (.tmp t) i,ty,pos,af,none⟩::l) Γ K:=by
 obtain⟨L,h1,h2⟩:=acC r;obtain⟨τ,h3,h4⟩:=arz h2;exact cP (Hl h1 h3) h4
def cZ(r:lkT (look Γ t) λL=>G P w0 N ops l Γ K d<| .LF L):CK P w0 N ops (⟨some d,.move<| .tmp t,ty,pos,af,none⟩::l) Γ K:=by
 obtain⟨L,h1,h2⟩:=acC r;exact cP (P8 h1) h2
def cQ(r:G P w0 N ops l Γ K d (.same t)):CK P w0 N ops (⟨some d,.move<| .tmp t,ty,pos,af,none⟩::l) Γ K:=cP Dc r
def cU(h:look Γ t=some (.own T' τ))(hT:Bm P T τ.n τ.agg=true)(r:G P w0 N ops l Γ K d (.val τ)):CK P w0 N ops (⟨some d,.load T<| .tmp t,ty,pos,af,none⟩::l) Γ K:=cP (Ar h hT) r
def cR(h:look Γ t=some (.val<|JX τ))(hT:Bm P T τ.n τ.agg=true)(r:G P w0 N ops l Γ K d (.val τ)):CK P w0 N ops (⟨some d,.load T<| .tmp t,ty,pos,af,none⟩::l) Γ K:=cP (BX (.t h) hT) r
def bG(h0:(look Γ t,Bm P T τ.n τ.agg)=(some<| .val<|JX τ,true))(r:G P w0 N ops l Γ K d (.val τ)):CK P w0 N ops (⟨some d,.load T<| .tmp t,ty,pos,af,none⟩::l) Γ K:=cR (congrArg (·.1) h0) (congrArg (·.2) h0) r
def lk2(Γ:Ctx)(t:Nat):A9 (Nat×Ty):=match look Γ t with
 |some (.ptr t' off)=>match look Γ t' with
  |some (.own _ τ)=>some (off,τ)
  |_=>none
 |_=>none
def asA{Γ:Ctx}{t:Nat}{τ:Ty}(h:lk2 Γ t=some (off,τ)):∃t' T,look Γ t=some (.ptr t' off)/\look Γ t'=some (.own T τ):=by
 unfold lk2 at h;split at h
 ·rename_i h1;split at h
  ·rename_i h2;cases h;exact⟨_,_,h1,h2⟩
  ·cases h
 ·cases h
def pick(L:A3 Ty)(i off:Nat):A9 Ty:=match Nat.beq (CH<|L.take i) off with
 |true=>L[i]?
 |false=>none
def rH{i:Nat}{σ:Ty}(h:pick L i off=some σ):BN (DG L) off σ:=by
 unfold pick at h;split at h
 ·rename_i e;exact .agg h<|EG e
 ·cases h
def oP{d:A9 Tmp}(i:Nat)(h:lk2 Γ t=some (off,DG L))(h1:pick L i off=some σ)(hT:Bm P T σ.n σ.agg=true):B1 P Γ ⟨d,.load T<| .tmp t,ty,pos,af,g⟩ (.val σ):=by
 obtain⟨t',T',k1,k2⟩:=asA h;exact FU k1 k2 (rH h1) hT
def bJ{d:A9 Tmp}(i:Nat)(h0:(lk2 Γ t,pick L i off)=(some (off,DG L),some σ))(hT:Bm P T σ.n σ.agg=true):B1 P Γ ⟨d,.load T<| .tmp t,ty,pos,af,g⟩ (.val σ):=oP i (congrArg (·.1) h0) (congrArg (·.2) h0) hT
def cV(i:Nat)(h:lk2 Γ t=some (off,DG L))(h1:pick L i off=some σ)(hT:Bm P T σ.n σ.agg=true)(r:G P w0 N ops l Γ K d (.val σ)):CK P w0 N ops (⟨some d,.load T<| .tmp t,ty,pos,af,none⟩::l) Γ K:=cP (oP i h h1 hT) r
def cK{k':Nat}(h:look Γ t=some (.own T' τ))(hf:Ga P T k' off=true)(r:G P w0 N ops l Γ K d (.ptr t off)):CK P w0 N ops (⟨some d,.fieldAddr T (.tmp t) k',ty,pos,af,none⟩::l) Γ K:=cP (Fs h hf) r
def cJ{f:α->Ty}{L:A3 α}(hT:Dx P T=true)(h:look Γ t=some (.val<|TL f L))(r:G P w0 N ops l Γ K d (.val<|TI .i64 L.length)):CK P w0 N ops (⟨some d,.call ⟨.builtin .len,#[.tmp t],#[T]⟩,ty,pos,af,none⟩::l) Γ K:=cP (J3 hT<| .t h) r
def cT(h:Dk P T τ)(r:G P w0 N ops l Γ K d (.own T τ)):CK P w0 N ops (⟨some d,.alloc T,ty,pos,af,none⟩::l) Γ K:=cP (LO h) r
def cH{r':Int}(h:look Γ t=some (.val<|TI .i64 m))(h1:AG (m+n)=some r')(r:G P w0 N ops l Γ K d (.val<|TI .i64 r')):CK P w0 N ops (⟨some d,.binOp .add T (.tmp t) (.const<| .int .i64 n) T',ty,pos,af,none⟩::l) Γ K:=cP (CY (.t h) .int h1) r
def cL(h:look Γ t=some (.val<|TI k m))(h':look Γ t'=some (.val<|TI k n))(r:G P w0 N ops l Γ K d (.val<|Ay<|decide<|m<n)):CK P w0 N ops (⟨some d,.binOp .lss T (.tmp t) (.tmp t') T',ty,pos,af,none⟩::l) Γ K:=cP (Ci (.t h)<| .t h') r
def aV(h0:(look Γ t,look Γ t')=(some<| .val<|TI k m,some<| .val<|TI k n))(r:G P w0 N ops l Γ K d (.val<|Ay<|decide<|m<n)):CK P w0 N ops (⟨some d,.binOp .lss T (.tmp t) (.tmp t') T',ty,pos,af,none⟩::l) Γ K:=cL (congrArg (·.1) h0) (congrArg (·.2) h0) r
def oX{f:α->Ty}{L:A3 α}{d:A9 Tmp}{i:Int}{sz:Nat}{y:α}(hT:G7 P T sz=true)(hf:∀z,(f z).n=sz)(hx:look Γ t=some (.val<|TL f L))(hi:look Γ t'=some (.val<|TI k i))(h:AA L i=some y):B1 P Γ ⟨d,.indexAddr T (.tmp t)<| .tmp t',ty,pos,af,g⟩ (.val<|JX<|f y):=EX hT hf (.t hx) (.t hi) h
def Pk(Γ:Ctx):A3 CB->A9 (A3 Ty)
 |[]=>some []
 | .tmp t::xs=>match look Γ t,Pk Γ xs with
  |some (.val τ),some l=>some (τ::l)
  |_,_=>none
 | .const (.int k n)::xs=>match Pk Γ xs with
  |some l=>some (TI k n::l)
  |_=>none
 | .const (.bool b)::xs=>match Pk Γ xs with
  |some l=>some (Ay b::l)
  |_=>none
 |_=>none
def aR{Γ:Ctx}:∀{xs:A3 CB} {l:A3 Ty},Pk Γ xs=some l->AO Γ xs l
 |[],_,h=>by cases h;exact .nil
 | .tmp t::xs,l,h=>by
  unfold Pk at h;split at h
  ·rename_i h1 h2;cases h;exact .cons (.t h1)<|aR h2
  ·cases h
 | .const (.int k n)::xs,l,h=>by
  unfold Pk at h;split at h
  ·rename_i h2;cases h;exact .cons .int<|aR h2
  ·cases h
 | .const (.bool b)::xs,l,h=>by
  unfold Pk at h;split at h
  ·rename_i h2;cases h;exact .cons .bool<|aR h2
  ·cases h
def oC{f:FuncId}{xs:A3 CB}{F4:B6 Ah}{args:A3 Ty}{Bb:Res}{d:A9 Tmp}(hf:E0 P f args Bb)(ha:Pk Γ xs=some args):B1 P Γ ⟨d,.call ⟨.value<| .func f,xs.toArray,F4⟩,ty,pos,af,g⟩ (rz Bb):=Fh hf<|aR ha
def cC{f:FuncId}{xs:A3 CB}{F4:B6 Ah}{args:A3 Ty}{Bb:Res}(hf:E0 P f args Bb)(ha:Pk Γ xs=some args)(r:G P w0 N ops l Γ K d (rz Bb)):CK P w0 N ops (⟨some d,.call ⟨.value<| .func f,xs.toArray,F4⟩,ty,pos,af,none⟩::l) Γ K:=cP (oC hf ha) r
def gV(hj:(ops[j]?).bind (·.dst)=some dj)(hl:look Γ dj=some (.val<|Ay b))(ho:JY Γ (gd b want) Ag)(h:gd b want=true->B1 P Ag ⟨some d,op,ty,pos,af,some (j,want)⟩ s)(r:ck (Nat.blt dj N&&fr N d s Γ) (CK P w0 N ops l ((d,.opt (gd b want) s)::Γ) K)):CK P w0 N ops (⟨some d,op,ty,pos,af,some (j,want)⟩::l) Γ K:=by
 obtain⟨hb,Al,h1,h2⟩:=ck_ r;rw[Bx] at hb;obtain⟨b1,b2,b3⟩:=fr_ hb.2;exact⟨Al,.cons (Step.guarded (.v rfl hj hl<|AZ hb.1) (opO ho h) rfl b1 b2 b3) h1,h2⟩
def aa(h0:((ops[j]?).bind (·.dst),look Γ dj)=(some dj,some<| .val<|Ay b))(ho:JY Γ (gd b want) Ag)(h:gd b want=true->B1 P Ag ⟨some d,op,ty,pos,af,some (j,want)⟩ s)(r:ck (Nat.blt dj N&&fr N d s Γ) (CK P w0 N ops l ((d,.opt (gd b want) s)::Γ) K)):CK P w0 N ops (⟨some d,op,ty,pos,af,some (j,want)⟩::l) Γ K:=gV (congrArg (·.1) h0) (congrArg (·.2) h0) ho h r
def gO(hj:(ops[j]?).bind (·.dst)=some dj)(hl:look Γ dj=some (.opt e<| .val<|Ay b))(ho:JY Γ (e&&gd b want) Ag)(h:(e&&gd b want)=true->B1 P Ag ⟨some d,op,ty,pos,af,some (j,want)⟩ s)(r:ck (Nat.blt dj N&&fr N d s Γ) (CK P w0 N ops l ((d,.opt (e&&gd b want) s)::Γ) K)):CK P w0 N ops (⟨some d,op,ty,pos,af,some (j,want)⟩::l) Γ K:=by
 obtain⟨hb,Al,h1,h2⟩:=ck_ r;rw[Bx] at hb;obtain⟨b1,b2,b3⟩:=fr_ hb.2;exact⟨Al,.cons (Step.guarded (.o rfl hj hl<|AZ hb.1) (opO ho h) rfl b1 b2 b3) h1,h2⟩
end
section
variable[D:DR]
variable{P:Program}{w0:Ae P}{H0:HV}{N:Nat}{ops:Array Oper}{Γ Al Ew:Ctx}{l:List Oper}{d:Nat}{op:Op}{ty:TypeId}{pos:String}{af:Array Edge}{K:Ctx->Prop}{Q:Exit->Act->World->Prop}
def rS{id:Nat}{y:Code}(r:ck (JV l) (CK P w0 N l.toArray l Γ λAl=>Goal P w0 H0 N y Q Al)):Goal P w0 H0 N (.seq (.region id l.toArray false) y) Q Γ:=by
 obtain⟨As,Al,h1,h2⟩:=ck_ r;exact A8<|yl As h1<|A7 h2
def rK{id:Nat}(r:ck (JV l) (CK P w0 N l.toArray l Γ λAl=>ES w0 H0 N (Q .normal) Al)):Goal P w0 H0 N (.region id l.toArray false) Q Γ:=by
 obtain⟨As,Al,h1,h2⟩:=ck_ r;exact yl As h1 h2
structure PK(P:C7)(N:Nat)(ops:B6 Oper)(Γ:Ctx)(acc:A3 Ctx)(l:A3 Oper)(K:A3 (A3 Nat)->A3 Bool->A3 Ctx->Prop):Prop where
 w:∃Df De S,Ec P N ops Γ acc l Df De S/\K Df De S
end
section
variable[D:DR]
variable{P:Program}{w0:Ae P}{H0:HV}{N:Nat}{ops:Array Oper}{Γ Al Ew:Ctx}{l:List Oper}{d:Nat}{op:Op}{ty:TypeId}{pos:String}{af:Array Edge}{K:Ctx->Prop}{Q:Exit->Act->World->Prop}
variable{acc:List Ctx}{ts:List Nat}{Ag:Ctx}{s s' su:AN}{t u:Nat}{o:Oper}{R:List (List Nat)->List Bool->List Ctx->Prop}
def dN(r:R [] [] acc):PK P N ops Γ acc [] R:=⟨_,_,_,.nil,r⟩
def dP(ts:A3 Nat)(hs:K7 (acc.flatten++Γ) ts=some Ag)(h:B1 P Ag ⟨some d,op,ty,pos,af,none⟩ s)(r:ck (Nat.blt d N) (PK P N ops Γ ([(d,s)]::acc) l λn p S=>R (ts::n) (true::p) S)):PK P N ops Γ acc (⟨some d,op,ty,pos,af,none⟩::l) R:=by
 obtain⟨hb,n,p,S,h1,h2⟩:=ck_ r;exact⟨_,_,S,.cons (MM hs) h rfl rfl (AZ hb) h1,h2⟩
def dV{j dj:Nat}{want b:Bool}{Γj:Ctx}(ts:A3 Nat)(hs:K7 (acc.flatten++Γ) ts=some Ag)(hj:(ops[j]?).bind (·.dst)=some dj)(hl:look Ag dj=some (.val<|Ay b))(ho:JY Ag (gd b want) Γj)(h:gd b want=true->B1 P Γj ⟨some d,op,ty,pos,af,some (j,want)⟩ s)(r:ck (Nat.blt dj N&&Nat.blt d N) (PK P N ops Γ ([(d,.opt (gd b want) s)]::acc) l λn p S=>R (ts::n) (true::p) S)):PK P N ops Γ acc (⟨some d,op,ty,pos,af,some (j,want)⟩::l) R:=by
 obtain⟨hb,n,p,S,h1,h2⟩:=ck_ r;rw[Bx] at hb;exact⟨_,_,S,.guarded (MM hs) (.v rfl hj hl<|AZ hb.1) (opO ho h) rfl (AZ hb.2) h1,h2⟩
def dO{j dj:Nat}{want b e:Bool}{Γj:Ctx}(ts:A3 Nat)(hs:K7 (acc.flatten++Γ) ts=some Ag)(hj:(ops[j]?).bind (·.dst)=some dj)(hl:look Ag dj=some (.opt e<| .val<|Ay b))(ho:JY Ag (e&&gd b want) Γj)(h:(e&&gd b want)=true->B1 P Γj ⟨some d,op,ty,pos,af,some (j,want)⟩ s)(r:ck (Nat.blt dj N&&Nat.blt d N) (PK P N ops Γ ([(d,.opt (e&&gd b want) s)]::acc) l λn p S=>R (ts::n) (true::p) S)):PK P N ops Γ acc (⟨some d,op,ty,pos,af,some (j,want)⟩::l) R:=by
 obtain⟨hb,n,p,S,h1,h2⟩:=ck_ r;rw[Bx] at hb;exact⟨_,_,S,.guarded (MM hs) (.o rfl hj hl<|AZ hb.1) (opO ho h) rfl (AZ hb.2) h1,h2⟩
def dS(ts:A3 Nat)(hs:K7 (acc.flatten++Γ) ts=some Ag)(h:Pl P N ops Ag o t s)(r:PK P N ops Γ ([(t,s)]::acc) l λn p S=>R (ts::n) (false::p) S):PK P N ops Γ acc (o::l) R:=by
 obtain⟨n,p,S,h1,h2⟩:=r;exact⟨_,_,S,.store (MM hs) h h1,h2⟩
def dG(gs ts:A3 Nat)(hs:K7 (acc.flatten++Γ) ts=some Ag)(h:Pn P N ops Ag o t d s)(r:PK P N ops Γ (((d,s)::(t,.gone)::gs.map λu=>(u,.gone))::acc) l λn p S=>R (ts::n) (true::p) S):PK P N ops Γ acc (o::l) R:=by
 obtain⟨n,p,S,h1,h2⟩:=r;exact⟨_,_,S,.aug gs (MM hs) h h1,h2⟩
def dT(ts:A3 Nat)(hs:K7 (acc.flatten++Γ) ts=some Ag)(h:jk P N ops Ag o t s' d s)(r:PK P N ops Γ ([(d,s),(t,s')]::acc) l λn p S=>R (ts::n) (true::p) S):PK P N ops Γ acc (o::l) R:=by
 obtain⟨n,p,S,h1,h2⟩:=r;exact⟨_,_,S,.two (MM hs) h h1,h2⟩
end
section
variable[D:DR]
variable{P:Program}{w0:Ae P}{H0:HV}{N:Nat}{ops:Array Oper}{Γ Al Ew:Ctx}{l:List Oper}{d:Nat}{op:Op}{ty:TypeId}{pos:String}{af:Array Edge}{K:Ctx->Prop}{Q:Exit->Act->World->Prop}
def XF(ops:A3 Oper):A3 (A3 Nat):=ops.foldl (λav o=>av++[(List.range av.length).filter λj=>(S5 o).any λe=>e.on==j||(av.getD e.on []).contains j]) []
def DE(P:C7)(w0:Ae P)(N:Nat)(ops:A3 Oper)(k:Nat)(Γ:Ctx)(K:Ctx->Prop)(Df:A3 (A3 Nat))(De:A3 Bool)(S:A3 Ctx):Prop:=
 ∃ts G3,(Nf ops.toArray (XF ops)&&Sj k (S.reverse.map KV) Df De (ON Γ) (XF ops)&&QS ops.toArray k (XF ops))=true/\K7 (S.flatten++Γ) ts=some G3/\CK P w0 N ops.toArray (ops.drop k) G3 K
def dE{Df:A3 (A3 Nat)}{De:A3 Bool}{S:A3 Ctx}{k:Nat}{G3:Ctx}(ts:A3 Nat)(hs:K7 (S.flatten++Γ) ts=some G3)(hc:(Nf l.toArray (XF l)&&Sj k (S.reverse.map KV) Df De (ON Γ) (XF l)&&QS l.toArray k (XF l))=true)(r:CK P w0 N l.toArray (l.drop k) G3 K):DE P w0 N l k Γ K Df De S:=⟨ts,G3,hc,hs,r⟩
def gD{id:Nat}(k:Nat)(hm:P.follows .mixedOrders=true)(r:ck (JV l) (PK P N l.toArray Γ [] (l.take k)<|DE P w0 N l k Γ λAl=>ES w0 H0 N (Q .normal) Al)):Goal P w0 H0 N (.region id l.toArray true) Q Γ:=by
 obtain⟨As,n,p,S,h1,ts,G3,hc,hs,Al,h2,h3⟩:=ck_ r;exact ap7 (k:=k) As _ _ _ _ _ hm hc h1 rfl rfl (MM hs) h2 h3
def gE{id:Nat}{y:Code}(k:Nat)(hm:P.follows .mixedOrders=true)(r:ck (JV l) (PK P N l.toArray Γ [] (l.take k)<|DE P w0 N l k Γ λAl=>Goal P w0 H0 N y Q Al)):Goal P w0 H0 N (.seq (.region id l.toArray true) y) Q Γ:=
 A8 (gD k hm (by
  obtain⟨As,r⟩:=ck_ r;rw[As];obtain⟨n,p,S,h1,ts,G3,hc,hs,Al,h2,h3⟩:=r;exact⟨n,p,S,h1,ts,G3,hc,hs,Al,h2,A7 h3⟩))
end
section
variable[D:DR]
variable{P:Program}{w0:Ae P}{H0:HV}{N:Nat}{ops:Array Oper}{Γ Al Ew:Ctx}{l:List Oper}{d:Nat}{op:Op}{ty:TypeId}{pos:String}{af:Array Edge}{K:Ctx->Prop}{Q:Exit->Act->World->Prop}
variable{x y:Operand}{t t':Nat}{T T':TypeId}{τ σ:Ty}{k:IntKind}{m n:Int}{b e:Bool}{g:Option (Nat×Bool)}{dd:Option Tmp}
variable{s:AN}{sz:Nat}{ps:A3 (Nat×CB)}{l':A3 Ty}
def aT(h:look Γ t=some (.val τ)):Arg Γ (.tmp t) τ:= .t h
def aI:Arg Γ (.const<| .int k n) (TI k n):= .int
def aB:Arg Γ (.const<| .bool b) (Ay b):= .bool
def sS(ts:A3 Nat)(h:K7 Γ ts=some Al):E7 Γ ts Al:=MM h
def oM(h:look Γ t=some (.val τ)):B1 P Γ ⟨dd,.move<| .tmp t,ty,pos,af,g⟩ (.val τ):=pX<| .t h
def oA(h:look Γ t=some (.val τ)):B1 P Γ ⟨dd,.assign<| .tmp t,ty,pos,af,g⟩ (.val τ):=BG<| .t h
def iO{i:Int}{len:Nat}(h:look Γ t=some (.own T' τ))(hT:LB P T len sz=true)(hc:(decide (0<=i)&&decide (i<(len:Int)))=true):B1 P Γ ⟨dd,.indexAddr T (.tmp t)<| .const<| .int k i,ty,pos,af,g⟩ (.ptr t<|i.toNat*sz):=by
 rw[Bx,Tu,Tu] at hc;exact vA h hT .int hc.1 hc.2
def Wl(Γ:Ctx):A3 (Nat×CB)->A3 Ty->A9 (A3 Ty)
 |[],l=>some l
 |(i,x)::ps,l=>match Pk Γ [x],l[i]? with
  |some [σ],some τ=>match Nat.beq σ.n τ.n with
   |true=>Wl Γ ps<|l.set i σ
   |false=>none
  |_,_=>none
def pV{Γ:Ctx}:∀{ps:A3 (Nat×CB)} {l l':A3 Ty},Wl Γ ps l=some l'->Dv P Γ ps l l'
 |[],_,_,h=>by cases h;exact .nil
 |(i,x)::ps,l,l',h=>by
  unfold Wl at h;split at h
  ·rename_i σ τ h1 h2;split at h
   ·rename_i h3;cases aR h1 with
    |cons ha _=>exact .cons ha h2 (EG h3)<|pV h
   ·cases h
  ·cases h
def bB{l:A3 Ty}(hz:Dk P T (DG l))(hT:ND P T (FQ l)=true)(hp:Wl Γ ps l=some l'):B1 P Γ ⟨dd,.build T ps.toArray,ty,pos,af,g⟩ (.val<|DG l'):=fQ hz hT<|pV hp
def bA{n:Nat}{l:A3 Ty}(hz:Dk P T (DG l))(hT:LB P T n sz=true)(hu:(l.all λτ=>Nat.beq τ.n sz)=true)(hp:Wl Γ ps l=some l'):B1 P Γ ⟨dd,.build T ps.toArray,ty,pos,af,g⟩ (.val<|DG l'):=
 YI hz hT (λτ h=>EG<|DZ.1 hu τ h) (pV hp)
def bS{E:Ah}{n:Nat}(hz:Dk P E τ)(hT:Gj P T E sz=true)(hp:Wl Γ ps (List.replicate n τ)=some l')(hc:(Nat.beq τ.n sz&&(Nat.blt 0 (n*sz)&&(Nat.ble (n*sz) 16777216&&Nat.beq l'.length n)))=true):B1 P Γ ⟨dd,.buildSlice T n ps.toArray,ty,pos,af,g⟩ (.val<|FT l'):=by
 simp only[Bx] at hc;exact lQ hz hT (EG hc.1) hc.2.1 hc.2.2.1 (pV hp)<|EG hc.2.2.2
def cs(ht:look Γ t=some (.own T' τ))(hx:look Γ t'=some (.val σ))(hn:σ.n=τ.n)(hT:Bm P T σ.n σ.agg=true)(r:CK P w0 N ops l ((t,.own T' σ)::BF t Γ) K):CK P w0 N ops (⟨none,.store T (.tmp t)<| .tmp t',ty,pos,af,none⟩::l) Γ K:=cS (afK ht (.t hx) hn hT) r
def aS(h0:(look Γ t,look Γ t',σ.n)=(some<| .own T' τ,some<| .val σ,τ.n))(hT:Bm P T σ.n σ.agg=true)(r:CK P w0 N ops l ((t,.own T' σ)::BF t Γ) K):CK P w0 N ops (⟨none,.store T (.tmp t)<| .tmp t',ty,pos,af,none⟩::l) Γ K:=cs (congrArg (·.1) h0) (congrArg (·.2.1) h0) (congrArg (·.2.2) h0) hT r
def ds(ht:look Γ t=some (.own T' τ))(hx:look Γ t'=some (.val σ))(hn:σ.n=τ.n)(hT:Bm P T σ.n σ.agg=true):Pl P N ops Γ ⟨none,.store T (.tmp t)<| .tmp t',ty,pos,af,none⟩ t (.own T' σ):=aex ht (.t hx) hn hT
def a_(h0:(look Γ t,look Γ t',σ.n)=(some<| .own T' τ,some<| .val σ,τ.n))(hT:Bm P T σ.n σ.agg=true):Pl P N ops Γ ⟨none,.store T (.tmp t)<| .tmp t',ty,pos,af,none⟩ t (.own T' σ):=ds (congrArg (·.1) h0) (congrArg (·.2.1) h0) (congrArg (·.2.2) h0) hT
def ov(t:Nat)(h:look Γ t=some s)(r:JY Γ e Al):JY Γ e ((t,s)::Al):= .v h r
def oo(t:Nat){c:Bool}(h:look Γ t=some (.opt c s))(k:e=true->c=true)(r:JY Γ e Al):JY Γ e ((t,s)::Al):= .o h k r
def on:JY Γ e []:= .nil
def aO(t:Nat)(h:look Γ t=some s):JY Γ e [(t,s)]:= .v h .nil
def an(t:Nat)(h:look Γ t=some (.opt e s)):JY Γ e [(t,s)]:= .o h id .nil
end
section
variable[D:DR]
variable{P:Program}{w0:Ae P}{H0:HV}{N:Nat}{ops:Array Oper}{Γ Al Ew:Ctx}{l:List Oper}{d:Nat}{op:Op}{ty:TypeId}{pos:String}{af:Array Edge}{K:Ctx->Prop}{Q:Exit->Act->World->Prop}
variable{α β γ δ ε ζ ρ:Type}{r:ρ}{e:Option α}{f:α->Option β}{g:α->β->Option γ}{h:α->β->γ->Option δ}{i:α->β->γ->δ->Option ε}{j:α->β->γ->δ->ε->Option ζ}
def b2{K:α->β->A9 ρ}(q:(bd e λx=>bd (f x)<|K x)=some r):∃x,e=some x/\∃y,f x=some y/\K x y=some r:=by
 obtain⟨x,h1,q⟩:=Ax q;obtain⟨y,h2,q⟩:=Ax q;exact⟨x,h1,y,h2,q⟩
def b3{K:α->β->γ->A9 ρ}(q:(bd e λx=>bd (f x) λy=>bd (g x y)<|K x y)=some r):∃x,e=some x/\∃y,f x=some y/\∃z,g x y=some z/\K x y z=some r:=by
 obtain⟨x,h1,y,h2,q⟩:=b2 q;obtain⟨z,h3,q⟩:=Ax q;exact⟨x,h1,y,h2,z,h3,q⟩
def b4{K:α->β->γ->δ->A9 ρ}(q:(bd e λx=>bd (f x) λy=>bd (g x y) λz=>bd (h x y z)<|K x y z)=some r):∃x,e=some x/\∃y,f x=some y/\∃z,g x y=some z/\∃u,h x y z=some u/\K x y z u=some r:=by
 obtain⟨x,h1,y,h2,z,h3,q⟩:=b3 q;obtain⟨u,h4,q⟩:=Ax q;exact⟨x,h1,y,h2,z,h3,u,h4,q⟩
def b5{K:α->β->γ->δ->ε->A9 ρ}(q:(bd e λx=>bd (f x) λy=>bd (g x y) λz=>bd (h x y z) λu=>bd (i x y z u)<|K x y z u)=some r):∃x,e=some x/\∃y,f x=some y/\∃z,g x y=some z/\∃u,h x y z=some u/\∃v,i x y z u=some v/\K x y z u v=some r:=by
 obtain⟨x,h1,y,h2,z,h3,u,h4,q⟩:=b4 q;obtain⟨v,h5,q⟩:=Ax q;exact⟨x,h1,y,h2,z,h3,u,h4,v,h5,q⟩
def b6{K:α->β->γ->δ->ε->ζ->A9 ρ}(q:(bd e λx=>bd (f x) λy=>bd (g x y) λz=>bd (h x y z) λu=>bd (i x y z u) λv=>bd (j x y z u v)<|K x y z u v)=some r):∃x,e=some x/\∃y,f x=some y/\∃z,g x y=some z/\∃u,h x y z=some u/\∃v,i x y z u=some v/\∃w,j x y z u v=some w/\K x y z u v w=some r:=by
 obtain⟨x,h1,y,h2,z,h3,u,h4,v,h5,q⟩:=b5 q;obtain⟨w,h6,q⟩:=Ax q;exact⟨x,h1,y,h2,z,h3,u,h4,v,h5,w,h6,q⟩
end
section
variable[D:DR]
variable{P:Program}{w0:Ae P}{H0:HV}{N:Nat}{ops:Array Oper}{Γ Al Ew:Ctx}{l:List Oper}{d:Nat}{op:Op}{ty:TypeId}{pos:String}{af:Array Edge}{K:Ctx->Prop}{Q:Exit->Act->World->Prop}
variable{α β γ δ ε ζ ρ:Type}{r:ρ}{e:Option α}{f:α->Option β}{g:α->β->Option γ}{h:α->β->γ->Option δ}{i:α->β->γ->δ->Option ε}{j:α->β->γ->δ->ε->Option ζ}
variable{P:Program}{w0:Ae P}{H0:HV}{N:Nat}{c:Code}{Q:Exit->Act->World->Prop}{Γ:Ctx}
def AD{e:A9 α}{K:α->A9 ρ}(q:bd e K=some r)(k:∀x,e=some x->K x=some r->Goal P w0 H0 N c Q Γ):Goal P w0 H0 N c Q Γ:=by
 obtain⟨x,h,q⟩:=Ax q;exact k x h q
def BO{b:Bool}{d:α}{e:A9 α}{K:α->A9 ρ}(q:Aq b d e K=some r)(k:∀x,(b=true->e=some x)->K x=some r->Goal P w0 H0 N c Q Γ):Goal P w0 H0 N c Q Γ:=by
 obtain⟨x,h,q⟩:=LP q;exact k x h q
def gcI{b:Bool}{K:A9 ρ}(q:gC b K=some r)(k:b=true->K=some r->Goal P w0 H0 N c Q Γ):Goal P w0 H0 N c Q Γ:=k (WM q).1 (WM q).2
def BK{K:α->β->A9 ρ}(q:(bd e λx=>bd (f x)<|K x)=some r)(k:∀x,e=some x->∀y,f x=some y->K x y=some r->Goal P w0 H0 N c Q Γ):Goal P w0 H0 N c Q Γ:=
 AD q λx h1 q=>AD q λy h2 q=>k x h1 y h2 q
def Cr{K:α->β->γ->A9 ρ}(q:(bd e λx=>bd (f x) λy=>bd (g x y)<|K x y)=some r)(k:∀x,e=some x->∀y,f x=some y->∀z,g x y=some z->K x y z=some r->Goal P w0 H0 N c Q Γ):Goal P w0 H0 N c Q Γ:=
 BK q λx h1 y h2 q=>AD q λz h3 q=>k x h1 y h2 z h3 q
def J2{K:α->β->γ->δ->A9 ρ}(q:(bd e λx=>bd (f x) λy=>bd (g x y) λz=>bd (h x y z)<|K x y z)=some r)(k:∀x,e=some x->∀y,f x=some y->∀z,g x y=some z->∀u,h x y z=some u->K x y z u=some r->Goal P w0 H0 N c Q Γ):Goal P w0 H0 N c Q Γ:=
 Cr q λx h1 y h2 z h3 q=>AD q λu h4 q=>k x h1 y h2 z h3 u h4 q
def Kl{K:α->β->γ->δ->ε->A9 ρ}(q:(bd e λx=>bd (f x) λy=>bd (g x y) λz=>bd (h x y z) λu=>bd (i x y z u)<|K x y z u)=some r)(k:∀x,e=some x->∀y,f x=some y->∀z,g x y=some z->∀u,h x y z=some u->∀v,i x y z u=some v->K x y z u v=some r->Goal P w0 H0 N c Q Γ):Goal P w0 H0 N c Q Γ:=
 J2 q λx h1 y h2 z h3 u h4 q=>AD q λv h5 q=>k x h1 y h2 z h3 u h4 v h5 q
def I6{K:α->β->γ->δ->ε->ζ->A9 ρ}(q:(bd e λx=>bd (f x) λy=>bd (g x y) λz=>bd (h x y z) λu=>bd (i x y z u) λv=>bd (j x y z u v)<|K x y z u v)=some r)(k:∀x,e=some x->∀y,f x=some y->∀z,g x y=some z->∀u,h x y z=some u->∀v,i x y z u=some v->∀w,j x y z u v=some w->K x y z u v w=some r->Goal P w0 H0 N c Q Γ):Goal P w0 H0 N c Q Γ:=
 Kl q λx h1 y h2 z h3 u h4 v h5 q=>AD q λw h6 q=>k x h1 y h2 z h3 u h4 v h5 w h6 q
end
section
variable[D:DR]
variable{P:Program}{w0:Ae P}{H0:HV}{N:Nat}{ops:Array Oper}{Γ Al Ew:Ctx}{l:List Oper}{d:Nat}{op:Op}{ty:TypeId}{pos:String}{af:Array Edge}{K:Ctx->Prop}{Q:Exit->Act->World->Prop}
variable{t:Nat}{x y:Code}{b:Bool}{ρ α:Type}{r:ρ}
def gc{X Y:A9 ρ}(hl:look Γ t=some (.val<|Ay b))(hm:cond b X Y=some r)(hx:b=true->X=some r->Goal P w0 H0 N x Q Γ)(hy:b=false->Y=some r->Goal P w0 H0 N y Q Γ):Goal P w0 H0 N (.cond (.tmp t) x y) Q Γ:=
 UF hl (λh=>hx h<|apg hm h) (λh=>hy h<|aph hm h)
def cm{JG:α->Ctx}{k:α->A9 ρ}{i:α}(hm:k i=some r)(h:K7 Γ ((JG i).map (·.1))=some (JG i)):ES w0 H0 N (λa w=>Mid w0 H0 N JG k r a w) Γ:=arU hm<|MM h
def gl{σ:Type}(Ag:σ->Ctx){n:Nat}{B:(σ->A9 ρ)->σ->A9 ρ}{s0:σ}{c:Code}(hm:lp n B s0=some r)(h0:K7 Γ ((Ag s0).map (·.1))=some (Ag s0))
  (round:∀(k:σ->A9 ρ) (s:σ),B k s=some r->Goal P w0 H0 N c (Exit.then (Mid w0 H0 N Ag k r) Q) (Ag s)):Goal P w0 H0 N (.loop c) Q Γ:=ab7 Ag hm (MM h0) round
end
section
variable[D:DR]
variable{P:Program}{w0:Ae P}{H0:HV}{N:Nat}{ops:Array Oper}{Γ Al Ew:Ctx}{l:List Oper}{d:Nat}{op:Op}{ty:TypeId}{pos:String}{af:Array Edge}{K:Ctx->Prop}{Q:Exit->Act->World->Prop}
variable{f:FuncId}{fn:Func}{t t' T:Nat}{T':TypeId}{τ Gl σ σ':Ty}{Q:Exit->Act->World->Prop}
def AT{c:Code}{args:A3 Ty}{Bb:Res}{N:Nat}(hf:P.funcs[f]? =some fn)(hb:(fn.body,fn.ntmps)=(some c,N))(hc:(GL P f&&Nat.ble args.length N)=true)
  (h:∀{w0 H0},Goal P (Ae.call P w0) H0 N c (Qd P fn (Ae.call P w0) H0 Bb)<|Ha 0 args):E0 P f args Bb:=by
 rw[Bx] at hc;rw[La] at hb;exact agt hf hb.1 hb.2 (F1 hc.2) hc.1 λ_ _=>h
def r1(h:(((w0.X,w0.Iv,w0.ds,w0.rd),fn.results),look Γ t)=(((KA,false,[],none),[.tmp t].toArray),some<| .val τ)):ES w0 H0 N (λa w=>Qd P fn w0 H0 (.vs [τ]) .ret a w) Γ:=by
 simp only[La] at h;exact CG (by simp only[h]) h.1.2<| .tmp h.2 rfl .nil
def Aa{ρ:Type}{r x:ρ}{F:ρ->Ty}(q:some x=some r)(h:(((w0.X,w0.Iv,w0.ds,w0.rd),fn.results),look Γ t)=(((KA,false,[],none),[.tmp t].toArray),some<| .val<|F x)):ES w0 H0 N (λa w=>Qd P fn w0 H0 (.vs [F r]) .ret a w) Γ:=by
 cases q;exact r1 h
def r2(h:(((w0.X,w0.Iv,w0.ds,w0.rd),fn.results),look Γ t,look Γ t')=(((KA,false,[],none),[.tmp t,.tmp t'].toArray),some<| .val τ,some<| .val σ)):ES w0 H0 N (λa w=>Qd P fn w0 H0 (.vs [τ,σ]) .ret a w) Γ:=by
 simp only[La] at h;exact CG (by simp only[h]) h.1.2<| .tmp h.2.1 rfl<| .tmp h.2.2 rfl .nil
def q1(h:(((w0.X,w0.Iv,w0.ds,w0.rd),fn.results),look Γ t)=(((KA,false,[],none),[.cell t T].toArray),some<| .own T' τ))(hT:Bm P T τ.n τ.agg=true):ES w0 H0 N (λa w=>Qd P fn w0 H0 (.vs [τ]) .ret a w) Γ:=by
 simp only[La] at h;exact CG (by simp only[h]) h.1.2<| .cell h.2 (FZ hT) rfl .nil
def CL{ρ:Type}{r x:ρ}{F:ρ->Ty}(q:some x=some r)(h:(((w0.X,w0.Iv,w0.ds,w0.rd),fn.results),look Γ t)=(((KA,false,[],none),[.cell t T].toArray),some<| .own T'<|F x))(hT:Bm P T (F x).n (F x).agg=true):ES w0 H0 N (λa w=>Qd P fn w0 H0 (.vs [F r]) .ret a w) Γ:=by
 cases q;exact q1 h hT
end
section
variable[D:DR]
variable{P:Program}{w0:Ae P}{H0:HV}{N:Nat}{ops:Array Oper}{Γ Al Ew:Ctx}{l:List Oper}{d:Nat}{op:Op}{ty:TypeId}{pos:String}{af:Array Edge}{K:Ctx->Prop}{Q:Exit->Act->World->Prop}
variable{t d' k' off:Nat}{T T' T2 LC:TypeId}{σ:Ty}{L:List Ty}{pos':String}{LD:Array Edge}{acc:List Ctx}{R:List (List Nat)->List Bool->List Ctx->Prop}
def Z6{Γ:Ctx}{t:Nat}{s:AN}:look ((t,s)::Γ) t=some s:=by simp[look]
def py{Γ:Ctx}{d t:Nat}{s s':AN}(h:Nat.beq d t=false)(k:look Γ t=some s'):look ((d,s)::Γ) t=some s':=by
 unfold look;rw[h];exact k
def Bk(i:Nat)(h:look Γ t=some (.own T'<|DG L))(hf:Ga P T k' off=true)(h1:pick L i off=some σ)(hT:Bm P T2 σ.n σ.agg=true)(r:ck (fr N d (.ptr t off) Γ&&(!Nat.beq d t&&fr N d' (.val σ) ((d,.ptr t off)::Γ))) (CK P w0 N ops l ((d',.val σ)::(d,.ptr t off)::Γ) K)):
  CK P w0 N ops (⟨some d,.fieldAddr T (.tmp t) k',ty,pos,af,none⟩::⟨some d',.load T2<| .tmp d,LC,pos',LD,none⟩::l) Γ K:=by
 obtain⟨hb,hk⟩:=ck_ r;simp only[Bx,GW] at hb;refine cP (Fs h hf) ?_;rw[hb.1];refine cP (FU Z6 (py hb.2.1 h) (rH h1) hT) ?_;rw[hb.2.2];exact hk
def dQ(i:Nat)(h:look (acc.flatten++Γ) t=some (.own T'<|DG L))(hf:Ga P T k' off=true)(h1:pick L i off=some σ)(hT:Bm P T2 σ.n σ.agg=true)(r:ck (Nat.blt d N&&(Nat.blt d' N&& !Nat.beq d t)) (PK P N ops Γ ([(d',.val σ)]::[(d,.ptr t off)]::acc) l λn p S=>R ([t]::[d,t]::n) (true::true::p) S)):
  PK P N ops Γ acc (⟨some d,.fieldAddr T (.tmp t) k',ty,pos,af,none⟩::⟨some d',.load T2<| .tmp d,LC,pos',LD,none⟩::l) R:=by
 obtain⟨hb,n,p,S,k1,k2⟩:=ck_ r;simp only[Bx,GW] at hb;have e:look (([(d,AN.ptr t off)]::acc).flatten++Γ) d=some (.ptr t off):=by simpa using Z6
 have e':look (([(d,AN.ptr t off)]::acc).flatten++Γ) t=some (.own T'<|DG L):=by simpa using py hb.2.2 h
 exact⟨_,_,S,.cons (.cons h .nil) (Fs Z6 hf) rfl rfl (AZ hb.1)<| .cons (.cons e<| .cons e' .nil) (FU Z6 (py hb.2.2 Z6) (rH h1) hT) rfl rfl (AZ hb.2.1) k1,k2⟩
end
section
variable[D:DR]
variable{P:Program}{w0:Ae P}{H0:HV}{N:Nat}{ops:Array Oper}{Γ Al Ew:Ctx}{l:List Oper}{d:Nat}{op:Op}{ty:TypeId}{pos:String}{af:Array Edge}{K:Ctx->Prop}{Q:Exit->Act->World->Prop}
variable{ρ:Type}{r:ρ}
def alw{A B:Ctx}{ts us:A3 Nat}(h:E7 Γ ts A)(k:E7 Γ us B):E7 Γ (ts++us) (A++B):=by
 induction h with
 |nil=>exact k
 |cons h _ ih=>exact .cons h ih
def B2{σ:Type}(ks:A3 Nat){Γ0:Ctx}(hk:K7 Γ ks=some Γ0)(Ag:σ->Ctx){n:Nat}{B:(σ->A9 ρ)->σ->A9 ρ}{s0:σ}{c:Code}(hm:lp n B s0=some r)(h0:K7 Γ ((Ag s0).map (·.1))=some (Ag s0))
  (round:∀(k:σ->A9 ρ) (s:σ),B k s=some r->Goal P w0 H0 N c (Exit.then (Mid w0 H0 N (λs=>Ag s++Γ0) k r) Q) (Ag s++Γ0)):Goal P w0 H0 N (.loop c) Q Γ:=ab7 (λs=>Ag s++Γ0) hm (alw (MM h0)<|MM hk) round
def Cy{α:Type}(ks:A3 Nat){Γ0:Ctx}(hk:K7 Γ ks=some Γ0)(JG:α->Ctx){K:α->A9 ρ}{E:(α->A9 ρ)->A9 ρ}{x:Code}(hm:jn K E=some r)
  (h:∀k,E k=some r->Goal P w0 H0 N x (Exit.then (Mid w0 H0 N (λs=>JG s++Γ0) k r) Q) Γ)(kk:∀i,K i=some r->ES w0 H0 N (Q .normal) (JG i++Γ0)):Goal P w0 H0 N x Q Γ:=SA (λs=>JG s++Γ0) hm h kk
end
section
variable{α:Type}{c:α->α->Option Int}
theorem NW{α ρ:Type}{e:A9 α}{K:α->A9 ρ}{r:ρ}(h:bd e K=some r):∃x,e=some x/\K x=some r:=by(simp_all [bd]<;>grind)
def fB:∀{l r:A3 α} {x:α},Nq c x l=some r->r.Perm (x::l)
 |[],r,x,h=>by cases h;exact .refl _
 |y::l,r,x,h=>by
  obtain⟨k,_,h⟩:=NW h;cases hb:decide (k<0) with
  |true=>
   rw[hb] at h;obtain⟨r',hr,h⟩:=NW (K:=λr=>some (y::r)) h;cases h;exact((fB hr).cons y).trans<| .swap x y l
  |false=>
   rw[hb] at h;have h:some (x::y::l)=some r:=h;cases h;exact .refl _
def xg:∀(l:A3 α) (s r:A3 α),IW l (λnext x s=>bd (Nq c x s) next) s (λs=>some s.reverse)=some r->r.Perm (s++l)
 |[],s,r,h=>by
  have h:some s.reverse=some r:=h;cases h;simpa using s.reverse_perm
 |x::l,s,r,h=>by
  obtain⟨s',hs,h⟩:=NW h;refine(xg l s' r h).trans ?_;refine((fB hs).append_right l).trans ?_;exact List.perm_middle.symm
def vj{l r:A3 α}(h:iY c l=some r):r.Perm l:=by
 simpa using xg l [] r h
end
section
variable{α:Type}[DecidableEq α]{c:α×α->Option Int}
variable{s:A3 α}
def xq:∀{l:A3 α} {x:α},XG c x l=true->∀y∈l,x=y\/∃i j,c (x,y)=some i/\c (y,x)=some j/\i<0/\0<=j
 |[],_,_,y,hy=>by cases hy
 |z::l,x,h,y,hy=>by
  unfold XG at h;rw[Bx] at h;rcases Ai.1 hy with e|hy
  ·subst e;cases hd:decide (x=y) with
   |true=>exact .inl<|An hd
   |false=>
    rw[hd] at h;refine .inr ?_;have h:=h.1;simp only[B8] at h;split at h
    ·rename_i i j e1 e2;rw[Bx,J7,J7] at h;exact⟨i,j,e1,e2,h.1,h.2⟩
    ·cases h
  ·exact xq h.2 y hy
def nM:∀{s:A3 α},Oc c s=true->(∀x∈s,∃i,c (x,x)=some i/\0<=i)/\s.Pairwise λx y=>x=y\/∃i j,c (x,y)=some i/\c (y,x)=some j/\i<0/\0<=j
 |[],_=>⟨λx h=>(by cases h),.nil⟩
 |x::s,h=>by
  unfold Oc at h;rw[Bx,Bx] at h;obtain⟨h1,h2,h3⟩:=h;obtain⟨k1,k2⟩:=nM h3;refine⟨λy hy=>?_,.cons (xq h2) k2⟩;rcases Ai.1 hy with e|hy
  ·subst e;split at h1
   ·rename_i i e;exact⟨i,e,An h1⟩
   ·cases h1
  ·exact k1 y hy
theorem iZ{x:α}(h:x∈s):∃hl:s.idxOf x<s.length,s[s.idxOf x]=x:=by grind
def fL(h:Oc c s=true){x y:α}(hx:x∈s)(hy:y∈s){v:Int}(hv:c (x,y)=some v):v<0↔s.idxOf x<s.idxOf y:=by
 obtain⟨k1,k2⟩:=nM h;obtain⟨lx,ex⟩:=iZ hx;obtain⟨ly,ey⟩:=iZ hy;have pw:=iC.1 k2;rcases Nat.lt_trichotomy (s.idxOf x) (s.idxOf y) with hlt|heq|hgt
 ·have:=pw _ _ lx ly hlt;rw[ex,ey] at this;rcases this with e|⟨i,j,e1,e2,h1,h2⟩
  ·subst e;omega
  ·rw[hv] at e1;cases e1;exact⟨λ_=>hlt,λ_=>h1⟩
 ·have:x=y:=by rw[<-ex,<-ey];congr 1
  subst this;obtain⟨i,e,hi⟩:=k1 x hx;rw[hv] at e;cases e;omega
 ·have:=pw _ _ ly lx hgt;rw[ex,ey] at this;rcases this with e|⟨i,j,e1,e2,h1,h2⟩
  ·subst e;omega
  ·rw[hv] at e2;cases e2;omega
def agE(h:Oc c s=true):s.Pairwise λx y=>s.idxOf x<=s.idxOf y:=by
 obtain⟨k1,k2⟩:=nM h;refine iC.2 λi j hi hj LJ=>?_
 rcases iC.1 k2 i j hi hj LJ with e|⟨a,b,e1,e2,h1,h2⟩
 ·rw[e];exact BM _
 ·have:=(fL h (L0 hi) (L0 hj) e1).1 h1;omega
def xE{r:A3 α}(h:Oc c s=true)(hp:r.Perm s)(hr:r.Pairwise λx y=>s.idxOf x<=s.idxOf y):r=s:=by
 refine List.Perm.eq_of_pairwise (le:=λx y=>s.idxOf x<=s.idxOf y) ?_ hr (agE h) hp;intro a b ha hb h1 h2;obtain⟨la,ea⟩:=iZ<|hp.mem_iff.1 ha
 obtain⟨lb,eb⟩:=iZ hb;have e:s.idxOf a=s.idxOf b:=by omega
 rw[<-ea,<-eb]
 congr 1
end
end Trn
