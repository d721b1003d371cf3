/-
  Part of the proof of DrawMoves.
-/
import Derived.Test.YtokjddaclakenaaGreatDoorEb
set_option maxRecDepth 100000
set_option maxHeartbeats 20000000
set_option linter.all false
open Go Go.RowKit Go.Proofs
namespace Trn
section
variable[D:DR]
variable{P:Program}{w0:an P}{H0:HV}{N:Nat}{ops:Array Oper}{Q:Exit->Act->World->Prop}{Γ ay:Ctx}{d:Option Tmp}{ty:TypeId}{pos:String}{af:Array Edge}{g:Option (Nat×Bool)}
variable{t:Nat}{w:aq5}{H:HV}{T:asr}{gg:Bool}{i:Nat}{T':asr}{a:Act}{B:an P}{l:asv Ty}{p off u sz:Nat}{τ:Ty}{H':HV}{Eb:asr}
def mc.Ec{v:aq6}{b:Nat}:∀{p:mc},p.sty.owns w v b↔p.owns w v b
 | .val _=>Iff.rfl
 | .any _ _=>Iff.rfl
 | .sm _=>Iff.rfl
 | .buf _ _ _=>Iff.rfl
 | .map _ _ _ _ _=>Iff.rfl
def mc.ZG:∀{p:mc},p.sty.bO=[]
 | .val _=>rfl
 | .any _ _=>rfl
 | .sm _=>rfl
 | .buf _ _ _=>rfl
 | .map _ _ _ _ _=>rfl
def Lr(d:Nat):Bool->mc
 |true=> .sm d
 |false=> .any 1 false
def Yz{dz:Ctx}(bY:∀q∈dz,q∈Γ){dd:Nat}{ps:asv mc}{pp:mc}(sm:Bool)(hp:jF dz p t off)(ht:look dz t=some (.rC T' gg ps))(hi:ps[i]? =some pp)(ho:fE ps i=off)(h1:pp.n=1)(hg:pp.agg=false)(hT:eG P T 1 false=true)
 (nU:dd<N)(hne:dd≠t)(hd:dd∉Iu ps):
  Step P N ops ⟨some dd,.load T<| .tmp p,ty,pos,af,none⟩ Γ ((dd,pp.sty)::(t,.rC T' gg<|ps.set i<|Lr dd sm)::del dd (bQ t Γ)):=by
 intro w0 H0 a w H df K Q k;simp only[Region.wanted,if_true];obtain⟨b,cs,e,ep,hb,hn,hm,gS,L8,hx⟩:=hp.ok ht<|df.weaken bY
 subst ho;obtain⟨h2,h3,h4,h5⟩:=EA gS hi;have qQ:=Ko (p:=pp) (by rw[h1,hg];exact hT) hb gS hi
 generalize hv:pv pp (fE ps i) cs.toList=v at*
 unfold Oper.wp;have er:(execOp a.eval ⟨some dd,.load T<| .tmp p,ty,pos,af,none⟩).run P w= .ok (.value v) w:=by
  simp[execOp,ep,Instr.loadAt,Instr.sureAddr,qQ]
 rw[er,uq];have hv1:v.oneCell'=true:=by rw[h1,hg] at h3;exact(oi h3).1
 have Lx:(Lr dd sm).n=pp.n:=by rw[h1];cases sm<;>rfl
 have oY:Shape (Lr dd sm).n (Lr dd sm).agg v:=by rw[h1,hg] at h3;cases sm<;>exact h3
 have ajb:Q1 w0 (a.put (some dd) v) w H ps cs.toList:=Cu (fun u hu=>l6<|fun e=>hd<|e▸hu) gS;have hq:(Lr dd sm).holds w0 (a.put (some dd) v) w H v:=by
  cases sm
  ·exact Shape.one hv1
  ·exact⟨(tw (by rw[df.sz];exact nU)).symm,hv1⟩
 have OU:∀c,¬(Lr dd sm).owns w v c:=fun c h=>by cases sm<;>exact h
 obtain⟨Bs,hcs,k1,k2,k3⟩:=Oj ajb L8 hi oY Lx hq<|fun c hc=>absurd hc<|OU c
 have hcc:Bs=cs.toList:=by rw[hcs,<-hv];exact Ye gS hi
 rw[hcc] at k1 k2 k3;refine k _ _ H (Kn df (bY _<|az ht) nU hne (by rw[mc.ZG];simp) ?_ (mc.ZH h4) ?_ ?_ ?_)
 ·refine⟨b,cs,e,hb,hn,hm,k1,k2,fun hc=>?_⟩;rcases k3 b hc with h|h
  ·exact OU b h
  ·exact hx h.1
 ·rintro c ⟨c',e',hc⟩;simp only[e] at e';cases e';refine⟨b,e,?_⟩;rcases hc with hc|⟨cs2,hb2,hc⟩
  ·exact .inl hc
  ·rw[hb] at hb2;cases hb2;rcases k3 c hc with h|h
   ·exact absurd h<|OU c
   ·exact .inr ⟨cs,hb,h.1⟩
 ·intro c hc;exact⟨b,e,.inr ⟨cs,hb,tj.2 ⟨i,pp,hi,by rw[hv];exact mc.Ec.1 hc⟩⟩⟩
 ·rintro c hc ⟨c',e',AL⟩;simp only[e] at e';cases e';have hc:=mc.Ec.1 hc;rcases AL with AL|⟨cs2,hb2,AL⟩
  ·subst AL;exact hx (tj.2 ⟨i,pp,hi,by rw[hv];exact hc⟩)
  ·rw[hb] at hb2;cases hb2;rcases k3 c AL with h|h
   ·exact OU c h
   ·exact h.2 (by rw[hv];exact hc)
def XX{dz:Ctx}(bY:∀q∈dz,q∈Γ){ps:asv mc}{pp q:mc}{x:asu}(hp:jF dz p t off)(ht:look dz t=some (.rC T' gg ps))(hi:ps[i]? =some pp)(ho:fE ps i=off)(hn:q.n=pp.n)
 (hT:eG P T q.n q.agg=true)(hq:∀(a:Act) (w:aq5) (H:HV),Sat w0 H0 N dz a w H->Shape q.n q.agg (a.eval x)/\q.holds w0 a w H (a.eval x))(OU:∀w v b,¬q.owns w v b)
 (df:Sat w0 H0 N Γ a w H){K:Act->aq5->Prop}(k:∀w',Sat w0 H0 N ((t,.rC T' gg<|ps.set i q)::bQ t Γ) a w' H->K a w'):
  (⟨none,.store T (.tmp p) x,ty,pos,af,none⟩:Oper).wp P a w K Q:=by
 obtain⟨b,cs,e,ep,hb,hnb,hm,gS,L8,hx⟩:=hp.ok ht<|df.weaken bY
 subst ho;obtain⟨oY,hqh⟩:=hq a w H<|df.weaken bY
 obtain⟨h2,_,_,_⟩:=EA gS hi;obtain⟨Bs,hcs,k1,k2,k3⟩:=Oj gS L8 hi oY hn hqh<|fun c hc=>absurd hc<|OU _ _ c
 have qQ:=l9 (P:=P) (x:=a.eval x) (off:=fE ps i) (BZ hT) oY.size hb (by rw[hn];simpa using h2) oY.cell;rw[hn,<-hcs] at qQ;unfold Oper.wp;have er:(execOp a.eval ⟨none,.store T (.tmp p) x,ty,pos,af,none⟩).run P w= .ok .skip (w.setRow b Bs.toArray):=by
  simp[execOp,ep,Instr.storeAt,Instr.sureAddr,qQ]
 rw[er,wI];have hg:AO w (w.setRow b Bs.toArray) (some b):=AO.setRow w b _;have jQ:(w.setRow b Bs.toArray).heap[b]? =some (.cells Bs.toArray T' (0,0)):=Fw w b _ _ _ _ hb;have hnx: ¬py w b (ps.set i q) Bs:=fun hc=>by
  rcases k3 b hc with h|h
  ·exact OU _ _ b h
  ·exact hx h.1
 have VV:=Sh (w':=w.setRow b Bs.toArray) (H':=H) (HV.le.refl H) k1 (fun c hc=>⟨hg.block c (qC k1 hc).1 (fun e=>by cases e;exact hnx hc),rfl⟩);refine k _ (jo df (bY _<|az ht) hg hm ⟨b,e,.inl rfl⟩ ⟨b,Bs.toArray,e,jQ,hnb,hm,by simpa using VV.1,by simpa using VV.2.2 k2,by simpa using fun h=>hnx<|(VV.2.1 b).1 h⟩ ?_);rintro c ⟨c',e',hc⟩;simp only[e] at e';cases e';rcases hc with hc|⟨cs2,hb2,hc⟩
 ·subst hc;exact .inl ⟨c,e,.inl rfl⟩
 ·rw[jQ] at hb2;cases hb2;have hc:=(VV.2.1 c).1 (by simpa using hc);rcases k3 c hc with h|h
  ·exact absurd h<|OU _ _ c
  ·exact .inl ⟨b,e,.inr ⟨cs,hb,h.1⟩⟩
inductive xN(Γ:Ctx)(u:Nat):Prop where
 |buf {E:asr} {sz:Nat} {l:asv Ty} (h:look Γ u=some (.buf E sz l))
 |oQ {K E Eb:asr} {sz:Nat} {l:asv (Ty×mH)} (h:look Γ u=some (.oQ K E Eb sz l))
 |rC {T:asr} {g:Bool} {l:asv mc} (h:look Γ u=some (.rC T g l))
def xN.ok(h:xN Γ u)(hs:Sat w0 H0 N Γ a w H):(aX a u).oneCell'=true:=by
 cases h with
 |buf h=>
  obtain⟨xs,⟨_,hr⟩,_,_⟩:=hs.holds _<|az h
  rcases hr with⟨e,_⟩|⟨g,cap,cur,e,_⟩
  ·simp only at e;rw[e];rfl
  ·simp only at e;rw[e];rfl
 |oQ h=>
  obtain⟨r,es,e,_⟩:=hs.holds _<|az h
  simp only at e;rw[e];rfl
 |rC h=>
  obtain⟨b,cs,e,_⟩:=hs.holds _<|az h
  simp only at e;rw[e];rfl
def G7{ps:asv mc}{pp:mc}(hp:jF Γ p t off)(ht:look Γ t=some (.rC T' gg ps))(hi:ps[i]? =some pp)(ho:fE ps i=off)(hu:xN Γ u)(hn:pp.n=1)(hT:eG P T 1 false=true):
  Step P N ops ⟨none,.store T (.tmp p)<| .tmp u,ty,pos,af,none⟩ Γ ((t,.rC T' gg<|ps.set i<| .sm u)::bQ t Γ):=by
 intro w0 H0 a w H hs K Q k;simp only[Region.wanted,if_true];exact XX (fun _ h=>h) (x:= .tmp u) (q:= .sm u) hp ht hi ho hn.symm hT (fun a w H hs=>⟨Shape.one<|hu.ok hs,rfl,hu.ok hs⟩) (fun _ _ _ h=>h) hs fun w' pN=>k a w' H pN
def XV{ps:asv mc}{pp:mc}(hp:jF Γ p t off)(ht:look Γ t=some (.rC T' gg ps))(hi:ps[i]? =some pp)(ho:fE ps i=off)(hu:xN Γ u)(hn:pp.n=1)(hT:eG P T 1 false=true):
  Qw P N ops Γ ⟨none,.store T (.tmp p)<| .tmp u,ty,pos,af,none⟩ t (.rC T' gg<|ps.set i<| .sm u):=fun tD bY=>by
 intro w0 H0 a w H hs K Q k;simp only[Region.wanted,if_true];exact XX bY (x:= .tmp u) (q:= .sm u) hp ht hi ho hn.symm hT (fun a w H hs=>⟨Shape.one<|hu.ok hs,rfl,hu.ok hs⟩) (fun _ _ _ h=>h) hs fun w' pN=>k a w' H pN
def G9{s':bN}{us:asv Nat}{G:Ctx}(hs:Sat w0 H0 N Γ a w H)(ht:∀q∈G,q∈Γ/\q.1≠t)(hh:s'.holds w0 a w H (aX a t))
 (ho:∀b,s'.owns w (aX a t) b->∃p∈Γ,(p.1=t\/p.1∈us)/\p.2.owns w (aX a p.1) b)(hu:∀q∈G,q.1∉us):Sat w0 H0 N ((t,s')::G) a w H:=by
 have key:∀q∈G,∀b,s'.owns w (aX a t) b-> ¬q.2.owns w (aX a q.1) b:=fun q hq b hb U7=>by
  obtain⟨p,hp,h1,h2⟩:=ho b hb;refine hs.sep p hp q (ht q hq).1 (fun e=>?_) b h2 U7;rcases h1 with h1|h1
  ·exact(ht q hq).2 (by rw[<-e,h1])
  ·exact hu q hq<|e▸h1
 refine⟨hs.nd,hs.sz,hs.below,hs.J4,hs.sub,?_,?_,hs.gl⟩
 ·intro q hq;rcases bP.1 hq with e|hq
  ·subst e;exact hh
  ·exact hs.holds q (ht q hq).1
 ·intro q hq r hr hn b hb jQ;rcases bP.1 hq with e|hq<;>rcases bP.1 hr with e'|hr
  ·subst e;subst e';exact hn rfl
  ·subst e;exact key r hr b hb jQ
  ·subst e';exact key q hq b jQ hb
  ·exact hs.sep q (ht q hq).1 r (ht r hr).1 hn b hb jQ
def YX{w0:an P}{ps:asv mc}(pp:mc)(ht:look Γ t=some (.rC T' gg ps))(hi:ps[i]? =some (.sm u))(hu:look Γ u=some pp.sty)(hne:(u !=t)=true)(hpp:(pp.n,pp.agg)=(1,false))(hg: ¬pp.sty= .gone):
  qY w0 N Γ ((t,.rC T' gg<|ps.set i pp)::bQ t (bQ u Γ)):=fun H0 a w H hs=>by
 obtain⟨b,cs,e,hb,hnb,hm,gS,L8,hx⟩:=hs.holds _<|az ht
 have hph:=hs.holds _<|az hu
 simp only at e hph;have hut:u≠t:=by simpa using hne
 obtain⟨_,h3,h4,_⟩:=EA gS hi;have hv:pv (.sm u) (fE ps i) cs.toList=aX a u:=h4.1;have h1:pp.n=1:=congrArg Prod.fst hpp;have h2:pp.agg=false:=congrArg Prod.snd hpp;have oY:Shape pp.n pp.agg (aX a u):=by rw[h1,h2,<-hv];exact h3
 have hq:pp.holds w0 a w H (aX a u):=by
  cases pp with
  |buf E sz l=>exact hph
  |map K E Eb sz mG=>exact hph
  |val τ=>exact absurd rfl hg
  |any n g=>exact absurd rfl hg
  |sm v=>exact absurd rfl hg
 have ada:∀c,pp.owns w (aX a u) c-> ¬py w c ps cs.toList:=fun c hc ho=>by
  refine hs.sep _ (az hu) _ (az ht) hut c (mc.Ec.2 hc) ⟨b,e,.inr ⟨cs,hb,ho⟩⟩
 have aph: ¬pp.owns w (aX a u) b:=fun hc=>hs.sep _ (az hu) _ (az ht) hut b (mc.Ec.2 hc) ⟨b,e,.inl rfl⟩
 obtain⟨Bs,hcs,k1,k2,k3⟩:=Oj gS L8 hi oY (by rw[h1];rfl) hq<|fun c hc=> .inr<|ada c hc
 have hcc:Bs=cs.toList:=by rw[hcs,<-hv];exact Ye gS hi
 rw[hcc] at k1 k2 k3;refine⟨H,G9 (us:=[u]) hs (fun q hq=>⟨(bI q (bI q hq).1).1,(bI q hq).2⟩) ⟨b,cs,e,hb,hnb,hm,k1,k2,fun hc=>?_⟩ ?_ (fun q hq=>by simpa using(bI q (bI q hq).1).2)⟩
 ·rcases k3 b hc with h|h
  ·exact aph h
  ·exact hx h.1
 ·rintro c ⟨c',e',hc⟩;simp only[e] at e';cases e';rcases hc with hc|⟨cs2,hb2,hc⟩
  ·exact⟨_,az ht,.inl rfl,b,e,.inl hc⟩
  ·rw[hb] at hb2;cases hb2;rcases k3 c hc with h|h
   ·exact⟨_,az hu,.inr (by simp),mc.Ec.2 h⟩
   ·exact⟨_,az ht,.inl rfl,b,e,.inr ⟨cs,hb,h.1⟩⟩
inductive zU:asv Ty->asv mc->Prop where
 |nil:zU [] []
 |val {τ:Ty} {l:asv Ty} {ps:asv mc} (r:zU l ps):zU (τ::l) (.val τ::ps)
 |buf {α:Type} {f:α->Ty} {x:asv α} {E:asr} {sz:Nat} {l:asv Ty} {ps:asv mc} (hx:x=[]) (r:zU l ps):zU (TN f x::l) (.buf E sz []::ps)
def Kp{E:asr}:wT B w H E sz [] (.slice none 0 0):=
 ⟨[],⟨by simp,.inl ⟨rfl,rfl⟩⟩,rfl,fun b h=>by simp[Value.ownBlock] at h⟩
def zU.ok{ps:asv mc}(h:zU l ps):∀{cs:asv aq6},vH H l cs->Q1 B a w H ps cs/\(∀b,¬py w b ps cs)/\L0 w ps cs:=by
 induction h with
 |nil=>exact fun e=>⟨e,fun _ h=>h,trivial⟩
 | @val τ l ps r ih=>
  rintro cs ⟨v,rest,e,hv,hr⟩;subst e;obtain⟨h1,h2,h3⟩:=ih hr;have hd:=(oT (p:= .val τ) (rest:=rest)<|τ.shape hv).2;refine⟨⟨v,rest,rfl,τ.shape hv,hv,h1⟩,fun b h=>?_,fun b h=>h.elim,?_⟩
  ·rcases h with h|h
   ·exact h
   ·rw[hd] at h;exact h2 b h
  ·rw[hd];exact h3
 | @buf α f x E sz l ps hx r ih=>
  rintro cs ⟨v,rest,e,hv,hr⟩;subst e;subst hx;obtain⟨h1,h2,h3⟩:=ih hr;have ev:=hv.2 rfl;subst ev;have oY:Shape (mc.buf E sz []).n (mc.buf E sz []).agg (.slice none 0 0):=Shape.one rfl;obtain⟨e1,hd⟩:=oT (p:= .buf E sz []) (rest:=rest) oY;refine⟨⟨_,rest,rfl,oY,Kp,h1⟩,fun b h=>?_,fun b h=>?_,?_⟩
  ·rcases h with h|h
   ·rw[e1] at h;simp[mc.owns,Value.ownBlock] at h
   ·rw[hd] at h;exact h2 b h
  ·rw[e1] at h;simp[mc.owns,Value.ownBlock] at h
  ·rw[hd];exact h3
def afW:∀H v,(gn l).ok H v->vH H l v.cells.toList:=fun _ _ ⟨cs,e,h⟩=>by subst e;exact h
def IT:∀H v,τ.ok H v->vH H [τ] v.cells.toList:=fun _ v h=>⟨v,[],by simp,h,rfl⟩
def mH.pub:mH->Ty
 | .val τ=>τ
 | .buf l=>J5 l
 | .any=>VH ⟨#[]⟩
def mH.isAny:mH->Bool
 | .any=>true
 |_=>false
def Wr(p:Ty×mH):Ty×Ty:=(p.1,p.2.pub)
def Yk{B:an P}{w:aq5}{H H':HV}{Eb:asr}{sz:Nat}(hle:HV.le H H'):∀{i:Nat} {l:asv (Ty×mH)} {es:asv MapEntry},PM B w H Eb sz i l es->(∀p∈l,p.2.isAny=false)->(∀b,oj b l es->H' b=w.heap[b]?)->okM H' i (l.map Wr) es
 |_,[],[],_,_,_=>trivial
 |_,[],_::_,h,_,_=>h.elim
 |_,(_,_)::_,[],h,_,_=>h.elim
 |i,(k,e)::l,x::xs,⟨h1,h2,h3,h4⟩,hn,hw=>by
  refine⟨k.mono hle h1,?_,h3,Yk hle h4 (fun p hp=>hn p (by simp[hp])) fun b hb=>hw b<| .inr hb⟩;cases e with
  |val τ=>exact τ.mono hle h2
  |any=>have:=hn (k,.any) (by simp);cases this
  |buf bl=>exact De (a:=⟨#[],[]⟩) (B:=B) h2 hle fun b hb _ o ho=>by rw[hw b<| .inl hb];exact ho
def Q5{mG:asv (Ty×mH)}{v:aq6}(hle:HV.le H H')(h:I5 B w H Eb sz mG v)(hn:∀p∈mG,p.2.isAny=false)(hw:∀b,wy w mG v b->H' b=w.heap[b]?):(aex<|mG.map Wr).ok H' v:=by
 obtain⟨r,es,e,hr,_,_,ho,_⟩:=h;subst e;exact⟨r,es,rfl,by rw[hw r<| .inl rfl];exact hr,Yk hle ho hn fun b hb=>hw b<| .inr ⟨r,es,rfl,hr,hb⟩⟩
inductive uY:asv mc->asv Ty->Prop where
 |nil:uY [] []
 |val {τ:Ty} {l:asv Ty} {ps:asv mc} (r:uY ps l):uY (.val τ::ps) (τ::l)
 |buf {E:asr} {sz:Nat} {bl l:asv Ty} {ps:asv mc} (r:uY ps l):uY (.buf E sz bl::ps) (J5 bl::l)
 |map {K E Eb:asr} {sz:Nat} {mG:asv (Ty×mH)} {M:asv (Ty×Ty)} {l:asv Ty} {ps:asv mc} (hn:∀p∈mG,p.2.isAny=false) (hM:mG.map Wr=M) (r:uY ps l):uY (.map K E Eb sz mG::ps) (aex M::l)
def uY.ok(hle:HV.le H H'){ps:asv mc}(h:uY ps l):∀{cs:asv aq6},Q1 B a w H ps cs->(∀b,py w b ps cs->H' b=w.heap[b]?)->vH H' l cs:=by
 induction h with
 |nil=>exact fun e _=>e
 | @val τ l ps r ih=>
  rintro cs ⟨v,rest,e,oY,hv,hr⟩ hw;subst e;obtain⟨e1,hd⟩:=oT (p:= .val τ) (rest:=rest) oY;exact⟨v,rest,rfl,τ.mono hle hv,ih hr fun b hb=>hw b (.inr (by rw[hd];exact hb))⟩
 | @buf E sz bl l ps r ih=>
  rintro cs ⟨v,rest,e,oY,hv,hr⟩ hw;subst e;obtain⟨e1,hd⟩:=oT (p:= .buf E sz bl) (rest:=rest) oY;refine⟨v,rest,rfl,De (a:=a) hv hle<|fun b hb _ o ho=>?_,ih hr fun b hb=>hw b (.inr (by rw[hd];exact hb))⟩;rw[hw b (.inl (by rw[e1];exact hb))];exact ho
 | @map K E Eb sz mG M l ps hn hM r ih=>
  rintro cs ⟨v,rest,e,oY,hv,hr⟩ hw;subst e;subst hM;obtain⟨e1,hd⟩:=oT (p:= .map K E Eb sz mG) (rest:=rest) oY;exact⟨v,rest,rfl,Q5 hle hv hn (fun b hb=>hw b (.inl (by rw[e1];exact hb))),ih hr fun b hb=>hw b (.inr (by rw[hd];exact hb))⟩
open Classical in
def Uq{w0:an P}{ps:asv mc}(ht:look Γ t=some (.rC T gg ps))(h:uY ps l)(hτ:∀(H:HV) (cs:auA aq6),vH H l cs.toList->cs.size=τ.n/\τ.ok H (KA τ.agg cs)):qY w0 N Γ ((t,.val<|nY τ)::bQ t Γ):=fun H0 a w H hs=>by
 obtain⟨b,cs,e,hb,hnb,hm,gS,L8,hx⟩:=hs.holds _<|az ht
 simp only at e;obtain⟨S,hS⟩:∃S:Nat->Prop,∀c,S c↔(c=b\/py w c ps cs.toList):=⟨_,fun _=>Iff.rfl⟩;refine⟨_,Ag hs (az ht) S (fun c hc=>?_) ?_⟩
 ·rcases(hS c).1 hc with hc|hc
  ·subst hc;exact⟨⟨c,e,.inl rfl⟩,hm⟩
  ·exact⟨⟨b,e,.inr ⟨cs,hb,hc⟩⟩,(qC gS hc).2.1⟩
 ·have hle:HV.le H (fun r=>if S r then w.heap[r]? else H r):=by
   intro r o ho;by_cases e:S r
   ·rcases(hS r).1 e with e|e
    ·subst e;rw[hnb] at ho;cases ho
    ·rw[(qC gS e).2.2.1] at ho;cases ho
   ·simp[e,ho]
  have hSb:S b:=(hS b).2<| .inl rfl
  have hl:=h.ok hle gS (fun c hc=>by have:S c:=(hS c).2 (.inr hc);simp[this]);obtain⟨g1,g2⟩:=hτ _ cs hl;refine⟨b,0,cs,T,(0,0),e,by simp[hb,hSb],by omega,?_⟩;have:(List.take τ.n<|List.drop 0 cs.toList).toArray=cs:=by
   rw[yF,fe (by simp[g1])]
  rw[this];exact g2
def Yf{w0:an P}{ps:asv mc}(ht:look Γ t=some (.rC T true ps))(h:uY ps l):qY w0 N Γ ((t,.val<|nY<|gn l)::bQ t Γ):=
 Uq ht h fun H cs hl=>⟨by have:=oD hl;simp only[gn];simpa using this,cs,rfl,hl⟩
def acd{w0:an P}{ps:asv mc}(ht:look Γ t=some (.rC T false ps))(h:uY ps [τ])(ha:τ.agg=false):qY w0 N Γ ((t,.val<|nY τ)::bQ t Γ):=
 Uq ht h fun H cs hl=>by
  have hlen:=oD hl;obtain⟨v,rest,e,hv,hr⟩:=hl;have hr:rest=[]:=hr;subst hr;have oY:=τ.shape hv;have ec:cs=v.cells:=by rw[<-Array.toArray_toList (xs:=cs),e];simp
  subst ec;exact⟨oY.size,by rw[<-oY.eq];exact hv⟩
def afT{w0:an P}{K E:asr}{mG:asv (Ty×mH)}{M:asv (Ty×Ty)}(ht:look Γ t=some (.oQ K E Eb sz mG))(hn:∀p∈mG,p.2.isAny=false)(hM:mG.map Wr=M):qY w0 N Γ ((t,.val<|aex M)::bQ t Γ):=fun H0 a w H hs=>by
 subst hM;have gS:=hs.holds _<|az ht
 obtain⟨S,hS⟩:∃S:Nat->Prop,∀c,S c↔wy w mG (aX a t) c:=⟨_,fun _=>Iff.rfl⟩;refine⟨_,Ag hs (az ht) S (fun c hc=>⟨(hS c).1 hc,(Ap gS<|(hS c).1 hc).2.1⟩) ?_⟩;refine Q5 ?_ gS hn fun b hb=>by have:S b:=(hS b).2 hb;simp[this]
 intro r o ho;by_cases e:S r
 ·rw[(Ap gS<|(hS r).1 e).2.2.1] at ho;cases ho
 ·simp[e,ho]
end
section
variable[D:DR]
variable{P:Program}{w0:an P}{H0:HV}{N:Nat}{ops:Array Oper}{Q:Exit->Act->World->Prop}{Γ ay:Ctx}{d:Option Tmp}{ty:TypeId}{pos:String}{af:Array Edge}{g:Option (Nat×Bool)}
variable{α β:Type}[DecidableEq α]
def mix(x:α):asv (α×β)->auz Nat
 |[]=>none
 |p::l=>bif decide (x=p.1) then some 0 else(mix x l).map (· +1)
def ij(x:α)(l:asv (α×β)):Nat:=(mix x l).getD l.length
def jc(l:asv (α×β))(x:α)(z:β):β:=match mix x l with
 |none=>z
 |some j=>match l[j]? with
  |some p=>p.2
  |none=>z
def rh(l:asv (α×β))(x:α)(v:β):asv (α×β):=match mix x l with
 |none=>l++[(x,v)]
 |some j=>l.set j (x,v)
def nw(l:asv (α×β))(x:α)(z:β):asv (α×β):=match mix x l with
 |none=>l++[(x,z)]
 |some _=>l
def BS{x:α}:∀{l:asv (α×β)} {j:Nat},mix x l=some j->∃v,l[j]? =some (x,v)
 |[],_,h=>by simp[mix] at h
 |p::l,j,h=>by
  simp only[mix] at h;by_cases e:x=p.1
  ·simp[e] at h;subst h;subst e;exact⟨p.2,rfl⟩
  ·simp[e] at h;obtain⟨k,hk,rfl⟩:=h;obtain⟨v,hv⟩:=BS hk;exact⟨v,by simpa using hv⟩
def IE{γ:Type}:∀{l:asv γ} {j:Nat} {x:γ},l[j]? =some x->l.set j x=l
 |[],_,_,h=>by simp at h
 |y::l,0,x,h=>by simp at h;simp[h]
 |y::l,j+1,x,h=>by simp at h;simp[IE h]
def ME(l:asv (α×β))(x:α)(z:β):(nw l x z)[ij x l]? =some (x,jc l x z):=by
 unfold nw ij jc;cases h:mix x l with
 |none=>simp
 |some j=>
  obtain⟨v,hv⟩:=BS h;simp[hv]
def UG(l:asv (α×β))(x:α)(z v:β):(nw l x z).set (ij x l) (x,v)=rh l x v:=by
 unfold nw ij rh;cases h:mix x l with
 |none=>simp
 |some j=>simp
end
section
variable[D:DR]
variable{P:Program}{w0:an P}{H0:HV}{N:Nat}{ops:Array Oper}{Q:Exit->Act->World->Prop}{Γ ay:Ctx}{d:Option Tmp}{ty:TypeId}{pos:String}{af:Array Edge}{g:Option (Nat×Bool)}
variable{B:an P}{w:aq5}{H:HV}{Eb:asr}{sz:Nat}
@[reducible] def mM{α β:Type}(fK:α->Ty)(fV:β->mH)(l:asv (α×β)):asv (Ty×mH):=l.map fun p=>(fK p.1,fV p.2)
def yu(P:ast)(T K E:asr):Bool:=match P.underlying T with
 |some (.map k e)=>Nat.beq k K&&Nat.beq e E
 |_=>false
def tV{T K E:asr}(h:yu P T K E=true):P.underlying T=some (.map K E):=by
 unfold yu at h;split at h
 ·rename_i k e hu;simp only[cW] at h;rw[hu,fX h.1,fX h.2]
 ·cases h
structure lS{α:Type}[DecidableEq α](P:ast)(K:asr)(f:α->Ty):Prop where
 eq:∀(H:HV) (u v:aq6) (x y:α),(f x).ok H u->(f y).ok H v->∀w:aq5,(Op.equal K u v).run P w= .ok (decide<|x=y) w
 check:∀(H:HV) (u:aq6) (x:α),(f x).ok H u->∀(e:Bool) (w:aq5),(Instr.checkKey e 10000 K u).run P w= .ok () w
 kind:∃ud,P.underlying K=some ud/\∀u v,Instr.sameNow ud u v=none
 bits:∀(H:HV) (u v:aq6) (x:α),(f x).ok H u->(f x).ok H v->Instr.sameBits 10000 u v=true
def xv{B:an P}{w:aq5}{H:HV}{Eb:asr}{sz:Nat}:∀{i:Nat} {l:asv (Ty×mH)} {es:asv MapEntry} {j:Nat} {k:Ty} {e:mH},PM B w H Eb sz i l es->l[j]? =some (k,e)->
  ∃x,es[j]? =some x/\k.ok H x.key/\e.holds B w H Eb sz x.val/\x.born=i+j
 |_,[],_,_,_,_,_,h=>by simp at h
 |_,(_,_)::_,[],_,_,_,h,_=>h.elim
 |i,(k',e')::l,x::xs,0,k,e,⟨h1,h2,h3,h4⟩,h=>by
  simp at h;obtain⟨rfl,rfl⟩:=h;exact⟨x,rfl,h1,h2,by simpa using h3⟩
 |i,(k',e')::l,x::xs,j+1,k,e,⟨h1,h2,h3,h4⟩,h=>by
  obtain⟨y,g1,g2,g3,g4⟩:=xv h4 (by simpa using h);exact⟨y,by simpa using g1,g2,g3,by omega⟩
def An{B:an P}{w:aq5}{H:HV}{Eb:asr}{sz:Nat}:∀{i:Nat} {l:asv (Ty×mH)} {es:asv MapEntry},PM B w H Eb sz i l es->es.length=l.length
 |_,[],[],_=>rfl
 |_,[],_::_,h=>h.elim
 |_,(_,_)::_,[],h=>h.elim
 |_,(_,_)::_,_::_,⟨_,_,_,h⟩=>by simp[An h]
def Ft{B:an P}{w:aq5}{H:HV}{Eb:asr}{sz:Nat}:∀{i:Nat} {l:asv (Ty×mH)} {es:asv MapEntry} {j:Nat} {k:Ty} {e:mH} {x:MapEntry},PM B w H Eb sz i l es->k.ok H x.key->e.holds B w H Eb sz x.val->x.born=i+j->
  PM B w H Eb sz i (l.set j (k,e)) (es.set j x)
 |_,[],[],_,_,_,_,_,_,_,_=>trivial
 |_,[],_::_,_,_,_,_,h,_,_,_=>h.elim
 |_,(_,_)::_,[],_,_,_,_,h,_,_,_=>h.elim
 |i,(k',e')::l,x::xs,0,k,e,y,⟨h1,h2,h3,h4⟩,g1,g2,g3=>⟨g1,g2,g3,h4⟩
 |i,(k',e')::l,x::xs,j+1,k,e,y,⟨h1,h2,h3,h4⟩,g1,g2,g3=>⟨h1,h2,h3,Ft h4 g1 g2 (by omega)⟩
def Oz{B:an P}{w:aq5}{H:HV}{Eb:asr}{sz:Nat}:∀{i:Nat} {l:asv (Ty×mH)} {es:asv MapEntry} {k:Ty} {e:mH} {x:MapEntry},PM B w H Eb sz i l es->k.ok H x.key->e.holds B w H Eb sz x.val->x.born=i+l.length->
  PM B w H Eb sz i (l++[(k,e)]) (es++[x])
 |_,[],[],_,_,_,_,g1,g2,g3=>⟨g1,g2,by simpa using g3,trivial⟩
 |_,[],_::_,_,_,_,h,_,_,_=>h.elim
 |_,(_,_)::_,[],_,_,_,h,_,_,_=>h.elim
 |i,(k',e')::l,x::xs,k,e,y,⟨h1,h2,h3,h4⟩,g1,g2,g3=>⟨h1,h2,h3,Oz h4 g1 g2 (by simp at g3;omega)⟩
def mQ{b:Nat}:∀{l:asv (Ty×mH)} {es:asv MapEntry},oj b l es↔∃(j:Nat) (k:Ty) (e:mH) (x:MapEntry),l[j]? =some (k,e)/\es[j]? =some x/\e.owns x.val b
 |[],es=>by simp[oj]
 |(k,e)::l,[]=>by simp[oj]
 |(k,e)::l,x::xs=>by
  simp only[oj,mQ (l:=l)];constructor
  ·rintro(h|⟨j,k',e',y,h1,h2,h3⟩)
   ·exact⟨0,k,e,x,rfl,rfl,h⟩
   ·exact⟨j+1,k',e',y,by simpa using h1,by simpa using h2,h3⟩
  ·rintro⟨j,k',e',y,h1,h2,h3⟩;cases j with
   |zero=>simp at h1 h2;obtain⟨rfl,rfl⟩:=h1;subst h2;exact .inl h3
   |succ j=>exact .inr ⟨j,k',e',y,by simpa using h1,by simpa using h2,h3⟩
def Ek:∀{l:asv (Ty×mH)} {es:asv MapEntry},l.length=es.length->(L1 l es↔∀(i j:Nat) (k k':Ty) (e e':mH) (x y:MapEntry),i<j->l[i]? =some (k,e)->l[j]? =some (k',e')->es[i]? =some x->es[j]? =some y->∀b,e.owns x.val b-> ¬e'.owns y.val b)
 |[],[],_=>by simp[L1]
 |[],_::_,h=>by simp at h
 |(_,_)::_,[],h=>by simp at h
 |(k,e)::l,x::xs,h=>by
  simp only[L1,Ek (l:=l) (es:=xs) (by simpa using h)];constructor
  ·rintro⟨h1,h2⟩ i j k1 k2 e1 e2 y z VU hi hj hx hy b hb jQ;cases j with
   |zero=>omega
   |succ j=>
    cases i with
    |zero=>
     simp at hi hx;obtain⟨rfl,rfl⟩:=hi;subst hx;exact h1 b hb (mQ.2 ⟨j,k2,e2,z,by simpa using hj,by simpa using hy,jQ⟩)
    |succ i=>exact h2 i j k1 k2 e1 e2 y z (by omega) (by simpa using hi) (by simpa using hj) (by simpa using hx) (by simpa using hy) b hb jQ
  ·intro hh;refine⟨fun b hb ho=>?_,fun i j k1 k2 e1 e2 y z VU hi hj hx hy b hb jQ=>?_⟩
   ·obtain⟨j,k',e',y,h1,h2,h3⟩:=mQ.1 ho;exact hh 0 (j+1) k k' e e' x y (by omega) rfl (by simpa using h1) rfl (by simpa using h2) b hb h3
   ·exact hh (i+1) (j+1) k1 k2 e1 e2 y z (by omega) (by simpa using hi) (by simpa using hj) (by simpa using hx) (by simpa using hy) b hb jQ
end
section
variable[D:DR]
variable{P:Program}{w0:an P}{H0:HV}{N:Nat}{ops:Array Oper}{Q:Exit->Act->World->Prop}{Γ ay:Ctx}{d:Option Tmp}{ty:TypeId}{pos:String}{af:Array Edge}{g:Option (Nat×Bool)}
variable{α β:Type}[DecidableEq α]{K:TypeId}{fK:α->Ty}{fV:β->mH}
def Eo(hk:lS P K fK){H:HV}{u:aq6}{x:α}(hu:(fK x).ok H u){w:aq5}:∀{l:asv (α×β)} {es:asv MapEntry} (i:Nat),(∀(j:Nat) (p:α×β),l[j]? =some p->∃y,es[j]? =some y/\(fK p.1).ok H y.key)->es.length=l.length->
  (Instr.findAsking K u es i).run P w= .ok ((mix x l).map fun j=>(i+j,((es[j]?).map (·.val)).getD undef)) w
 |[],[],i,_,_=>by simp[Instr.findAsking,mix]
 |[],_::_,_,_,h=>by simp at h
 |_::_,[],_,_,h=>by simp at h
 |p::l,y::es,i,h,hl=>by
  obtain⟨y',h1,h2⟩:=h 0 p rfl;simp at h1;subst h1;have ih:=Eo hk hu (l:=l) (es:=es) (w:=w) (i+1) (fun j q hq=>by simpa using h (j+1) q (by simpa using hq)) (by simpa using hl);have he:=hk.eq H u y.key x p.1 hu h2 w;simp only[Instr.findAsking,mix,fh,he,eQ];by_cases e:x=p.1
  ·simp[e]
  ·simp only[e,decide_false,CT,if_false,fA,ih];cases hm:mix x l with
   |none=>simp
   |some j=>simp;omega
def run_findKey(hk:lS P K fK){H:HV}{u:aq6}{x:α}(hu:(fK x).ok H u){w:aq5}{l:asv (α×β)}{es:asv MapEntry}(h:∀(j:Nat) (p:α×β),l[j]? =some p->∃y,es[j]? =some y/\(fK p.1).ok H y.key)(hl:es.length=l.length):
  (Instr.findKey K u es).run P w= .ok ((mix x l).map fun j=>(j,((es[j]?).map (·.val)).getD undef)) w:=by
 obtain⟨ud,hud,OU⟩:=hk.kind;have hf:=Eo hk hu (w:=w) 0 h hl;unfold Instr.findKey;simp only[fh,aP hud,eQ];cases es with
 |nil=>
  cases l with
  |nil=>simp[Instr.findNow,mix]
  |cons p l=>simp at hl
 |cons y es=>
  simp only[Instr.findNow,OU];simpa using hf
end
section
variable[D:DR]
variable{P:Program}{w0:an P}{H0:HV}{N:Nat}{ops:Array Oper}{Q:Exit->Act->World->Prop}{Γ ay:Ctx}{d:Option Tmp}{ty:TypeId}{pos:String}{af:Array Edge}{g:Option (Nat×Bool)}
inductive kd(Γ:Ctx):asu->Nat->Prop where
 |own {t:Nat}:kd Γ (.tmp t) t
 |same {u t:Nat} (h:look Γ u=some (.same t)):kd Γ (.tmp u) t
def kd.ok{x:asu}{t:Nat}(h:kd Γ x t){a:Act}{w:aq5}{H:HV}(hs:Sat w0 H0 N Γ a w H):a.eval x=aX a t:=by
 cases h with
 |own=>rfl
 |same h=>exact hs.holds _<|az h
def Ww{T K E Eb:asr}{sz:Nat}:bK P Γ ⟨d,.makeMap T none,ty,pos,af,g⟩ (.oQ K E Eb sz []):=
 ju fun w0 _ _ a w H hs=>by
  refine⟨.map<|some w.heap.size,w.alloc<| .map #[] 0,H,?_,Ext.alloc hs.sub _,?_,?_⟩
  ·simp[execOp,Instr.makeMap,newObj];rfl
  ·refine⟨w.heap.size,#[],rfl,sR w _,?_,.inl hs.below.size,trivial,trivial⟩;cases hh:H w.heap.size with
   |none=>rfl
   |some o=>have:=xP hs.sub hh;omega
  ·rintro b (h|⟨r,es,e,hr,hb⟩)
   ·cases h;exact bG _
   ·simp[oj] at hb
end
section
variable[D:DR]
variable{P:Program}{w0:an P}{H0:HV}{N:Nat}{ops:Array Oper}{Q:Exit->Act->World->Prop}{Γ ay:Ctx}{d:Option Tmp}{ty:TypeId}{pos:String}{af:Array Edge}{g:Option (Nat×Bool)}
variable{α β:Type}[DecidableEq α]{K E Eb T:TypeId}{sz:Nat}{fK:α->Ty}
def M7{B:an P}{w:aq5}{H:HV}{fV:β->mH}{l:asv (α×β)}{es:asv MapEntry}(h:PM B w H Eb sz 0 (mM fK fV l) es):(∀(j:Nat) (p:α×β),l[j]? =some p->∃y,es[j]? =some y/\(fK p.1).ok H y.key)/\es.length=l.length:=
 ⟨fun j p hp=>by
  obtain⟨y,h1,h2,_⟩:=xv h (j:=j) (k:=fK p.1) (e:=fV p.2) (by simp[hp]);exact⟨y,h1,h2⟩,by simpa using An h⟩
def run_getObj_map{w:aq5}{r:Nat}{es:auA MapEntry}{c:Nat}(h:w.heap[r]? =some (.map es c)):(getObj r).run P w= .ok (.map es c) w:=by
 simp[getObj,Sem.run,h]
def Kx{F:β->Ty}{t:Nat}{m k:asu}{l:asv (α×β)}{x:α}{z:β}(hT:yu P T K E=true)(hk:lS P K fK)(hz:bL P E (F z))(hm:kd Γ m t)(ht:look Γ t=some (.oQ K E Eb sz<|mM fK (fun v=> .val<|F v) l))(hx:Arg Γ k (fK x)):
  bK P Γ ⟨d,.lookup T m k false,ty,pos,af,g⟩ (.val<|F<|jc l x z):=
 bh fun _ _ _ a w H hs=>by
  obtain⟨r,es,e,hr,hn,PO,ho,L8⟩:=hs.holds _<|az ht
  have em:a.eval m= .map (some r):=by rw[hm.ok hs];exact e
  have GR:=hx.ok hs;obtain⟨k1,k2⟩:=M7 ho;have hf:=run_findKey hk GR (w:=w) k1 k2;have hc:=hk.check H _ x GR es.isEmpty w;obtain⟨zv,Tn,VQ⟩:=hz.run w;cases JH:mix x l with
  |none=>
   rw[JH] at hf;refine⟨zv,?_,by simp only[jc,JH];exact VQ H,rfl⟩;simp[execOp,em,Instr.lookup,aP<|tV hT,run_getObj_map hr,hc,hf,Tn]
  |some j=>
   rw[JH] at hf;obtain⟨v,hv⟩:=BS JH;obtain⟨y,h1,_,h3,_⟩:=xv ho (j:=j) (k:=fK x) (e:= .val<|F v) (by simp[hv]);refine⟨y.val,?_,by simp only[jc,JH,hv];exact h3,rfl⟩;simp only[yG,h1,FI] at hf;simp[execOp,em,Instr.lookup,aP<|tV hT,run_getObj_map hr,hc,hf]
end
section
variable[D:DR]
variable{P:Program}{w0:an P}{H0:HV}{N:Nat}{ops:Array Oper}{Q:Exit->Act->World->Prop}{Γ ay:Ctx}{d:Option Tmp}{ty:TypeId}{pos:String}{af:Array Edge}{g:Option (Nat×Bool)}
variable{w:aq5}{H:HV}{c b:Nat}{es:auA MapEntry}{B:an P}{sz:Nat}
def Qf{a:Act}{w':aq5}{t u:Nat}{s s' su:bN}(hs:Sat w0 H0 N Γ a w H)(ht:(t,s)∈Γ)(hu:(u,su)∈Γ)(hne:u≠t)(hg:AO w w' (some b))(hb:w0.mY b)(hob:s.owns w (aX a t) b)
 (pN:s'.holds w0 a w' H (aX a t))(WY:∀c,s'.owns w' (aX a t) c->s.owns w (aX a t) c\/su.owns w (aX a u) c\/w.heap.size<=c):Sat w0 H0 N ((t,s')::(u,.gone)::bQ t (bQ u Γ)) a w' H:=by
 obtain⟨h1,h2,o,h3,h4⟩:=bN.mh (hs.holds _ ht) hob;have sub:∀q∈bQ t (bQ u Γ),q∈Γ/\q.1≠t/\q.1≠u:=fun q hq=>⟨(bI q (bI q hq).1).1,(bI q hq).2,(bI q (bI q hq).1).2⟩
 have other:∀q∈bQ t (bQ u Γ),∀c,s.owns w (aX a t) c-> ¬q.2.owns w (aX a q.1) c:=fun q hq c hc=>hs.sep _ ht q (sub q hq).1 (fun e=>(sub q hq).2.1 e.symm) c hc
 have aiA:∀q∈bQ t (bQ u Γ),∀c,su.owns w (aX a u) c-> ¬q.2.owns w (aX a q.1) c:=fun q hq c hc=>hs.sep _ hu q (sub q hq).1 (fun e=>(sub q hq).2.2 e.symm) c hc
 have lJ:Sat w0 H0 N (bQ t<|bQ u Γ) a w' H:=by
  refine N7 hs hg (fun c hc=>by cases hc;exact⟨hb,h2,fun l e=>by rw[h3] at e;cases e;exact h4⟩)<|fun q hq=>⟨(sub q hq).1,fun c hc e=>?_⟩
  cases e;exact other q hq b hob hc
 have back:∀q∈bQ t (bQ u Γ),∀c,q.2.owns w' (aX a q.1) c->q.2.owns w (aX a q.1) c:=fun q hq c hc=>
  (QX hs hg (fun c hc=>by cases hc;exact⟨hb,h2⟩) (sub q hq).1 (fun c hc e=>by cases e;exact other q hq b hob hc) c).1 hc
 have key:∀q∈bQ t (bQ u Γ),∀c,s'.owns w' (aX a t) c-> ¬q.2.owns w' (aX a q.1) c:=fun q hq c hc AL=>by
  rcases WY c hc with h|h|h
  ·exact other q hq c h<|back q hq c AL
  ·exact aiA q hq c h<|back q hq c AL
  ·have:=(bN.mh (hs.holds q (sub q hq).1)<|back q hq c AL).1;omega
 have h5:Sat w0 H0 N ((t,s')::bQ t (bQ u Γ)) a w' H:=by
  refine⟨lJ.nd,lJ.sz,lJ.below,lJ.J4,lJ.sub,?_,?_,lJ.gl⟩
  ·intro q hq;rcases bP.1 hq with eq|hq
   ·subst eq;exact pN
   ·exact lJ.holds q hq
  ·intro q hq r hr hne c hc AL;rcases bP.1 hq with eq|hq<;>rcases bP.1 hr with er|hr
   ·subst eq;subst er;exact hne rfl
   ·subst eq;exact key r hr c hc AL
   ·subst er;exact key q hq c AL hc
   ·exact lJ.sep q hq r hr hne c hc AL
 refine(h5.Zb u).weaken fun q hq=>?_
 simp only[bP] at hq⊢;rcases hq with h|h|h
 ·exact .inr<| .inl h
 ·exact .inl h
 ·exact .inr<| .inr h
def y8{r:Nat}{o:Obj}(h:w.heap[r]? =some (.map es c)):(setObj r o).run P w= .ok () (w.putObj r o):=by
 simp[setObj,Sem.run,h];rfl
def Li{E:asr}{l:asv Ty}{v:aq6}(h:wT B w H E sz l v)(hb:v.ownBlock=some b):w.heap[b]? ≠some (.map es c):=by
 obtain⟨xs,⟨_,hr⟩,_,_⟩:=h;rcases hr with⟨e,_⟩|⟨g,cap,cur,e,_,hc,_⟩
 ·subst e;simp[Value.ownBlock] at hb
 ·subst e;simp[Value.ownBlock] at hb;subst hb;rw[hc];intro e;cases e
def Ql{Eb:asr}{l:asv (Ty×mH)}{es:asv MapEntry}(h:PM B w H Eb sz 0 l es)(hb:oj b l es){ye:auA MapEntry}:w.heap[b]? ≠some (.map ye c):=by
 obtain⟨j,k,e,x,h1,h2,h3⟩:=mQ.1 hb;obtain⟨y,g1,_,g3,_⟩:=xv h h1;rw[h2] at g1;cases g1;cases e with
 |val τ=>exact h3.elim
 |any=>exact h3.elim
 |buf bl=>exact Li g3 h3
def I3{Eb:asr}{r:Nat}{ye:auA MapEntry}{l':asv (Ty×mH)}(hr:w.heap[r]? =some (.map es c))(hn:H r=none)(hm:B.mY r)(ho:PM B w H Eb sz 0 l' ye.toList)(hs:L1 l' ye.toList):
  I5 B (w.putObj r<| .map ye ye.size) H Eb sz l' (.map<|some r)/\∀b,wy (w.putObj r<| .map ye ye.size) l' (.map<|some r) b↔b=r\/oj b l' ye.toList:=by
 have Ma:(w.putObj r<| .map ye ye.size).heap[r]? =some (.map ye ye.size):=MZ<|lt_of_heap hr
 refine⟨⟨r,ye,rfl,Ma,hn,hm,Sk (HV.le.refl H) ho<|fun b hb=>⟨JA<|fun e=>?_,rfl⟩,hs⟩,fun b=>?_⟩
 ·subst e;exact Ql ho hb hr
 ·constructor
  ·rintro(h|⟨r1,es1,e1,h1,h2⟩)
   ·cases h;exact .inl rfl
   ·cases e1;rw[Ma] at h1;cases h1;exact .inr h2
  ·rintro(h|h)
   ·subst h;exact .inl rfl
   ·exact .inr ⟨r,ye,rfl,Ma,h⟩
end
section
variable[D:DR]
variable{P:Program}{w0:an P}{H0:HV}{N:Nat}{ops:Array Oper}{Q:Exit->Act->World->Prop}{Γ ay:Ctx}{d:Option Tmp}{ty:TypeId}{pos:String}{af:Array Edge}{g:Option (Nat×Bool)}
variable{α β:Type}[DecidableEq α]{K E Eb T:TypeId}{sz:Nat}{fK:α->Ty}{fV:β->mH}
variable{x:α}{dz:Ctx}{m:asu}{t:Nat}{l:asv (α×β)}{z:β}{H:HV}{k:asu}{F:β->Ty}{y:β}{w:aq5}{dd i:Nat}
def BH{l:asv (Ty×mH)}{es:asv MapEntry}{j:Nat}{k k0:Ty}{e e0:mH}{x x0:MapEntry}(hlen:l.length=es.length)(hl:l[j]? =some (k0,e0))(hx:es[j]? =some x0)(h:L1 l es)(hn:∀b,e.owns x.val b->e0.owns x0.val b\/ ¬oj b l es):
  L1 (l.set j (k,e)) (es.set j x)/\∀b,oj b (l.set j (k,e)) (es.set j x)->e.owns x.val b\/(oj b l es/\ ¬e0.owns x0.val b):=by
 have hj:=(jk.1 hl).1;have hj':j<es.length:=hlen▸hj;have hs:=(Ek hlen).1 h;have at':∀i k' e' y,(l.set j (k,e))[i]? =some (k',e')->(es.set j x)[i]? =some y->(i=j/\k'=k/\e'=e/\y=x)\/(i≠j/\l[i]? =some (k',e')/\es[i]? =some y):=fun i k' e' y h1 h2=>by
  by_cases ei:i=j
  ·subst ei;rw[FL hj] at h1;rw[FL hj'] at h2;cases h1;cases h2;exact .inl ⟨rfl,rfl,rfl,rfl⟩
  ·rw[List.getElem?_set_ne<|Ne.symm ei] at h1 h2;exact .inr ⟨ei,h1,h2⟩
 have one:∀i k' e' y,i≠j->l[i]? =some (k',e')->es[i]? =some y->∀b,e'.owns y.val b-> ¬e.owns x.val b/\ ¬e0.owns x0.val b:=fun i k' e' y hi h1 h2 b hb=>by
  have k2: ¬e0.owns x0.val b:=fun h0=>by
   rcases Nat.lt_or_gt_of_ne hi with hlt|hlt
   ·exact hs i j k' k0 e' e0 y x0 hlt h1 hl h2 hx b hb h0
   ·exact hs j i k0 k' e0 e' x0 y hlt hl h1 hx h2 b h0 hb
  refine⟨fun h3=>?_,k2⟩;rcases hn b h3 with h4|h4
  ·exact k2 h4
  ·exact h4<|mQ.2 ⟨i,k',e',y,h1,h2,hb⟩
 refine⟨(Ek (by simpa using hlen)).2 ?_,fun b hb=>?_⟩
 ·intro i i' k1 k2 e1 e2 y z VU hi hi' hy hz b hb jQ;rcases at' i k1 e1 y hi hy with⟨rfl,rfl,rfl,rfl⟩|⟨n1,g1,g2⟩<;>rcases at' i' k2 e2 z hi' hz with⟨rfl,rfl,rfl,rfl⟩|⟨n2,g3,g4⟩
  ·omega
  ·exact(one i' k2 e2 z n2 g3 g4 b jQ).1 hb
  ·exact(one i k1 e1 y n1 g1 g2 b hb).1 jQ
  ·exact hs i i' k1 k2 e1 e2 y z VU g1 g3 g2 g4 b hb jQ
 ·obtain⟨i,k1,e1,y,h1,h2,h3⟩:=mQ.1 hb;rcases at' i k1 e1 y h1 h2 with⟨rfl,rfl,rfl,rfl⟩|⟨n1,g1,g2⟩
  ·exact .inl h3
  ·exact .inr ⟨mQ.2 ⟨i,k1,e1,y,g1,g2,h3⟩,(one i k1 e1 y n1 g1 g2 b h3).2⟩
def Km{l:asv (Ty×mH)}{es:asv MapEntry}{k:Ty}{e:mH}{x:MapEntry}(hlen:l.length=es.length)(h:L1 l es)(hn:∀b,¬e.owns x.val b):
  L1 (l++[(k,e)]) (es++[x])/\∀b,oj b (l++[(k,e)]) (es++[x])->oj b l es:=by
 have at':∀(i:Nat) (k':Ty) (e':mH) (y:MapEntry) (b:Nat),(l++[(k,e)])[i]? =some (k',e')->(es++[x])[i]? =some y->e'.owns y.val b->l[i]? =some (k',e')/\es[i]? =some y:=fun i k' e' y b h1 h2 h3=>by
  by_cases hi:i<l.length
  ·rw[xF hi] at h1;rw[xF<|hlen▸hi] at h2;exact⟨h1,h2⟩
  ·have:i=l.length:=by
    have:=(jk.1 h1).1;simp at this;omega
   subst this;rw[Bk<|bG _] at h1;rw[Bk (by omega)] at h2;simp[hlen] at h1 h2;obtain⟨rfl,rfl⟩:=h1;subst h2;exact absurd h3<|hn b
 refine⟨(Ek (by simp[hlen])).2 fun i j k1 k2 e1 e2 y z VU hi hj hy hz b hb jQ=>?_,fun b hb=>?_⟩
 ·obtain⟨g1,g2⟩:=at' i k1 e1 y b hi hy hb;obtain⟨g3,g4⟩:=at' j k2 e2 z b hj hz jQ;exact(Ek hlen).1 h i j k1 k2 e1 e2 y z VU g1 g3 g2 g4 b hb jQ
 ·obtain⟨i,k1,e1,y,h1,h2,h3⟩:=mQ.1 hb;obtain⟨g1,g2⟩:=at' i k1 e1 y b h1 h2 h3;exact mQ.2 ⟨i,k1,e1,y,g1,g2,h3⟩
def run_keyThatStays(hk:lS P K fK){u v:aq6}(hu:(fK x).ok H u)(hv:(fK x).ok H v)(w:aq5):(Instr.keyThatStays u v).run P w= .ok v w:=by
 simp[Instr.keyThatStays,hk.bits H u v x hu hv]
def wx{γ:Type}(es:auA γ)(j:Nat)(f:γ->γ):(es.modify j f).toList=es.toList.modify j f:=by simp
def BR{γ:Type}:∀{l:asv γ} {j:Nat} {f:γ->γ} {x:γ},l[j]? =some x->l.modify j f=l.set j (f x)
 |[],_,_,_,h=>by simp at h
 |y::l,0,f,x,h=>by simp at h;subst h;rfl
 |y::l,j+1,f,x,h=>by
  have:=BR (l:=l) (j:=j) (f:=f) (x:=x) (by simpa using h);simpa using this
def I4{v:asu}(bY:∀q∈dz,q∈Γ)(hT:yu P T K E=true)(hk:lS P K fK)(hm:kd dz m t)(ht:look dz t=some (.oQ K E Eb sz<|mM fK (fun v=> .val<|F v) l))(hx:Arg dz k (fK x))(hy:Arg dz v (F y)):
  Step P N ops ⟨none,.mapUpdate T m k v,ty,pos,af,none⟩ Γ ((t,.oQ K E Eb sz<|mM fK (fun v=> .val<|F v)<|rh l x y)::bQ t Γ):=by
 intro w0 H0 a w H hs K' Q kk;simp only[Region.wanted,if_true];obtain⟨r,es,e,hr,hn,PO,ho,L8⟩:=hs.holds _<|bY _<|az ht
 simp only at e;have L9:=hs.weaken bY;have em:a.eval m= .map (some r):=by rw[hm.ok L9];exact e
 have GR:=hx.ok L9;have hyv:=hy.ok L9;obtain⟨k1,k2⟩:=M7 ho;have hf:=run_findKey hk GR (w:=w) k1 k2;have hc:=hk.check H _ x GR false w;have hlen:(mM fK (fun v=>mH.val<|F v) l).length=es.toList.length:=by simp[k2,mM]
 have hown:∀b,¬oj b (mM fK (fun v=>mH.val<|F v) l) es.toList:=fun b h=>by
  obtain⟨j,k',e',z,h1,_,h3⟩:=mQ.1 h;simp only[mM,nS,Option.map_eq_some_iff] at h1;obtain⟨p,_,h1⟩:=h1;cases h1;exact h3
 have fin:∀(ye:auA MapEntry) (l':asv (Ty×mH)),l'=mM fK (fun v=>mH.val<|F v) (rh l x y)->PM w0 w H Eb sz 0 l' ye.toList->L1 l' ye.toList->(∀b,¬oj b l' ye.toList)->
   K' (a.put none undef) (w.putObj r<| .map ye ye.size):=fun ye l' el h1 h2 h3=>by
  subst el;obtain⟨g1,g2⟩:=I3 hr hn PO h1 h2;refine kk a _ H (jo hs (bY _<|az ht) (AO.putObj w r _) PO (by simp only[e];exact .inl rfl) (by simp only[e];exact g1) fun c hc=> .inl ?_);simp only[e] at hc⊢;rcases(g2 c).1 hc with h|h
  ·subst h;exact .inl rfl
  ·exact absurd h<|h3 c
 unfold Oper.wp;cases JH:mix x l with
 |none=>
  rw[JH] at hf;have er:(execOp a.eval ⟨none,.mapUpdate T m k v,ty,pos,af,none⟩).run P w= .ok .skip (w.putObj r<| .map (es.push {key:=a.eval k,val:=a.eval v,born:=es.size})<|es.size+1):=by
   simp[execOp,em,Instr.mapUpdate,aP<|tV hT,run_getObj_map hr,hc,hf,y8 hr]
  rw[er,wI];have:=fin (es.push {key:=a.eval k,val:=a.eval v,born:=es.size}) (mM fK (fun v=>mH.val<|F v) l++[(fK x,.val<|F y)]) (by simp[mM,rh,JH])
   (by simpa using Oz (k:=fK x) (e:= .val<|F y) (x:={key:=a.eval k,val:=a.eval v,born:=es.size}) ho GR hyv (by simp[<-k2]))
   (by simpa using(Km (k:=fK x) (e:= .val<|F y) hlen L8<|fun _ h=>h).1)
   (fun b hb=>hown b ((Km (k:=fK x) (e:= .val<|F y) (x:={key:=a.eval k,val:=a.eval v,born:=es.size}) hlen L8<|fun _ h=>h).2 b (by simpa using hb)))
  simpa using this
 |some j=>
  rw[JH] at hf;obtain⟨v0,L7⟩:=BS JH;obtain⟨z,h1,h2,h3,h4⟩:=xv ho (j:=j) (k:=fK x) (e:= .val<|F v0) (by simp[L7]);have h1':es[j]? =some z:=by simpa using h1
  have yc:=run_keyThatStays hk h2 GR w;have er:(execOp a.eval ⟨none,.mapUpdate T m k v,ty,pos,af,none⟩).run P w= .ok .skip (w.putObj r<| .map (es.modify j fun e=>{e with key:=a.eval k,val:=a.eval v}) es.size):=by
   simp[execOp,em,Instr.mapUpdate,aP<|tV hT,run_getObj_map hr,hc,hf,y8 hr,h1',yc]
  rw[er,wI];have Mb:(es.modify j fun e=>{e with key:=a.eval k,val:=a.eval v}).toList=es.toList.set j {z with key:=a.eval k,val:=a.eval v}:=by rw[wx,BR h1]
  have hl0:(mM fK (fun v=>mH.val<|F v) l)[j]? =some (fK x,.val<|F v0):=by simp[L7]
  have:=fin (es.modify j fun e=>{e with key:=a.eval k,val:=a.eval v}) ((mM fK (fun v=>mH.val<|F v) l).set j (fK x,.val<|F y)) (by simp[mM,rh,JH,yC])
   (by rw[Mb];exact Ft (k:=fK x) (e:= .val<|F y) (x:={z with key:=a.eval k,val:=a.eval v}) ho GR hyv (by simpa using h4))
   (by rw[Mb];exact(BH (k:=fK x) (e:= .val<|F y) hlen hl0 h1 L8<|fun _ h=>h.elim).1)
   (fun b hb=>by
    rw[Mb] at hb;rcases(BH (k:=fK x) (e:= .val<|F y) hlen hl0 h1 L8<|fun _ h=>h.elim).2 b hb with h|h
    ·exact h
    ·exact hown b h.1)
  simpa using this
def I6(hT:yu P T K E=true)(hk:lS P K fK)(hz:∀(w:aq5),∃zv,(zeroValue E).run P w= .ok zv w/\∀(B:an P) (H:HV),(fV z).holds B w H Eb sz zv/\∀b,¬(fV z).owns zv b)
 (hm:kd dz m t)(ht:look dz t=some (.oQ K E Eb sz<|mM fK fV l))(hx:Arg dz k (fK x)){a:Act}(hs:Sat w0 H0 N dz a w H):
  ∃(r:Nat) (es ye:auA MapEntry) (y:MapEntry),aX a t= .map (some r)/\w.heap[r]? =some (.map es es.size)/\H r=none/\w0.mY r/\(Instr.mapEntry T (a.eval m)<|a.eval k).run P w= .ok (.tuple #[y.val,.int .i64<|ij x l]) (w.putObj r<| .map ye ye.size)/\
   PM w0 w H Eb sz 0 (mM fK fV<|nw l x z) ye.toList/\L1 (mM fK fV<|nw l x z) ye.toList/\(∀b,oj b (mM fK fV<|nw l x z) ye.toList->oj b (mM fK fV l) es.toList)/\ye.toList[ij x l]? =some y:=by
 obtain⟨r,es,e,hr,hn,PO,ho,L8⟩:=hs.holds _<|az ht
 simp only at e;have em:a.eval m= .map (some r):=by rw[hm.ok hs];exact e
 have GR:=hx.ok hs;obtain⟨k1,k2⟩:=M7 ho;have hf:=run_findKey hk GR (w:=w) k1 k2;have hc:=hk.check H _ x GR false w;have hlen:(mM fK fV l).length=es.toList.length:=by simp[k2,mM]
 cases JH:mix x l with
 |none=>
  rw[JH] at hf;obtain⟨zv,Tn,VQ⟩:=hz w;have ahG:=Km (k:=fK x) (e:=fV z) (x:={key:=a.eval k,val:=zv,born:=es.size}) hlen L8 (VQ w0 H).2;have el:mM fK fV (nw l x z)=mM fK fV l++[(fK x,fV z)]:=by simp[mM,nw,JH]
  refine⟨r,es,es.push {key:=a.eval k,val:=zv,born:=es.size},{key:=a.eval k,val:=zv,born:=es.size},e,hr,hn,PO,?_,?_,?_,?_,?_⟩
  ·have:(ij x l)=es.size:=by simp only[ij,JH,Option.getD_none];rw[<-k2];simp
   rw[this];simp[em,Instr.mapEntry,aP<|tV hT,run_getObj_map hr,hc,hf,y8 hr,Tn,goInt]
  ·rw[el];simpa using Oz (k:=fK x) (e:=fV z) (x:={key:=a.eval k,val:=zv,born:=es.size}) ho GR (VQ w0 H).1 (by simp[<-k2])
  ·rw[el];simpa using ahG.1
  ·rw[el];intro b hb;exact ahG.2 b (by simpa using hb)
  ·have:(ij x l)=es.toList.length:=by simp only[ij,JH,Option.getD_none];rw[<-k2]
   rw[this];simp
 |some j=>
  rw[JH] at hf;obtain⟨v0,L7⟩:=BS JH;have hl0:(mM fK fV l)[j]? =some (fK x,fV v0):=by simp[L7]
  obtain⟨y,h1,h2,h3,h4⟩:=xv ho hl0;have h1':es[j]? =some y:=by simpa using h1
  have yc:=run_keyThatStays hk h2 GR w;have Mb:(es.modify j fun e=>{e with key:=a.eval k}).toList=es.toList.set j {y with key:=a.eval k}:=by rw[wx,BR h1]
  have el:mM fK fV (nw l x z)=(mM fK fV l).set j (fK x,fV v0):=by
   simp only[nw,JH];exact(IE hl0).symm
  have uW:=BH (k:=fK x) (e:=fV v0) (x:={y with key:=a.eval k}) hlen hl0 h1 L8<|fun b hb=> .inl hb
  have hj:ij x l=j:=by simp[ij,JH]
  refine⟨r,es,es.modify j fun e=>{e with key:=a.eval k},{y with key:=a.eval k},e,hr,hn,PO,?_,?_,?_,?_,?_⟩
  ·have hb:y.born=j:=by simpa using h4
   rw[hj];simp[em,Instr.mapEntry,aP<|tV hT,run_getObj_map hr,hc,hf,y8 hr,h1',yc,goInt,hb]
  ·rw[Mb,el];exact Ft (k:=fK x) (e:=fV v0) (x:={y with key:=a.eval k}) ho GR h3 (by simpa using h4)
  ·rw[Mb,el];exact uW.1
  ·rw[Mb,el];intro b hb;rcases uW.2 b hb with h|h
   ·exact mQ.2 ⟨j,fK x,fV v0,y,hl0,h1,h⟩
   ·exact h.1
  ·rw[Mb,hj];have:=(jk.1 h1).1;rw[FL this]
def aal(bY:∀q∈dz,q∈Γ)(hT:yu P T K E=true)(hk:lS P K fK)(hz:bL P E (F z))
 (hm:kd dz m t)(ht:look dz t=some (.oQ K E Eb sz<|mM fK (fun v=> .val<|F v) l))(hx:Arg dz k (fK x))(nU:dd<N)(hne:dd≠t):
  Step P N ops ⟨some dd,.mapEntry T m k,ty,pos,af,none⟩ Γ ((dd,.J3 [F<|jc l x z,TI .i64<|ij x l])::(t,.oQ K E Eb sz<|mM fK (fun v=> .val<|F v)<|nw l x z)::del dd (bQ t Γ)):=by
 intro w0 H0 a w H hs K' Q kk;simp only[Region.wanted,if_true];obtain⟨r,es,ye,y,e,hr,hn,PO,qQ,h1,h2,h3,h4⟩:=I6 (fV:=fun v=> .val<|F v) (z:=z) hT hk (fun w=>by
  obtain⟨zv,g1,g2⟩:=hz.run w;exact⟨zv,g1,fun B H=>⟨g2 H,fun _ h=>h⟩⟩) hm ht hx<|hs.weaken bY
 obtain⟨g1,g2⟩:=I3 hr hn PO h1 h2;have OS:=jo hs (bY _<|az ht) (s':= .oQ K E Eb sz<|mM fK (fun v=> .val<|F v)<|nw l x z) (AO.putObj w r<| .map ye ye.size) PO (by simp only[e];exact .inl rfl) (by simp only[e];exact g1) (fun c hc=> .inl (by
  simp only[e] at hc⊢;rcases(g2 c).1 hc with h|h
  ·subst h;exact .inl rfl
  ·exact .inr ⟨r,es,rfl,hr,h3 c h⟩))
 unfold Oper.wp;have er:(execOp a.eval ⟨some dd,.mapEntry T m k,ty,pos,af,none⟩).run P w= .ok (.value<| .tuple #[y.val,.int .i64<|ij x l]) (w.putObj r<| .map ye ye.size):=by
  simp only[execOp,fh,qQ,eQ];rfl
 rw[er,uq];obtain⟨y',k1,_,k3,_⟩:=xv h1 (j:=ij x l) (k:=fK x) (e:= .val<|F<|jc l x z) (by simp[mM,ME]);rw[h4] at k1;cases k1;have hs3:=pT (d:=dd) (s:= .J3 [F<|jc l x z,TI .i64<|ij x l]) (v:= .tuple #[y.val,.int .i64<|ij x l]) (Γ:=del dd ((t,.oQ K E Eb sz<|mM fK (fun v=> .val<|F v)<|nw l x z)::bQ t Γ)) (OS.weaken lh) nU qk (by simp[bN.bO])
  ⟨_,rfl,y.val,[.int .i64<|ij x l],rfl,k3,_,[],rfl,rfl,rfl⟩ (fun b h=>h.elim)
 refine kk _ _ H<|hs3.weaken fun q hq=>?_
 simp only[bP] at hq⊢;rcases hq with h|h|h
 ·exact .inl h
 ·subst h;exact .inr (qI (by simp) (fun e=>hne e.symm) (by simp[bN.bO]))
 ·have:=Pm h;exact .inr<|qI (fY _<|lh _ h) this.1 this.2
def Q6{F:β->asv Ty}(bY:∀q∈dz,q∈Γ)(hT:yu P T K E=true)(hk:lS P K fK)(hz:(P.info? E).bind (·.zero)=some (.slice none 0 0))(hz0:F z=[])
 (hm:kd dz m t)(ht:look dz t=some (.oQ K E Eb sz<|mM fK (fun v=> .buf<|F v) l))(hx:Arg dz k (fK x))(nU:dd<N)(hne:dd≠t):
  Step P N ops ⟨some dd,.mapEntry T m k,ty,pos,af,none⟩ Γ ((dd,.EB Eb sz (F<|jc l x z)<|ij x l)::(t,.oQ K E Eb sz<|(mM fK (fun v=> .buf<|F v)<|nw l x z).set (ij x l) (fK x,.any))::del dd (bQ t Γ)):=by
 intro w0 H0 a w H hs K' Q kk;simp only[Region.wanted,if_true];obtain⟨r,es,ye,y,e,hr,hn,PO,qQ,h1,h2,h3,h4⟩:=I6 (fV:=fun v=> .buf<|F v) (z:=z) hT hk (fun w=>by
  cases hi:P.info? E with
  |none=>rw[hi] at hz;cases hz
  |some i=>
   rw[hi] at hz;exact⟨_,A2 hi hz w,fun B H=>⟨by simp only[hz0];exact Kp,fun b h=>by simp[mH.owns,Value.ownBlock] at h⟩⟩) hm ht hx<|hs.weaken bY
 obtain⟨g1,g2⟩:=I3 hr hn PO h1 h2;have OS:=jo hs (bY _<|az ht) (s':= .oQ K E Eb sz<|mM fK (fun v=> .buf<|F v)<|nw l x z) (AO.putObj w r<| .map ye ye.size) PO (by simp only[e];exact .inl rfl) (by simp only[e];exact g1) (fun c hc=> .inl (by
  simp only[e] at hc⊢;rcases(g2 c).1 hc with h|h
  ·subst h;exact .inl rfl
  ·exact .inr ⟨r,es,rfl,hr,h3 c h⟩))
 unfold Oper.wp;have er:(execOp a.eval ⟨some dd,.mapEntry T m k,ty,pos,af,none⟩).run P w= .ok (.value<| .tuple #[y.val,.int .i64<|ij x l]) (w.putObj r<| .map ye ye.size):=by
  simp only[execOp,fh,qQ,eQ];rfl
 rw[er,uq]
 generalize hw':w.putObj r (.map ye ye.size)=w' at*
 have Ma:w'.heap[r]? =some (.map ye ye.size):=by rw[<-hw'];exact MZ<|lt_of_heap hr
 have OX:(mM fK (fun v=>mH.buf<|F v)<|nw l x z)[ij x l]? =some (fK x,.buf<|F<|jc l x z):=by simp[mM,ME]
 obtain⟨r2,es2,e2,KK,Qm,hm2,YO,ao6⟩:=OS.holds (t,.oQ K E Eb sz<|mM fK (fun v=> .buf<|F v)<|nw l x z) (by simp);simp only[e] at e2;cases e2;rw[Ma] at KK;cases KK;obtain⟨y',k1,k2,k3,k4⟩:=xv YO OX;rw[h4] at k1;cases k1;have hlen:(mM fK (fun v=>mH.buf<|F v)<|nw l x z).length=ye.toList.length:=(An YO).symm;have uW:=BH (k:=fK x) (e:= .any) (x:=y) hlen OX h4 ao6<|fun b hb=>hb.elim
 rw[IE h4] at uW;have alR:=Ft (k:=fK x) (e:= .any) (x:=y) YO k2 trivial k4;rw[IE h4] at alR;have key:=Kn OS (t:=t) (dd:=dd) (s:= .oQ K E Eb sz<|mM fK (fun v=> .buf<|F v)<|nw l x z) (s':= .oQ K E Eb sz<|(mM fK (fun v=> .buf<|F v)<|nw l x z).set (ij x l) (fK x,.any)) (sd:= .EB Eb sz (F<|jc l x z)<|ij x l) (v:= .tuple #[y.val,.int .i64<|ij x l]) (by simp) nU hne (by simp[bN.bO])
  ⟨r,ye,e,Ma,Qm,hm2,alR,uW.1⟩ ⟨y.val,rfl,k3⟩
  (by
   simp only[e];rintro b (h|⟨r3,es3,e3,hr3,hb⟩)
   ·exact .inl h
   ·cases e3;rw[Ma] at hr3;cases hr3;rcases uW.2 b hb with h|h
    ·exact h.elim
    ·exact .inr ⟨r,ye,rfl,Ma,h.1⟩)
  (by
   simp only[e];rintro b ⟨x1,i1,e1,hb⟩;cases e1;exact .inr ⟨r,ye,rfl,Ma,mQ.2 ⟨_,_,_,_,OX,h4,hb⟩⟩)
  (by
   simp only[e];rintro b ⟨x1,i1,e1,hb⟩ hb2;cases e1;rcases hb2 with hb2|⟨r3,es3,e3,hr3,hb2⟩
   ·cases hb2;exact Li k3 hb Ma
   ·cases e3;rw[Ma] at hr3;cases hr3;rcases uW.2 b hb2 with h|h
    ·exact h
    ·exact h.2 hb)
 refine kk _ _ H<|key.weaken fun q hq=>?_
 simp only[bP] at hq⊢;rcases hq with h|h|h
 ·exact .inl h
 ·exact .inr<| .inl h
 ·have:=Pm h;refine .inr<| .inr<|qI (mi (fY _<|lh _ h) ?_) this.1 this.2
  exact(bI q<|lh q h).2
def UH{u:Nat}{l:asv Ty}(bY:∀q∈dz,q∈Γ)(hu:look dz u=some (.EB Eb sz l i))(nU:dd<N)(hne:dd≠u):
  Step P N ops ⟨some dd,.extract (.tmp u) 0,ty,pos,af,none⟩ Γ ((dd,.buf Eb sz l)::(u,.J3 [iV 1 false,TI .i64 i])::del dd (bQ u Γ)):=by
 intro w0 H0 a w H hs K' Q kk;simp only[Region.wanted,if_true];obtain⟨x,e,uD⟩:=hs.holds _<|bY _<|az hu
 simp only at e;unfold Oper.wp;have eu:a.eval (.tmp u)= .tuple #[x,.int .i64 i]:=e;have er:(execOp a.eval ⟨some dd,.extract (.tmp u) 0,ty,pos,af,none⟩).run P w= .ok (.value x) w:=by
  simp[execOp,eu,Instr.extract]
 rw[er,uq];have hx1:x.oneCell'=true:=by
  obtain⟨xs,⟨_,hr⟩,_,_⟩:=uD;rcases hr with⟨e,_⟩|⟨g,cap,cur,e,_⟩<;>rw[e]<;>rfl
 exact kk _ _ H (Kn hs (bY _<|az hu) nU hne (by simp[bN.bO]) ⟨_,e,x,[.int .i64 i],rfl,Shape.one hx1,_,[],rfl,rfl,rfl⟩ uD (fun b h=>h.elim) (fun b h=>⟨x,_,e,h⟩)<|fun b _ h=>h.elim)
def aaY{B:an P}{l:asv (Ty×mH)}{es:auA MapEntry}(ho:PM B w H Eb sz 0 l es.toList)(hi:i<es.size):es.findIdx? (fun e=>(e.born:Int)==(i:Int))=some i:=by
 have hb:∀(j:Nat) (x:MapEntry),es[j]? =some x->x.born=j:=fun j x hx=>by
  have hlt:j<l.length:=by rw[<-An ho];simpa using(zO.1 hx).1
  obtain⟨y,h1,_,_,h4⟩:=xv ho (j:=j) (k:=l[j].1) (e:=l[j].2) (by simp[hlt]);have:es[j]? =some y:=by simpa using h1
  rw[hx] at this;cases this;simpa using h4
 rw[Array.findIdx?_eq_some_iff_getElem];refine⟨hi,?_,fun j hj=>?_⟩
 ·have:=hb i es[i] (by simp[hi]);simp[this]
 ·have hj':j<es.size:=Nat.lt_trans hj hi;have:=hb j es[j] (by simp[hj']);simp[this];omega
def Ep{B:an P}{l:asv (Ty×mH)}{es:auA MapEntry}{r:Nat}{v:aq6}(hr:w.heap[r]? =some (.map es es.size))(ho:PM B w H Eb sz 0 l es.toList)(hi:i<es.size):
  (Instr.entryStore T (.map<|some r) (.int .i64 i) v).run P w= .ok () (w.putObj r<| .map (es.modify i fun e=>{e with val:=v}) es.size):=by
 simp[Instr.entryStore,run_getObj_map hr,asInt,asIntOf,aaY ho hi,y8 hr]
def Vt{s v:asu}(bY:∀q∈dz,q∈Γ)(hm:kd dz m t)(ht:look dz t=some (.oQ K E Eb sz<|mM fK (fun v=> .val<|F v)<|nw l x z))(yc:Arg dz s (TI .i64<|ij x l))(hy:Arg dz v (F y)):
  Step P N ops ⟨none,.entryStore T m s v,ty,pos,af,none⟩ Γ ((t,.oQ K E Eb sz<|mM fK (fun v=> .val<|F v)<|rh l x y)::bQ t Γ):=by
 intro w0 H0 a w H hs K' Q kk;simp only[Region.wanted,if_true];obtain⟨r,es,e,hr,hn,PO,ho,L8⟩:=hs.holds _<|bY _<|az ht
 simp only at e;have L9:=hs.weaken bY;have em:a.eval m= .map (some r):=by rw[hm.ok L9];exact e
 have es_:a.eval s= .int .i64 (ij x l):=yc.ok L9;have hyv:=hy.ok L9;have OX:(mM fK (fun v=>mH.val<|F v)<|nw l x z)[ij x l]? =some (fK x,.val<|F<|jc l x z):=by simp[mM,ME]
 have hlt:ij x l<es.size:=by
  have:=(jk.1 OX).1;rw[<-An ho] at this;simpa using this
 obtain⟨y0,h1,h2,h3,h4⟩:=xv ho OX;have hlen:=(An ho).symm;have Mb:(es.modify (ij x l) fun e=>{e with val:=a.eval v}).toList=es.toList.set (ij x l) {y0 with val:=a.eval v}:=by rw[wx,BR h1]
 have uW:=BH (k:=fK x) (e:= .val<|F y) (x:={y0 with val:=a.eval v}) hlen OX h1 L8<|fun _ h=>h.elim
 have el:mM fK (fun v=>mH.val<|F v) (rh l x y)=(mM fK (fun v=>mH.val<|F v)<|nw l x z).set (ij x l) (fK x,.val<|F y):=by
  rw[<-UG l x z y];simp[mM,yC]
 have hsz:(es.modify (ij x l) fun e=>{e with val:=a.eval v}).size=es.size:=by simp
 obtain⟨g1,g2⟩:=I3 (ye:=es.modify (ij x l) fun e=>{e with val:=a.eval v}) (l':=mM fK (fun v=>mH.val<|F v)<|rh l x y) hr hn PO
  (by rw[Mb,el];exact Ft (k:=fK x) (e:= .val<|F y) (x:={y0 with val:=a.eval v}) ho h2 hyv (by simpa using h4)) (by rw[Mb,el];exact uW.1)
 unfold Oper.wp;have er:(execOp a.eval ⟨none,.entryStore T m s v,ty,pos,af,none⟩).run P w= .ok .skip (w.putObj r<| .map (es.modify (ij x l) fun e=>{e with val:=a.eval v}) es.size):=by
  simp only[execOp,em,es_,fh,Ep hr ho hlt,eQ];rfl
 rw[er,wI];rw[hsz] at g1 g2;refine kk a _ H (jo hs (bY _<|az ht) (AO.putObj w r _) PO (by simp only[e];exact .inl rfl) (by simp only[e];exact g1) fun c hc=> .inl ?_);simp only[e] at hc⊢;rcases(g2 c).1 hc with h|h
 ·subst h;exact .inl rfl
 ·rw[Mb,el] at h;rcases uW.2 c h with h|h
  ·exact h.elim
  ·exact .inr ⟨r,es,rfl,hr,h.1⟩
def Lz{F:β->asv Ty}{s:asu}{u:Nat}(bY:∀q∈dz,q∈Γ)(hm:kd dz m t)(ht:look dz t=some (.oQ K E Eb sz<|(mM fK (fun v=> .buf<|F v)<|nw l x z).set (ij x l) (fK x,.any)))(yc:Arg dz s (TI .i64<|ij x l))(hu:look dz u=some (.buf Eb sz<|F y))(hne:u≠t):
  Step P N ops ⟨none,.entryStore T m s<| .tmp u,ty,pos,af,none⟩ Γ ((t,.oQ K E Eb sz<|mM fK (fun v=> .buf<|F v)<|rh l x y)::(u,.gone)::bQ t (bQ u Γ)):=by
 intro w0 H0 a w H hs K' Q kk;simp only[Region.wanted,if_true];obtain⟨r,es,e,hr,hn,PO,ho,L8⟩:=hs.holds _<|bY _<|az ht
 have hub:=hs.holds _<|bY _<|az hu
 simp only at e hub;have L9:=hs.weaken bY;have em:a.eval m= .map (some r):=by rw[hm.ok L9];exact e
 have es_:a.eval s= .int .i64 (ij x l):=yc.ok L9;have hl0:(mM fK (fun v=>mH.buf<|F v)<|nw l x z)[ij x l]? =some (fK x,.buf<|F<|jc l x z):=by simp[mM,ME]
 have OX:((mM fK (fun v=>mH.buf<|F v)<|nw l x z).set (ij x l) (fK x,.any))[ij x l]? =some (fK x,.any):=FL (jk.1 hl0).1;have hlt:ij x l<es.size:=by
  have:=(jk.1 OX).1;rw[<-An ho] at this;simpa using this
 obtain⟨y0,h1,h2,h3,h4⟩:=xv ho OX;have hlen:=(An ho).symm;have Mb:(es.modify (ij x l) fun e=>{e with val:=aX a u}).toList=es.toList.set (ij x l) {y0 with val:=aX a u}:=by rw[wx,BR h1]
 have ada:∀b,(mH.buf<|F y).owns (aX a u) b-> ¬oj b ((mM fK (fun v=>mH.buf<|F v)<|nw l x z).set (ij x l) (fK x,.any)) es.toList:=fun b hb jQ=>
  hs.sep _ (bY _<|az hu) _ (bY _<|az ht) hne b hb (by simp only[e];exact .inr ⟨r,es,rfl,hr,jQ⟩)
 have uW:=BH (k:=fK x) (e:= .buf<|F y) (x:={y0 with val:=aX a u}) hlen OX h1 L8<|fun b h=> .inr<|ada b h
 have el:mM fK (fun v=>mH.buf<|F v) (rh l x y)=((mM fK (fun v=>mH.buf<|F v)<|nw l x z).set (ij x l) (fK x,.any)).set (ij x l) (fK x,.buf<|F y):=by
  rw[<-UG l x z y,List.set_set];simp[mM,yC]
 have hsz:(es.modify (ij x l) fun e=>{e with val:=aX a u}).size=es.size:=by simp
 obtain⟨g1,g2⟩:=I3 (ye:=es.modify (ij x l) fun e=>{e with val:=aX a u}) (l':=mM fK (fun v=>mH.buf<|F v)<|rh l x y) hr hn PO
  (by rw[Mb,el];exact Ft (k:=fK x) (e:= .buf<|F y) (x:={y0 with val:=aX a u}) ho h2 hub (by simpa using h4)) (by rw[Mb,el];exact uW.1)
 unfold Oper.wp;have er:(execOp a.eval ⟨none,.entryStore T m s<| .tmp u,ty,pos,af,none⟩).run P w= .ok .skip (w.putObj r<| .map (es.modify (ij x l) fun e=>{e with val:=aX a u}) es.size):=by
  have eu:a.eval (.tmp u)=aX a u:=rfl;simp only[execOp,em,es_,eu,fh,Ep hr ho hlt,eQ];rfl
 rw[er,wI];rw[hsz] at g1 g2;refine kk a _ H (Qf hs (bY _<|az ht) (bY _<|az hu) hne (AO.putObj w r _) PO (by simp only[e];exact .inl rfl) (by simp only[e];exact g1) fun c hc=>?_);simp only[e] at hc⊢;rcases(g2 c).1 hc with h|h
 ·subst h;exact .inl<| .inl rfl
 ·rw[Mb,el] at h;rcases uW.2 c h with h|h
  ·exact .inr<| .inl h
  ·exact .inl<| .inr ⟨r,es,rfl,hr,h.1⟩
end
section
variable[D:DR]
variable{P:Program}{w0:an P}{H0:HV}{N:Nat}{ops:Array Oper}{Q:Exit->Act->World->Prop}{Γ ay:Ctx}{d:Option Tmp}{ty:TypeId}{pos:String}{af:Array Edge}{g:Option (Nat×Bool)}
variable{H:HV}{w:aq5}{t:Nat}{L:asv (Ty×Ty)}{α:Type}{s s':bN}{r m it:Nat}{seen:asv Nat}{f:FuncId}{xs:asv asu}{pre dq:asv Ty}{dd:Nat}{dz:Ctx}
def Er{n:Nat}(hn:0<n)(w:aq5):∃(i:Nat) (k:Nat),w.drawn<=k/\i<n/\(choose<| .mapNext n).run P w= .ok i {w with drawn:=k}:=by
 by_cases h:n<=1
 ·refine⟨0,w.drawn,bG _,hn,?_⟩;simp[choose,Sem.run,Question.forced,h]
 ·refine⟨w.tape w.drawn (.mapNext n)%n,w.drawn+1,wF _,uv _ hn,?_⟩;simp[choose,Sem.run,Question.forced,h,Question.cut]
def Oo{T:asr}{K E:asr}{m:asu}(hT:yu P T K E=true)(hm:Arg Γ m (aex L)):bK P Γ ⟨d,.range T m,ty,pos,af,g⟩ (.tn L []):=
 ju fun w0 _ _ a w H hs=>by
  obtain⟨r,es,e,hr,ho⟩:=hm.ok hs;have Ma:=hs.sub _ _ hr;refine⟨.pointer<|some ⟨w.heap.size,0,none⟩,w.alloc<| .mapIter (some r) es.size #[] es.size,H,?_,Ext.alloc hs.sub _,?_,?_⟩
  ·simp[execOp,Instr.range,e,aP<|tV hT,run_getObj_map Ma,newObj];rfl
  ·refine⟨w.heap.size,r,es,#[],rfl,sR w _,?_,.inl hs.below.size,hr,ho,rfl⟩;cases hh:H w.heap.size with
   |none=>rfl
   |some o=>have:=xP hs.sub hh;omega
  ·rintro b ⟨ad,e,hb⟩;cases e;simp at hb;omega
def Si{H:HV}:∀{i:Nat} {l:asv (Ty×Ty)} {es:asv MapEntry},okM H i l es->es.length=l.length
 |_,[],[],_=>rfl
 |_,[],_::_,h=>h.elim
 |_,(_,_)::_,[],h=>h.elim
 |_,(_,_)::_,_::_,⟨_,_,_,h⟩=>by simp[Si h]
def Sj{H:HV}:∀{i:Nat} {l:asv (Ty×Ty)} {es:asv MapEntry} {j:Nat} {x:MapEntry},okM H i l es->es[j]? =some x->∃k e,l[j]? =some (k,e)/\k.ok H x.key/\e.ok H x.val/\x.born=i+j
 |_,[],[],_,_,_,h=>by simp at h
 |_,[],_::_,_,_,h,_=>h.elim
 |_,(_,_)::_,[],_,_,h,_=>h.elim
 |i,(k,e)::l,x::xs,0,y,⟨h1,h2,h3,h4⟩,h=>by
  simp at h;subst h;exact⟨k,e,rfl,h1,h2,by simpa using h3⟩
 |i,(k,e)::l,x::xs,j+1,y,⟨h1,h2,h3,h4⟩,h=>by
  obtain⟨k',e',g1,g2,g3,g4⟩:=Sj h4 (by simpa using h);exact⟨k',e',by simpa using g1,g2,g3,by omega⟩
def Dt{since last:Nat}{seen:auA Nat}(h:w.heap[r]? =some (.mapIter (some m) since seen last)):(getObj r).run P w= .ok (.mapIter (some m) since seen last) w:=by
 simp[getObj,Sem.run,h]
def L4{o:Obj}{since last:Nat}{seen:auA Nat}(h:w.heap[r]? =some (.mapIter (some m) since seen last)):(setObj r o).run P w= .ok () (w.putObj r o):=by
 simp[setObj,Sem.run,h];rfl
def acD{es:auA MapEntry}{sn:auA Nat}{ty:asr}(hr:w.heap[r]? =some (.mapIter (some m) es.size sn es.size))(hm:w.heap[m]? =some (.map es es.size))(ho:okM H 0 L es.toList):
  ((∀j,j<L.length->j∈sn.toList)/\∃k,w.drawn<=k/\(Instr.next (.pointer<|some ⟨r,0,none⟩) false ty).run P w= .ok (.tuple #[.bool false]) {w with drawn:=k})\/
  ∃j x k,j<L.length/\j∉sn.toList/\es[j]? =some x/\w.drawn<=k/\(Instr.next (.pointer<|some ⟨r,0,none⟩) false ty).run P w= .ok (.tuple #[.bool true,x.key,x.val]) (World.putObj {w with drawn:=k} r<| .mapIter (some m) es.size (sn.push j) es.size):=by
 have hlen:=Si ho;have Rh:∀(j:Nat) (x:MapEntry),es[j]? =some x->x.born=j:=fun j x hx=>by
  obtain⟨_,_,_,_,_,h⟩:=Sj ho (j:=j) (x:=x) (by simpa using hx);simpa using h
 have hbl:∀e∈es,e.born<es.size:=fun e he=>by
  obtain⟨j,hj,e1⟩:=Array.getElem_of_mem he;have:=Rh j e (by simp[hj,e1]);omega
 have ahJ:(!sn.isEmpty&& !es.isEmpty&&es.all (·.born>=es.size))=false:=by
  cases hes:es.isEmpty
  ·simp only[FD,Bool.and_true];have hpos:0<es.size:=by
    cases h:es.size with
    |zero=>rw[Array.isEmpty_iff_size_eq_zero.2 h] at hes;cases hes
    |succ n=>omega
   have:es.all (·.born>=es.size)=false:=by
    rw[Array.all_eq_false'];refine⟨es[0],by simp,?_⟩;have:=hbl es[0] (by simp);simp;omega
   simp[this]
  ·simp
 generalize YP:es.filter (fun e=> !sn.contains e.born)=left
 have hlm:∀e∈left,e∈es/\sn.contains e.born=false:=fun e he=>by
  rw[<-YP] at he;simpa using Array.mem_filter.1 he
 have hold:left.filter (·.born<es.size)=left:=by
  rw[Array.filter_eq_self];exact fun e he=>by simpa using hbl e (hlm e he).1
 have SQ:left.filter (·.born>=es.size)= #[]:=by
  rw[Array.filter_eq_empty_iff];intro e he;have:=hbl e (hlm e he).1;simp;omega
 have rD:=Dt (P:=P) hr;have hg2:=run_getObj_map (P:=P) hm;by_cases agG:left= #[]
 ·left;refine⟨fun j hj=>?_,?_⟩
  ·have hj':j<es.size:=by rw[<-hlen] at hj;simpa using hj
   have hb:=Rh j es[j] (by simp[hj']);apply sU;intro hn;have:es[j]∈left:=by
    rw[<-YP];refine Array.mem_filter.2 ⟨by simp,?_⟩;rw[hb];simpa using hn
   rw[agG] at this;simp at this
  ·obtain⟨i,k,hk,hi,hc⟩:=Er (P:=P) (n:=1) (by omega) w;have:i=0:=by omega
   subst this;refine⟨k,hk,?_⟩;unfold Instr.next
   simp only[fh,rD,eQ,hg2,ahJ,CT,if_false,YP,hold,SQ];rw[agG];simp only[Array.isEmpty_empty,if_true,Array.append_empty,Array.map_empty,Jv,List.length_cons,CN,wG,hc,eQ]
   rfl
 ·right;have hpos:0<left.size:=by
   cases h:left.size with
   |zero=>exact absurd (Array.eq_empty_of_size_eq_zero h) agG
   |succ n=>omega
  obtain⟨i,k,hk,hi,hc⟩:=Er (P:=P) (n:=left.size) hpos w;have aaC:=hlm left[i] (by simp);obtain⟨j,hj,e1⟩:=Array.getElem_of_mem aaC.1;have hb:=Rh j left[i] (by simp[hj,e1]);have Ma:World.heap {w with drawn:=k}=w.heap:=rfl;refine⟨j,left[i],k,by rw[<-hlen];simpa using hj,?_,by simp[hj,e1],hk,?_⟩
  ·have:=aaC.2;rw[hb] at this;simpa using this
  ·have hne:left.isEmpty=false:=by
    cases h:left.isEmpty
    ·rfl
    ·rw[Array.isEmpty_iff] at h;exact absurd h agG
   have uW:=L4 (P:=P) (w:={w with drawn:=k}) (o:= .mapIter (some m) es.size (sn.push left[i].born) es.size) hr;rw[hb] at uW;unfold Instr.next
   simp only[fh,rD,eQ,hg2,ahJ,CT,if_false,YP,hold,SQ,hne,Array.append_empty,Array.empty_append,Array.size_map,hc,eQ];have:(Array.map some left)[i]? =some (some left[i]):=by simp[hi]
   simp only[this,hb,fh,uW,eQ]
   rfl
def Xh{dn de id:Nat}{ts:asv Nat}{qq:Ctx}{ty Qb:asr}{pos pos':String}{af Qv:auA Edge}(hit:look Γ it=some (.tn L seen))(C2:vi Γ ts qq)
 (hN:(Nat.blt dn N&&Nat.blt de N&&(dn !=it)&&(de !=it)&&(de !=dn))=true)(hf:(qq.all fun p=>p.1 !=it&&p.1 !=dn&&p.1 !=de&&p.2.bO.all (fun t=>t !=dn&&t !=de&&t !=it))=true)
 (kt:∀j,j<L.length->j∉seen->me w0 H0 N (Q .normal) ((de,.val<|aZ true)::(it,.tn L<|seen++[j])::qq))(kf:(∀j,j<L.length->j∈seen)->me w0 H0 N (Q .normal) ((de,.val<|aZ false)::qq)):
  Goal P w0 H0 N (.region id #[⟨some dn,.next (.tmp it) false,ty,pos,af,none⟩,⟨some de,.extract (.tmp dn) 0,Qb,pos',Qv,none⟩] false) Q Γ:=by
 intro a w H hs;simp only[cW,p9,ne_eq] at hN;obtain⟨⟨⟨⟨h1,h2⟩,h3⟩,h4⟩,h5⟩:=hN;have hdn:=cq h1;have hde:=cq h2;obtain⟨r,m,es,sn,e,hr,hn,PO,hm,ho,hsn⟩:=hs.holds _<|az hit
 simp only at e;have fr:∀q∈qq,q∈Γ/\q.1≠it/\q.1≠dn/\q.1≠de/\dn∉q.2.bO/\de∉q.2.bO/\it∉q.2.bO:=fun q hq=>by
  have:=dC.1 hf q hq;simp only[cW,p9,ne_eq,dC] at this;obtain⟨⟨⟨k1,k2⟩,k3⟩,k4⟩:=this;exact⟨C2.sub q hq,k1,k2,k3,fun h=>(k4 _ h).1.1 rfl,fun h=>(k4 _ h).1.2 rfl,fun h=>(k4 _ h).2 rfl⟩
 have ei:a.eval (.tmp it)= .pointer (some ⟨r,0,none⟩):=e;refine wpIn_region_lit ?_;have fin:∀(vs:asv aq6) (b:Bool) (w':aq5) (G:Ctx),(∀q∈G,q.1≠dn/\q.1≠de/\dn∉q.2.bO/\de∉q.2.bO)->Sat w0 H0 N G a w' H->vs.head?=some (.bool b)->me w0 H0 N (Q .normal) ((de,.val<|aZ b)::G)->
   wpListIn (iP w0.rd) 0 P #[⟨some dn,.next (.tmp it) false,ty,pos,af,none⟩,⟨some de,.extract (.tmp dn) 0,Qb,pos',Qv,none⟩] Q [⟨some de,.extract (.tmp dn) 0,Qb,pos',Qv,none⟩] (a.put (some dn)<| .tuple vs.toArray) w':=by
  intro vs b w' G hG hS hv kk;unfold wpListIn;have hw:Region.wanted (⟨some de,.extract (.tmp dn) 0,Qb,pos',Qv,none⟩:Oper) (yielded #[⟨some dn,.next (.tmp it) false,ty,pos,af,none⟩,⟨some de,.extract (.tmp dn) 0,Qb,pos',Qv,none⟩] (a.put (some dn)<| .tuple vs.toArray).tmps)=true:=rfl;rw[if_pos hw];refine IU (fun c e=>by cases e) ?_;unfold Oper.wp;have ed:(a.put (some dn)<| .tuple vs.toArray).eval (.tmp dn)= .tuple vs.toArray:=tw (by rw[hs.sz];exact hdn);have WU:vs[0]? =some (.bool b):=by rw[<-List.head?_eq_getElem?];exact hv
  have er:(execOp (a.put (some dn)<| .tuple vs.toArray).eval ⟨some de,.extract (.tmp dn) 0,Qb,pos',Qv,none⟩).run P w'= .ok (.value<| .bool b) w':=by
   simp[execOp,ed,Instr.extract,WU]
  rw[er,uq];unfold wpListIn;have OS:=pT (s:= .gone) (v:= .tuple vs.toArray) hS hdn (by
   simp only[nF,dC,cW,p9,ne_eq];exact fun q hq=>⟨(hG q hq).1,by simpa using(hG q hq).2.2.1⟩) (by simp[bN.bO]) trivial<|fun b h=>h.elim
  have hs3:=pT (s:= .val<|aZ b) (v:= .bool b) (OS.weaken (ay:=G) fun q hq=>fY _ hq) hde (by
   simp only[nF,dC,cW,p9,ne_eq];exact fun q hq=>⟨(hG q hq).2.1,by simpa using(hG q hq).2.2.2⟩) (by simp[bN.bO]) rfl<|fun b h=>h.elim
  exact kk _ w' H hs3
 unfold wpListIn;have hw:Region.wanted (⟨some dn,.next (.tmp it) false,ty,pos,af,none⟩:Oper) (yielded #[⟨some dn,.next (.tmp it) false,ty,pos,af,none⟩,⟨some de,.extract (.tmp dn) 0,Qb,pos',Qv,none⟩] a.tmps)=true:=rfl;rw[if_pos hw];refine IU (fun c e=>by cases e) ?_;unfold Oper.wp;rcases acD (P:=P) (ty:=ty) hr (hs.sub _ _ hm) ho with⟨hall,k,hk,qQ⟩|⟨j,x,k,hj,hjn,hx,hk,qQ⟩
 ·have er:(execOp a.eval ⟨some dn,.next (.tmp it) false,ty,pos,af,none⟩).run P w= .ok (.value<| .tuple #[.bool false]) {w with drawn:=k}:=by
   simp only[execOp,ei,fh,qQ,eQ];rfl
  rw[er,uq];have he:Ext w H {w with drawn:=k} H:=⟨⟨⟨rfl,rfl,rfl,bG _,fun _ _=>rfl⟩,HU.of hk⟩,HV.le.refl _,fun _ _=>rfl,hs.sub⟩;exact fin [.bool false] false _ qq (fun q hq=>⟨(fr q hq).2.2.1,(fr q hq).2.2.2.1,(fr q hq).2.2.2.2.1,(fr q hq).2.2.2.2.2.1⟩) (El (hs.weaken C2.sub) he) rfl (kf (by rw[<-hsn];exact hall))
 ·have er:(execOp a.eval ⟨some dn,.next (.tmp it) false,ty,pos,af,none⟩).run P w= .ok (.value<| .tuple #[.bool true,x.key,x.val]) (World.putObj {w with drawn:=k} r<| .mapIter (some m) es.size (sn.push j) es.size):=by
   simp only[execOp,ei,fh,qQ,eQ];rfl
  rw[er,uq];have hg:AO w (World.putObj {w with drawn:=k} r<| .mapIter (some m) es.size (sn.push j) es.size) (some r):=
   ⟨⟨rfl,rfl,rfl,by simp,fun i _ hi=>by rw[JA (fun e=>hi (by rw[e]))]⟩,HU.of hk⟩
  have Ma:(World.putObj {w with drawn:=k} r<| .mapIter (some m) es.size (sn.push j) es.size).heap[r]? =some (.mapIter (some m) es.size (sn.push j) es.size):=MZ<|lt_of_heap hr
  have OS:=jo (s':= .tn L<|seen++[j]) hs (az hit) hg PO ⟨_,e,rfl⟩ ⟨r,m,es,sn.push j,e,Ma,hn,PO,hm,ho,by simp[hsn]⟩<|fun c hc=> .inl hc
  exact fin [.bool true,x.key,x.val] true _ ((it,.tn L<|seen++[j])::qq) (fun q hq=>by
    rcases bP.1 hq with e|hq
    ·subst e;exact⟨fun e=>h3 e.symm,fun e=>h4 e.symm,by simp[bN.bO],by simp[bN.bO]⟩
    ·exact⟨(fr q hq).2.2.1,(fr q hq).2.2.2.1,(fr q hq).2.2.2.2.1,(fr q hq).2.2.2.2.2.1⟩)
   (OS.weaken fun q hq=>by
    rcases bP.1 hq with e|hq
    ·subst e;simp
    ·exact fY _<|mi (fr q hq).1 (fr q hq).2.1) rfl (kt j hj (by rw[<-hsn];exact hjn))
def Ow{j:Nat}{k e:Ty}(hit:look Γ it=some (.tn L<|seen++[j]))(hj:L[j]? =some (k,e)):bK P Γ ⟨d,.entry<| .tmp it,ty,pos,af,g⟩ (.J3 [k,e]):=
 bh fun w0 _ _ a w H hs=>by
  obtain⟨r,m,es,sn,ev,hr,hn,PO,hm,ho,hsn⟩:=hs.holds _<|az hit
  simp only at ev;have ei:a.eval (.tmp it)= .pointer (some ⟨r,0,none⟩):=ev;have hm':=hs.sub _ _ hm;have Rh:∀(i:Nat) (x:MapEntry),es[i]? =some x->x.born=i:=fun i x hx=>by
   obtain⟨_,_,_,_,_,h⟩:=Sj ho (j:=i) (x:=x) (by simpa using hx);simpa using h
  have hlt:j<es.size:=by
   have:=(jk.1 hj).1;rw[<-Si ho] at this;simpa using this
  obtain⟨k',e',h1,h2,h3,_⟩:=Sj ho (j:=j) (x:=es[j]) (by simp[hlt]);rw[hj] at h1;cases h1;have ads:sn.back?=some j:=by
   have:sn=(seen++[j]).toArray:=by rw[<-hsn]
   rw[this];simp
  have amm:es.find? (fun x=>x.born==j)=some es[j]:=by
   rw[Array.find?_eq_some_iff_getElem];refine⟨by simpa using Rh j es[j] (by simp[hlt]),j,hlt,rfl,fun i hi=>?_⟩;have:=Rh i es[i] (by simp[Nat.lt_trans hi hlt]);simp[this];omega
  refine⟨.tuple #[es[j].key,es[j].val],?_,⟨_,rfl,_,_,rfl,h2,_,[],rfl,h3,rfl⟩,rfl⟩;simp[execOp,ei,Instr.entry,Dt hr,run_getObj_map hm',ads,amm]
def GI{α σ:Type}(f:α->σ->auz σ):asv α->σ->auz σ
 |[],s=>some s
 |x::l,s=>bd (f x s)<|GI f l
def Ge{α σ ρ:Type}(f:α->σ->auz σ)(l:asv α)(s:σ)(K:σ->auz ρ):auz ρ:=bd (GI f l s) K
def aq7{P:ast}{α σ:Type}(w0:an P)(H0:HV)(N it:Nat)(l:asv α)(enc:α->Ty×Ty)(f:α->σ->auz σ)(dz:σ->Ctx)(seen:asv Nat)(s:σ)(a:Act)(w:aq5):Prop:=
 ∃j x s',l[j]? =some x/\j∉seen/\f x s=some s'/\∃H,Sat w0 H0 N ((it,.tn (l.map enc)<|seen++[j])::dz s') a w H
def GP{α:Type}(l:asv α)(seen:asv Nat):asv α:=((List.range l.length).filter fun j=> !seen.contains j).filterMap fun j=>l[j]?
def Hg{l:asv α}{j:Nat}{x:α}(hj:l[j]? =some x)(hn:j∉seen):(x::GP l (seen++[j])).Perm (GP l seen):=by
 have hlt:=(jk.1 hj).1;have key:((List.range l.length).filter fun i=> !seen.contains i).Perm (j::(List.range l.length).filter fun i=> !(seen++[j]).contains i):=by
  have Rf:((List.range l.length).filter fun i=> !seen.contains i).Nodup:=List.nodup_range.filter _;have aaC:j∈(List.range l.length).filter fun i=> !seen.contains i:=by simp[hlt,hn]
  have h1:=List.perm_cons_erase aaC;refine h1.trans<|List.Perm.cons _ ?_
  rw[Rf.erase_eq_filter,List.filter_filter];refine List.Perm.of_eq<|List.filter_congr fun i _=>?_
  by_cases e:i=j
  ·subst e;simp
  ·simp[e]
 have h2:=(key.filterMap fun i=>l[i]?).symm;simpa[GP,hj] using h2
def QU{α:Type}:∀(l pre:asv α),(List.range' pre.length l.length).filterMap (fun j=>(pre++l)[j]?)=l
 |[],_=>rfl
 |x::l,pre=>by
  have ih:=QU l<|pre++[x]
  simp only[List.length_append,List.length_singleton,rq,List.singleton_append] at ih;simp only[List.length_cons,List.range'_succ,List.filterMap_cons];rw[Bk<|bG _,Nat.sub_self];simp only[List.getElem?_cons_zero,ih]
def aan(l:asv α):GP l []=l:=by
 have:=QU l [];simp only[CN,AF] at this;unfold GP;have e:List.filter (fun j=> !([]:asv Nat).contains j) (List.range l.length)=List.range l.length:=List.filter_eq_self.2<|fun j _=>rfl
 rw[e,List.range_eq_range'];exact this
def SY{σ ρ:Type}{l:asv α}(enc:α->Ty×Ty){f:α->σ->auz σ}{K:σ->auz ρ}{s0:σ}{r:ρ}(dz:σ->Ctx){c:Code}{ts:asv Nat}(hall:∀π,π.Perm l->Ge f π s0 K=some r)(h0:vi Γ ts ((it,.tn (l.map enc) [])::dz s0))
 (round:∀(seen:asv Nat) (s:σ),(∀j x,l[j]? =some x->j∉seen->∃s',f x s=some s')->((∀j,j<(l.map enc).length->j∈seen)->K s=some r)->
 Goal P w0 H0 N c (Exit.then (aq7 w0 H0 N it l enc f dz seen s) Q) ((it,.tn (l.map enc) seen)::dz s)):Goal P w0 H0 N (.loop c) Q Γ:=by
 intro a w H hs;refine wp_loop_ghost (fun(i:asv Nat×σ) a w=>(∀π,π.Perm (GP l i.1)->Ge f π i.2 K=some r)/\∃H,Sat w0 H0 N ((it,.tn (l.map enc) i.1)::dz i.2) a w H) (fun i=>(GP l i.1).length) ([],s0) ⟨fun π hπ=>hall π (hπ.trans (by rw[aan])),H,hs.weaken h0.sub⟩ ?_
 ·rintro⟨seen,s⟩ a w ⟨hI,H,hs⟩;refine CF (round seen s (fun j x hj hn=>?_) (fun hd=>?_) a w H hs) fun e a' w' q=>?_
  ·have h1:=hI (x::GP l (seen++[j])) (Hg hj hn);unfold Ge at h1;simp only[GI] at h1;obtain⟨s1,h2,_⟩:=aA h1;obtain⟨s2,h3,_⟩:=aA h2;exact⟨s2,h3⟩
  ·have:GP l seen=[]:=by
    unfold GP;have:((List.range l.length).filter fun j=> !seen.contains j)=[]:=List.filter_eq_nil_iff.2 fun j hj=>by
     have:=hd j (by simpa using hj);simp[this]
    rw[this];rfl
   have h1:=hI [] (by rw[this]);exact h1
  ·cases e with
   |normal=>
    obtain⟨j,x,s',hj,hn,hf,H',pN⟩:=q;refine⟨(seen++[j],s'),⟨fun π hπ=>?_,H',pN⟩,?_⟩
    ·have h1:=hI (x::π) ((hπ.cons x).trans<|Hg hj hn);unfold Ge at h1⊢;simp only[GI] at h1;rw[hf] at h1;exact h1
    ·have:=(Hg hj hn).length_eq;simp at this;simp only;omega
   |_=>exact q
def an.KC(P:ast)(w:aq5)(X:Nat->Prop):an P:=⟨w,X,none,false,[],0,jv _,fun _ _=>jv _⟩
def Tc:Act:=⟨#[],[]⟩
structure gi(P:ast)(f:FuncId)(pre:asv Ty)(s s':bN)(post:asv Ty)(dq:asv Ty):Prop where
 can:eN P f=true
 run:∀(w:aq5) (H:HV) (v:aq6) (ps qs:asv aq6),(∀r o,H r=some o->w.heap[r]? =some o)->qn P H->Ct H pre ps->Ct H post qs->s.holds (an.KC P w fun b=>s.owns w v b) Tc w H v->
  Calls P f (ps++v::qs).toArray w fun e w'=>∃r,e= .returned r/\∃H',JZ (fun b=>s.owns w v b) w H w' H'/\s'.holds (an.KC P w fun b=>s.owns w v b) Tc w' H' v/\(∀b,s'.owns w' v b->s.owns w v b\/w.heap.size<=b)/\wU H' dq r
inductive eP(Γ:Ctx):asu->Nat->Prop where
 |own {t:Nat}:eP Γ (.tmp t) t
 |same {u t:Nat} (h:look Γ u=some (.same t)):eP Γ (.tmp u) t
 |ptr {u t:Nat} (h:look Γ u=some (.ptr t 0)):eP Γ (.tmp u) t
def eP.ok{x:asu}(h:eP Γ x t){a:Act}(hs:Sat w0 H0 N Γ a w H):a.eval x=aX a t:=by
 cases h with
 |own=>rfl
 |same h=>exact hs.holds _<|az h
 |ptr h=>
  obtain⟨b,e1,e2⟩:=hs.holds _<|az h
  simp only at e1 e2;rw[e1];exact e2
def T9{a:Act}{w':aq5}{H':HV}(hs:Sat w0 H0 N Γ a w H)(ht:(t,s)∈Γ)(hi:s.jD=false)(hi':s'.jD=false)(OU:∀q∈bQ t Γ,q.2.jD=true->∀b,s.owns w (aX a t) b->w0.lo<=b)
 (hy:JZ (fun b=>s.owns w (aX a t) b) w H w' H')(pN:s'.holds w0 a w' H' (aX a t))(ho:∀b,s'.owns w' (aX a t) b->s.owns w (aX a t) b\/w.heap.size<=b):Sat w0 H0 N ((t,s')::bQ t Γ) a w' H':=by
 have yc:=hs.holds _ ht;have mY:∀b,s.owns w (aX a t) b->w0.mY b:=fun b hb=>bN.rN hi yc hb
 have other:∀q∈bQ t Γ,∀b,q.2.owns w (aX a q.1) b-> ¬s.owns w (aX a t) b:=fun q hq b hb jQ=>hs.sep _ ht q (bI q hq).1 (fun e=>(bI q hq).2 e.symm) b jQ hb
 have key:∀q∈bQ t Γ,q.2.holds w0 a w' H' (aX a q.1)/\∀b,q.2.owns w' (aX a q.1) b↔q.2.owns w (aX a q.1) b:=fun q hq=>by
  refine bN.v8 (n:=w0.lo) (hs.holds q (bI q hq).1) (fun _=>rfl) ?_;have kp:∀b,b<w.heap.size->(b<w0.lo\/q.2.owns w (aX a q.1) b)->w'.heap[b]? =w.heap[b]? /\H' b=H b:=fun b hb h=>hy.lr b hb (fun h2=>by
   rcases h with h|h
   ·have:=an.yt (mY b h2);omega
   ·exact other q hq b h h2)
  exact⟨hy.size,hy.os,hy.tape,hy.output,hy.drawn,hy.le,fun b hb h=>(kp b hb h).1,fun b hb h=>(kp b hb h).2,hy.sub⟩
 refine⟨?_,hs.sz,?_,?_,hy.sub,?_,?_,hs.gl.mono hy.le⟩
 ·refine hs.nd.kept fun D _ h1 h2=>?_
  have hn: ¬s.owns w (aX a t) D:=fun hm=>by
   obtain⟨_,_,o,ho,WY⟩:=bN.mh yc hm;rw[h1] at ho;cases ho;exact WY
  have:=hy.lr D (lt_of_heap h1) hn;exact⟨by rw[this.1];exact h1,by rw[this.2];exact h2⟩
 ·refine⟨hy.os.trans hs.below.os,hy.tape.trans hs.below.tape,hy.output.trans hs.below.output,fZ hs.below.drawn hy.drawn,fZ hs.below.size hy.size,fun hv k hk hx=>?_⟩;rw[(hy.lr k (oF hk hs.below.size) (fun h=>by
   rcases mY k h with h|h
   ·omega
   ·exact hx h)).1]
  exact hs.below.block hv k hk hx
 ·intro hv r hr hx;rw[(hy.lr r (oF hr hs.below.size) (fun h=>by
   rcases mY r h with h|h
   ·omega
   ·exact hx h)).2]
  exact hs.J4 hv r hr hx
 ·intro q hq;rcases bP.1 hq with e|hq
  ·subst e;exact pN
  ·exact(key q hq).1
 ·have low:∀q∈bQ t Γ,∀b,q.2.owns w' (aX a q.1) b-> ¬s'.owns w' (aX a t) b:=fun q hq b hb hm=>by
   have hb:=((key q hq).2 b).1 hb;rcases ho b hm with h|h
   ·exact other q hq b hb h
   ·have:=(bN.mh (hs.holds q (bI q hq).1) hb).1;omega
  intro q hq r hr hne b hb jQ;rcases bP.1 hq with e|hq<;>rcases bP.1 hr with e'|hr
  ·subst e;subst e';exact hne rfl
  ·subst e;exact low r hr b jQ hb
  ·subst e';exact low q hq b hb jQ
  ·exact hs.sep q (bI q hq).1 r (bI r hr).1 hne b (((key q hq).2 b).1 hb)<|((key r hr).2 b).1 jQ
def OI{o:Oper}{ys:asv asu}{post:asv Ty}(bY:∀q∈dz,q∈Γ)(hf:gi P f pre s s' post dq)(hod:(o.dst,o.guard)=(some dd,none))(hoe:∀{w0:an P} {H0:HV} {N:Nat} {a:Act} {w:aq5} {H:HV},Sat w0 H0 N dz a w H->execOp a.eval o=callFunc f (xs.map a.eval++aX a t::ys.map a.eval).toArray)(ht:look dz t=some s)(hi:(s.jD||s'.jD)=false)(hl:s.bO=[])(VT:s'.bO=[])
 (ha:aJ dz xs pre)(hb:aJ dz ys post)(nU:dd<N)(hne:dd≠t):
  Step P N ops o Γ ((dd,tR dq)::(t,s')::del dd (bQ t Γ)):=by
 intro w0 H0 a w H hs K Q k;have hg:o.guard=none:=congrArg Prod.snd hod;have hd:o.dst=some dd:=congrArg Prod.fst hod;simp only[Region.wanted,hg,if_true];simp only[zL] at hi;have L9:=hs.weaken bY;have yc:=hs.holds _<|bY _<|az ht
 simp only at yc;unfold Oper.wp;rw[hoe L9,jX hf.can,CO,hd];have ao5:s.holds (an.KC P w fun b=>s.owns w (aX a t) b) Tc w H (aX a t):=
  bN.o9 (a:=a) (fun t h=>by rw[hl] at h;cases h) (bN.qe hi.1 yc fun b hb=> .inr hb)
 refine(hf.run w H _ _ _ hs.sub hs.gl (ha.ok L9) (hb.ok L9) ao5).mono ?_;rintro e w' ⟨r,rfl,H',hy,pN,ho,hr⟩;have ao7:s'.holds w0 a w' H' (aX a t):=bN.o9 (a:=Tc) (fun t h=>by rw[VT] at h;cases h) (bN.qe hi.2 pN fun b hb=>by
  rcases ho b hb with h|h
  ·exact bN.rN hi.1 yc h
  ·exact .inl<|fZ hs.below.size h)
 have h1:=T9 hs (bY _<|az ht) hi.1 hi.2 (fun q hq _ b hb=>an.yt<|bN.rN hi.1 yc hb) hy ao7 ho;have h2:=pT (h1.weaken (ay:=del dd ((t,s')::bQ t Γ)) lh) nU qk (s:=tR dq) (v:=r) (by
  match dq with
  |[]=>simp[tR,bN.bO]
  |[_]=>simp[tR,bN.bO]
  |_::_::_=>simp[tR,bN.bO]) (sN hr)<|fun b e=>absurd e<|bN.free_spec vA
 refine k _ w' H'<|h2.weaken fun q hq=>?_
 simp only[bP] at hq⊢;rcases hq with h|h|h
 ·exact .inl h
 ·subst h;exact .inr (qI (by simp) (fun e=>hne e.symm) (by simp only;rw[VT];simp))
 ·have:=Pm h;exact .inr<|qI (fY _<|lh _ h) this.1 this.2
def Q8{x:asu}{ys:asv asu}{ta:auA asr}{post:asv Ty}(bY:∀q∈dz,q∈Γ)(hf:gi P f pre s s' post dq)(hx:eP dz x t)(ht:look dz t=some s)(hi:(s.jD||s'.jD)=false)(hl:s.bO=[])(VT:s'.bO=[])
 (ha:aJ dz xs pre)(hb:aJ dz ys post)(nU:dd<N)(hne:dd≠t):
  Step P N ops ⟨some dd,.call ⟨.value<| .func f,(xs++x::ys).toArray,ta⟩,ty,pos,af,none⟩ Γ ((dd,tR dq)::(t,s')::del dd (bQ t Γ)):=by
 refine OI bY hf rfl (fun{_ _ _ a _ _} L9=>?_) ht hi hl VT ha hb nU hne;have e:execOp a.eval ⟨some dd,.call ⟨.value<| .func f,(xs++x::ys).toArray,ta⟩,ty,pos,af,none⟩=callFunc f (#[]++(xs++x::ys).toArray.map a.eval++ #[]):=rfl;rw[e]
 congr 1
 simp[hx.ok L9]
def acM{ta:auA asr}{c:Nat}(bY:∀q∈dz,q∈Γ)(hf:gi P f pre s s' [] dq)(hc:look dz c=some (.vec (some f) [t]))(ht:look dz t=some s)(hi:(s.jD||s'.jD)=false)(hl:s.bO=[])(VT:s'.bO=[])
 (ha:aJ dz xs pre)(nU:dd<N)(hne:dd≠t):
  Step P N ops ⟨some dd,.call ⟨.value<| .tmp c,xs.toArray,ta⟩,ty,pos,af,none⟩ Γ ((dd,tR dq)::(t,s')::del dd (bQ t Γ)):=by
 refine OI (ys:=[]) bY hf rfl (fun{_ _ _ a _ _} L9=>?_) ht hi hl VT ha aJ.nil nU hne;have ec:a.eval (.tmp c)= .func (.func f) #[] #[aX a t]:=L9.holds _<|az hc
 have e:execOp a.eval ⟨some dd,.call ⟨.value<| .tmp c,xs.toArray,ta⟩,ty,pos,af,none⟩=callFunc f (#[]++xs.toArray.map a.eval++ #[aX a t]):=by
  simp only[execOp,resolve,ec,Deferred.ofValue,pure_bind]
  rfl
 rw[e]
 congr 1
 simp
end
section
variable[D:DR]
variable{P:Program}{w0:an P}{H0:HV}{N:Nat}{Q:Exit->Act->World->Prop}{Γ ay:Ctx}
variable{fn:Func}{dq:asv Ty}{s s':bN}{rs:asv ResultVar}{w1:aq5}{v:aq6}{i:Nat}
def anu(P:ast)(w:aq5)(H:HV)(v:aq6)(s s':bN)(dq:asv Ty)(e:Ending)(w':aq5):Prop:=
 ∃r,e= .returned r/\∃H',JZ (fun b=>s.owns w v b) w H w' H'/\s'.holds (an.KC P w fun b=>s.owns w v b) Tc w' H' v/\(∀b,s'.owns w' v b->s.owns w v b\/w.heap.size<=b)/\wU H' dq r
def Zg(P:ast)(fn:Func)(w:aq5)(H:HV)(v:aq6)(s s':bN)(dq:asv Ty):Exit->Act->aq5->Prop:=bodyPostM (iP none) 0 P fn<|anu P w H v s s' dq
def Q7(hw0:w0=an.KC P w1 fun b=>s.owns w1 v b)(OU:∀b,s.owns w1 v b->H0 b=none)(hlt:∀r o,H0 r=some o->r<w1.heap.size)(hr:fn.results=rs.toArray)(h:bu P Γ rs dq)(pN:look Γ i=some s')(hp:look Γ N=some (.PL i v))(hi:s'.jD=false)(hl:s'.bO=[])
 {a:Act}{w:aq5}{H:HV}(hs:Sat w0 H0 N Γ a w H):LeavesInM (iP none) 0 P fn a.tmps (anu P w1 H0 v s s' dq) a.defers .returning w:=by
 subst hw0;refine tq rfl rfl (a:=a) (ds:=a.defers) hs fun w H hs=>?_
 obtain⟨vs,h1,h2⟩:=h.run hs;have hlen:=Am h2;rw[za hr];simp only[fh,Sem.run_map,h1,eQ,pj];have hv:aX a i=v:=hs.holds _<|az hp
 have yc:=hs.holds _<|az pN
 simp only at yc;have ea:aX {a with defers:=[]} i=v:=hv;rw[ea] at yc;refine⟨_,rfl,_,rfl,H,⟨hs.below.size,hs.below.os,hs.below.tape,hs.below.output,hs.below.drawn,?_,?_,hs.sub⟩,bN.o9 (fun t h=>by rw[hl] at h;cases h) yc,?_,?_⟩
 ·intro r o ho;rw[hs.J4 rfl r (hlt r o ho) (fun hx=>by have:=OU r hx;rw[this] at ho;cases ho)];exact ho
 ·exact fun b hb hx=>⟨hs.below.block rfl b hb hx,hs.J4 rfl b hb hx⟩
 ·intro b hb;rcases bN.rN hi yc hb with h|h
  ·exact .inr h
  ·exact .inl h
 ·match dq,h2,hlen with
  |[],h2,hl=>
   have:vs=[]:=h2;subst this;exact⟨#[],rfl,rfl⟩
  |[τ],h2,hl=>
   obtain⟨v,rest,e,hv,hr⟩:=h2;have:rest=[]:=hr;subst this;subst e;exact hv
  |τ::Fc::l,h2,hl=>
   have: ¬vs.toArray.size=1:=by simp[hl]
   rw[dif_neg this];exact⟨vs.toArray,rfl,by simpa using h2⟩
structure PD(P:ast)(w0:an P)(H0:HV)(w1:aq5)(v:aq6)(s:bN):Prop where
 eq:w0=an.KC P w1 fun b=>s.owns w1 v b
 no:∀b,s.owns w1 v b->H0 b=none
 lt:∀r o,H0 r=some o->r<w1.heap.size
def Xz(hk:PD P w0 H0 w1 v s)(hr:fn.results=rs.toArray)(h:bu P Γ rs dq)(pN:look Γ i=some s')(hp:look Γ N=some (.PL i v))(hi:s'.jD=false)(hl:s'.bO=[]):
  me w0 H0 N (fun a w=>Zg P fn w1 H0 v s s' dq .ret a w) Γ:=fun _ _ _ hs=>Q7 hk.eq hk.no hk.lt hr h pN hp hi hl hs
def XA(hk:PD P w0 H0 w1 v s)(hr:fn.results=rs.toArray)(h:bu P Γ rs dq)(pN:look Γ i=some s')(hp:look Γ N=some (.PL i v))(hi:s'.jD=false)(hl:s'.bO=[]):
  me w0 H0 N (fun a w=>Zg P fn w1 H0 v s s' dq .normal a w) Γ:=fun _ _ _ hs=>Q7 hk.eq hk.no hk.lt hr h pN hp hi hl hs
def HD:∀{l:asv Ty} {i:Nat},∀p∈lQ i l,i<=p.1/\p.1<i+l.length/\p.2.free=true/\p.2.jD=false
 |[],_,p,hp=>by simp[lQ] at hp
 |τ::l,i,p,hp=>by
  simp only[lQ,bP] at hp;rcases hp with e|hp
  ·subst e;exact⟨bG _,by simp,rfl,rfl⟩
  ·have:=HD p hp;refine⟨by omega,by simp;omega,this.2.2.1,this.2.2.2⟩
def vY{f:FuncId}{c:Code}{pre post:asv Ty}{N:Nat}(hf:P.funcs[f]? =some fn)(hb:fn.body=some c)(hN:fn.ntmps=N)(hn:pre.length+1+post.length<=N)(hc:eN P f=true)(hl:s.bO=[])(hi:s.jD=false)
 (h:∀(w1:aq5) (v:aq6) (w0:an P) (H0:HV),PD P w0 H0 w1 v s->Goal P w0 H0 N c (Zg P fn w1 H0 v s s' dq) ((N,.PL pre.length v)::(pre.length,s)::(lQ 0 pre++lQ (pre.length+1) post))):gi P f pre s s' post dq:=by
 subst hN;refine⟨hc,fun w H v ps qs sub gl hps hqs hs=>?_⟩;have gS:Ct H (pre++post) (ps++qs):=zf hps hqs;have SO:=Am hps;have hql:=Am hqs;have al3:PD P (an.KC P w fun b=>s.owns w v b) H w v s:=⟨rfl,fun b hb=>(bN.mh hs hb).2.1,fun r o ho=>xP sub ho⟩;refine(callsIn_wide (n:=0)).1<|callsIn_of_wp_marks (F:=Fence.wide) hf hb trivial<|h w v _ H al3 _ w H ?_
 obtain⟨a,ha⟩:∃a:Act,a={tmps:=(ps++v::qs).toArray++Array.replicate (fn.ntmps-(ps++v::qs).toArray.size) undef,defers:=[]}:=⟨_,rfl⟩;rw[<-ha];have Vc:∀j x,(ps++v::qs)[j]? =some x->aX a j=x:=fun j x hj=>by
  have PQ:=(jk.1 hj).1;have e:((ps++v::qs).toArray++Array.replicate (fn.ntmps-(ps++v::qs).toArray.size) undef)[j]? =some x:=by
   rw[Array.getElem?_append_left (by simpa using PQ)];simpa using hj
  rw[ha];simp only[aX,EK,e,FI]
 have hvv:aX a pre.length=v:=Vc _ _ (by rw[<-SO];simp);have e1:∀p∈lQ 0 pre,p.2.holds (an.KC P w fun b=>s.owns w v b) a w H (aX a p.1):=AN 0 hps fun j x hj=>Vc _ _ (by
  rw[wG,xF (jk.1 hj).1];exact hj)
 have e2:∀p∈lQ (pre.length+1) post,p.2.holds (an.KC P w fun b=>s.owns w v b) a w H (aX a p.1):=AN (pre.length+1) hqs fun j x hj=>Vc _ _ (by
  rw[Bk (by omega),<-SO,show ps.length+1+j-ps.length=j+1 by omega];simpa using hj)
 have tu:∀p∈(fn.ntmps,bN.PL pre.length v)::(pre.length,s)::(lQ 0 pre++lQ (pre.length+1) post),p.1≠pre.length->∀b,¬p.2.owns w (aX a p.1) b:=by
  intro p hp hne b hb;simp only[bP,mw] at hp;rcases hp with e|e|hp|hp
  ·subst e;exact hb
  ·subst e;exact hne rfl
  ·exact bN.free_spec (HD p hp).2.2.1 hb
  ·exact bN.free_spec (HD p hp).2.2.1 hb
 refine⟨by rw[ha];trivial,by rw[ha];simp;omega,⟨rfl,rfl,rfl,bG _,bG _,fun _ _ _ _=>rfl⟩,fun _ _ _ _=>rfl,sub,?_,?_,gl⟩
 ·intro p hp;simp only[bP,mw] at hp;rcases hp with e|e|hp|hp
  ·subst e;exact hvv
  ·subst e;simp only;rw[hvv];exact bN.o9 (fun t h=>by rw[hl] at h;cases h) hs
  ·exact e1 p hp
  ·exact e2 p hp
 ·intro p hp q hq hne b hb jQ;by_cases h1:p.1=pre.length
  ·exact tu q hq (fun e=>hne<|h1.trans e.symm) b jQ
  ·exact tu p hp h1 b hb
end
@[reducible] def akC(_:Unit):Ty:=XH .nilIface rfl
def Iq:Int:=18446744073709551616
def w8(x:Int):Bool:=decide (0<=x)&&decide (x<18446744073709551616)
def oE(x y c:Int):auz (Int×Int):=bif (w8 x&&w8 y)&&(decide (c=0)||decide (c=1)) then some ((x+y+c)%Iq,(x+y+c)/Iq) else none
def AA(x y b:Int):auz (Int×Int):=bif (w8 x&&w8 y)&&(decide (b=0)||decide (b=1)) then some ((x-y-b)%Iq,bif decide (x<y+b) then 1 else 0) else none
def uV(z:Int):Bool:=Nat.blt (Nat.log2 z.natAbs) 1099511627776
def z7{α:Type}(b:Bool)(x:α):auz α:=bif b then some x else none
def Vy(x y:Int):Int:=bif decide (x<y) then -1 else bif decide (y<x) then 1 else 0
def aer(z:Int):auz Int:=some z.sign
def anr(z:Int):auz Int:=some<| -z
def akB(z:Int):auz Int:=some (z.natAbs:Int)
def aet(x y:Int):auz Int:=z7 (uV x&&uV y)<|Vy x y
def VG(x y:Int):auz Int:=z7 (uV x&&uV y)<|x+y
def DM(x y:Int):auz Int:=z7 (uV x&&uV y)<|x*y
def anq(x y:Int):auz Int:=z7 (uV x&&uV y&& !decide (y=0))<|x.fdiv y
def Td(x y:Int):auz Int:=z7 (uV x&&uV y) (Int.gcd x y:Int)
def aOf(x:Int):auz Int:=aF x
def HO(z:Int):auz (Int×Bool):=z7 (!decide (z= -9223372036854775808))<|bif B0 z then(z,true) else(z.sign,false)
def aeu(z:Int):auz Int:=z7 (uV z)<|bif decide (z=0) then 0 else(Nat.log2 z.natAbs:Int)+1
def ad2:Nat->Nat->asv UInt8->asv UInt8
 |0,_,acc=>acc
 |f+1,n,acc=>bif Nat.blt n 10 then UInt8.ofNat (48+n)::acc else ad2 f (n/10) (UInt8.ofNat (48+n%10)::acc)
def dw(n:Nat):asv UInt8:=ad2 (n+1) n []
def ff(z:Int):asv UInt8:=bif decide (z<0) then 45::dw z.natAbs else dw z.natAbs
def OG(z:Int):auz (asv UInt8):=bif B0 z then some (ff z) else none
def Su(z b:Int):auz (asv UInt8):=z7 (w8 z&&decide (b=10))<|dw z.toNat
def afK(l:asv UInt8):Nat->asv UInt8
 |0=>[]
 |c+1=>l++afK l c
def St(s:asv UInt8)(c:Int):auz (asv UInt8):=z7 (decide (0<=c)&&decide (c<=64)&&decide (s=[48]))<|afK s c.toNat
def wN(z:Int):auz (asv UInt8):=z7 (uV z)<|ff z
def DO(q:Rat):Bool:=Nat.blt (Nat.log2 q.num.natAbs) 68719476736&&Nat.blt (Nat.log2 q.den) 68719476736
def GW(x y:Int):auz Rat:=z7 (uV x&&uV y&& !decide (y=0))<|(x:Rat)/(y:Rat)
def mC(q:Rat):auz Bool:=some<|decide<|q.den=1
def K0(x:Int):auz Rat:=some (x:Rat)
def Oh(q:Rat):auz Rat:=some<| -q
def Cj(x y:Rat):auz Rat:=z7 (DO x&&DO y)<|x+y
def BM(x y:Rat):auz Rat:=z7 (DO x&&DO y)<|x-y
def oe(x y:Rat):auz Rat:=z7 (DO x&&DO y)<|x*y
def L5(x y:Rat):auz Rat:=z7 (DO x&&DO y&& !decide (y=0))<|x/y
def afS(x:Rat):auz Rat:=z7 (DO x&& !decide (x=0)) x⁻¹
def pK(x y:Rat):auz Int:=z7 (DO x&&DO y)<|bif decide (x<y) then -1 else bif decide (y<x) then 1 else 0
def Dx(x y:Rat):auz Bool:=z7 (DO x&&DO y)<|decide<|x=y
def j9(x:Rat):auz Int:=some x.num.sign
def qF(x:Int):auz Rat:=(aF x).map fun z=>(z:Rat)
def mkq(a b:Int):auz Rat:=match b with
 | .ofNat (d+1)=>z7 (Nat.beq (Nat.gcd a.natAbs<|d+1) 1)<|mkRat a<|d+1
 |_=>none
def UD{a b:Int}{r:Rat}(h:mkq a b=some r):r.num=a/\(r.den:Int)=b:=by
 unfold mkq at h;split at h
 ·rename_i d;unfold z7 at h;cases hc:Nat.beq (Nat.gcd a.natAbs<|d+1) 1
  ·rw[hc] at h;cases h
  ·rw[hc] at h;have h:=(fG h).symm;subst h;have hg:Nat.gcd a.natAbs (d+1)=1:=fX hc;rw[Rat.num_mkRat,Rat.den_mkRat];rw[Fy] at hg;simp[hg]
 ·cases h
def WE[D:DR]{a b:Int}{r:Rat}(h:mkq a b=some r):(bN.val<|gn [nH a,nH b])= .val (aY r):=by
 obtain⟨h1,h2⟩:=UD h;rw[<-h1,<-h2]
def iB(b:UInt8):Bool:=Nat.ble 48 b.toNat&&Nat.ble b.toNat 57
def dZ(l:asv UInt8):Nat:=l.foldl (fun n b=>10*n+(b.toNat-48)) 0
def OH(s:asv UInt8):auz (Int×Unit):=z7 (!s.isEmpty&&Nat.ble s.length 18&&s.all iB) ((dZ s:Int),())
def cutAt(sep:UInt8):asv UInt8->asv UInt8->asv UInt8×asv UInt8×Bool
 |pre,[]=>(pre.reverse,[],false)
 |pre,b::l=>bif b==sep then(pre.reverse,l,true) else cutAt sep (b::pre) l
def Yw(s sep:asv UInt8):auz (asv UInt8×asv UInt8×Bool):=match sep with
 |[c]=>z7 (Nat.blt s.length 4294967281)<|cutAt c [] s
 |_=>none
def uP(s:asv UInt8):auz Int:=match s with
 |45::ds=>z7 (ds.all iB&&Nat.blt ds.length 1000000)<| -(dZ ds:Int)
 |ds=>z7 (ds.all iB&&Nat.blt ds.length 1000000) (dZ ds:Int)
abbrev V3:=Rat×Rat×Rat
def Cl{α:Type}:asv α->asv (α×α)
 |[]=>[]
 |a::l=>(a::l).zip<|l++[a]
def U4{α:Type}(c:α->α->auz Int)(x:α):asv α->auz (asv α)
 |[]=>some [x]
 |y::l=>bd (c x y) fun k=>cond (decide<|k<0) (bd (U4 c x l) fun r=>some (y::r))<|some (x::y::l)
def WS{α:Type}(c:α->α->auz Int)(l:asv α):auz (asv α):=
 KH l (fun next x s=>bd (U4 c x s) next) [] fun s=>some s.reverse
def ad9{α:Type}(e:α->α->auz Bool):α->asv α->auz (asv α)
 |_,[]=>some []
 |x,y::l=>bd (e y x) fun b=>bd (ad9 e y l) fun r=>some<|cond b r (y::r)
def ad7{α:Type}(e:α->α->auz Bool):asv α->auz (asv α)
 |[]=>some []
 |x::l=>bd (ad9 e x l) fun r=>some (x::r)
def ag9{α:Type}[DecidableEq α](c:α×α->auz Int)(x:α):asv α->Bool
 |[]=>true
 |y::l=>(bif decide (x=y) then true else match c (x,y),c (y,x) with
  |some i,some j=>decide (i<0)&&decide (0<=j)
  |_,_=>false)&&ag9 c x l
def JX{α:Type}[DecidableEq α](c:α×α->auz Int):asv α->Bool
 |[]=>true
 |x::l=>(match c (x,x) with
  |some i=>decide<|0<=i
  |none=>false)&&(ag9 c x l&&JX c l)
def totB{α:Type}(c:α×α->auz Int)(l:asv α):Bool:=l.all fun x=>l.all fun y=>(c (x,y)).isSome
def iq{α:Type}[DecidableEq α](l:asv α)(c:α×α->auz Int):auz (asv α):=
 bd (WS (fun a b=>c (a,b)) l) fun s=>z7 (Nat.blt l.length 4611686018427387904&&(totB c l&&JX c s)) s
def kC{α:Type}(l:asv α)(e:α×α->auz Bool):auz (asv α):=ad7 (fun a b=>e (a,b)) l
def Kq{α:Type}(l:asv α):auz (asv α):=some l.reverse
def aiQ(l:asv (asv UInt8))(x:asv UInt8):auz (asv UInt8):=match l with
 |[]=>some []
 |y::l=>some<|l.foldl (fun s z=>s++(x++z)) y
def Iy(l:asv V3):auz (asv<|V3×V3):=z7 (Nat.blt l.length 1000000000)<|Cl l
def Mn(f:V3×V3×V3×V3):auz (asv V3):=some [f.2.1,f.2.2.1,f.2.2.2]
def BG(low high:Rat)(l:asv Rat):auz (asv<|Rat×Rat):=bd (z7 (Nat.blt l.length 1000000000) ()) fun _=>
 KH l (fun next x s=>bd (pK x low) fun k=>cond (decide<|0<k) (bd (pK x high) fun j=>cond (decide<|j<0) (next<|s++[x])<|next s)<|next s) [low,high] fun all=>
 bd (iq all<|fun p=>pK p.1 p.2) fun s=>bd (kC s<|fun p=>Dx p.1 p.2) fun c=>z7 (Nat.blt c.length 4000000000)<|c.zip c.tail
section
variable[D:DR]
variable{P:Program}{w0:an P}{H0:HV}{N:Nat}{ops:Array Oper}{Q:Exit->Act->World->Prop}{Γ ay:Ctx}{d:Option Tmp}{ty:TypeId}{pos:String}{af:Array Edge}{g:Option (Nat×Bool)}
variable{T:asr}{τ:Ty}{ps:asv mc}{t:Nat}
@[reducible] def TP{α:Type}(f:α->Ty)(x:α):Ty:=nY<|f x
@[reducible] def TMp{α β:Type}(fK:α->Ty)(F:β->Ty)(l:asv (α×β)):Ty:=aex<|l.map fun p=>(fK p.1,F p.2)
def Fs{l:asv Ty}(gg:Bool)(h:bL P T τ)(hτ:∀H v,τ.ok H v->vH H l v.cells.toList)(ho:zU l ps):bK P Γ ⟨d,.alloc T,ty,pos,af,g⟩ (.rC T gg ps):=
 ju fun w0 _ _ a w H hs=>by
  obtain⟨z,hr,hz⟩:=h.run w;have he:=Ext.alloc hs.sub<| .cells z.cells T (0,0)
  obtain⟨h1,h2,h3⟩:=ho.ok (B:=w0) (a:=a) (w:=w.alloc<| .cells z.cells T (0,0))<|hτ H z<|hz H
  refine⟨.pointer<|some ⟨w.heap.size,0,none⟩,w.alloc<| .cells z.cells T,H,?_,he,?_,?_⟩
  ·simp[execOp,Instr.alloc,hr,newVar,newRow]
  ·refine⟨w.heap.size,z.cells,rfl,sR w _,?_,.inl hs.below.size,h1,h3,h2 _⟩;cases hh:H w.heap.size with
   |none=>rfl
   |some o=>have:=xP hs.sub hh;omega
  ·rintro b ⟨c,e,hb⟩;cases e;rcases hb with hb|⟨cs,hc,hb⟩
   ·omega
   ·rw[sR] at hc;cases hc;exact absurd hb<|h2 b
def Yi{x:asu}{l:asv Ty}(gg:Bool)(hx:Arg Γ x τ)(hτ:∀H v,τ.ok H v->vH H l v.cells.toList)(ho:zU l ps):bK P Γ ⟨d,.box T x,ty,pos,af,g⟩ (.rC T gg ps):=
 ju fun w0 _ _ a w H hs=>by
  have he:=Ext.alloc hs.sub<| .cells (a.eval x).cells T (0,0)
  obtain⟨h1,h2,h3⟩:=ho.ok (B:=w0) (a:=a) (w:=w.alloc<| .cells (a.eval x).cells T (0,0))<|hτ H _<|hx.ok hs
  refine⟨.pointer<|some ⟨w.heap.size,0,none⟩,w.alloc<| .cells (a.eval x).cells T,H,?_,he,?_,?_⟩
  ·simp[execOp,Instr.box,newVar,newRow]
  ·refine⟨w.heap.size,(a.eval x).cells,rfl,sR w _,?_,.inl hs.below.size,h1,h3,h2 _⟩;cases hh:H w.heap.size with
   |none=>rfl
   |some o=>have:=xP hs.sub hh;omega
  ·rintro b ⟨c,e,hb⟩;cases e;rcases hb with hb|⟨cs,hc,hb⟩
   ·omega
   ·rw[sR] at hc;cases hc;exact absurd hb<|h2 b
def alm{u:Nat}(hu:look Γ u=some (.ptr t 0))(ht:look Γ t=some (.val<|nY τ)):qY w0 N Γ ((u,.val<|nY τ)::bQ u Γ):=fun H0 a w H hs=>by
 obtain⟨b,e1,e2⟩:=hs.holds _<|az hu
 have hv:=hs.holds _<|az ht
 simp only at e1 e2 hv;have e:aX a u=aX a t:=by rw[e1,e2]
 exact⟨H,G9 (us:=[]) hs (fun q hq=>bI q hq) (by rw[e];exact hv) (fun b h=>h.elim) (fun _ _ h=>by cases h)⟩
def aho{u:Nat}(hu:look Γ u=some (.same t))(ht:look Γ t=some (.val τ)):qY w0 N Γ ((u,.val τ)::bQ u Γ):=fun H0 a w H hs=>by
 have e:=hs.holds _<|az hu
 have hv:=hs.holds _<|az ht
 exact⟨H,G9 (us:=[]) hs (fun q hq=>bI q hq) (by rw[show aX a u=aX a t from e];exact hv) (fun b h=>h.elim) (fun _ _ h=>by cases h)⟩
def Cg{p off i dd:Nat}{T':asr}{gg:Bool}{pp:mc}(sm:Bool)(hp:jF Γ p t off)(ht:look Γ t=some (.rC T' gg ps))(hi:ps[i]? =some pp)(ho:fE ps i=off)(h1:(pp.n,pp.agg)=(1,false))(hT:eG P T 1 false=true)(nU:dd<N)(hd:(dd !=t&& !(Iu ps).contains dd)=true):
  Step P N ops ⟨some dd,.load T<| .tmp p,ty,pos,af,none⟩ Γ ((dd,pp.sty)::(t,.rC T' gg<|ps.set i<|Lr dd sm)::del dd (bQ t Γ)):=by
 simp only[cW,p9,ne_eq,jj,Jy,lq] at hd;exact Yz (fun _ h=>h) sm hp ht hi ho (congrArg Prod.fst h1) (congrArg Prod.snd h1) hT nU hd.1 hd.2
def NT{p off i dd:Nat}{T':asr}{gg:Bool}{pp:mc}(sm:Bool)(hp:jF Γ p t off)(ht:look Γ t=some (.rC T' gg ps))(hi:ps[i]? =some pp)(ho:fE ps i=off)(h1:(pp.n,pp.agg)=(1,false))(hT:eG P T 1 false=true)(nU:dd<N)(hd:(dd !=t&& !(Iu ps).contains dd)=true):
  XG P N ops Γ ⟨some dd,.load T<| .tmp p,ty,pos,af,none⟩ t (.rC T' gg<|ps.set i<|Lr dd sm) dd pp.sty:=fun tD bY=>by
 simp only[cW,p9,ne_eq,jj,Jy,lq] at hd;exact Yz bY sm hp ht hi ho (congrArg Prod.fst h1) (congrArg Prod.snd h1) hT nU hd.1 hd.2
end
section
variable[D:DR]
variable{P:Program}{w0:an P}{H0:HV}{N:Nat}{ops:Array Oper}{Q:Exit->Act->World->Prop}{Γ ay:Ctx}{d:Option Tmp}{ty:TypeId}{pos:String}{af:Array Edge}{g:Option (Nat×Bool)}
variable{α β:Type}[DecidableEq α]{K E Eb T:TypeId}{sz:Nat}{fK:α->Ty}
variable{t:Nat}{m k:asu}{dd u:Nat}{v s:asu}
def abN{F:β->Ty}{l:asv (α×β)}{x:α}{y:β}(hT:yu P T K E=true)(hk:lS P K fK)(hm:kd Γ m t)(ht:look Γ t=some (.oQ K E Eb sz<|mM fK (fun v=> .val<|F v) l))(hx:Arg Γ k (fK x))(hy:Arg Γ v (F y)):
  Step P N ops ⟨none,.mapUpdate T m k v,ty,pos,af,none⟩ Γ ((t,.oQ K E Eb sz<|mM fK (fun v=> .val<|F v)<|rh l x y)::bQ t Γ):=I4 (fun _ h=>h) hT hk hm ht hx hy
def afv{F:β->Ty}{l:asv (α×β)}{x:α}{y:β}(hT:yu P T K E=true)(hk:lS P K fK)(hm:kd Γ m t)(ht:look Γ t=some (.oQ K E Eb sz<|mM fK (fun v=> .val<|F v) l))(hx:Arg Γ k (fK x))(hy:Arg Γ v (F y)):
  Qw P N ops Γ ⟨none,.mapUpdate T m k v,ty,pos,af,none⟩ t (.oQ K E Eb sz<|mM fK (fun v=> .val<|F v)<|rh l x y):=fun _ bY=>I4 bY hT hk hm ht hx hy
def TO{F:β->Ty}{l:asv (α×β)}{x:α}{z:β}(hT:yu P T K E=true)(hk:lS P K fK)(hz:bL P E (F z))(hm:kd Γ m t)(ht:look Γ t=some (.oQ K E Eb sz<|mM fK (fun v=> .val<|F v) l))(hx:Arg Γ k (fK x))(nU:dd<N)(hne:(dd !=t)=true):
  XG P N ops Γ ⟨some dd,.mapEntry T m k,ty,pos,af,none⟩ t (.oQ K E Eb sz<|mM fK (fun v=> .val<|F v)<|nw l x z) dd (.J3 [F<|jc l x z,TI .i64<|ij x l]):=fun _ bY=>aal bY hT hk hz hm ht hx nU (by simpa using hne)
def abO{F:β->asv Ty}{l:asv (α×β)}{x:α}{z:β}(hT:yu P T K E=true)(hk:lS P K fK)(hz:(P.info? E).bind (·.zero)=some (.slice none 0 0))(hz0:F z=[])(hm:kd Γ m t)(ht:look Γ t=some (.oQ K E Eb sz<|mM fK (fun v=> .buf<|F v) l))(hx:Arg Γ k (fK x))(nU:dd<N)(hne:(dd !=t)=true):
  Step P N ops ⟨some dd,.mapEntry T m k,ty,pos,af,none⟩ Γ ((dd,.EB Eb sz (F<|jc l x z)<|ij x l)::(t,.oQ K E Eb sz<|(mM fK (fun v=> .buf<|F v)<|nw l x z).set (ij x l) (fK x,.any))::del dd (bQ t Γ)):=Q6 (fun _ h=>h) hT hk hz hz0 hm ht hx nU (by simpa using hne)
def afw{l:asv Ty}{i:Nat}(hu:look Γ u=some (.EB Eb sz l i))(nU:dd<N)(hne:(dd !=u)=true):
  Step P N ops ⟨some dd,.extract (.tmp u) 0,ty,pos,af,none⟩ Γ ((dd,.buf Eb sz l)::(u,.J3 [iV 1 false,TI .i64 i])::del dd (bQ u Γ)):=UH (fun _ h=>h) hu nU (by simpa using hne)
def XS{l:asv Ty}{i:Nat}(hu:look Γ u=some (.EB Eb sz l i))(nU:dd<N)(hne:(dd !=u)=true):
  XG P N ops Γ ⟨some dd,.extract (.tmp u) 0,ty,pos,af,none⟩ u (.J3 [iV 1 false,TI .i64 i]) dd (.buf Eb sz l):=fun _ bY=>UH bY hu nU (by simpa using hne)
def XY{F:β->Ty}{l:asv (α×β)}{x:α}{z y:β}(hm:kd Γ m t)(ht:look Γ t=some (.oQ K E Eb sz<|mM fK (fun v=> .val<|F v)<|nw l x z))(yc:Arg Γ s (TI .i64<|ij x l))(hy:Arg Γ v (F y)):
  Step P N ops ⟨none,.entryStore T m s v,ty,pos,af,none⟩ Γ ((t,.oQ K E Eb sz<|mM fK (fun v=> .val<|F v)<|rh l x y)::bQ t Γ):=Vt (fun _ h=>h) hm ht yc hy
def afx{F:β->asv Ty}{l:asv (α×β)}{x:α}{z y:β}(hm:kd Γ m t)(ht:look Γ t=some (.oQ K E Eb sz<|(mM fK (fun v=> .buf<|F v)<|nw l x z).set (ij x l) (fK x,.any)))(yc:Arg Γ s (TI .i64<|ij x l))(hu:look Γ u=some (.buf Eb sz<|F y))(hne:(u !=t)=true):
  Step P N ops ⟨none,.entryStore T m s<| .tmp u,ty,pos,af,none⟩ Γ ((t,.oQ K E Eb sz<|mM fK (fun v=> .buf<|F v)<|rh l x y)::(u,.gone)::bQ t (bQ u Γ)):=Lz (fun _ h=>h) hm ht yc hu (by simpa using hne)
def X9{F:β->asv Ty}{l:asv (α×β)}{x:α}{z y:β}(hm:kd Γ m t)(ht:look Γ t=some (.oQ K E Eb sz<|(mM fK (fun v=> .buf<|F v)<|nw l x z).set (ij x l) (fK x,.any)))(yc:Arg Γ s (TI .i64<|ij x l))(hu:look Γ u=some (.buf Eb sz<|F y))(hne:(u !=t)=true):
  ah1 P N ops Γ ⟨none,.entryStore T m s<| .tmp u,ty,pos,af,none⟩ t (.oQ K E Eb sz<|mM fK (fun v=> .buf<|F v)<|rh l x y) u .gone:=fun _ bY=>Lz bY hm ht yc hu (by simpa using hne)
def He{K E Eb T:asr}{sz:Nat}{α β:Type}(fK:α->Ty)(fV:β->mH):bK P Γ ⟨d,.makeMap T none,ty,pos,af,g⟩ (.oQ K E Eb sz<|mM fK fV ([]:asv (α×β))):=Ww
def Ur{F:β->Ty}{l:asv (α×β)}(ht:look Γ t=some (.oQ K E Eb sz<|mM fK (fun v=> .val<|F v) l)):qY w0 N Γ ((t,.val<|TMp fK F l)::bQ t Γ):=
 afT ht (fun p hp=>by obtain⟨q,_,rfl⟩:=qb.1 hp;rfl) (by simp[mM,Wr,mH.pub])
def uY.aow{F:β->Ty}{l:asv (α×β)}{ls:asv Ty}{ps:asv mc}(r:uY ps ls):uY (.map K E Eb sz (mM fK (fun v=> .val<|F v) l)::ps) (TMp fK F l::ls):=
 .map (fun p hp=>by obtain⟨q,_,rfl⟩:=qb.1 hp;rfl) (by simp[mM,Wr,mH.pub]) r
def uY.yu{γ:Type}{F:γ->Ty}{l:asv (α×asv γ)}{ls:asv Ty}{ps:asv mc}(r:uY ps ls):uY (.map K E Eb sz (mM fK (fun v=> .buf<|lT F v) l)::ps) (TMp fK (TL F) l::ls):=
 .map (fun p hp=>by obtain⟨q,_,rfl⟩:=qb.1 hp;rfl) (by simp[mM,Wr,mH.pub]) r
end
section
variable[D:DR]
variable{P:Program}{w0:an P}{H0:HV}{N:Nat}{ops:Array Oper}{Q:Exit->Act->World->Prop}{Γ ay:Ctx}{d:Option Tmp}{ty:TypeId}{pos:String}{af:Array Edge}{g:Option (Nat×Bool)}
variable{t:Nat}{f:FuncId}{u:Nat}{xs:asv asu}{ta:auA asr}{pre dq:asv Ty}{s s':bN}{dd:Nat}{us:asv Nat}
def kj{x:asu}{ys:asv asu}{post:asv Ty}(hf:gi P f pre s s' post dq)(hx:eP Γ x t)(ht:look Γ t=some s)(hi:(s.jD||s'.jD)=false)(hl:(s.bO,s'.bO)=([],[]))
 (ha:aJ Γ xs pre)(hb:aJ Γ ys post)(nU:dd<N)(hne:(dd !=t)=true):
  Step P N ops ⟨some dd,.call ⟨.value<| .func f,(xs++x::ys).toArray,ta⟩,ty,pos,af,none⟩ Γ ((dd,tR dq)::(t,s')::del dd (bQ t Γ)):=Q8 (fun _ h=>h) hf hx ht hi (congrArg Prod.fst hl) (congrArg Prod.snd hl) ha hb nU (by simpa using hne)
def TQ{x:asu}{ys:asv asu}{post:asv Ty}(hf:gi P f pre s s' post dq)(hx:eP Γ x t)(ht:look Γ t=some s)(hi:(s.jD||s'.jD)=false)(hl:(s.bO,s'.bO)=([],[]))
 (ha:aJ Γ xs pre)(hb:aJ Γ ys post)(nU:dd<N)(hne:(dd !=t)=true):
  XG P N ops Γ ⟨some dd,.call ⟨.value<| .func f,(xs++x::ys).toArray,ta⟩,ty,pos,af,none⟩ t s' dd (tR dq):=fun _ bY=>Q8 bY hf hx ht hi (congrArg Prod.fst hl) (congrArg Prod.snd hl) ha hb nU (by simpa using hne)
def aih{c:Nat}(hf:gi P f pre s s' [] dq)(hc:look Γ c=some (.vec (some f) [t]))(ht:look Γ t=some s)(hi:(s.jD||s'.jD)=false)(hl:(s.bO,s'.bO)=([],[]))
 (ha:aJ Γ xs pre)(nU:dd<N)(hne:(dd !=t)=true):
  Step P N ops ⟨some dd,.call ⟨.value<| .tmp c,xs.toArray,ta⟩,ty,pos,af,none⟩ Γ ((dd,tR dq)::(t,s')::del dd (bQ t Γ)):=acM (fun _ h=>h) hf hc ht hi (congrArg Prod.fst hl) (congrArg Prod.snd hl) ha nU (by simpa using hne)
def acs:bK P Γ ⟨d,.makeFunc (.func f) #[] (us.map Operand.tmp).toArray,ty,pos,af,g⟩ (.vec (some f) us):=
 bh fun _ _ _ a w H hs=>by
  refine⟨.func (.func f) #[] (us.map<|aX a).toArray,?_,rfl,rfl⟩;have:((us.map Operand.tmp).toArray).map a.eval=(us.map<|aX a).toArray:=by simp[Function.comp_def];exact fun _ _=>rfl
  simp only[execOp,this];simp[Instr.makeFunc]
def acr{k:auz FuncId}(h:look Γ u=some (.vec k us)):bK P Γ ⟨d,.move<| .tmp u,ty,pos,af,g⟩ (.vec k us):=
 bh fun _ _ _ a w H hs=>⟨aX a u,by simp[execOp];rfl,hs.holds _<|az h,rfl⟩
def acw{k:auz FuncId}(h:look Γ u=some (.vec k us)):bK P Γ ⟨d,.assign<| .tmp u,ty,pos,af,g⟩ (.vec k us):=
 bh fun _ _ _ a w H hs=>⟨aX a u,by simp[execOp];rfl,hs.holds _<|az h,rfl⟩
def afX{o:Oper}{u1 u2 u3:Nat}(h1:xN Γ u1)(h2:xN Γ u2)(h3:xN Γ u3)
  (h:∀(v1 v2 v3:aq6) (k1:v1.oneCell'=true) (k2:v2.oneCell'=true) (k3:v3.oneCell'=true),bK P [(u1,.val<|XH v1 k1),(u2,.val<|XH v2 k2),(u3,.val<|XH v3 k3)] o<| .val<|gn [XH v1 k1,XH v2 k2,XH v3 k3]):bK P Γ o (.vec none [u1,u2,u3]):=by
 intro w0 H0 N a w H hs K Q k;refine h (aX a u1) (aX a u2) (aX a u3) (h1.ok hs) (h2.ok hs) (h3.ok hs) w0 H0 N a w H ?_ K Q fun v w' H' he hv _=>k v w' H' he ?_<|fun b hb=>hb.elim
 ·refine⟨hs.nd,hs.sz,hs.below,hs.J4,hs.sub,?_,?_,hs.gl⟩
  ·intro p hp;simp only[bP,zG,or_false] at hp;rcases hp with e|e|e<;>subst e<;>rfl
  ·intro p hp q hq _ b hb;simp only[bP,zG,or_false] at hp;rcases hp with e|e|e<;>subst e<;>exact hb.elim
 ·obtain⟨cs,e,v1,r1,e1,rfl,v2,r2,e2,rfl,v3,r3,e3,rfl,er⟩:=hv;have er:r3=[]:=er;subst er;subst e3;subst e2;have c1:=(oi<|Shape.one<|h1.ok hs).2.2;have c2:=(oi<|Shape.one<|h2.ok hs).2.2;have c3:=(oi<|Shape.one<|h3.ok hs).2.2;rw[c1,c2,c3] at e1;show v= .agg _;rw[e];congr 1;apply Array.ext';simpa using e1
def af4{T:asr}{u1 u2 u3:Nat}(h:look Γ t=some (.vec none [u1,u2,u3]))(h1:xN Γ u1)(h2:xN Γ u2)(h3:xN Γ u3):bK P Γ ⟨d,.box T<| .tmp t,ty,pos,af,g⟩ (.rC T true [.sm u1,.sm u2,.sm u3]):=
 ju fun w0 _ _ a w H hs=>by
  have e:a.eval (.tmp t)= .agg #[aX a u1,aX a u2,aX a u3]:=hs.holds _<|az h
  have he:=Ext.alloc hs.sub<| .cells (a.eval<| .tmp t).cells T (0,0)
  have k1:=h1.ok hs;have k2:=h2.ok hs;have k3:=h3.ok hs;have c1:=(oi<|Shape.one k1).2.2;have c2:=(oi<|Shape.one k2).2.2;have c3:=(oi<|Shape.one k3).2.2;refine⟨.pointer<|some ⟨w.heap.size,0,none⟩,w.alloc<| .cells (a.eval<| .tmp t).cells T,H,?_,he,?_,?_⟩
  ·simp[execOp,Instr.box,newVar,newRow]
  ·refine⟨w.heap.size,(a.eval<| .tmp t).cells,rfl,sR w _,?_,.inl hs.below.size,?_,?_,?_⟩
   ·cases hh:H w.heap.size with
    |none=>rfl
    |some o=>have:=xP hs.sub hh;omega
   ·rw[e];exact⟨aX a u1,[aX a u2,aX a u3],by rw[c1];rfl,Shape.one k1,⟨rfl,k1⟩,aX a u2,[aX a u3],by rw[c2];rfl,Shape.one k2,⟨rfl,k2⟩,aX a u3,[],by rw[c3];rfl,Shape.one k3,⟨rfl,k3⟩,rfl⟩
   ·exact⟨fun _ h=>h.elim,fun _ h=>h.elim,fun _ h=>h.elim,trivial⟩
   ·rintro(h|h|h|h)<;>exact h
  ·rintro b ⟨c,e',hb⟩;cases e';rcases hb with hb|⟨cs,hc,hb⟩
   ·omega
   ·rcases hb with hb|hb|hb|hb<;>exact hb.elim
def xf{w0:an P}{i:Nat}{T':asr}{gg:Bool}{ps:asv mc}{E:asr}{sz:Nat}{l:asv Ty}(ht:look Γ t=some (.rC T' gg ps))(hi:ps[i]? =some (.sm u))(hu:look Γ u=some (.buf E sz l))(hne:(u !=t)=true):
  qY w0 N Γ ((t,.rC T' gg<|ps.set i<| .buf E sz l)::bQ t (bQ u Γ)):=YX (.buf E sz l) ht hi hu hne rfl (fun e=>by cases e)
def xe{w0:an P}{i:Nat}{T':asr}{gg:Bool}{ps:asv mc}{K E Eb:asr}{sz:Nat}{l:asv (Ty×mH)}(ht:look Γ t=some (.rC T' gg ps))(hi:ps[i]? =some (.sm u))(hu:look Γ u=some (.oQ K E Eb sz l))(hne:(u !=t)=true):
  qY w0 N Γ ((t,.rC T' gg<|ps.set i<| .map K E Eb sz l)::bQ t (bQ u Γ)):=YX (.map K E Eb sz l) ht hi hu hne rfl (fun e=>by cases e)
end
section
variable[D:DR]
variable{P:Program}{w0:an P}{H0:HV}{N:Nat}{Q:Exit->Act->World->Prop}{Γ ay:Ctx}{d:Option Tmp}{ty:TypeId}{pos:String}{af:Array Edge}{g:Option (Nat×Bool)}
def ajW{α β:Type}{f:α->β}{l:asv α}{j:Nat}(h:j<(l.map f).length):∃x,l[j]? =some x:=⟨l[j]'(by simpa using h),by simp at h;simp[h]⟩
def Nd{k t:Nat}{c:Code}{T:asr}{gg:Bool}{ps:asv mc}(ht:look Γ t=some (.rC T gg ps))(hk:Nat.ble N k=true)(h:∀b,Goal P w0 H0 N c Q ((k,.PL t<| .pointer<|some ⟨b,0,none⟩)::Γ)):Goal P w0 H0 N c Q Γ:=fun a w H hs=>by
 obtain⟨b,cs,e,_⟩:=hs.holds _<|az ht
 exact h b a w H (hs.Tb (G:=[(k,.PL t<| .pointer<|some ⟨b,0,none⟩)]) fun p hp=>by
  rw[vT.1 hp];exact⟨rfl,e⟩)
def Ex{k t b:Nat}(h:look Γ k=some (.PL t<| .pointer<|some ⟨b,0,none⟩)):bK P Γ ⟨d,.move<| .tmp t,ty,pos,af,g⟩ (.ptr t 0):=
 bh fun _ _ _ a w _ hs=>by
  have e:aX a t= .pointer (some ⟨b,0,none⟩):=hs.holds _<|az h
  exact⟨aX a t,by simp[execOp];rfl,⟨b,e,e⟩,rfl⟩
def S5{fn:Func}{rs:asv ResultVar}{dq:asv Ty}{w1:aq5}{v:aq6}{s:bN}(hk:PD P w0 H0 w1 v s)(hr:fn.results=rs.toArray)(h:bu P Γ rs dq):
  me w0 H0 N (fun a w=>Zg P fn w1 H0 v s .gone dq .ret a w) Γ:=fun a w H hs=>by
 obtain⟨e1,e2,e3⟩:=hk;subst e1;refine tq rfl rfl (a:=a) (ds:=a.defers) hs fun w H hs=>?_
 obtain⟨vs,h1,h2⟩:=h.run hs;have hlen:=Am h2;rw[za hr];simp only[fh,Sem.run_map,h1,eQ,pj];refine⟨_,rfl,_,rfl,H,⟨hs.below.size,hs.below.os,hs.below.tape,hs.below.output,hs.below.drawn,?_,?_,hs.sub⟩,trivial,(fun b hb=>hb.elim),?_⟩
 ·intro r o ho;rw[hs.J4 rfl r (e3 r o ho) (fun hx=>by have:=e2 r hx;rw[this] at ho;cases ho)];exact ho
 ·exact fun b hb hx=>⟨hs.below.block rfl b hb hx,hs.J4 rfl b hb hx⟩
 ·match dq,h2,hlen with
  |[],h2,hl=>
   have:vs=[]:=h2;subst this;exact⟨#[],rfl,rfl⟩
  |[τ],h2,hl=>
   obtain⟨v,rest,e,hv,hr⟩:=h2;have:rest=[]:=hr;subst this;subst e;exact hv
  |τ::Fc::l,h2,hl=>
   have: ¬vs.toArray.size=1:=by simp[hl]
   rw[dif_neg this];exact⟨vs.toArray,rfl,by simpa using h2⟩
def Sa{α γ:Type}[DecidableEq α]{K E T:asr}{fK:α->Ty}{f:γ->Ty}{m k:asu}{l:asv (α×asv γ)}{x:α}(hT:yu P T K E=true)(hk:lS P K fK)(hz:bL P E (TN f []))(hm:Arg Γ m (TMp fK (TL f) l))(hx:Arg Γ k (fK x))
  (h:((mix x l).isNone|| !(List.isEmpty<|jc l x []))=true):bK P Γ ⟨d,.lookup T m k false,ty,pos,af,g⟩ (.val<|TN f<|jc l x []):=
 bh fun w0 _ _ a w H hs=>by
  obtain⟨r,es,em,hr,ho⟩:=hm.ok hs;have hr:=hs.sub _ _ hr;have GR:=hx.ok hs;have conv:∀{i:Nat} {l:asv (Ty×Ty)} {es:asv MapEntry},okM H i l es->PM w0 w H 0 0 i (l.map fun p=>(p.1,.val p.2)) es:=by
   intro i l
   induction l generalizing i with
   |nil=>intro es h;cases es with|nil=>trivial|cons _ _=>exact h.elim
   |cons p l ih=>intro es h;cases es with|nil=>exact h.elim|cons _ _=>exact⟨h.1,h.2.1,h.2.2.1,ih h.2.2.2⟩
  have ho:=conv ho;have el:(l.map fun p=>(fK p.1,TL f p.2)).map (fun p:Ty×Ty=>(p.1,mH.val p.2))=mM fK (fun v=> .val<|TL f v) l:=by simp[mM]
  rw[el] at ho;obtain⟨k1,k2⟩:=M7 ho;have hf:=run_findKey hk GR (w:=w) k1 k2;have hc:=hk.check H _ x GR es.isEmpty w;obtain⟨zv,Tn,VQ⟩:=hz.run w;cases JH:mix x l with
  |none=>
   rw[JH] at hf;refine⟨zv,?_,by simp only[jc,JH];exact VQ H,rfl⟩;simp[execOp,em,Instr.lookup,aP<|tV hT,run_getObj_map hr,hc,hf,Tn]
  |some j=>
   rw[JH] at hf;obtain⟨v,hv⟩:=BS JH;obtain⟨y,h1,_,h3,_⟩:=xv ho (j:=j) (k:=fK x) (e:= .val<|TL f v) (by simp[hv]);have hg:jc l x []=v:=by simp only[jc,JH,hv]
   rw[hg,JH] at h;refine⟨y.val,?_,by rw[hg];exact VI (by simpa using h) H _ h3,rfl⟩;simp only[yG,h1,FI] at hf;simp[execOp,em,Instr.lookup,aP<|tV hT,run_getObj_map hr,hc,hf]
end
section
variable[D:DR]
variable{P:Program}{w0:an P}{H0:HV}{N:Nat}{ops:Array Oper}{Q:Exit->Act->World->Prop}{Γ ay:Ctx}{d:Option Tmp}{ty:TypeId}{pos:String}{af:Array Edge}{g:Option (Nat×Bool)}
variable{t:Nat}{E:asr}{sz dd:Nat}{T:asr}
def ab0{B:an P}{w:aq5}{H:HV}{l:asv Ty}{ad:auz Addr}{n cap j:Nat}(hu:HR sz l)(h:wT B w H E sz l (.slice ad n cap))(hj:j<=l.length):wT B w H E sz (l.take j) (.slice ad j cap):=by
 obtain⟨xs,⟨hl,hr⟩,ho,hn⟩:=h;have hlen:=oD ho;rw[iC hu] at hlen;have hmul:j*sz<=l.length*sz:=nE _ hj;have gS:vH H (l.take j) (xs.take<|j*sz):=by
  have:=A8 hu ho 0 j;simpa using this
 have PQ:(l.take j).length=j:=by simp;omega
 refine⟨xs.take<|j*sz,⟨by rw[PQ,List.length_take,fW (by omega)],?_⟩,gS,fun b hb=>hn b (by cases ad<;>simpa[Value.ownBlock] using hb)⟩;rcases hr with⟨e,e2⟩|⟨g,aa4,cur,e,h1,h2,h3,h4,h5,h6⟩
 ·cases e;have:j=0:=by omega
  subst this;exact .inl ⟨rfl,by simp⟩
 ·cases e;refine .inr ⟨g,cap,cur,?_,h1,h2,?_,h4,h5,?_⟩
  ·have:(l.take j).length=j:=by simp;omega
   rw[this]
  ·have:(l.take j).length=j:=by simp;omega
   omega
  ·have:(l.take j).length=j:=by simp;omega
   rw[this,<-h6,vR,fW hmul]
def ag2{dz:Ctx}(bY:∀q∈dz,q∈Γ){s y:asu}{l:asv Ty}{k:IntKind}{j:Nat}(hT:Br P T sz=true)(hs:eP dz s t)(ht:look dz t=some (.buf E sz l))(hu:HR sz l)(hy:Arg dz y (TI k j))(hj:j<=l.length)(nU:dd<N):
  Step P N ops ⟨some dd,.slice T s none (some y) none,ty,pos,af,none⟩ Γ ((dd,.buf E sz<|l.take j)::del dd (bQ t Γ)):=by
 intro w0 H0 a w H df K Q kk;simp only[Region.wanted,if_true];have L9:=df.weaken bY;have hb:=df.holds _<|bY _<|az ht
 simp only at hb;have es:=hs.ok L9;have ey:a.eval y= .int k j:=hy.ok L9;obtain⟨el,ii,hue,hii,hsz⟩:=Mq hT;have w9:∀w,(Go.sizeOf el).run P w= .ok sz w:=fun w=>by simp[Go.sizeOf,typeInfo,program,Sem.run,hii,hsz]
 obtain⟨ad,cap,hv,hcap,h0⟩:∃ad cap,aX a t= .slice ad l.length cap/\l.length<=cap/\(ad=none\/∃b,ad=some ⟨b,0,none⟩):=by
  obtain⟨xs,⟨_,hr⟩,_,_⟩:=hb;rcases hr with⟨e,e2⟩|⟨g,cap,cur,e,_,_,h3,_⟩
  ·exact⟨none,0,by rw[e,e2],by omega,.inl rfl⟩
  ·exact⟨_,cap,e,h3,.inr ⟨g,rfl⟩⟩
 rw[hv] at hb;have uD:=ab0 hu hb hj;have hbd:(Instr.sliceBounds true l.length cap none (some<| .int k (j:Int)) none).run P w= .ok (0,j,cap) w:=by
  have b1:∀(code:BoundsCode),(Instr.sliceBound (.int k (j:Int)) cap code).run P w= .ok j w:=fun code=>by
   have:(j:Int)<=cap:=by omega
   simp[Instr.sliceBound,asIntOf];omega
  simp[Instr.sliceBounds,b1]
 have Xd:ad.map (·.add 0)=ad:=by
  rcases h0 with e|⟨b,e⟩<;>subst e
  ·rfl
  ·simp[addr_add]
 unfold Oper.wp;have e3:a.eval s= .slice ad l.length cap:=by rw[es];exact hv
 have er:(execOp a.eval ⟨some dd,.slice T s none (some y) none,ty,pos,af,none⟩).run P w= .ok (.value<| .slice ad j cap) w:=by
  simp[execOp,e3,ey,Instr.sliceAt,aP hue,Instr.slice,hbd,w9];intro _;simpa using Xd
 rw[er,uq];exact kk _ w H (BI df (bY _<|az ht) (C5 w) (fun _ e=>by cases e) nU (by simp[bN.bO]) uD fun b hb=> .inl (by
  show(aX a t).ownBlock=some b;rw[hv];cases ad<;>simpa[bN.owns,Value.ownBlock] using hb))
def abP{α:Type}{f:α->Ty}{l r:asv α}{s y:asu}{j:Int}(hT:Br P T sz=true)(hf:∀z,(f z).n=sz)(hs:eP Γ s t)(ht:look Γ t=some (.buf E sz<|lT f l))(hy:Arg Γ y (TI .i64 j))(h:iR l 0 j=some r)(nU:dd<N):
  Step P N ops ⟨some dd,.slice T s none (some y) none,ty,pos,af,none⟩ Γ ((dd,.buf E sz<|lT f r)::del dd (bQ t Γ)):=by
 obtain⟨_,h2,h4,h5⟩:=NY h;obtain⟨j0,rfl⟩:=gQ h2;have h4':j0<=l.length:=by exact_mod_cast h4
 have:=ag2 (ops:=ops) (ty:=ty) (pos:=pos) (af:=af) (fun _ h=>h) hT hs ht (mD hf l) (j:=j0) hy (by rw[gG];exact h4') nU;have e:(lT f l).take j0=lT f r:=by rw[h5];simp[lT,List.map_take]
 rw[e] at this;exact this
def TFc(f:FuncId):Ty:=XH (.func (.func f) #[] #[]) rfl
def Arg.fnc{f:FuncId}:Arg Γ (.func f) (TFc f):=⟨fun _=>rfl⟩
def Uw{f:FuncId}{xs:asv asu}{ta:auA asr}{args:asv Ty}{dq:Ze}(ht:look Γ t=some (.val<|TFc f))(hf:fC P f args dq)(ha:aJ Γ xs args):
  bK P Γ ⟨d,.call ⟨.value<| .tmp t,xs.toArray,ta⟩,ty,pos,af,g⟩ (afI dq):=by
 intro w0 H0 N a w H hs K Q k;have et:a.eval (.tmp t)= .func (.func f) #[] #[]:=hs.holds _<|az ht
 have e:execOp a.eval ⟨d,.call ⟨.value<| .tmp t,xs.toArray,ta⟩,ty,pos,af,g⟩=execOp a.eval ⟨d,.call ⟨.value<| .func f,xs.toArray,ta⟩,ty,pos,af,g⟩:=by
  simp only[execOp,resolve,et,Deferred.ofValue,pure_bind]
  rfl
 have:=fS (d:=d) (ty:=ty) (pos:=pos) (af:=af) (g:=g) (ta:=ta) hf ha w0 H0 N a w H hs K Q k;unfold Oper.wp at this⊢;rw[e];exact this
def TR{α β:Type}[DecidableEq α]{K Eb:asr}{fK:α->Ty}{F:β->asv Ty}{m k:asu}{u:Nat}{l:asv (α×β)}{x:α}{z:β}(hT:yu P T K E=true)(hk:lS P K fK)(hz:(P.info? E).bind (·.zero)=some (.slice none 0 0))(hz0:F z=[])(hm:kd Γ m t)(ht:look Γ t=some (.oQ K E Eb sz<|mM fK (fun v=> .buf<|F v) l))(hx:Arg Γ k (fK x))(nU:dd<N)(hne:(dd !=t)=true):
  ans P N ops Γ ⟨some dd,.mapEntry T m k,ty,pos,af,none⟩ t (.oQ K E Eb sz<|(mM fK (fun v=> .buf<|F v)<|nw l x z).set (ij x l) (fK x,.any)) dd (.EB Eb sz (F<|jc l x z)<|ij x l) u (.NU dd<|ij x l):=fun tD bY=>by
 intro w0 H0 a w H hs K' Q kk;refine Q6 bY hT hk hz hz0 hm ht hx nU (by simpa using hne) w0 H0 a w H hs K' Q fun a' w' H' pN=>kk a' w' H' ?_
 obtain⟨y,e,_⟩:=pN.holds (dd,.EB Eb sz (F<|jc l x z)<|ij x l) (by simp);have:=pN.Tb (G:=[(u,.NU dd<|ij x l)]) fun p hp=>by
  rw[vT.1 hp];exact⟨rfl,y,e⟩
 refine this.weaken fun q hq=>?_
 simp only[bP,mw,zG,or_false] at hq⊢;rcases hq with h|h|h|h
 ·exact .inr<| .inl h
 ·exact .inr<| .inr<| .inl h
 ·exact .inl h
 ·exact .inr<| .inr<| .inr h
def acu{u:Nat}{i:Int}(h:look Γ u=some (.NU t i)):bK P Γ ⟨d,.extract (.tmp t) 1,ty,pos,af,g⟩ (.val<|TI .i64 i):=
 bh fun _ _ _ a w _ hs=>by
  obtain⟨x,e⟩:=hs.holds _<|az h
  have e':a.eval (.tmp t)= .tuple #[x,.int .i64 i]:=e;exact⟨.int .i64 i,by simp[execOp,e',Instr.extract],rfl,rfl⟩
end
section
variable[D:DR]
variable{P:Program}{N:Nat}{ops:Array Oper}{w0:an P}{H0:HV}
def UF{α β:Type}[DecidableEq α]{x:α}{z:β}:∀{l:asv (α×β)},mix x l=none->mix x (l++[(x,z)])=some l.length
 |[],_=>by simp[mix]
 |p::l,h=>by
  simp only[mix] at h⊢;by_cases e:x=p.1
  ·simp[e] at h
  ·simp only[e,decide_false,fA,Option.map_eq_none_iff] at h;simp[e,mix,UF h]
def aak{α β:Type}[DecidableEq α](l:asv (α×β))(x:α)(z:β):jc (nw l x z) x z=jc l x z:=by
 unfold nw;cases h:mix x l with
 |none=>
  have:=UF (z:=z) h;simp[jc,this,h]
 |some j=>rfl
end
section
variable[D:DR]
variable{P:Program}{N:Nat}{ops:Array Oper}{w0:an P}{H0:HV}
variable{α β:Type}[DecidableEq α]{K E T:TypeId}{fK:α->Ty}{F:β->Ty}{l:List (α×β)}{x:α}{z y:β}{t dL dB dM dX:Nat}{qq:Ctx}
def Vw(K E:asr)(fK:α->Ty)(F:β->Ty)(l:asv (α×β))(x:α)(z y:β)(t dL dB dM dX:Nat)(qq:Ctx)(fl fb fm fx:Bool):Ctx:=
 (bif fb then [(dB,.val<|F y)] else [])++(bif fl then [(dL,.val<|F<|jc l x z)] else [])++(bif fx then [(dX,.val<|TI .i64<|ij x l)] else [])++(bif fm then [(dM,.J3 [F<|jc l x z,TI .i64<|ij x l])] else [])++
  ((t,.oQ K E 0 0<|mM fK (fun v=> .val<|F v)<|bif fm then nw l x z else l)::qq)
structure aeC(N t dL dB dM dX:Nat)(qq:Ctx):Prop where
 lt:dL<N/\dB<N/\dM<N/\dX<N
 ne:dL≠t/\dB≠t/\dM≠t/\dX≠t/\dL≠dB/\dL≠dM/\dL≠dX/\dB≠dM/\dB≠dX/\dM≠dX
 fr:∀q∈qq,q.1≠t/\∀d∈[dL,dB,dM,dX],q.1≠d/\d∉q.2.bO
def aiO(N t dL dB dM dX:Nat)(qq:Ctx):Bool:=
 Nat.blt dL N&&Nat.blt dB N&&Nat.blt dM N&&Nat.blt dX N&&(dL !=t)&&(dB !=t)&&(dM !=t)&&(dX !=t)&&(dL !=dB)&&(dL !=dM)&&(dL !=dX)&&(dB !=dM)&&(dB !=dX)&&(dM !=dX)&&
 qq.all fun q=>q.1 !=t&&[dL,dB,dM,dX].all fun d=>q.1 !=d&& !q.2.bO.contains d
def aah(h:aiO N t dL dB dM dX qq=true):aeC N t dL dB dM dX qq:=by
 simp only[aiO,cW,p9,ne_eq,dC,jj,Jy,lq] at h;obtain⟨⟨⟨⟨⟨⟨⟨⟨⟨⟨⟨⟨⟨⟨h1,h2⟩,h3⟩,h4⟩,h5⟩,h6⟩,h7⟩,h8⟩,h9⟩,kB⟩,j5⟩,qS⟩,lK⟩,ot⟩,mF⟩:=h;exact⟨⟨cq h1,cq h2,cq h3,cq h4⟩,⟨h5,h6,h7,h8,h9,kB,j5,qS,lK,ot⟩,mF⟩
def gh{fl fb fm fx:Bool}{q:Nat×bN}:q∈Vw K E fK F l x z y t dL dB dM dX qq fl fb fm fx↔(fb=true/\q=(dB,.val<|F y))\/(fl=true/\q=(dL,.val<|F<|jc l x z))\/(fx=true/\q=(dX,.val<|TI .i64<|ij x l))\/(fm=true/\q=(dM,.J3 [F<|jc l x z,TI .i64<|ij x l]))\/
  q=(t,.oQ K E 0 0<|mM fK (fun v=> .val<|F v)<|bif fm then nw l x z else l)\/q∈qq:=by
 cases fl<;>cases fb<;>cases fm<;>cases fx<;>simp[Vw,or_assoc]
def Po{fl fb fm fx:Bool}(h:aeC N t dL dB dM dX qq){d:Nat}(hd:d∈[dL,dB,dM,dX])(h1:d=dL->fl=false)(h2:d=dB->fb=false)(h3:d=dM->fm=false)(h4:d=dX->fx=false):
  nF d (Vw K E fK F l x z y t dL dB dM dX qq fl fb fm fx)=true:=by
 obtain⟨n1,n2,n3,n4,n5,n6,n7,n8,n9,n10⟩:=h.ne;simp only[nF,dC,cW,p9,ne_eq,jj,Jy,lq];intro q hq;rcases gh.1 hq with⟨hf,rfl⟩|⟨hf,rfl⟩|⟨hf,rfl⟩|⟨hf,rfl⟩|rfl|hq
 ·exact⟨fun e=>(by have:=h2 e.symm;rw[hf] at this;cases this),by simp[bN.bO]⟩
 ·exact⟨fun e=>(by have:=h1 e.symm;rw[hf] at this;cases this),by simp[bN.bO]⟩
 ·exact⟨fun e=>(by have:=h4 e.symm;rw[hf] at this;cases this),by simp[bN.bO]⟩
 ·exact⟨fun e=>(by have:=h3 e.symm;rw[hf] at this;cases this),by simp[bN.bO]⟩
 ·refine⟨fun e=>?_,by simp[bN.bO]⟩;simp only at e;simp only[bP,zG,or_false] at hd;rcases hd with r|r|r|r<;>subst r<;>simp_all
 ·exact(h.fr q hq).2 d hd
end
section
variable[D:DR]
variable{P:Program}{N:Nat}{ops:Array Oper}{w0:an P}{H0:HV}
variable{α β:Type}[DecidableEq α]{K E T:TypeId}{fK:α->Ty}{F:β->Ty}{l:List (α×β)}{x:α}{z y:β}{t dL dB dM dX k:Nat}{qq:Ctx}{Q:Exit->Act->World->Prop}{av:List (List Nat)}{m kx:Operand}{oL oB oM oX oS:Oper}
def acH(Nb:B4 ops av=true)(hsz:ops.size=k+5)(hd:ops.toList.drop k=[oL,oB,oM,oX,oS])(YS:((av.getD (k+1) []).contains k&&(av.getD (k+3) []).contains (k+2)&&(av.getD (k+4) []).contains k&&(av.getD (k+4) []).contains (k+1)&&(av.getD (k+4) []).contains (k+2)&&(av.getD (k+4) []).contains (k+3))=true)
  (gS:pU [oL,oB,oM,oX,oS]=true)(hg:(oL.guard,oB.guard,oM.guard,oX.guard,oS.guard)=(none,none,none,none,none))(agI:(oL.dst,oB.dst,oX.dst)=(some dL,some dB,some dX))(W0:aeC N t dL dB dM dX qq)
  (hL:∀b,bK P (Vw K E fK F l x z y t dL dB dM dX qq false false b false) oL<| .val<|F<|jc l x z)(hB:bK P [(dL,.val<|F<|jc l x z)] oB (.val<|F y))
  (hM:∀tD:Ctx,(∀q∈Vw K E fK F l x z y t dL dB dM dX qq false false false false,q∈tD)->Step P N ops oM tD ((dM,.J3 [F<|jc l x z,TI .i64<|ij x l])::(t,.oQ K E 0 0<|mM fK (fun v=> .val<|F v)<|nw l x z)::del dM (bQ t tD)))
  (hX:bK P [(dM,.J3 [F<|jc l x z,TI .i64<|ij x l])] oX (.val<|TI .i64<|ij x l))
  (hS:Step P N ops oS (Vw K E fK F l x z y t dL dB dM dX qq true true true true) ((t,.oQ K E 0 0<|mM fK (fun v=> .val<|F v)<|rh l x y)::bQ t (Vw K E fK F l x z y t dL dB dM dX qq true true true true)))
  (kk:me w0 H0 N (Q .normal) ((t,.oQ K E 0 0<|mM fK (fun v=> .val<|F v)<|rh l x y)::qq)):
  ∀(fuel:Nat) (listed:auA Bool) (a:Act) (w:aq5) (H:HV),listed.size=ops.size->(∀j,j<k->v7 listed j)-> ¬v7 listed (k+4)->(∀m,v7 listed m->∀j∈av.getD m [],v7 listed j)->unl listed<=fuel->
   Sat w0 H0 N (Vw K E fK F l x z y t dL dB dM dX qq (listed.getD k false) (listed.getD (k+1) false) (listed.getD (k+2) false)<|listed.getD (k+3) false) a w H->xm (iP w0.rd) P ops Q fuel listed a w:=by
 have hat:∀j,ops[k+j]? =[oL,oB,oM,oX,oS][j]? :=fun j=>by
  rw[<-hd,zJ];simp
 simp only[cW,Bj] at YS;obtain⟨⟨⟨⟨⟨e1,e2⟩,e3⟩,e4⟩,e5⟩,e6⟩:=YS;obtain⟨n1,n2,n3,n4,n5,n6,n7,n8,n9,n10⟩:=W0.ne;obtain⟨l1,l2,l3,l4⟩:=W0.lt;simp only[Jo] at hg agI;obtain⟨g1,g2,g3,g4,g5⟩:=hg;obtain⟨d1,d2,d4⟩:=agI;intro fuel
 induction fuel with
 |zero=>
  intro listed a w H hs _ hn _ hu;exact absurd (NS (by omega) (by omega)) hn
 |succ f ih=>
  intro listed a w H hs hk hn hc hu df;refine⟨fun e=>absurd e (G8 Nb hs (i:=k+4) (by omega) hn),fun i hi=>?_⟩;obtain⟨o,ho,hni,_⟩:=(vB hs).1 hi;have Qo:=(zO.1 ho).1;have W6:i<listed.size:=hs▸Qo;have Me:=FZ Nb hs hc hi;have hik:k<=i:=by
   apply sU;intro h;exact hni (hk i (by omega))
  obtain⟨j,rfl⟩:∃j,i=k+j:=⟨i-k,by omega⟩;have hj:j<5:=by omega
  rw[hat j] at ho;have next:∀(a':Act) (w':aq5) (H':HV),j≠4->Sat w0 H0 N (Vw K E fK F l x z y t dL dB dM dX qq (decide (j=0)||listed.getD k false) (decide (j=1)||listed.getD (k+1) false) (decide (j=2)||listed.getD (k+2) false) (decide (j=3)||listed.getD (k+3) false)) a' w' H'->
    xm (iP w0.rd) P ops Q f (listed.setIfInBounds (k+j) true) a' w':=fun a' w' H' hj4 hS'=>by
   have Vc:∀c,(listed.setIfInBounds (k+j) true).getD (k+c) false=(decide (j=c)||listed.getD (k+c) false):=fun c=>by
    by_cases e:j=c
    ·subst e;simp[W6]
    ·have:k+j≠k+c:=by omega
     simp[EK,Array.getElem?_setIfInBounds_ne this,e]
   refine ih _ a' w' H' (by simp[hs]) (fun q hq=>(qP W6).2<| .inr<|hk q hq) (fun h=>?_) ?_ (by have:=RN W6 hni;omega) ?_
   ·rcases(qP W6).1 h with h|h
    ·omega
    ·exact hn h
   ·intro m hm q hq;rw[qP W6] at hm⊢;rcases hm with hm|hm
    ·subst hm;exact .inr<|Me q hq
    ·exact .inr<|hc m hm q hq
   ·have h0:=Vc 0;simp only[ux] at h0;rw[h0,Vc 1,Vc 2,Vc 3];exact hS'
  have nl:∀{c:Nat},¬v7 listed c->listed.getD c false=false:=fun{c} h=>by
   cases hb:listed.getD c false
   ·rfl
   ·exact absurd hb h
  have adg:∀o∈[oL,oB,oM,oX,oS],∀c,o.op≠ .defer c:=fun o h=>Cn gS h
  match j,hj with
  |0,_=>
   simp at ho;subst ho;have hf0:listed.getD k false=false:=nl hni;refine Fi (o:=oL) (by rw[hat 0];rfl) (adg _ (by simp)) ?_;simp only[Region.wanted,g1,if_true];refine hL (listed.getD (k+2) false) w0 H0 N a w H (df.weaken fun q hq=>?_) _ Q fun v w' H' he hv hb=>?_
   ·rcases gh.1 hq with h|h|h|h|h|h
    ·cases h.1
    ·cases h.1
    ·cases h.1
    ·exact gh.2<| .inr<| .inr<| .inr<| .inl h
    ·exact gh.2<| .inr<| .inr<| .inr<| .inr<| .inl h
    ·exact gh.2<| .inr<| .inr<| .inr<| .inr<| .inr h
   ·rw[d1];have h1:=wu df he l1 (Po W0 (d:=dL) (by simp) (fun _=>hf0) (fun e=>absurd e n5) (fun e=>absurd e n6)<|fun e=>absurd e n7) (by simp[bN.bO]) hv hb;refine next _ w' H' (by decide)<|h1.weaken fun q hq=>?_
    rcases gh.1 hq with h|h|h|h|h|h
    ·exact fY _ (gh.2 (.inl (by simpa using h)))
    ·rw[h.2];simp
    ·exact fY _ (gh.2 (.inr (.inr (.inl (by simpa using h)))))
    ·exact fY _ (gh.2 (.inr (.inr (.inr (.inl (by simpa using h))))))
    ·exact fY _ (gh.2 (.inr (.inr (.inr (.inr (.inl (by simpa using h)))))))
    ·exact fY _<|gh.2<| .inr<| .inr<| .inr<| .inr<| .inr h
  |1,_=>
   simp at ho;subst ho;have hf1:listed.getD (k+1) false=false:=nl hni;have hl0:listed.getD k false=true:=Me k e1;refine Fi (o:=oB) (by rw[hat 1];rfl) (adg _ (by simp)) ?_;simp only[Region.wanted,g2,if_true];refine hB w0 H0 N a w H (df.weaken fun q hq=>?_) _ Q fun v w' H' he hv hb=>?_
   ·rw[vT.1 hq];exact gh.2<| .inr<| .inl ⟨hl0,rfl⟩
   ·rw[d2];have h1:=wu df he l2 (Po W0 (d:=dB) (by simp) (fun e=>absurd e.symm n5) (fun _=>hf1) (fun e=>absurd e n8)<|fun e=>absurd e n9) (by simp[bN.bO]) hv hb;refine next _ w' H' (by decide)<|h1.weaken fun q hq=>?_
    rcases gh.1 hq with h|h|h|h|h|h
    ·rw[h.2];simp
    ·exact fY _ (gh.2 (.inr (.inl (by simpa using h))))
    ·exact fY _ (gh.2 (.inr (.inr (.inl (by simpa using h)))))
    ·exact fY _ (gh.2 (.inr (.inr (.inr (.inl (by simpa using h))))))
    ·exact fY _ (gh.2 (.inr (.inr (.inr (.inr (.inl (by simpa using h)))))))
    ·exact fY _<|gh.2<| .inr<| .inr<| .inr<| .inr<| .inr h
  |2,_=>
   simp at ho;subst ho;have hf2:listed.getD (k+2) false=false:=nl hni;refine Fi (o:=oM) (by rw[hat 2];rfl) (adg _ (by simp)) ?_;refine hM _ (fun q hq=>?_) w0 H0 a w H df _ Q fun a' w' H' hS'=>?_
   ·rcases gh.1 hq with h|h|h|h|h|h
    ·cases h.1
    ·cases h.1
    ·cases h.1
    ·cases h.1
    ·exact gh.2 (.inr (.inr (.inr (.inr (.inl (by rw[hf2];exact h))))))
    ·exact gh.2<| .inr<| .inr<| .inr<| .inr<| .inr h
   ·have lr:∀q,q∈Vw K E fK F l x z y t dL dB dM dX qq (listed.getD k false) (listed.getD (k+1) false) (listed.getD (k+2) false) (listed.getD (k+3) false)->q.1≠t->q.1≠dM->dM∉q.2.bO->q∈(dM,bN.J3 [F<|jc l x z,TI .i64<|ij x l])::(t,.oQ K E 0 0<|mM fK (fun v=> .val<|F v)<|nw l x z)::del dM (bQ t<|Vw K E fK F l x z y t dL dB dM dX qq (listed.getD k false) (listed.getD (k+1) false) (listed.getD (k+2) false)<|listed.getD (k+3) false):=
     fun q h1 h2 h3 h4=>fY _<|fY _<|qI (mi h1 h2) h3 h4
    refine next _ w' H' (by decide)<|hS'.weaken fun q hq=>?_
    rcases gh.1 hq with h|h|h|h|h|h
    ·exact lr q (gh.2 (.inl (by simpa using h))) (by rw[h.2];exact n2) (by rw[h.2];exact n8) (by rw[h.2];simp[bN.bO])
    ·exact lr q (gh.2 (.inr (.inl (by simpa using h)))) (by rw[h.2];exact n1) (by rw[h.2];exact n6) (by rw[h.2];simp[bN.bO])
    ·exact lr q (gh.2 (.inr (.inr (.inl (by simpa using h))))) (by rw[h.2];exact n4) (by rw[h.2];exact fun e=>n10 e.symm) (by rw[h.2];simp[bN.bO])
    ·rw[h.2];simp
    ·rw[h];simp
    ·exact lr q (gh.2<| .inr<| .inr<| .inr<| .inr<| .inr h) (W0.fr q h).1 ((W0.fr q h).2 dM (by simp)).1 ((W0.fr q h).2 dM (by simp)).2
  |3,_=>
   simp at ho;subst ho;have hf3:listed.getD (k+3) false=false:=nl hni;have To:listed.getD (k+2) false=true:=Me _ e2;refine Fi (o:=oX) (by rw[hat 3];rfl) (adg _ (by simp)) ?_;simp only[Region.wanted,g4,if_true];refine hX w0 H0 N a w H (df.weaken fun q hq=>?_) _ Q fun v w' H' he hv hb=>?_
   ·rw[vT.1 hq];exact gh.2<| .inr<| .inr<| .inr<| .inl ⟨To,rfl⟩
   ·rw[d4];have h1:=wu df he l4 (Po W0 (d:=dX) (by simp) (fun e=>absurd e.symm n7) (fun e=>absurd e.symm n9) (fun e=>absurd e.symm n10)<|fun _=>hf3) (by simp[bN.bO]) hv hb;refine next _ w' H' (by decide)<|h1.weaken fun q hq=>?_
    rcases gh.1 hq with h|h|h|h|h|h
    ·exact fY _ (gh.2 (.inl (by simpa using h)))
    ·exact fY _ (gh.2 (.inr (.inl (by simpa using h))))
    ·rw[h.2];simp
    ·exact fY _ (gh.2 (.inr (.inr (.inr (.inl (by simpa using h))))))
    ·exact fY _ (gh.2 (.inr (.inr (.inr (.inr (.inl (by simpa using h)))))))
    ·exact fY _<|gh.2<| .inr<| .inr<| .inr<| .inr<| .inr h
  |4,_=>
   simp at ho;subst ho;have h0:listed.getD k false=true:=Me _ e3;have h1:listed.getD (k+1) false=true:=Me _ e4;have h2:listed.getD (k+2) false=true:=Me _ e5;have h3:listed.getD (k+3) false=true:=Me _ e6;rw[h0,h1,h2,h3] at df;refine Fi (o:=oS) (by rw[hat 4];rfl) (adg _ (by simp)) ?_;refine hS w0 H0 a w H df _ Q fun a' w' H' hS'=>?_
   refine QF (kk a' w' H'<|hS'.weaken fun q hq=>?_) f _ (by simp[hs]) fun c hcs=>(qP W6).2 ?_
   ·rcases bP.1 hq with h|h
    ·rw[h];simp
    ·exact fY _<|mi (gh.2<| .inr<| .inr<| .inr<| .inr<| .inr h) (W0.fr q h).1
   ·by_cases hck:c<k
    ·exact .inr<|hk c hck
    ·obtain⟨e,rfl⟩:∃e,c=k+e:=⟨c-k,by omega⟩;have:e=0\/e=1\/e=2\/e=3\/e=4:=by omega
     rcases this with rfl|rfl|rfl|rfl|rfl
     ·exact .inr h0
     ·exact .inr h1
     ·exact .inr h2
     ·exact .inr h3
     ·exact .inl rfl
def aea(n k:Nat)(av:asv (asv Nat)):Bool:=decide (k<=n)&&(List.range n).all fun i=>decide (i<k)||(List.range k).all fun j=>(av.getD i []).contains j
def Y1{id:Nat}{S:asv Ctx}{Γ DN:Ctx}{ts ts2:asv Nat}{kl:asv (asv<|Nat×asv Nat)}{L:asv Nat}{jb:asv (asv Nat)}{ja:asv Bool}(gS:pU ops.toList=true)(hm:P.follows .mixedOrders=true)(hc:(B4 ops av&&S4 k kl jb ja L av&&aea ops.size k av)=true)
  (hp:bT P N ops Γ [] (ops.toList.take k) jb ja S)(Qn:S.reverse.map Gf=kl)(hLn:sF Γ=L)(C2:vi (S.flatten++Γ) ts DN)(alM:vi DN ts2 ((t,.oQ K E 0 0<|mM fK (fun v=> .val<|F v) l)::qq))
  (hsz:ops.size=k+5)(hd:ops.toList.drop k=[oL,oB,oM,oX,oS])(YS:((av.getD (k+1) []).contains k&&(av.getD (k+3) []).contains (k+2)&&(av.getD (k+4) []).contains k&&(av.getD (k+4) []).contains (k+1)&&(av.getD (k+4) []).contains (k+2)&&(av.getD (k+4) []).contains (k+3))=true)
  (hg:(oL.guard,oB.guard,oM.guard,oX.guard,oS.guard)=(none,none,none,none,none))(agI:(oL.dst,oB.dst,oX.dst)=(some dL,some dB,some dX))(W0:aiO N t dL dB dM dX qq=true)
  (hL0:bK P (Vw K E fK F l x z y t dL dB dM dX qq false false false false) oL (.val<|F<|jc l x z))(hL1:bK P (Vw K E fK F l x z y t dL dB dM dX qq false false true false) oL (.val<|F<|jc (nw l x z) x z))(hB:bK P [(dL,.val<|F<|jc l x z)] oB (.val<|F y))
  (hM:XG P N ops (Vw K E fK F l x z y t dL dB dM dX qq false false false false) oM t (.oQ K E 0 0<|mM fK (fun v=> .val<|F v)<|nw l x z) dM (.J3 [F<|jc l x z,TI .i64<|ij x l]))
  (hX:bK P [(dM,.J3 [F<|jc l x z,TI .i64<|ij x l])] oX (.val<|TI .i64<|ij x l))
  (hS:Step P N ops oS (Vw K E fK F l x z y t dL dB dM dX qq true true true true) ((t,.oQ K E 0 0<|mM fK (fun v=> .val<|F v)<|rh l x y)::bQ t (Vw K E fK F l x z y t dL dB dM dX qq true true true true)))
  (kk:me w0 H0 N (Q .normal) ((t,.oQ K E 0 0<|mM fK (fun v=> .val<|F v)<|rh l x y)::qq)):Goal P w0 H0 N (.region id ops true) Q Γ:=by
 intro a w H hs;simp only[cW] at hc;obtain⟨⟨Nb,Rf⟩,OT⟩:=hc;simp only[aea,cW,zI,dC,wJ,qd,Bj] at OT;have h1:pU (ops.toList.take k)=true:=dC.2 fun o ho=>dC.1 gS o<|vV ho
 have h2:pU [oL,oB,oM,oX,oS]=true:=by rw[<-hd];exact dC.2 fun o ho=>dC.1 gS o<|zK ho
 have hL:∀b,bK P (Vw K E fK F l x z y t dL dB dM dX qq false false b false) oL (.val<|F<|jc l x z):=fun b=>by
  cases b
  ·exact hL0
  ·rw[aak] at hL1;exact hL1
 refine Dm hm (LA (w0:=w0) (H0:=H0) h1 Nb Rf OT.1 (fun i hi YQ j hj=>(OT.2 i YQ).resolve_left (by omega) j hj) Qn hLn hp C2 ?_ ops.size _ a _ H (by simp) ?_ ?_ ?_ ?_)
 ·intro fuel listed a w H w9 Va hcl hu df;have nf:∀c,c<5->listed.getD (k+c) false=false:=fun c hcc=>by
   cases hb:listed.getD (k+c) false
   ·rfl
   ·have:=(Va (k+c) (by omega)).1 hb;omega
  refine acH Nb hsz hd YS h2 hg agI (aah W0) hL hB hM hX hS kk fuel listed a w H w9 (fun j hj=>(Va j (by omega)).2 hj) (fun h=>by have:=(Va (k+4) (by omega)).1 h;omega) hcl hu ?_;have f0:=nf 0 (by omega);simp only[ux] at f0;rw[f0,nf 1 (by omega),nf 2 (by omega),nf 3 (by omega)];exact df.weaken alM.sub
 ·intro m h;exact absurd h kU
 ·intro i _ hi h;exact absurd h kU
 ·simp[unl]
 ·have he:Ext w H {w with drawn:=w.drawn+1} H:=⟨⟨⟨rfl,rfl,rfl,bG _,fun _ _=>rfl⟩,HU.of<|wF _⟩,HV.le.refl _,fun _ _=>rfl,hs.sub⟩;refine(El hs he).weaken fun q hq=>?_
  rcases w4.1 hq with⟨j,_,_,hl,_⟩|⟨hq,_⟩
  ·exact absurd hl kU
  ·exact hq
end
section
variable{p:ast}
def LZ{w w':aq5}{at_:Addr}{u:asr}{k:Addr}{v:aq6}{b:Bool}{l:asv Addr}(h:w.viewStore p at_ u k v b= .ok (w',l)):w'.drawn=w.drawn:=by
 unfold World.viewStore at h;simp only[bind,Except.bind,pure,Except.pure,MonadExcept.throw,throwThe,MonadExceptOf.throw] at h
 repeat' (split at h)
 all_goals first|(cases h;done)|skip
 all_goals (cases h;rfl)
def Pf{w w':aq5}{a:Addr}{v:aq6}{b:Bool}{l:asv Addr}(h:w.farStore p a v b= .ok (w',l)):w'.drawn=w.drawn:=by
 unfold World.farStore at h;split at h
 ·split at h
  ·cases h;rename_i h2;exact LZ h2
  ·cases h
 ·cases h
def KX{α:Type}:∀(q:Ask α) (w:aq5),w.drawn<=(w.ask q).2.drawn
 | .done a,w=>by simp[World.ask]
 | .ask asw range k,w=>by
  unfold World.ask;simp only;split
  ·exact KX _ w
  ·exact fZ (wF w.drawn)<|KX _ {w with drawn:=w.drawn+1}
def ZF(w:aq5)(c:Sys):w.drawn<=(w.sys c).2.drawn:=by
 unfold World.sys;split
 ·exact bG _
 ·rename_i h;have:=KX (Kernel.perform c w.os) w;rw[h] at this;exact this
def ZV{α:Type}:∀(s:Sem α) {w w':aq5} {v:α},s.run p w= .ok v w'->w.drawn<=w'.drawn:=by
 intro s
 induction s with
 |pure a=>intro w w' v h;simp only[Sem.run] at h;cases h;exact bG _
 |load m a k ih=>
  intro w w' v h;simp only[Sem.run] at h;split at h
  ·exact ih _ h
  ·split at h
   ·exact ih _ h
   ·cases h
 |store m a u k ih=>
  intro w w' v h;have key:∀r:Result α,(match w.cell? a with
   |some _=>if w.frozen? a then Result.halt (.unsupported<| .unsafePointer "a write to bytes that a string shares") w else k.run p (w.setCell a u)
   |none=>match w.farStore p a u (m== .atomic) with
    | .ok (w,_)=>k.run p w
    | .error h=>Result.halt h w)=r->r= .ok v w'->w.drawn<=w'.drawn:=by
   intro r hr e;subst e;split at hr
   ·split at hr
    ·cases hr
    ·have:= @ih _ _ _ hr;exact this
   ·split at hr
    ·rename_i w2 l h2;have:=ih hr;rwa [Pf h2] at this
    ·cases hr
  cases u<;>first|(unfold Sem.run at h;cases h;done)|(unfold Sem.run at h;exact key _ rfl h)
 |new o k ih=>intro w w' v h;simp only[Sem.run] at h;have:= @ih _ _ _ _ h;exact this
 |shape r k ih=>intro w w' v h;simp only[Sem.run] at h;exact ih _ h
 |freeze a n k ih=>
  intro w w' v h;simp only[Sem.run] at h;have:=ih h;have e:(w.freeze a n).drawn=w.drawn:=by unfold World.freeze;split<;>rfl
  rwa [e] at this
 |frozen a k ih=>intro w w' v h;simp only[Sem.run] at h;exact ih _ h
 |getObj r k ih=>
  intro w w' v h;simp only[Sem.run] at h;split at h<;>first|(cases h;done)|exact ih _ h
 |setObj r o k ih=>
  intro w w' v h;simp only[Sem.run] at h;split at h
  ·cases h
  ·have:= @ih _ _ _ h;exact this
  ·cases h
 |choose q k ih=>
  intro w w' v h;simp only[Sem.run] at h;split at h
  ·exact ih _ h
  ·have:= @ih _ _ _ _ h;exact fZ (wF _) this
 |sys c k ih=>
  intro w w' v h;simp only[Sem.run] at h;exact fZ (ZF w c)<|ih _ h
 |program k ih=>intro w w' v h;simp only[Sem.run] at h;exact ih _ h
 |mark m k ih=>intro w w' v h;simp only[Sem.run] at h;exact ih h
 |halt h=>intro w w' v e;simp only[Sem.run] at e;cases e
end
section
variable[D:DR]
variable{P:Program}{w0:an P}{H0:HV}{N:Nat}{ops:Array Oper}{Q:Exit->Act->World->Prop}{Γ ay:Ctx}{d:Option Tmp}{ty:TypeId}{pos:String}{af:Array Edge}{g:Option (Nat×Bool)}
def qT{f:FuncId}{args dq:asv Ty}(hc:eN P f=true)
  (h:∀(w:aq5) (H:HV) (vs:asv aq6),(∀r o,H r=some o->w.heap[r]? =some o)->qn P H->Ct H args vs->Calls P f vs.toArray w fun e w'=>∃v,e= .returned v/\F4 w.heap.size w w'/\wU H dq v):fC P f args (.vs dq):=
 ⟨hc,fun w H vs sub gl ha=>(h w H vs sub gl ha).mono fun e w' ⟨v,he,hb,hv⟩=>⟨v,he,hb,H,fun _ _=>rfl,fun r o hr=>by
  have:=sub r o hr;rw[hb.block r<|lt_of_heap this];exact this,hv⟩⟩
def lB(l:asv UInt8):asv Ty:=l.map fun b=>TI .u8 (b.toNat:Int)
def Ky{H:HV}:∀{l:asv UInt8} {xs:asv aq6},vH H (lB l) xs↔xs=Lib.byteCells l
 |[],xs=>Iff.rfl
 |b::l,xs=>by
  show vH H (TI .u8 (b.toNat:Int)::lB l) xs↔_;constructor
  ·rintro⟨v,rest,e,hv,hr⟩;have hv:v= .int .u8 b.toNat:=hv;subst hv;rw[Ky] at hr;subst hr;exact e
  ·intro e;exact⟨.int .u8 b.toNat,Lib.byteCells l,e,rfl,Ky.2 rfl⟩
def FN(l:asv UInt8):(lB l).length=l.length:=by simp[lB]
def Lk{T E:asr}(h:(P.info? T).bind (·.zero)=some (.agg #[.pointer none,.slice none 0 0])):bK P Γ ⟨d,.alloc T,ty,pos,af,g⟩ (.HX T E<|lB []):=
 ju fun w0 _ _ a w H hs=>by
  have hz:bL P T (iV 2 true):=a8 _ h<|fun _=>jw rfl rfl
  have hr:(zeroValue T).run P w= .ok (.agg #[.pointer none,.slice none 0 0]) w:=by
   cases hi:P.info? T with
   |none=>rw[hi] at h;cases h
   |some i=>rw[hi] at h;exact A2 hi h w
  refine⟨.pointer<|some ⟨w.heap.size,0,none⟩,w.alloc<| .cells #[.pointer none,.slice none 0 0] T,H,?_,Ext.alloc hs.sub _,?_,?_⟩
  ·simp[execOp,Instr.alloc,hr,newVar,newRow,Value.cells]
  ·refine⟨w.heap.size,_,_,rfl,sR w _,.inl rfl,?_,.inl hs.below.size,Kp,by simp[Value.ownBlock]⟩;cases hh:H w.heap.size with
   |none=>rfl
   |some o=>have:=xP hs.sub hh;omega
  ·rintro b ⟨c,e,hb⟩;cases e;rcases hb with hb|⟨p,r,hc,hb⟩
   ·omega
   ·rw[sR] at hc;simp at hc;obtain⟨rfl,rfl⟩:=hc;simp[Value.ownBlock] at hb
def ag7{w:aq5}{t u ty e:asr}{i:TypeInfo}(ht:P.underlying t=some (.slice e))(hu:P.underlying u=some .string)(hi:P.info? e=some i)(hz:i.zero=some (.int .u8 0))(OR:i.size=1)(hby:i.bytes=1)
  {v:aq6}{n:Nat}{xs:asv aq6}(hown:w.ownsRow 0 e 1 v n xs)(s:ByteArray)(hlen:n+s.size<=140737488355328):
  ∃v' w',(Builtin.append_ #[t,u] ty #[v,.string s]).run P w= .ok v' w'/\w'.ownsRow 0 e 1 v' (n+s.size) (xs++Lib.strCells s)/\AO w w' v.ownBlock/\
   ∀b,v'.ownBlock=some b->v.ownBlock=some b\/w.heap.size<=b:=by
 have Mf:n+s.size<=maxLen:=by unfold maxLen;omega
 obtain⟨v',w',hr,h2,h3,h4⟩:=Lib.run_append_own_string (P:=P) w 0 t u ty e i ht hu hi hz OR hby v n xs hown s Mf hlen<|jv _
 refine⟨v',w',hr,h2,⟨h3,HU.of<|ZV _ hr⟩,fun b hb=>?_⟩;have GS:xs.length=n:=by simpa using hown.1
 rcases hown.2 with⟨rfl,rfl⟩|⟨g,cap,cur,rfl,hbg,hg,hnc,hcm,hcs,htake⟩
 ·by_cases hm:s.size=0
  ·rw[h4.2 ⟨rfl,hm⟩] at hb;simp[Value.ownBlock] at hb
  ·have KK:=run_append_nil_string (P:=P) w t u ty e i (.int .u8 0) ht hu hi hz s (by omega) (by omega) (by rw[hby];omega);rw[hr] at KK;cases KK;simp[Value.ownBlock] at hb;exact .inr (by omega)
 ·by_cases Lw:n+s.size<=cap
  ·have KK:=Lib.run_append_room_string (P:=P) w t u ty e i ht hu hi OR g n cap cur hg s Lw (by omega);rw[hr] at KK;cases KK;exact .inl hb
  ·have holds:∀j u,xs[j]? =some u->w.cell? ((⟨g,0,none⟩:Addr).add j)=some u:=hown.cells (g:=g) rfl;have KK:=Lib.run_append_grow_string (P:=P) w t u ty e i (.int .u8 0) ht hu hi hz ⟨g,0,none⟩ n cap xs (by rw[OR];simpa using GS) holds s (by omega) (by omega) (by rw[hby];exact growslice_fits (by omega) (by omega));rw[hr] at KK;cases KK;simp[Value.ownBlock] at hb;exact .inr (by omega)
def ah9{w:aq5}{ops:auA Oper}{rest:asv Oper}{o:Oper}{a:Act}{Q:Exit->Act->aq5->Prop}(hgd:o.guard=none)(sl x:asu)(t u:asr)
  (ho:o.op= .call {callee:= .builtin .append,args:= #[sl,x],argTypes:= #[t,u]})
  (e:asr)(i:TypeInfo)(ht:P.underlying t=some (.slice e))(hu:P.underlying u=some .string)(hi:P.info? e=some i)(hz:i.zero=some (.int .u8 0))(OR:i.size=1)(hby:i.bytes=1)
  (v:aq6)(n:Nat)(xs:asv aq6)(hs:a.eval sl=v)(hown:w.ownsRow 0 e 1 v n xs)(s:ByteArray)(hx:a.eval x= .string s)(hlen:n+s.size<=140737488355328)
  (h:∀v' w',w'.ownsRow 0 e 1 v' (n+s.size) (xs++Lib.strCells s)->AO w w' v.ownBlock->(∀b,v'.ownBlock=some b->v.ownBlock=some b\/w.heap.size<=b)->wpList P ops Q rest (a.put o.dst v') w'):wpList P ops Q (o::rest) a w:=by
 refine wpList_plain hgd fun K hK=>?_
 obtain⟨v',w',hr,h2,h3,h4⟩:=ag7 (P:=P) (ty:=o.type) ht hu hi hz OR hby hown s hlen;unfold Oper.wp execOp;simp only[ho,resolve,invoke,builtin,fh,pj,eQ,List.map_toArray,uy,MI,hs,hx,hr];exact hK _ _<|h v' w' h2 h3 h4
end
section
open Go.Shelf
variable[D:DR]
variable{P:Program}{ρ:Ren}
variable{w:aq5}{M:Nat->Prop}{b:Nat}{p v:aq6}{w':aq5}{l:asv UInt8}{H:HV}{T:asr}{vs:asv aq6}
structure Tr(M:Nat->Prop)(w w':aq5):Prop where
 size:w.heap.size<=w'.heap.size
 os:w'.os=w.os
 tape:w'.tape=w.tape
 output:w'.output=w.output
 drawn:HU w w'
 lr:∀k,k<w.heap.size-> ¬M k->w'.heap[k]? =w.heap[k]?
def Tr.refl(M:Nat->Prop)(w:aq5):Tr M w w:=⟨bG _,rfl,rfl,rfl,bG _,fun _ _ _=>rfl⟩
def Tr.trans{M:Nat->Prop}{w w' w'':aq5}(h:Tr M w w')(k:Tr M w' w''):Tr M w w'':=
 ⟨fZ h.size k.size,k.os.trans h.os,k.tape.trans h.tape,k.output.trans h.output,fZ h.drawn k.drawn,fun i hi hm=>(k.lr i (oF hi h.size) hm).trans<|h.lr i hi hm⟩
def Tr.setCell{M:Nat->Prop}(w:aq5)(a:Addr)(x:aq6)(h:M a.block):Tr M w (w.setCell a x):=
 ⟨by simp[World.setCell],rfl,rfl,rfl,bG _,fun k _ hk=>Below.heap_setCell _ _ _ _<|fun e=>hk<|e▸h⟩
def Tr.grown{row:auz Nat}(h:AO w w' row)(hr:∀k,row=some k->M k):Tr M w w':=
 ⟨h.size,h.os,h.tape,h.output,h.drawn,fun k hk hm=>h.block k hk<|fun e=>hm<|hr k e.symm⟩
def Tr.mono{M2:Nat->Prop}{w2:aq5}(h:Tr M w w2)(k:∀b,M b->M2 b):Tr M2 w w2:=⟨h.size,h.os,h.tape,h.output,h.drawn,fun i hi hm=>h.lr i hi<|fun x=>hm<|k i x⟩
def Tr.drew{M:Nat->Prop}(w:aq5):Tr M w w.drew:=⟨bG _,rfl,rfl,rfl,HU.of<|wF _,fun _ _ _=>rfl⟩
def Tr.below(h:F4 w.heap.size w w'):Tr M w w':=⟨h.size,h.os,h.tape,h.output,h.drawn,fun k hk _=>h.block k hk⟩
def Tr.BE(h:Tr M w w')(sub:∀r o,H r=some o->w.heap[r]? =some o)(hM:∀b,M b->H b=none):JZ M w H w' H:=
 ⟨h.size,h.os,h.tape,h.output,h.drawn,HV.le.refl _,fun b hb hm=>⟨h.lr b hb hm,rfl⟩,fun r o hr=>by
  have hw:=sub r o hr;rw[h.lr r (lt_of_heap hw) (fun hm=>by rw[hM r hm] at hr;cases hr)];exact hw⟩
def Ku(hb:w.heap[b]? =some (.cells #[p,v] T (0,0))):w.cell? ⟨b,0,none⟩=some p/\w.cell? ⟨b,1,none⟩=some v/\w.shape? b=some (T,2)/\(∀j,w.frozen? ⟨b,j,none⟩=false):=
 ⟨by rw[Js hb];rfl,by rw[Js hb];rfl,by simp[World.shape?,hb],fun j=>Lib.frozen_of_heap hb j⟩
def aaK{x:aq6}(hb:w.heap[b]? =some (.cells #[p,v] T (0,0))):(w.setCell ⟨b,1,none⟩ x).heap[b]? =some (.cells #[p,x] T (0,0)):=by
 simp[World.setCell,CV,hb]
def aaL{x:aq6}(hb:w.heap[b]? =some (.cells #[p,v] T (0,0))):(w.setCell ⟨b,0,none⟩ x).heap[b]? =some (.cells #[x,v] T (0,0)):=by
 simp[World.setCell,CV,hb]
def aa6(L:Lays.n240 P ρ)(X:Builder.X72 P ρ)(hb:w.heap[b]? =some (.cells #[p,v] (ρ.t 72) (0,0)))(hp:p= .pointer none\/p= .pointer (some ⟨b,0,none⟩)):
  Calls P (ρ.f 240) #[.pointer<|some ⟨b,0,none⟩] w fun e w'=>e= .returned (.tuple #[])/\w'.heap[b]? =some (.cells #[.pointer<|some ⟨b,0,none⟩,v] (ρ.t 72) (0,0))/\Tr (fun k=>k=b) w w'/\w'.heap.size=w.heap.size:=by
 obtain⟨c0,c1,oY,hfz⟩:=Ku hb;rcases hp with rfl|rfl
 ·refine(Any.Builder_copyCheck_fresh L X b w c0 oY<|hfz 0).mono ?_;rintro e w' ⟨rfl,rfl⟩;exact⟨rfl,aaL hb,Tr.setCell w _ _ rfl,by simp[World.setCell]⟩
 ·refine(Any.Builder_copyCheck_used L X b w c0).mono ?_;rintro e w' ⟨rfl,rfl⟩;exact⟨rfl,hb,Tr.refl _ _,rfl⟩
def Uh{e:asr}{n:Nat}{xs:asv aq6}(h:w.ownsRow 0 e 1 v n xs)(hk:∀g,v.ownBlock=some g->w'.heap[g]? =w.heap[g]?):w'.ownsRow 0 e 1 v n xs:=by
 refine⟨h.1,?_⟩;rcases h.2 with h|⟨g,cap,cur,e1,h1,hc,h2⟩
 ·exact .inl h
 ·exact .inr ⟨g,cap,cur,e1,h1,by rw[hk g (by rw[e1];rfl)];exact hc,h2⟩
set_option maxHeartbeats 2000000 in
set_option maxRecDepth 100000 in
def Mi(L:Lays.n166 P ρ)(X:Builder.Extra P ρ){bs:asv aq6}(s:ByteArray)(hb:w.heap[b]? =some (.cells #[p,v] (ρ.t 72) (0,0)))(hp:p= .pointer none\/p= .pointer (some ⟨b,0,none⟩))
 (hown:w.ownsRow 0 (ρ.t 5) 1 v bs.length bs)(hne:v.ownBlock≠some b)(hlen:bs.length+s.size<=140737488355328):
  Calls P (ρ.f 166) #[.pointer<|some ⟨b,0,none⟩,.string s] w fun e w'=>e= .returned (.tuple #[.int .i64 s.size,.nilIface])/\∃v',w'.heap[b]? =some (.cells #[.pointer<|some ⟨b,0,none⟩,v'] (ρ.t 72) (0,0))/\w'.ownsRow 0 (ρ.t 5) 1 v' (bs.length+s.size) (bs++Lib.strCells s)/\v'.ownBlock≠some b/\
   (∀g,v'.ownBlock=some g->v.ownBlock=some g\/w.heap.size<=g)/\Tr (fun k=>k=b\/v.ownBlock=some k) w w':=by
 obtain⟨i0,hi,hz0,hz1,hz2⟩:=info_parts X.infoByte;have hblt:b<w.heap.size:=lt_of_heap hb;have mixed:=L.mixed;have t72:=L.t72;have a72:=L.a72;have z72:=L.z72;have v72:=L.v72;have u72:=qc L.t72;have t70:=L.t70;have a70:=L.a70;have z70:=L.z70;have v70:=L.v70;have u70:=qc L.t70;have t37:=L.t37;have a37:=L.a37;have z37:=L.z37;have v37:=L.v37;have u37:=qc L.t37;have t3:=L.t3;have a3:=L.a3;have z3:=L.z3;have v3:=L.v3;have u3:=qc L.t3;have t9:=L.t9;have a9:=L.a9;have z9:=L.z9;have v9:=L.v9;have u9:=qc L.t9;have t4:=L.t4;have a4:=L.a4;have z4:=L.z4;have v4:=L.v4;have u4:=qc L.t4;have t164:=L.t164;have a164:=L.a164;have z164:=L.z164;have v164:=L.v164;have u164:=qc L.t164;have t5:=X.t5;have a5:=X.a5;have z5:=X.z5;have v5:=X.v5;have u5:=qc X.t5;have e240:∀args w,(callFunc (ρ.f 240) args).run P w= .ok (.enter (ρ.f 240) args) w:=enters_of L.f240 ax rfl
 go_enter L.f166,Body.n166_ntmps ρ
 go_wp2_with (go_at_fn (ρ.f 240);refine(aa6 {L with} X.toX72 hb hp).mono ?_)
 rintro e w1 ⟨rfl,hb1,ht1,hs1⟩;have hown1:w1.ownsRow 0 (ρ.t 5) 1 v bs.length bs:=Uh hown fun g hg=>ht1.lr g (hown.lt g hg).2 (fun e=>hne (by rw[hg,e]))
 obtain⟨c0,c1,_,_⟩:=Ku hb1
 go_wp2_with (at_builtin;refine ah9 rfl _ _ (ρ.t 37) (ρ.t 9) rfl (ρ.t 5) i0 L.t37 L.t9 hi hz0 hz1 hz2 _ _ _ rfl hown1 s rfl hlen ?_)
 intro v' w2 hown' hgrow hfr;have hb2:w2.heap[b]? =some (.cells #[.pointer<|some ⟨b,0,none⟩,v] (ρ.t 72) (0,0)):=by
  rw[hgrow.block b (by omega)<|fun e=>hne e.symm];exact hb1
 obtain⟨d0,d1,_,hf⟩:=Ku hb2;have f1:=hf 1;have hne':v'.ownBlock≠some b:=fun e=>by
  rcases hfr b e with h|h
  ·exact hne h
  ·omega
 obtain⟨ao,n',cap,rfl⟩:∃ao n' cap,v'= .slice ao n' cap:=by
  rcases hown'.2 with⟨hv,_⟩|⟨g,cap,cur,hv,_⟩
  ·exact⟨_,_,_,hv⟩
  ·exact⟨_,_,_,hv⟩
 go_wp2
 go_ret2
 refine⟨rfl,_,aaK hb2,Uh hown' fun g hg=>?_,hne',fun g hg=>by have:=hfr g hg;omega,?_⟩
 ·exact Below.heap_setCell _ _ _ _ (fun e=>hne' (by rw[hg,e]))
 ·exact((ht1.mono<|fun k h=> .inl h).trans<|Tr.grown hgrow<|fun k h=> .inr h).trans<|Tr.setCell _ _ _<| .inl rfl
def Tr.freeze{M:Nat->Prop}(w:aq5)(a:Addr)(n:Nat)(h:M a.block):Tr M w (w.freeze a n):=by
 unfold World.freeze;split
 ·exact Tr.refl _ _
 ·refine⟨by simp,rfl,rfl,rfl,bG _,fun k _ hk=>?_⟩;simp only[CV];rw[if_neg (fun(e:a.block=k)=>hk (by rw[<-e];exact h))]
set_option maxHeartbeats 1000000 in
set_option maxRecDepth 100000 in
def KV(L:Lays.n169 P ρ)(X:Builder.Extra P ρ)(hbk:w.heap[b]? =some (.cells #[p,v] (ρ.t 72) (0,0)))(hown:w.ownsRow 0 (ρ.t 5) 1 v l.length (Lib.byteCells l))(h0:l≠[]):
  Calls P (ρ.f 169) #[.pointer<|some ⟨b,0,none⟩] w fun e w'=>e= .returned (.string ⟨l.toArray⟩)/\Tr (fun k=>v.ownBlock=some k) w w':=by
 have hl0:l.length≠0:=by simpa using h0
 obtain⟨g,cap,cur,rfl,hg,hnc,hcm,hcs,htake⟩:∃g cap cur,v= .slice (some ⟨g,0,none⟩) l.length cap/\w.heap[g]? =some (.cells cur (ρ.t 5) (0,0))/\l.length<=cap/\cap<=maxLen/\cur.size=cap*1/\cur.toList.take (l.length*1)=Lib.byteCells l:=by
  rcases hown.2 with⟨_,hz⟩|⟨g,cap,cur,hv,_,r⟩
  ·exact absurd hz hl0
  ·exact⟨g,cap,cur,hv,r⟩
 have c1:w.drew.cell? ⟨b,1,none⟩=some (.slice (some ⟨g,0,none⟩) l.length cap):=by
  have:w.drew.heap[b]? =some (.cells #[p,.slice (some ⟨g,0,none⟩) l.length cap] (ρ.t 72) (0,0)):=hbk;rw[Js this];rfl
 have hSD:(Builtin.unsafeSliceData_ #[(ρ.t 37)] (ρ.t 127) #[.slice (some ⟨g,0,none⟩) l.length cap]).run P w.drew= .ok (.pointer<|some ⟨g,0,none⟩) w.drew:=
  Lib.run_unsafeSliceData_row _ _ _ _ _ _ (by omega)
 have hUS:(Builtin.unsafeString_ #[(ρ.t 127),(ρ.t 3)] (ρ.t 9) #[.pointer<|some ⟨g,0,none⟩,.int .i64 l.length]).run P w.drew= .ok (.string ⟨l.toArray⟩) (w.drew.freeze ⟨g,0,none⟩ l.length):=by
  refine Lib.run_unsafeString_row w.drew (ρ.t 127) (ρ.t 3) (ρ.t 9) (ρ.t 5) L.t127 X.cellsByte g cur.size (by have hg':w.drew.heap[g]? =some (.cells cur (ρ.t 5) (0,0)):=hg;simp[World.shape?,hg']) l h0 (by omega) (by unfold maxLen at hcm;omega) ?_;intro j x hx;exact hown.cells (g:=g) rfl j (.int .u8 x.toNat) (by simp[Lib.byteCells,hx])
 have mixed:=L.mixed;have t72:=L.t72;have a72:=L.a72;have z72:=L.z72;have v72:=L.v72;have u72:=qc L.t72;have t70:=L.t70;have a70:=L.a70;have z70:=L.z70;have v70:=L.v70;have u70:=qc L.t70;have t37:=L.t37;have a37:=L.a37;have z37:=L.z37;have v37:=L.v37;have u37:=qc L.t37;have t127:=L.t127;have a127:=L.a127;have z127:=L.z127;have v127:=L.v127;have u127:=qc L.t127;have t3:=L.t3;have a3:=L.a3;have z3:=L.z3;have v3:=L.v3;have u3:=qc L.t3;have t9:=L.t9;have a9:=L.a9;have z9:=L.z9;have v9:=L.v9;have u9:=qc L.t9;have t5:=X.t5;have a5:=X.a5;have z5:=X.z5;have v5:=X.v5;have u5:=qc X.t5
 go_enter L.f169,Body.n169_ntmps ρ
 go_wp2
 go_region_o
 all_goals (go_wp2;go_ret;exact⟨rfl,(Tr.drew w).trans<|Tr.freeze _ _ _ rfl⟩)
def zF(l s:asv UInt8):auz (asv UInt8×Int×Unit):=z7 (Nat.ble (l.length+s.length) 140737488355328) (l++s,(s.length:Int),())
def yQ(l:asv UInt8):auz (asv UInt8):=z7 (!l.isEmpty) l
def js{α:Type}{b:Bool}{x r:α}(h:z7 b x=some r):b=true/\x=r:=by
 unfold z7 at h;cases b
 ·cases h
 ·exact⟨rfl,fG h⟩
def yr(h:Ct H [] vs):vs=[]:=h
def tT{τ:Ty}(h:Ct H [τ] vs):∃v,vs=[v]/\τ.ok H v:=by
 obtain⟨v,rest,e,hv,hr⟩:=h;have hr:rest=[]:=hr;subst hr;exact⟨v,e,hv⟩
def Cs{τ σ:Ty}(h:Ct H [τ,σ] vs):∃v u,vs=[v,u]/\τ.ok H v/\σ.ok H u:=by
 obtain⟨v,rest,e,hv,hr⟩:=h;obtain⟨u,e2,hu⟩:=tT hr;subst e2;exact⟨v,u,e,hv,hu⟩
def byteCells_append(l s:asv UInt8):Lib.byteCells (l++s)=Lib.byteCells l++Lib.byteCells s:=by simp[Lib.byteCells]
def aa5(L:Lays.n166 P ρ)(X:Builder.Extra P ρ)(hc:eN P (ρ.f 166)=true){s:asv UInt8}{r:asv UInt8×Int×Unit}(hm:zF l s=some r):
  gi P (ρ.f 166) [] (.HX (ρ.t 72) (ρ.t 5)<|lB l) (.HX (ρ.t 72) (ρ.t 5)<|lB r.1) [TS s] [TI .i64 r.2.1,akC r.2.2]:=by
 obtain⟨hb,rfl⟩:=js hm;have hb:=gP hb;refine⟨hc,fun w H v ps qs sub gl hp hq hs=>?_⟩;have hp:=yr hp;subst hp;obtain⟨x,rfl,hx⟩:=tT hq;have hx:x= .string ⟨s.toArray⟩:=hx;subst hx;obtain⟨b,p,row,rfl,hbk,hpp,hn,hB,⟨xs,hown,gS,hH⟩,hne⟩:=hs;rw[Ky] at gS;subst gS;rw[FN] at hown;refine(Mi L X (bs:=Lib.byteCells l) ⟨s.toArray⟩ hbk hpp (by simpa[Lib.byteCells] using hown) hne (by simpa[Lib.byteCells,ByteArray.size] using hb)).mono ?_;rintro e w' ⟨rfl,v',jQ,WY,hne',hfr,ht⟩;have yc:Lib.strCells ⟨s.toArray⟩=Lib.byteCells s:=rfl;have W0:∀k,k=b\/row.ownBlock=some k->(bN.HX (ρ.t 72) (ρ.t 5)<|lB l).owns w (.pointer<|some ⟨b,0,none⟩) k:=fun k h=>⟨b,rfl,h.imp id fun h=>⟨p,row,hbk,h⟩⟩
 have hMn:∀k,(bN.HX (ρ.t 72) (ρ.t 5)<|lB l).owns w (.pointer<|some ⟨b,0,none⟩) k->k=b\/row.ownBlock=some k:=by
  rintro k ⟨c,e,h⟩;cases e;rcases h with h|⟨p',r',AL,h⟩
  ·exact .inl h
  ·have e2:=hbk.symm.trans AL;simp at e2;obtain⟨rfl,rfl⟩:=e2;exact .inr h
 refine⟨_,rfl,H,(ht.mono W0).BE sub<|fun k hk=>?_,⟨b,_,v',rfl,jQ,.inr rfl,hn,hB,⟨_,?_,Ky.2 rfl,fun g hg=>?_⟩,hne'⟩,?_,⟨#[.int .i64 s.length,.nilIface],?_,_,_,rfl,rfl,_,_,rfl,rfl,rfl⟩⟩
 ·rcases hMn k hk with rfl|h
  ·exact hn
  ·exact(hH k h).1
 ·rw[FN,byteCells_append,List.length_append];exact(by simpa[Lib.byteCells,ByteArray.size,yc] using WY)
 ·rcases hfr g hg with h|h
  ·exact hH g h
  ·refine⟨?_,.inl h⟩;cases hh:H g with
   |none=>rfl
   |some o=>have:=xP sub hh;omega
 ·rintro k ⟨c,e,h⟩;cases e;rcases h with h|⟨p',r',AL,h⟩
  ·exact .inl<|W0 k<| .inl h
  ·have e2:=jQ.symm.trans AL;simp at e2;obtain⟨rfl,rfl⟩:=e2;exact(hfr k h).imp (fun h=>W0 k<| .inr h) id
 ·simp[ByteArray.size]
def Px{E:asr}{l:asv Ty}{row:aq6}(hbk:w.heap[b]? =some (.cells #[p,row] T (0,0)))(k:Nat):(bN.HX T E l).owns w (.pointer<|some ⟨b,0,none⟩) k↔k=b\/row.ownBlock=some k:=by
 constructor
 ·rintro⟨c,e,h⟩;cases e;rcases h with h|⟨p',r',AL,h⟩
  ·exact .inl h
  ·have e2:=hbk.symm.trans AL;simp at e2;obtain⟨rfl,rfl⟩:=e2;exact .inr h
 ·exact fun h=>⟨b,rfl,h.imp id fun h=>⟨p,row,hbk,h⟩⟩
def ag5(L:Lays.n170 P ρ)(hc:eN P (ρ.f 170)=true):
  gi P (ρ.f 170) [] (.HX (ρ.t 72) (ρ.t 5)<|lB l) (.HX (ρ.t 72) (ρ.t 5)<|lB l) [] [TI .i64 (l.length:Int)]:=by
 refine⟨hc,fun w H v ps qs sub gl hp hq hs=>?_⟩;have hp:=yr hp;subst hp;have hq:=yr hq;subst hq;have hs0:=hs;obtain⟨b,p,row,rfl,hbk,hpp,hn,hB,⟨xs,hown,gS,hH⟩,hne⟩:=hs;rw[Ky] at gS;subst gS;rw[FN] at hown;have hl:(Lib.byteCells l).length=l.length:=by simp[Lib.byteCells]
 have hI:Lib.IsBuilder (ρ.t 72) (ρ.t 5) 0 b (Lib.byteCells l) w:=by
  rcases hpp with rfl|rfl
  ·exact .inl ⟨jv _,row,hbk,by rw[hl];exact hown,hne⟩
  ·exact .inr ⟨jv _,row,hbk,by rw[hl];exact hown,hne⟩
 refine(Any.Builder_Len L 0 b (Lib.byteCells l) w hI).mono ?_;rintro e w' ⟨rfl,rfl⟩;exact⟨_,rfl,H,(Tr.refl _ _).BE sub (fun k hk=>by
  rcases(Px hbk k).1 hk with rfl|h
  ·exact hn
  ·exact(hH k h).1),hs0,fun k hk=> .inl hk,by rw[hl];rfl⟩
def XE(L:Lays.n169 P ρ)(X:Builder.Extra P ρ)(hc:eN P (ρ.f 169)=true){r:asv UInt8}(hm:yQ l=some r):
  gi P (ρ.f 169) [] (.HX (ρ.t 72) (ρ.t 5)<|lB l) .gone [] [TS r]:=by
 obtain⟨h0,rfl⟩:=js hm;refine⟨hc,fun w H v ps qs sub gl hp hq hs=>?_⟩;have hp:=yr hp;subst hp;have hq:=yr hq;subst hq;obtain⟨b,p,row,rfl,hbk,hpp,hn,hB,⟨xs,hown,gS,hH⟩,hne⟩:=hs;rw[Ky] at gS;subst gS;rw[FN] at hown;refine(KV L X hbk hown (by rintro rfl;simp at h0)).mono ?_;rintro e w' ⟨rfl,ht⟩;exact⟨_,rfl,H,(ht.mono fun k h=>(Px hbk k).2<| .inr h).BE sub (fun k hk=>by
  rcases(Px hbk k).1 hk with rfl|h
  ·exact hn
  ·exact(hH k h).1),trivial,fun k hk=>hk.elim,rfl⟩
def WI(l:asv UInt8):auz (asv UInt8×Int):=some (l,(l.length:Int))
def aek(L:Lays.n170 P ρ)(hc:eN P (ρ.f 170)=true){r:asv UInt8×Int}(hm:WI l=some r):
  gi P (ρ.f 170) [] (.HX (ρ.t 72) (ρ.t 5)<|lB l) (.HX (ρ.t 72) (ρ.t 5)<|lB r.1) [] [TI .i64 r.2]:=by
 have hm:=fG hm;subst hm;exact ag5 L hc
instance instDecAVec:DecidableEq (asv UInt8×asv UInt8×asv UInt8):=inferInstance
end
section
open Go.Shelf
variable[D:DR]
variable{P:Program}{ρ:Ren}
variable{P:Program}{w0:an P}{H0:HV}{N:Nat}{Γ:Ctx}{Q:Exit->Act->World->Prop}
def ang{id:Nat}(h:me w0 H0 N (Q .ret) Γ):me w0 H0 N (Exit.inBlock id Q .ret) Γ:=h
end
section
open Go.Shelf
variable[D:DR]
variable{P:Program}{ρ:Ren}
variable{P:Program}{N:Nat}{ops:Array Oper}{Γ:Ctx}{ty:TypeId}{pos:String}{af:Array Edge}
def TW{u t dd:Nat}{s:bN}(hu:look Γ u=some (.same t))(ht:look Γ t=some s)(hl:s.bO=[])(nU:dd<N)(o:Op)(ho:o= .assign (.tmp u)\/o= .move (.tmp u)):
  Step P N ops ⟨some dd,o,ty,pos,af,none⟩ Γ ((dd,s)::del dd (bQ t Γ)):=by
 intro w0 H0 a w H df K Q k;simp only[Region.wanted,if_true];have eu:aX a u=aX a t:=df.holds _<|az hu
 have er:(execOp a.eval ⟨some dd,o,ty,pos,af,none⟩).run P w= .ok (.value<|aX a t) w:=by
  rw[<-eu];rcases ho with rfl|rfl<;>rfl
 unfold Oper.wp;rw[er,uq];exact k _ w H (BI df (az ht) (C5 w) (fun _ e=>by cases e) nU (by rw[hl];simp) (df.holds _<|az ht) fun _ h=> .inl h)
end
section
open Go.Shelf
variable[D:DR]
variable{P:Program}{ρ:Ren}
def Fk{α:Type}(l:asv α):auz (asv α):=z7 (Nat.blt l.length 4000000000) l
def Yv(l:asv (asv UInt8))(x:asv UInt8):auz (asv UInt8):=bd (aiQ l x) fun r=>z7 (Nat.ble l.length 140737488355328&&Nat.ble r.length 140737488355328) r
def adH{P:ast}{w0:an P}{N:Nat}{Γ ay:Ctx}{ts:asv Nat}(h:vi Γ ts ay):qY w0 N Γ ay:=fun _ _ _ H hs=>⟨H,hs.weaken h.sub⟩
def yz(x y:Int):auz (Int×Int):=bif w8 x&&w8 y then some (x*y/Iq,x*y%Iq) else none
def DD(n:Nat):Nat:=bif Nat.beq n 0 then 0 else Nat.log2 n+1
def Ji(x:Int):auz Int:=bif w8 x then some (DD x.toNat:Int) else none
def KB(x:Int):auz Int:=bif w8 x then some (64-(DD x.toNat:Int)) else none
end
section
variable[D:DR]
variable{P:Program}{w0:an P}{H0:HV}{N:Nat}{ops:Array Oper}{Q:Exit->Act->World->Prop}{Γ ay:Ctx}{d:Option Tmp}{ty:TypeId}{pos:String}{af:Array Edge}{g:Option (Nat×Bool)}
def vD{α:Type}{f:α->Ty}{l:asv α}{t:Nat}{s ix:asu}{T E:asr}{k:IntKind}{i:Int}{sz:Nat}{pre post:asv aq6}{y:α}(hT:Br P T sz=true)(hs:eP Γ s t)(ht:look Γ t=some (.pb E pre post<|lT f l))(hi:Arg Γ ix (TI k i))(h:bj l i=some y):
  bK P Γ ⟨d,.indexAddr T s ix,ty,pos,af,g⟩ (.J8 t i.toNat sz):=
 bh fun w0 _ _ a w H df=>by
  obtain⟨h0,h1,h3⟩:=oW h;obtain⟨b,c,cur,xs,e,_⟩:=df.holds _<|az ht
  simp only at e;have e3:a.eval s= .slice (some ⟨b,pre.length,none⟩) l.length c:=by
   rw[hs.ok df,e,gG]
  have ei:a.eval ix= .int k i:=hi.ok df;have hr:=y9 (P:=P) hT b pre.length l.length c (k:=k) h0 h1 w;exact⟨.pointer<|some ⟨b,pre.length+i.toNat*sz,none⟩,by simp only[execOp,e3,ei,fh,hr,eQ];rfl,⟨b,pre.length,_,c,e,rfl⟩,rfl⟩
def Cp{α:Type}{f:α->Ty}{l:asv α}{p t j:Nat}{T E:asr}{sz:Nat}{pre post:asv aq6}{y:α}(hf:∀z,(f z).n=sz)(hp:look Γ p=some (.J8 t j sz))(ht:look Γ t=some (.pb E pre post<|lT f l))(h:l[j]? =some y)(hT:eG P T (f y).n (f y).agg=true):
  bK P Γ ⟨d,.load T<| .tmp p,ty,pos,af,g⟩ (.val<|f y):=
 bh fun w0 _ _ a w H df=>by
  obtain⟨b,c,cur,xs,e,hb,Hs,ho,hH,hB⟩:=df.holds _<|az ht
  obtain⟨b',o,n',c',e1,e2⟩:=df.holds _<|az hp
  simp only at e e1 e2;rw[e] at e1;cases e1;have hj:(lT f l)[j]? =some (f y):=by rw[nS,h];rfl
  have PQ:=(jk.1 hj).1;have hu:HR sz (lT f l):=mD hf l;have e3:a.eval (.tmp p)= .pointer (some ⟨b,pre.length+j*sz,none⟩):=e2;obtain⟨p1,p2⟩:=oR ho hj;have hc:dm ((lT f l).take j)=j*sz:=by rw[iC<|hu.take _,List.length_take,fW (by omega)]
  rw[hc] at p1 p2;have Ho:List.take (f y).n (List.drop (pre.length+j*sz) cur.toList)=List.take (f y).n (List.drop (j*sz) xs):=by
   rw[Hs,<-ji,FE,List.drop_append_of_le_length (by omega),List.take_append_of_le_length (by simp;omega)]
  have OR:cur.size=pre.length+(xs.length+post.length):=by rw[<-gN,Hs];simp
  refine⟨_,?_,p2,rfl⟩;have hr:=mg (P:=P) hT hb (off:=pre.length+j*sz) (by omega);rw[Ho] at hr;simp[execOp,e3,Instr.loadAt,Instr.sureAddr,hr]
end
end Trn
