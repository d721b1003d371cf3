/-
  Part of the proof of DrawViews.
-/
import Derived.Test.YtgmphoejohhmgaaGreatDoorEb
set_option maxRecDepth 100000
set_option maxHeartbeats 20000000
set_option linter.all false
open Go Go.RowKit Go.Proofs
namespace Trn
section
variable[D:DR]
variable{P:Program}{w0:aq P}{H0:HV}{N:Nat}{ops:Array Oper}{Q:Exit->Act->World->Prop}{Γ az:Ctx}{d:Option Tmp}{ty:TypeId}{pos:String}{af:Array Edge}{g:Option (Nat×Bool)}
variable{t:Nat}{w:apT}{T:aq9}{H:HV}{gg:Bool}{T':aq9}{i p:Nat}{B:aq P}{a:Act}{off u:Nat}{l:ard Ty}{τ:Ty}{sz:Nat}{E:aq9}{v:apU}{H':HV}{Eb:aq9}
def Nx{ps:ard lA}(h:look Γ t=some (.qH T' gg ps)):bI P Γ ⟨d,.move<| .tmp t,ty,pos,af,g⟩ (.ptr t 0):=
 bb fun _ _ _ a w _ hs=>by
  obtain⟨b,cs,e,_⟩:=hs.holds _<|ay h
  exact⟨aV a t,by simp[execOp];rfl,⟨b,e,e⟩,rfl⟩
def xn{o:Nat}(h:look Γ p=some (.ptr t o)):bI P Γ ⟨d,.nilCheck<| .tmp p,ty,pos,af,g⟩ (.ptr t o):=
 bb fun _ _ _ a w _ hs=>by
  obtain⟨b,e1,e2⟩:=hs.holds _<|ay h
  have e':a.eval (.tmp p)= .pointer (some ⟨b,o,none⟩):=e2;exact⟨.pointer<|some ⟨b,o,none⟩,by simp[execOp,e',Instr.sureAddr],⟨b,e1,rfl⟩,rfl⟩
def sX{x:arc}(h:Arg Γ x (nm τ)):bI P Γ ⟨d,.nilCheck x,ty,pos,af,g⟩ (.val<|nm τ):=
 bb fun _ _ _ a w _ hs=>by
  obtain⟨b,o,cs,E,fr,e,hb,hl,hx⟩:=h.ok hs;exact⟨.pointer<|some ⟨b,o,none⟩,by simp[execOp,e,Instr.sureAddr],⟨b,o,cs,E,fr,rfl,hb,hl,hx⟩,rfl⟩
def Jq{p:lA}{b:Nat}{cs:ath apU}{w':apT}{ps:ard lA}(hT:dR P T p.n p.agg=true)(hb:w.heap[b]? =some (.cells cs E (0,0)))(h:P8 B a w' H ps cs.toList)(hi:ps[i]? =some p):
  (loadVar T ⟨b,ff ps i,none⟩).run P w= .ok (pv p (ff ps i) cs.toList) w:=by
 obtain⟨h1,_,_,_⟩:=DD h hi;exact lD hT hb (by simpa using h1)
def Ri{ps:ard lA}(hp:iV Γ p t off)(ht:look Γ t=some (.qH T' gg ps))(hi:ps[i]? =some (.sm u))(ho:ff ps i=off)(hT:dR P T 1 false=true):
  bI P Γ ⟨d,.load T<| .tmp p,ty,pos,af,g⟩ (.same u):=
 bb fun _ _ _ a w _ hs=>by
  obtain⟨b,cs,e,ep,hb,_,_,gq,_⟩:=hp.ok ht hs;subst ho;obtain⟨_,_,h3,_⟩:=DD gq hi;refine⟨_,?_,h3.1,rfl⟩;simp[execOp,ep,Instr.loadAt,Instr.sureAddr,Jq (p:= .sm u) hT hb gq hi]
def Xj{U:aq9}{gu:Bool}{ps pu:ard lA}(hp:iV Γ p t off)(ht:look Γ t=some (.qH T' gg ps))(hi:ps[i]? =some (.sm u))(ho:ff ps i=off)(hu:look Γ u=some (.qH U gu pu))(hT:dR P T 1 false=true):
  bI P Γ ⟨d,.load T<| .tmp p,ty,pos,af,g⟩ (.ptr u 0):=
 bb fun _ _ _ a w _ hs=>by
  obtain⟨b,cs,e,ep,hb,_,_,gq,_⟩:=hp.ok ht hs;obtain⟨c,_,eu,_⟩:=hs.holds _<|ay hu
  subst ho;obtain⟨_,_,h3,_⟩:=DD gq hi;have CO:pv (.sm u) (ff ps i) cs.toList=aV a u:=h3.1;refine⟨pv (.sm u) (ff ps i) cs.toList,?_,⟨c,eu,?_⟩,rfl⟩
  ·simp[execOp,ep,Instr.loadAt,Instr.sureAddr,Jq (p:= .sm u) hT hb gq hi]
  ·rw[CO];exact eu
def lA.sty:lA->bL
 | .buf E sz l=> .buf E sz l
 | .map K E Eb sz lS=> .nK K E Eb sz lS
 |_=> .gone
def lA.YQ:∀{p:lA},p.holds B a w H v->p.sty.holds B a w H v
 | .val _,_=>trivial
 | .any _ _,_=>trivial
 | .sm _,_=>trivial
 | .buf _ _ _,h=>h
 | .map _ _ _ _ _,h=>h
def lA.Dg{b:Nat}:∀{p:lA},p.sty.owns w v b↔p.owns w v b
 | .val _=>Iff.rfl
 | .any _ _=>Iff.rfl
 | .sm _=>Iff.rfl
 | .buf _ _ _=>Iff.rfl
 | .map _ _ _ _ _=>Iff.rfl
def lA.YP:∀{p:lA},p.sty.bH=[]
 | .val _=>rfl
 | .any _ _=>rfl
 | .sm _=>rfl
 | .buf _ _ _=>rfl
 | .map _ _ _ _ _=>rfl
def Ku(d:Nat):Bool->lA
 |true=> .sm d
 |false=> .any 1 false
def Xz{c8:Ctx}(bO:∀q∈c8,q∈Γ){dd:Nat}{ps:ard lA}{pp:lA}(sm:Bool)(hp:iV c8 p t off)(ht:look c8 t=some (.qH T' gg ps))(hi:ps[i]? =some pp)(ho:ff ps i=off)(h1:pp.n=1)(hg:pp.agg=false)(hT:dR P T 1 false=true)
 (na:dd<N)(hne:dd≠t)(hd:dd∉Hm ps):
  Step P N ops ⟨some dd,.load T<| .tmp p,ty,pos,af,none⟩ Γ ((dd,pp.sty)::(t,.qH T' gg<|ps.set i<|Ku dd sm)::del dd (bN t Γ)):=by
 intro w0 H0 a w H cn K Q k;simp only[Region.wanted,if_true];obtain⟨b,cs,e,ep,hb,hn,hm,gq,K8,hx⟩:=hp.ok ht<|cn.weaken bO
 subst ho;obtain⟨h2,h3,h4,h5⟩:=DD gq hi;have qb:=Jq (p:=pp) (by rw[h1,hg];exact hT) hb gq hi
 generalize hv:pv pp (ff ps i) cs.toList=v at*
 unfold Oper.wp;have er:(execOp a.eval ⟨some dd,.load T<| .tmp p,ty,pos,af,none⟩).run P w= .ok (.value v) w:=by
  simp[execOp,ep,Instr.loadAt,Instr.sureAddr,qb]
 rw[er,tx];have hv1:v.oneCell'=true:=by rw[h1,hg] at h3;exact(nv h3).1
 have KA:(Ku dd sm).n=pp.n:=by rw[h1];cases sm<;>rfl
 have nP:Shape (Ku dd sm).n (Ku dd sm).agg v:=by rw[h1,hg] at h3;cases sm<;>exact h3
 have ah6:P8 w0 (a.put (some dd) v) w H ps cs.toList:=BG (fun u hu=>ll<|fun e=>hd<|e▸hu) gq;have hq:(Ku dd sm).holds w0 (a.put (some dd) v) w H v:=by
  cases sm
  ·exact Shape.one hv1
  ·exact⟨(sD (by rw[cn.sz];exact na)).symm,hv1⟩
 have NV:∀c,¬(Ku dd sm).owns w v c:=fun c h=>by cases sm<;>exact h
 obtain⟨AA,hcs,k1,k2,k3⟩:=Nr ah6 K8 hi nP KA hq<|fun c hc=>absurd hc<|NV c
 have hcc:AA=cs.toList:=by rw[hcs,<-hv];exact Xg gq hi
 rw[hcc] at k1 k2 k3;refine k _ _ H (Jo cn (bO _<|ay ht) na hne (by rw[lA.YP];simp) ?_ (lA.YQ h4) ?_ ?_ ?_)
 ·refine⟨b,cs,e,hb,hn,hm,k1,k2,fun hc=>?_⟩;rcases k3 b hc with h|h
  ·exact NV b h
  ·exact hx h.1
 ·rintro c ⟨c',e',hc⟩;simp only[e] at e';cases e';refine⟨b,e,?_⟩;rcases hc with hc|⟨cs2,hb2,hc⟩
  ·exact .inl hc
  ·rw[hb] at hb2;cases hb2;rcases k3 c hc with h|h
   ·exact absurd h<|NV c
   ·exact .inr ⟨cs,hb,h.1⟩
 ·intro c hc;exact⟨b,e,.inr ⟨cs,hb,sr.2 ⟨i,pp,hi,by rw[hv];exact lA.Dg.1 hc⟩⟩⟩
 ·rintro c hc ⟨c',e',zG⟩;simp only[e] at e';cases e';have hc:=lA.Dg.1 hc;rcases zG with zG|⟨cs2,hb2,zG⟩
  ·subst zG;exact hx (sr.2 ⟨i,pp,hi,by rw[hv];exact hc⟩)
  ·rw[hb] at hb2;cases hb2;rcases k3 c zG with h|h
   ·exact NV c h
   ·exact h.2 (by rw[hv];exact hc)
def WW{c8:Ctx}(bO:∀q∈c8,q∈Γ){ps:ard lA}{pp q:lA}{x:arc}(hp:iV c8 p t off)(ht:look c8 t=some (.qH T' gg ps))(hi:ps[i]? =some pp)(ho:ff ps i=off)(hn:q.n=pp.n)
 (hT:dR P T q.n q.agg=true)(hq:∀(a:Act) (w:apT) (H:HV),Sat w0 H0 N c8 a w H->Shape q.n q.agg (a.eval x)/\q.holds w0 a w H (a.eval x))(NV:∀w v b,¬q.owns w v b)
 (cn:Sat w0 H0 N Γ a w H){K:Act->apT->Prop}(k:∀w',Sat w0 H0 N ((t,.qH T' gg<|ps.set i q)::bN t Γ) a w' H->K a w'):
  (⟨none,.store T (.tmp p) x,ty,pos,af,none⟩:Oper).wp P a w K Q:=by
 obtain⟨b,cs,e,ep,hb,hnb,hm,gq,K8,hx⟩:=hp.ok ht<|cn.weaken bO
 subst ho;obtain⟨nP,hqh⟩:=hq a w H<|cn.weaken bO
 obtain⟨h2,_,_,_⟩:=DD gq hi;obtain⟨AA,hcs,k1,k2,k3⟩:=Nr gq K8 hi nP hn hqh<|fun c hc=>absurd hc<|NV _ _ c
 have qb:=lr (P:=P) (x:=a.eval x) (off:=ff ps i) (A5 hT) nP.size hb (by rw[hn];simpa using h2) nP.cell;rw[hn,<-hcs] at qb;unfold Oper.wp;have er:(execOp a.eval ⟨none,.store T (.tmp p) x,ty,pos,af,none⟩).run P w= .ok .skip (w.setRow b AA.toArray):=by
  simp[execOp,ep,Instr.storeAt,Instr.sureAddr,qb]
 rw[er,vA];have hg:zM w (w.setRow b AA.toArray) (some b):=zM.setRow w b _;have ji:(w.setRow b AA.toArray).heap[b]? =some (.cells AA.toArray T' (0,0)):=Eu w b _ _ _ _ hb;have hnx: ¬oy w b (ps.set i q) AA:=fun hc=>by
  rcases k3 b hc with h|h
  ·exact NV _ _ b h
  ·exact hx h.1
 have UY:=Rq (w':=w.setRow b AA.toArray) (H':=H) (HV.le.refl H) k1 (fun c hc=>⟨hg.block c (pU k1 hc).1 (fun e=>by cases e;exact hnx hc),rfl⟩);refine k _ (iK cn (bO _<|ay ht) hg hm ⟨b,e,.inl rfl⟩ ⟨b,AA.toArray,e,ji,hnb,hm,by simpa using UY.1,by simpa using UY.2.2 k2,by simpa using fun h=>hnx<|(UY.2.1 b).1 h⟩ ?_);rintro c ⟨c',e',hc⟩;simp only[e] at e';cases e';rcases hc with hc|⟨cs2,hb2,hc⟩
 ·subst hc;exact .inl ⟨c,e,.inl rfl⟩
 ·rw[ji] at hb2;cases hb2;have hc:=(UY.2.1 c).1 (by simpa using hc);rcases k3 c hc with h|h
  ·exact absurd h<|NV _ _ c
  ·exact .inl ⟨b,e,.inr ⟨cs,hb,h.1⟩⟩
inductive wS(Γ:Ctx)(u:Nat):Prop where
 |buf {E:aq9} {sz:Nat} {l:ard Ty} (h:look Γ u=some (.buf E sz l))
 |nK {K E Eb:aq9} {sz:Nat} {l:ard (Ty×lU)} (h:look Γ u=some (.nK K E Eb sz l))
 |qH {T:aq9} {g:Bool} {l:ard lA} (h:look Γ u=some (.qH T g l))
def wS.ok(h:wS Γ u)(hs:Sat w0 H0 N Γ a w H):(aV a u).oneCell'=true:=by
 cases h with
 |buf h=>
  obtain⟨xs,⟨_,hr⟩,_,_⟩:=hs.holds _<|ay h
  rcases hr with⟨e,_⟩|⟨g,cap,cur,e,_⟩
  ·simp only at e;rw[e];rfl
  ·simp only at e;rw[e];rfl
 |nK h=>
  obtain⟨r,es,e,_⟩:=hs.holds _<|ay h
  simp only at e;rw[e];rfl
 |qH h=>
  obtain⟨b,cs,e,_⟩:=hs.holds _<|ay h
  simp only at e;rw[e];rfl
def F8{ps:ard lA}{pp:lA}(hp:iV Γ p t off)(ht:look Γ t=some (.qH T' gg ps))(hi:ps[i]? =some pp)(ho:ff ps i=off)(hu:wS Γ u)(hn:pp.n=1)(hT:dR P T 1 false=true):
  Step P N ops ⟨none,.store T (.tmp p)<| .tmp u,ty,pos,af,none⟩ Γ ((t,.qH T' gg<|ps.set i<| .sm u)::bN t Γ):=by
 intro w0 H0 a w H hs K Q k;simp only[Region.wanted,if_true];exact WW (fun _ h=>h) (x:= .tmp u) (q:= .sm u) hp ht hi ho hn.symm hT (fun a w H hs=>⟨Shape.one<|hu.ok hs,rfl,hu.ok hs⟩) (fun _ _ _ h=>h) hs fun w' oV=>k a w' H oV
def WU{ps:ard lA}{pp:lA}(hp:iV Γ p t off)(ht:look Γ t=some (.qH T' gg ps))(hi:ps[i]? =some pp)(ho:ff ps i=off)(hu:wS Γ u)(hn:pp.n=1)(hT:dR P T 1 false=true):
  Px P N ops Γ ⟨none,.store T (.tmp p)<| .tmp u,ty,pos,af,none⟩ t (.qH T' gg<|ps.set i<| .sm u):=fun sI bO=>by
 intro w0 H0 a w H hs K Q k;simp only[Region.wanted,if_true];exact WW bO (x:= .tmp u) (q:= .sm u) hp ht hi ho hn.symm hT (fun a w H hs=>⟨Shape.one<|hu.ok hs,rfl,hu.ok hs⟩) (fun _ _ _ h=>h) hs fun w' oV=>k a w' H oV
def F9{s':bL}{us:ard Nat}{G:Ctx}(hs:Sat w0 H0 N Γ a w H)(ht:∀q∈G,q∈Γ/\q.1≠t)(hh:s'.holds w0 a w H (aV a t))
 (ho:∀b,s'.owns w (aV a t) b->∃p∈Γ,(p.1=t\/p.1∈us)/\p.2.owns w (aV a p.1) b)(hu:∀q∈G,q.1∉us):Sat w0 H0 N ((t,s')::G) a w H:=by
 have key:∀q∈G,∀b,s'.owns w (aV a t) b-> ¬q.2.owns w (aV a q.1) b:=fun q hq b hb Uc=>by
  obtain⟨p,hp,h1,h2⟩:=ho b hb;refine hs.sep p hp q (ht q hq).1 (fun e=>?_) b h2 Uc;rcases h1 with h1|h1
  ·exact(ht q hq).2 (by rw[<-e,h1])
  ·exact hu q hq<|e▸h1
 refine⟨hs.nd,hs.sz,hs.below,hs.I7,hs.sub,?_,?_,hs.gl⟩
 ·intro q hq;rcases bM.1 hq with e|hq
  ·subst e;exact hh
  ·exact hs.holds q (ht q hq).1
 ·intro q hq r hr hn b hb ji;rcases bM.1 hq with e|hq<;>rcases bM.1 hr with e'|hr
  ·subst e;subst e';exact hn rfl
  ·subst e;exact key r hr b hb ji
  ·subst e';exact key q hq b ji hb
  ·exact hs.sep q (ht q hq).1 r (ht r hr).1 hn b hb ji
def XX{w0:aq P}{ps:ard lA}(pp:lA)(ht:look Γ t=some (.qH T' gg ps))(hi:ps[i]? =some (.sm u))(hu:look Γ u=some pp.sty)(hne:(u !=t)=true)(hpp:(pp.n,pp.agg)=(1,false))(hg: ¬pp.sty= .gone):
  qj w0 N Γ ((t,.qH T' gg<|ps.set i pp)::bN t (bN u Γ)):=fun H0 a w H hs=>by
 obtain⟨b,cs,e,hb,hnb,hm,gq,K8,hx⟩:=hs.holds _<|ay ht
 have hph:=hs.holds _<|ay hu
 simp only at e hph;have hut:u≠t:=by simpa using hne
 obtain⟨_,h3,h4,_⟩:=DD gq hi;have hv:pv (.sm u) (ff ps i) cs.toList=aV a u:=h4.1;have h1:pp.n=1:=congrArg Prod.fst hpp;have h2:pp.agg=false:=congrArg Prod.snd hpp;have nP:Shape pp.n pp.agg (aV a u):=by rw[h1,h2,<-hv];exact h3
 have hq:pp.holds w0 a w H (aV a u):=by
  cases pp with
  |buf E sz l=>exact hph
  |map K E Eb sz lS=>exact hph
  |val τ=>exact absurd rfl hg
  |any n g=>exact absurd rfl hg
  |sm v=>exact absurd rfl hg
 have ab6:∀c,pp.owns w (aV a u) c-> ¬oy w c ps cs.toList:=fun c hc ho=>by
  refine hs.sep _ (ay hu) _ (ay ht) hut c (lA.Dg.2 hc) ⟨b,e,.inr ⟨cs,hb,ho⟩⟩
 have an4: ¬pp.owns w (aV a u) b:=fun hc=>hs.sep _ (ay hu) _ (ay ht) hut b (lA.Dg.2 hc) ⟨b,e,.inl rfl⟩
 obtain⟨AA,hcs,k1,k2,k3⟩:=Nr gq K8 hi nP (by rw[h1];rfl) hq<|fun c hc=> .inr<|ab6 c hc
 have hcc:AA=cs.toList:=by rw[hcs,<-hv];exact Xg gq hi
 rw[hcc] at k1 k2 k3;refine⟨H,F9 (us:=[u]) hs (fun q hq=>⟨(bG q (bG q hq).1).1,(bG q hq).2⟩) ⟨b,cs,e,hb,hnb,hm,k1,k2,fun hc=>?_⟩ ?_ (fun q hq=>by simpa using(bG q (bG q hq).1).2)⟩
 ·rcases k3 b hc with h|h
  ·exact an4 h
  ·exact hx h.1
 ·rintro c ⟨c',e',hc⟩;simp only[e] at e';cases e';rcases hc with hc|⟨cs2,hb2,hc⟩
  ·exact⟨_,ay ht,.inl rfl,b,e,.inl hc⟩
  ·rw[hb] at hb2;cases hb2;rcases k3 c hc with h|h
   ·exact⟨_,ay hu,.inr (by simp),lA.Dg.2 h⟩
   ·exact⟨_,ay ht,.inl rfl,b,e,.inr ⟨cs,hb,h.1⟩⟩
inductive yQ:ard Ty->ard lA->Prop where
 |nil:yQ [] []
 |val {τ:Ty} {l:ard Ty} {ps:ard lA} (r:yQ l ps):yQ (τ::l) (.val τ::ps)
 |buf {α:Type} {f:α->Ty} {x:ard α} {E:aq9} {sz:Nat} {l:ard Ty} {ps:ard lA} (hx:x=[]) (r:yQ l ps):yQ (TN f x::l) (.buf E sz []::ps)
def Jr:vN B w H E sz [] (.slice none 0 0):=
 ⟨[],⟨by simp,.inl ⟨rfl,rfl⟩⟩,rfl,fun b h=>by simp[Value.ownBlock] at h⟩
def yQ.ok{ps:ard lA}(h:yQ l ps):∀{cs:ard apU},uD H l cs->P8 B a w H ps cs/\(∀b,¬oy w b ps cs)/\K1 w ps cs:=by
 induction h with
 |nil=>exact fun e=>⟨e,fun _ h=>h,trivial⟩
 | @val τ l ps r ih=>
  rintro cs ⟨v,rest,e,hv,hr⟩;subst e;obtain⟨h1,h2,h3⟩:=ih hr;have hd:=(nM (p:= .val τ) (rest:=rest)<|τ.shape hv).2;refine⟨⟨v,rest,rfl,τ.shape hv,hv,h1⟩,fun b h=>?_,fun b h=>h.elim,?_⟩
  ·rcases h with h|h
   ·exact h
   ·rw[hd] at h;exact h2 b h
  ·rw[hd];exact h3
 | @buf α f x E sz l ps hx r ih=>
  rintro cs ⟨v,rest,e,hv,hr⟩;subst e;subst hx;obtain⟨h1,h2,h3⟩:=ih hr;have ev:=hv.2 rfl;subst ev;have nP:Shape (lA.buf E sz []).n (lA.buf E sz []).agg (.slice none 0 0):=Shape.one rfl;obtain⟨e1,hd⟩:=nM (p:= .buf E sz []) (rest:=rest) nP;refine⟨⟨_,rest,rfl,nP,Jr,h1⟩,fun b h=>?_,fun b h=>?_,?_⟩
  ·rcases h with h|h
   ·rw[e1] at h;simp[lA.owns,Value.ownBlock] at h
   ·rw[hd] at h;exact h2 b h
  ·rw[e1] at h;simp[lA.owns,Value.ownBlock] at h
  ·rw[hd];exact h3
def aeU:∀H v,(fJ l).ok H v->uD H l v.cells.toList:=fun _ _ ⟨cs,e,h⟩=>by subst e;exact h
def HL:∀H v,τ.ok H v->uD H [τ] v.cells.toList:=fun _ v h=>⟨v,[],by simp,h,rfl⟩
def lU.pub:lU->Ty
 | .val τ=>τ
 | .buf l=>I8 l
 | .any=>UK ⟨#[]⟩
def lU.isAny:lU->Bool
 | .any=>true
 |_=>false
def Vu(p:Ty×lU):Ty×Ty:=(p.1,p.2.pub)
def Xm{B:aq P}{w:apT}{H H':HV}{Eb:aq9}{sz:Nat}(hle:HV.le H H'):∀{i:Nat} {l:ard (Ty×lU)} {es:ard MapEntry},OL B w H Eb sz i l es->(∀p∈l,p.2.isAny=false)->(∀b,nw b l es->H' b=w.heap[b]?)->okM H' i (l.map Vu) es
 |_,[],[],_,_,_=>trivial
 |_,[],_::_,h,_,_=>h.elim
 |_,(_,_)::_,[],h,_,_=>h.elim
 |i,(k,e)::l,x::xs,⟨h1,h2,h3,h4⟩,hn,hw=>by
  refine⟨k.mono hle h1,?_,h3,Xm hle h4 (fun p hp=>hn p (by simp[hp])) fun b hb=>hw b<| .inr hb⟩;cases e with
  |val τ=>exact τ.mono hle h2
  |any=>have:=hn (k,.any) (by simp);cases this
  |buf bl=>exact Cl (a:=⟨#[],[]⟩) (B:=B) h2 hle fun b hb _ o ho=>by rw[hw b<| .inl hb];exact ho
def Qa{lS:ard (Ty×lU)}(hle:HV.le H H')(h:H4 B w H Eb sz lS v)(hn:∀p∈lS,p.2.isAny=false)(hw:∀b,vk w lS v b->H' b=w.heap[b]?):(adz<|lS.map Vu).ok H' v:=by
 obtain⟨r,es,e,hr,_,_,ho,_⟩:=h;subst e;exact⟨r,es,rfl,by rw[hw r<| .inl rfl];exact hr,Xm hle ho hn fun b hb=>hw b<| .inr ⟨r,es,rfl,hr,hb⟩⟩
inductive ua:ard lA->ard Ty->Prop where
 |nil:ua [] []
 |val {τ:Ty} {l:ard Ty} {ps:ard lA} (r:ua ps l):ua (.val τ::ps) (τ::l)
 |buf {E:aq9} {sz:Nat} {bl l:ard Ty} {ps:ard lA} (r:ua ps l):ua (.buf E sz bl::ps) (I8 bl::l)
 |map {K E Eb:aq9} {sz:Nat} {lS:ard (Ty×lU)} {M:ard (Ty×Ty)} {l:ard Ty} {ps:ard lA} (hn:∀p∈lS,p.2.isAny=false) (hM:lS.map Vu=M) (r:ua ps l):ua (.map K E Eb sz lS::ps) (adz M::l)
def ua.ok(hle:HV.le H H'){ps:ard lA}(h:ua ps l):∀{cs:ard apU},P8 B a w H ps cs->(∀b,oy w b ps cs->H' b=w.heap[b]?)->uD H' l cs:=by
 induction h with
 |nil=>exact fun e _=>e
 | @val τ l ps r ih=>
  rintro cs ⟨v,rest,e,nP,hv,hr⟩ hw;subst e;obtain⟨e1,hd⟩:=nM (p:= .val τ) (rest:=rest) nP;exact⟨v,rest,rfl,τ.mono hle hv,ih hr fun b hb=>hw b (.inr (by rw[hd];exact hb))⟩
 | @buf E sz bl l ps r ih=>
  rintro cs ⟨v,rest,e,nP,hv,hr⟩ hw;subst e;obtain⟨e1,hd⟩:=nM (p:= .buf E sz bl) (rest:=rest) nP;refine⟨v,rest,rfl,Cl (a:=a) hv hle<|fun b hb _ o ho=>?_,ih hr fun b hb=>hw b (.inr (by rw[hd];exact hb))⟩;rw[hw b (.inl (by rw[e1];exact hb))];exact ho
 | @map K E Eb sz lS M l ps hn hM r ih=>
  rintro cs ⟨v,rest,e,nP,hv,hr⟩ hw;subst e;subst hM;obtain⟨e1,hd⟩:=nM (p:= .map K E Eb sz lS) (rest:=rest) nP;exact⟨v,rest,rfl,Qa hle hv hn (fun b hb=>hw b (.inl (by rw[e1];exact hb))),ih hr fun b hb=>hw b (.inr (by rw[hd];exact hb))⟩
open Classical in
def Tq{w0:aq P}{ps:ard lA}(ht:look Γ t=some (.qH T gg ps))(h:ua ps l)(hτ:∀(H:HV) (cs:ath apU),uD H l cs.toList->cs.size=τ.n/\τ.ok H (JF τ.agg cs)):qj w0 N Γ ((t,.val<|nm τ)::bN t Γ):=fun H0 a w H hs=>by
 obtain⟨b,cs,e,hb,hnb,hm,gq,K8,hx⟩:=hs.holds _<|ay ht
 simp only at e;obtain⟨S,hS⟩:∃S:Nat->Prop,∀c,S c↔(c=b\/oy w c ps cs.toList):=⟨_,fun _=>Iff.rfl⟩;refine⟨_,y8 hs (ay ht) S (fun c hc=>?_) ?_⟩
 ·rcases(hS c).1 hc with hc|hc
  ·subst hc;exact⟨⟨c,e,.inl rfl⟩,hm⟩
  ·exact⟨⟨b,e,.inr ⟨cs,hb,hc⟩⟩,(pU gq hc).2.1⟩
 ·have hle:HV.le H (fun r=>if S r then w.heap[r]? else H r):=by
   intro r o ho;by_cases e:S r
   ·rcases(hS r).1 e with e|e
    ·subst e;rw[hnb] at ho;cases ho
    ·rw[(pU gq e).2.2.1] at ho;cases ho
   ·simp[e,ho]
  have hSb:S b:=(hS b).2<| .inl rfl
  have hl:=h.ok hle gq (fun c hc=>by have:S c:=(hS c).2 (.inr hc);simp[this]);obtain⟨g1,g2⟩:=hτ _ cs hl;refine⟨b,0,cs,T,(0,0),e,by simp[hb,hSb],by omega,?_⟩;have:(List.take τ.n<|List.drop 0 cs.toList).toArray=cs:=by
   rw[xA,eJ (by simp[g1])]
  rw[this];exact g2
def Xh{w0:aq P}{ps:ard lA}(ht:look Γ t=some (.qH T true ps))(h:ua ps l):qj w0 N Γ ((t,.val<|nm<|fJ l)::bN t Γ):=
 Tq ht h fun H cs hl=>⟨by have:=nB hl;simp only[fJ];simpa using this,cs,rfl,hl⟩
def aa9{w0:aq P}{ps:ard lA}(ht:look Γ t=some (.qH T false ps))(h:ua ps [τ])(ha:τ.agg=false):qj w0 N Γ ((t,.val<|nm τ)::bN t Γ):=
 Tq ht h fun H cs hl=>by
  have hlen:=nB hl;obtain⟨v,rest,e,hv,hr⟩:=hl;have hr:rest=[]:=hr;subst hr;have nP:=τ.shape hv;have ec:cs=v.cells:=by rw[<-Array.toArray_toList (xs:=cs),e];simp
  subst ec;exact⟨nP.size,by rw[<-nP.eq];exact hv⟩
def aeR{w0:aq P}{K:aq9}{lS:ard (Ty×lU)}{M:ard (Ty×Ty)}(ht:look Γ t=some (.nK K E Eb sz lS))(hn:∀p∈lS,p.2.isAny=false)(hM:lS.map Vu=M):qj w0 N Γ ((t,.val<|adz M)::bN t Γ):=fun H0 a w H hs=>by
 subst hM;have gq:=hs.holds _<|ay ht
 obtain⟨S,hS⟩:∃S:Nat->Prop,∀c,S c↔vk w lS (aV a t) c:=⟨_,fun _=>Iff.rfl⟩;refine⟨_,y8 hs (ay ht) S (fun c hc=>⟨(hS c).1 hc,(zi gq<|(hS c).1 hc).2.1⟩) ?_⟩;refine Qa ?_ gq hn fun b hb=>by have:S b:=(hS b).2 hb;simp[this]
 intro r o ho;by_cases e:S r
 ·rw[(zi gq<|(hS r).1 e).2.2.1] at ho;cases ho
 ·simp[e,ho]
end
section
variable[D:DR]
variable{P:Program}{w0:aq P}{H0:HV}{N:Nat}{ops:Array Oper}{Q:Exit->Act->World->Prop}{Γ az:Ctx}{d:Option Tmp}{ty:TypeId}{pos:String}{af:Array Edge}{g:Option (Nat×Bool)}
variable{α β:Type}[DecidableEq α]
def mix(x:α):ard (α×β)->atg Nat
 |[]=>none
 |p::l=>bif decide (x=p.1) then some 0 else(mix x l).map (· +1)
def gQ(x:α)(l:ard (α×β)):Nat:=(mix x l).getD l.length
def iC(l:ard (α×β))(x:α)(z:β):β:=match mix x l with
 |none=>z
 |some j=>match l[j]? with
  |some p=>p.2
  |none=>z
def qp(l:ard (α×β))(x:α)(v:β):ard (α×β):=match mix x l with
 |none=>l++[(x,v)]
 |some j=>l.set j (x,v)
def mz(l:ard (α×β))(x:α)(z:β):ard (α×β):=match mix x l with
 |none=>l++[(x,z)]
 |some _=>l
def A0{x:α}:∀{l:ard (α×β)} {j:Nat},mix x l=some j->∃v,l[j]? =some (x,v)
 |[],_,h=>by simp[mix] at h
 |p::l,j,h=>by
  simp only[mix] at h;by_cases e:x=p.1
  ·simp[e] at h;subst h;subst e;exact⟨p.2,rfl⟩
  ·simp[e] at h;obtain⟨k,hk,rfl⟩:=h;obtain⟨v,hv⟩:=A0 hk;exact⟨v,by simpa using hv⟩
def Hx{γ:Type}:∀{l:ard γ} {j:Nat} {x:γ},l[j]? =some x->l.set j x=l
 |[],_,_,h=>by simp at h
 |y::l,0,x,h=>by simp at h;simp[h]
 |y::l,j+1,x,h=>by simp at h;simp[Hx h]
def LF(l:ard (α×β))(x:α)(z:β):(mz l x z)[gQ x l]? =some (x,iC l x z):=by
 unfold mz gQ iC;cases h:mix x l with
 |none=>simp
 |some j=>
  obtain⟨v,hv⟩:=A0 h;simp[hv]
def TJ(l:ard (α×β))(x:α)(z v:β):(mz l x z).set (gQ x l) (x,v)=qp l x v:=by
 unfold mz gQ qp;cases h:mix x l with
 |none=>simp
 |some j=>simp
end
section
variable[D:DR]
variable{P:Program}{w0:aq P}{H0:HV}{N:Nat}{ops:Array Oper}{Q:Exit->Act->World->Prop}{Γ az:Ctx}{d:Option Tmp}{ty:TypeId}{pos:String}{af:Array Edge}{g:Option (Nat×Bool)}
variable{B:aq P}{w:apT}{H:HV}{Eb:aq9}{sz:Nat}
@[reducible] def mM{α β:Type}(fK:α->Ty)(fV:β->lU)(l:ard (α×β)):ard (Ty×lU):=l.map fun p=>(fK p.1,fV p.2)
def xq(P:arb)(T K E:aq9):Bool:=match P.underlying T with
 |some (.map k e)=>Nat.beq k K&&Nat.beq e E
 |_=>false
def td{T K E:aq9}(h:xq P T K E=true):P.underlying T=some (.map K E):=by
 unfold xq at h;split at h
 ·rename_i k e hu;simp only[bV] at h;rw[hu,fB h.1,fB h.2]
 ·cases h
structure kX{α:Type}[DecidableEq α](P:arb)(K:aq9)(f:α->Ty):Prop where
 eq:∀(H:HV) (u v:apU) (x y:α),(f x).ok H u->(f y).ok H v->∀w:apT,(Op.equal K u v).run P w= .ok (decide<|x=y) w
 check:∀(H:HV) (u:apU) (x:α),(f x).ok H u->∀(e:Bool) (w:apT),(Instr.checkKey e 10000 K u).run P w= .ok () w
 kind:∃ud,P.underlying K=some ud/\∀u v,Instr.sameNow ud u v=none
 bits:∀(H:HV) (u v:apU) (x:α),(f x).ok H u->(f x).ok H v->Instr.sameBits 10000 u v=true
def wy{B:aq P}{w:apT}{H:HV}{Eb:aq9}{sz:Nat}:∀{i:Nat} {l:ard (Ty×lU)} {es:ard MapEntry} {j:Nat} {k:Ty} {e:lU},OL B w H Eb sz i l es->l[j]? =some (k,e)->
  ∃x,es[j]? =some x/\k.ok H x.key/\e.holds B w H Eb sz x.val/\x.born=i+j
 |_,[],_,_,_,_,_,h=>by simp at h
 |_,(_,_)::_,[],_,_,_,h,_=>h.elim
 |i,(k',e')::l,x::xs,0,k,e,⟨h1,h2,h3,h4⟩,h=>by
  simp at h;obtain⟨rfl,rfl⟩:=h;exact⟨x,rfl,h1,h2,by simpa using h3⟩
 |i,(k',e')::l,x::xs,j+1,k,e,⟨h1,h2,h3,h4⟩,h=>by
  obtain⟨y,g1,g2,g3,g4⟩:=wy h4 (by simpa using h);exact⟨y,by simpa using g1,g2,g3,by omega⟩
def zg{B:aq P}{w:apT}{H:HV}{Eb:aq9}{sz:Nat}:∀{i:Nat} {l:ard (Ty×lU)} {es:ard MapEntry},OL B w H Eb sz i l es->es.length=l.length
 |_,[],[],_=>rfl
 |_,[],_::_,h=>h.elim
 |_,(_,_)::_,[],h=>h.elim
 |_,(_,_)::_,_::_,⟨_,_,_,h⟩=>by simp[zg h]
def Er{B:aq P}{w:apT}{H:HV}{Eb:aq9}{sz:Nat}:∀{i:Nat} {l:ard (Ty×lU)} {es:ard MapEntry} {j:Nat} {k:Ty} {e:lU} {x:MapEntry},OL B w H Eb sz i l es->k.ok H x.key->e.holds B w H Eb sz x.val->x.born=i+j->
  OL B w H Eb sz i (l.set j (k,e)) (es.set j x)
 |_,[],[],_,_,_,_,_,_,_,_=>trivial
 |_,[],_::_,_,_,_,_,h,_,_,_=>h.elim
 |_,(_,_)::_,[],_,_,_,_,h,_,_,_=>h.elim
 |i,(k',e')::l,x::xs,0,k,e,y,⟨h1,h2,h3,h4⟩,g1,g2,g3=>⟨g1,g2,g3,h4⟩
 |i,(k',e')::l,x::xs,j+1,k,e,y,⟨h1,h2,h3,h4⟩,g1,g2,g3=>⟨h1,h2,h3,Er h4 g1 g2 (by omega)⟩
def NB{B:aq P}{w:apT}{H:HV}{Eb:aq9}{sz:Nat}:∀{i:Nat} {l:ard (Ty×lU)} {es:ard MapEntry} {k:Ty} {e:lU} {x:MapEntry},OL B w H Eb sz i l es->k.ok H x.key->e.holds B w H Eb sz x.val->x.born=i+l.length->
  OL B w H Eb sz i (l++[(k,e)]) (es++[x])
 |_,[],[],_,_,_,_,g1,g2,g3=>⟨g1,g2,by simpa using g3,trivial⟩
 |_,[],_::_,_,_,_,h,_,_,_=>h.elim
 |_,(_,_)::_,[],_,_,_,h,_,_,_=>h.elim
 |i,(k',e')::l,x::xs,k,e,y,⟨h1,h2,h3,h4⟩,g1,g2,g3=>⟨h1,h2,h3,NB h4 g1 g2 (by simp at g3;omega)⟩
def l7{b:Nat}:∀{l:ard (Ty×lU)} {es:ard MapEntry},nw b l es↔∃(j:Nat) (k:Ty) (e:lU) (x:MapEntry),l[j]? =some (k,e)/\es[j]? =some x/\e.owns x.val b
 |[],es=>by simp[nw]
 |(k,e)::l,[]=>by simp[nw]
 |(k,e)::l,x::xs=>by
  simp only[nw,l7 (l:=l)];constructor
  ·rintro(h|⟨j,k',e',y,h1,h2,h3⟩)
   ·exact⟨0,k,e,x,rfl,rfl,h⟩
   ·exact⟨j+1,k',e',y,by simpa using h1,by simpa using h2,h3⟩
  ·rintro⟨j,k',e',y,h1,h2,h3⟩;cases j with
   |zero=>simp at h1 h2;obtain⟨rfl,rfl⟩:=h1;subst h2;exact .inl h3
   |succ j=>exact .inr ⟨j,k',e',y,by simpa using h1,by simpa using h2,h3⟩
def Dn:∀{l:ard (Ty×lU)} {es:ard MapEntry},l.length=es.length->(K2 l es↔∀(i j:Nat) (k k':Ty) (e e':lU) (x y:MapEntry),i<j->l[i]? =some (k,e)->l[j]? =some (k',e')->es[i]? =some x->es[j]? =some y->∀b,e.owns x.val b-> ¬e'.owns y.val b)
 |[],[],_=>by simp[K2]
 |[],_::_,h=>by simp at h
 |(_,_)::_,[],h=>by simp at h
 |(k,e)::l,x::xs,h=>by
  simp only[K2,Dn (l:=l) (es:=xs) (by simpa using h)];constructor
  ·rintro⟨h1,h2⟩ i j k1 k2 e1 e2 y z Sv hi hj hx hy b hb ji;cases j with
   |zero=>omega
   |succ j=>
    cases i with
    |zero=>
     simp at hi hx;obtain⟨rfl,rfl⟩:=hi;subst hx;exact h1 b hb (l7.2 ⟨j,k2,e2,z,by simpa using hj,by simpa using hy,ji⟩)
    |succ i=>exact h2 i j k1 k2 e1 e2 y z (by omega) (by simpa using hi) (by simpa using hj) (by simpa using hx) (by simpa using hy) b hb ji
  ·intro hh;refine⟨fun b hb ho=>?_,fun i j k1 k2 e1 e2 y z Sv hi hj hx hy b hb ji=>?_⟩
   ·obtain⟨j,k',e',y,h1,h2,h3⟩:=l7.1 ho;exact hh 0 (j+1) k k' e e' x y (by omega) rfl (by simpa using h1) rfl (by simpa using h2) b hb h3
   ·exact hh (i+1) (j+1) k1 k2 e1 e2 y z (by omega) (by simpa using hi) (by simpa using hj) (by simpa using hx) (by simpa using hy) b hb ji
end
section
variable[D:DR]
variable{P:Program}{w0:aq P}{H0:HV}{N:Nat}{ops:Array Oper}{Q:Exit->Act->World->Prop}{Γ az:Ctx}{d:Option Tmp}{ty:TypeId}{pos:String}{af:Array Edge}{g:Option (Nat×Bool)}
variable{α β:Type}[DecidableEq α]{K:TypeId}{fK:α->Ty}{fV:β->lU}
def Ds(hk:kX P K fK){H:HV}{u:apU}{x:α}(hu:(fK x).ok H u){w:apT}:∀{l:ard (α×β)} {es:ard MapEntry} (i:Nat),(∀(j:Nat) (p:α×β),l[j]? =some p->∃y,es[j]? =some y/\(fK p.1).ok H y.key)->es.length=l.length->
  (Instr.findAsking K u es i).run P w= .ok ((mix x l).map fun j=>(i+j,((es[j]?).map (·.val)).getD undef)) w
 |[],[],i,_,_=>by simp[Instr.findAsking,mix]
 |[],_::_,_,_,h=>by simp at h
 |_::_,[],_,_,h=>by simp at h
 |p::l,y::es,i,h,hl=>by
  obtain⟨y',h1,h2⟩:=h 0 p rfl;simp at h1;subst h1;have ih:=Ds hk hu (l:=l) (es:=es) (w:=w) (i+1) (fun j q hq=>by simpa using h (j+1) q (by simpa using hq)) (by simpa using hl);have he:=hk.eq H u y.key x p.1 hu h2 w;simp only[Instr.findAsking,mix,eN,he,eE];by_cases e:x=p.1
  ·simp[e]
  ·simp only[e,decide_false,B4,if_false,fU,ih];cases hm:mix x l with
   |none=>simp
   |some j=>simp;omega
def run_findKey(hk:kX P K fK){H:HV}{u:apU}{x:α}(hu:(fK x).ok H u){w:apT}{l:ard (α×β)}{es:ard MapEntry}(h:∀(j:Nat) (p:α×β),l[j]? =some p->∃y,es[j]? =some y/\(fK p.1).ok H y.key)(hl:es.length=l.length):
  (Instr.findKey K u es).run P w= .ok ((mix x l).map fun j=>(j,((es[j]?).map (·.val)).getD undef)) w:=by
 obtain⟨ud,hud,NV⟩:=hk.kind;have hf:=Ds hk hu (w:=w) 0 h hl;unfold Instr.findKey;simp only[eN,aO hud,eE];cases es with
 |nil=>
  cases l with
  |nil=>simp[Instr.findNow,mix]
  |cons p l=>simp at hl
 |cons y es=>
  simp only[Instr.findNow,NV];simpa using hf
end
section
variable[D:DR]
variable{P:Program}{w0:aq P}{H0:HV}{N:Nat}{ops:Array Oper}{Q:Exit->Act->World->Prop}{Γ az:Ctx}{d:Option Tmp}{ty:TypeId}{pos:String}{af:Array Edge}{g:Option (Nat×Bool)}
inductive jD(Γ:Ctx):arc->Nat->Prop where
 |own {t:Nat}:jD Γ (.tmp t) t
 |same {u t:Nat} (h:look Γ u=some (.same t)):jD Γ (.tmp u) t
def jD.ok{x:arc}{t:Nat}(h:jD Γ x t){a:Act}{w:apT}{H:HV}(hs:Sat w0 H0 N Γ a w H):a.eval x=aV a t:=by
 cases h with
 |own=>rfl
 |same h=>exact hs.holds _<|ay h
def VA{T K E Eb:aq9}{sz:Nat}:bI P Γ ⟨d,.makeMap T none,ty,pos,af,g⟩ (.nK K E Eb sz []):=
 iN fun w0 _ _ a w H hs=>by
  refine⟨.map<|some w.heap.size,w.alloc<| .map #[] 0,H,?_,Ext.alloc hs.sub _,?_,?_⟩
  ·simp[execOp,Instr.makeMap,newObj];rfl
  ·refine⟨w.heap.size,#[],rfl,rO w _,?_,.inl hs.below.size,trivial,trivial⟩;cases hh:H w.heap.size with
   |none=>rfl
   |some o=>have:=wU hs.sub hh;omega
  ·rintro b (h|⟨r,es,e,hr,hb⟩)
   ·cases h;exact bC _
   ·simp[nw] at hb
end
section
variable[D:DR]
variable{P:Program}{w0:aq P}{H0:HV}{N:Nat}{ops:Array Oper}{Q:Exit->Act->World->Prop}{Γ az:Ctx}{d:Option Tmp}{ty:TypeId}{pos:String}{af:Array Edge}{g:Option (Nat×Bool)}
variable{α β:Type}[DecidableEq α]{K E Eb T:TypeId}{sz:Nat}{fK:α->Ty}
def Mc{B:aq P}{w:apT}{H:HV}{fV:β->lU}{l:ard (α×β)}{es:ard MapEntry}(h:OL B w H Eb sz 0 (mM fK fV l) es):(∀(j:Nat) (p:α×β),l[j]? =some p->∃y,es[j]? =some y/\(fK p.1).ok H y.key)/\es.length=l.length:=
 ⟨fun j p hp=>by
  obtain⟨y,h1,h2,_⟩:=wy h (j:=j) (k:=fK p.1) (e:=fV p.2) (by simp[hp]);exact⟨y,h1,h2⟩,by simpa using zg h⟩
def run_getObj_map{w:apT}{r:Nat}{es:ath MapEntry}{c:Nat}(h:w.heap[r]? =some (.map es c)):(getObj r).run P w= .ok (.map es c) w:=by
 simp[getObj,Sem.run,h]
def JC{F:β->Ty}{t:Nat}{m k:arc}{l:ard (α×β)}{x:α}{z:β}(hT:xq P T K E=true)(hk:kX P K fK)(hz:bJ P E (F z))(hm:jD Γ m t)(ht:look Γ t=some (.nK K E Eb sz<|mM fK (fun v=> .val<|F v) l))(hx:Arg Γ k (fK x)):
  bI P Γ ⟨d,.lookup T m k false,ty,pos,af,g⟩ (.val<|F<|iC l x z):=
 bb fun _ _ _ a w H hs=>by
  obtain⟨r,es,e,hr,hn,OO,ho,K8⟩:=hs.holds _<|ay ht
  have em:a.eval m= .map (some r):=by rw[hm.ok hs];exact e
  have FR:=hx.ok hs;obtain⟨k1,k2⟩:=Mc ho;have hf:=run_findKey hk FR (w:=w) k1 k2;have hc:=hk.check H _ x FR es.isEmpty w;obtain⟨zv,Sr,UT⟩:=hz.run w;cases II:mix x l with
  |none=>
   rw[II] at hf;refine⟨zv,?_,by simp only[iC,II];exact UT H,rfl⟩;simp[execOp,em,Instr.lookup,aO<|td hT,run_getObj_map hr,hc,hf,Sr]
  |some j=>
   rw[II] at hf;obtain⟨v,hv⟩:=A0 II;obtain⟨y,h1,_,h3,_⟩:=wy ho (j:=j) (k:=fK x) (e:= .val<|F v) (by simp[hv]);refine⟨y.val,?_,by simp only[iC,II,hv];exact h3,rfl⟩;simp only[xB,h1,EE] at hf;simp[execOp,em,Instr.lookup,aO<|td hT,run_getObj_map hr,hc,hf]
end
section
variable[D:DR]
variable{P:Program}{w0:aq P}{H0:HV}{N:Nat}{ops:Array Oper}{Q:Exit->Act->World->Prop}{Γ az:Ctx}{d:Option Tmp}{ty:TypeId}{pos:String}{af:Array Edge}{g:Option (Nat×Bool)}
variable{w:apT}{H:HV}{c b:Nat}{es:ath MapEntry}{B:aq P}{sz:Nat}
def Pd{a:Act}{w':apT}{t u:Nat}{s s' su:bL}(hs:Sat w0 H0 N Γ a w H)(ht:(t,s)∈Γ)(hu:(u,su)∈Γ)(hne:u≠t)(hg:zM w w' (some b))(hb:w0.mg b)(hob:s.owns w (aV a t) b)
 (oV:s'.holds w0 a w' H (aV a t))(V4:∀c,s'.owns w' (aV a t) c->s.owns w (aV a t) c\/su.owns w (aV a u) c\/w.heap.size<=c):Sat w0 H0 N ((t,s')::(u,.gone)::bN t (bN u Γ)) a w' H:=by
 obtain⟨h1,h2,o,h3,h4⟩:=bL.lE (hs.holds _ ht) hob;have sub:∀q∈bN t (bN u Γ),q∈Γ/\q.1≠t/\q.1≠u:=fun q hq=>⟨(bG q (bG q hq).1).1,(bG q hq).2,(bG q (bG q hq).1).2⟩
 have other:∀q∈bN t (bN u Γ),∀c,s.owns w (aV a t) c-> ¬q.2.owns w (aV a q.1) c:=fun q hq c hc=>hs.sep _ ht q (sub q hq).1 (fun e=>(sub q hq).2.1 e.symm) c hc
 have ahw:∀q∈bN t (bN u Γ),∀c,su.owns w (aV a u) c-> ¬q.2.owns w (aV a q.1) c:=fun q hq c hc=>hs.sep _ hu q (sub q hq).1 (fun e=>(sub q hq).2.2 e.symm) c hc
 have kO:Sat w0 H0 N (bN t<|bN u Γ) a w' H:=by
  refine Nf hs hg (fun c hc=>by cases hc;exact⟨hb,h2,fun l e=>by rw[h3] at e;cases e;exact h4⟩)<|fun q hq=>⟨(sub q hq).1,fun c hc e=>?_⟩
  cases e;exact other q hq b hob hc
 have back:∀q∈bN t (bN u Γ),∀c,q.2.owns w' (aV a q.1) c->q.2.owns w (aV a q.1) c:=fun q hq c hc=>
  (P4 hs hg (fun c hc=>by cases hc;exact⟨hb,h2⟩) (sub q hq).1 (fun c hc e=>by cases e;exact other q hq b hob hc) c).1 hc
 have key:∀q∈bN t (bN u Γ),∀c,s'.owns w' (aV a t) c-> ¬q.2.owns w' (aV a q.1) c:=fun q hq c hc zG=>by
  rcases V4 c hc with h|h|h
  ·exact other q hq c h<|back q hq c zG
  ·exact ahw q hq c h<|back q hq c zG
  ·have:=(bL.lE (hs.holds q (sub q hq).1)<|back q hq c zG).1;omega
 have h5:Sat w0 H0 N ((t,s')::bN t (bN u Γ)) a w' H:=by
  refine⟨kO.nd,kO.sz,kO.below,kO.I7,kO.sub,?_,?_,kO.gl⟩
  ·intro q hq;rcases bM.1 hq with eq|hq
   ·subst eq;exact oV
   ·exact kO.holds q hq
  ·intro q hq r hr hne c hc zG;rcases bM.1 hq with eq|hq<;>rcases bM.1 hr with er|hr
   ·subst eq;subst er;exact hne rfl
   ·subst eq;exact key r hr c hc zG
   ·subst er;exact key q hq c zG hc
   ·exact kO.sep q hq r hr hne c hc zG
 refine(h5.Yi u).weaken fun q hq=>?_
 simp only[bM] at hq⊢;rcases hq with h|h|h
 ·exact .inr<| .inl h
 ·exact .inl h
 ·exact .inr<| .inr h
def xT{r:Nat}{o:Obj}(h:w.heap[r]? =some (.map es c)):(setObj r o).run P w= .ok () (w.putObj r o):=by
 simp[setObj,Sem.run,h];rfl
def Kl{E:aq9}{l:ard Ty}{v:apU}(h:vN B w H E sz l v)(hb:v.ownBlock=some b):w.heap[b]? ≠some (.map es c):=by
 obtain⟨xs,⟨_,hr⟩,_,_⟩:=h;rcases hr with⟨e,_⟩|⟨g,cap,cur,e,_,hc,_⟩
 ·subst e;simp[Value.ownBlock] at hb
 ·subst e;simp[Value.ownBlock] at hb;subst hb;rw[hc];intro e;cases e
def Pj{Eb:aq9}{l:ard (Ty×lU)}{es:ard MapEntry}(h:OL B w H Eb sz 0 l es)(hb:nw b l es){w8:ath MapEntry}:w.heap[b]? ≠some (.map w8 c):=by
 obtain⟨j,k,e,x,h1,h2,h3⟩:=l7.1 hb;obtain⟨y,g1,_,g3,_⟩:=wy h h1;rw[h2] at g1;cases g1;cases e with
 |val τ=>exact h3.elim
 |any=>exact h3.elim
 |buf bl=>exact Kl g3 h3
def HY{Eb:aq9}{r:Nat}{w8:ath MapEntry}{l':ard (Ty×lU)}(hr:w.heap[r]? =some (.map es c))(hn:H r=none)(hm:B.mg r)(ho:OL B w H Eb sz 0 l' w8.toList)(hs:K2 l' w8.toList):
  H4 B (w.putObj r<| .map w8 w8.size) H Eb sz l' (.map<|some r)/\∀b,vk (w.putObj r<| .map w8 w8.size) l' (.map<|some r) b↔b=r\/nw b l' w8.toList:=by
 have Lb:(w.putObj r<| .map w8 w8.size).heap[r]? =some (.map w8 w8.size):=L4<|lt_of_heap hr
 refine⟨⟨r,w8,rfl,Lb,hn,hm,Rt (HV.le.refl H) ho<|fun b hb=>⟨IC<|fun e=>?_,rfl⟩,hs⟩,fun b=>?_⟩
 ·subst e;exact Pj ho hb hr
 ·constructor
  ·rintro(h|⟨r1,es1,e1,h1,h2⟩)
   ·cases h;exact .inl rfl
   ·cases e1;rw[Lb] at h1;cases h1;exact .inr h2
  ·rintro(h|h)
   ·subst h;exact .inl rfl
   ·exact .inr ⟨r,w8,rfl,Lb,h⟩
end
section
variable[D:DR]
variable{P:Program}{w0:aq P}{H0:HV}{N:Nat}{ops:Array Oper}{Q:Exit->Act->World->Prop}{Γ az:Ctx}{d:Option Tmp}{ty:TypeId}{pos:String}{af:Array Edge}{g:Option (Nat×Bool)}
variable{α β:Type}[DecidableEq α]{K E Eb T:TypeId}{sz:Nat}{fK:α->Ty}{fV:β->lU}
variable{x:α}{c8:Ctx}{m:arc}{t:Nat}{l:ard (α×β)}{z:β}{H:HV}{k:arc}{F:β->Ty}{y:β}{w:apT}{dd i:Nat}
def AQ{l:ard (Ty×lU)}{es:ard MapEntry}{j:Nat}{k k0:Ty}{e e0:lU}{x x0:MapEntry}(hlen:l.length=es.length)(hl:l[j]? =some (k0,e0))(hx:es[j]? =some x0)(h:K2 l es)(hn:∀b,e.owns x.val b->e0.owns x0.val b\/ ¬nw b l es):
  K2 (l.set j (k,e)) (es.set j x)/\∀b,nw b (l.set j (k,e)) (es.set j x)->e.owns x.val b\/(nw b l es/\ ¬e0.owns x0.val b):=by
 have hj:=(iG.1 hl).1;have hj':j<es.length:=hlen▸hj;have hs:=(Dn hlen).1 h;have at':∀i k' e' y,(l.set j (k,e))[i]? =some (k',e')->(es.set j x)[i]? =some y->(i=j/\k'=k/\e'=e/\y=x)\/(i≠j/\l[i]? =some (k',e')/\es[i]? =some y):=fun i k' e' y h1 h2=>by
  by_cases ei:i=j
  ·subst ei;rw[EH hj] at h1;rw[EH hj'] at h2;cases h1;cases h2;exact .inl ⟨rfl,rfl,rfl,rfl⟩
  ·rw[List.getElem?_set_ne<|Ne.symm ei] at h1 h2;exact .inr ⟨ei,h1,h2⟩
 have one:∀i k' e' y,i≠j->l[i]? =some (k',e')->es[i]? =some y->∀b,e'.owns y.val b-> ¬e.owns x.val b/\ ¬e0.owns x0.val b:=fun i k' e' y hi h1 h2 b hb=>by
  have k2: ¬e0.owns x0.val b:=fun h0=>by
   rcases Nat.lt_or_gt_of_ne hi with hlt|hlt
   ·exact hs i j k' k0 e' e0 y x0 hlt h1 hl h2 hx b hb h0
   ·exact hs j i k0 k' e0 e' x0 y hlt hl h1 hx h2 b h0 hb
  refine⟨fun h3=>?_,k2⟩;rcases hn b h3 with h4|h4
  ·exact k2 h4
  ·exact h4<|l7.2 ⟨i,k',e',y,h1,h2,hb⟩
 refine⟨(Dn (by simpa using hlen)).2 ?_,fun b hb=>?_⟩
 ·intro i i' k1 k2 e1 e2 y z Sv hi hi' hy hz b hb ji;rcases at' i k1 e1 y hi hy with⟨rfl,rfl,rfl,rfl⟩|⟨n1,g1,g2⟩<;>rcases at' i' k2 e2 z hi' hz with⟨rfl,rfl,rfl,rfl⟩|⟨n2,g3,g4⟩
  ·omega
  ·exact(one i' k2 e2 z n2 g3 g4 b ji).1 hb
  ·exact(one i k1 e1 y n1 g1 g2 b hb).1 ji
  ·exact hs i i' k1 k2 e1 e2 y z Sv g1 g3 g2 g4 b hb ji
 ·obtain⟨i,k1,e1,y,h1,h2,h3⟩:=l7.1 hb;rcases at' i k1 e1 y h1 h2 with⟨rfl,rfl,rfl,rfl⟩|⟨n1,g1,g2⟩
  ·exact .inl h3
  ·exact .inr ⟨l7.2 ⟨i,k1,e1,y,g1,g2,h3⟩,(one i k1 e1 y n1 g1 g2 b h3).2⟩
def Jn{l:ard (Ty×lU)}{es:ard MapEntry}{k:Ty}{e:lU}{x:MapEntry}(hlen:l.length=es.length)(h:K2 l es)(hn:∀b,¬e.owns x.val b):
  K2 (l++[(k,e)]) (es++[x])/\∀b,nw b (l++[(k,e)]) (es++[x])->nw b l es:=by
 have at':∀(i:Nat) (k':Ty) (e':lU) (y:MapEntry) (b:Nat),(l++[(k,e)])[i]? =some (k',e')->(es++[x])[i]? =some y->e'.owns y.val b->l[i]? =some (k',e')/\es[i]? =some y:=fun i k' e' y b h1 h2 h3=>by
  by_cases hi:i<l.length
  ·rw[wL hi] at h1;rw[wL<|hlen▸hi] at h2;exact⟨h1,h2⟩
  ·have:i=l.length:=by
    have:=(iG.1 h1).1;simp at this;omega
   subst this;rw[Aq<|bC _] at h1;rw[Aq (by omega)] at h2;simp[hlen] at h1 h2;obtain⟨rfl,rfl⟩:=h1;subst h2;exact absurd h3<|hn b
 refine⟨(Dn (by simp[hlen])).2 fun i j k1 k2 e1 e2 y z Sv hi hj hy hz b hb ji=>?_,fun b hb=>?_⟩
 ·obtain⟨g1,g2⟩:=at' i k1 e1 y b hi hy hb;obtain⟨g3,g4⟩:=at' j k2 e2 z b hj hz ji;exact(Dn hlen).1 h i j k1 k2 e1 e2 y z Sv g1 g3 g2 g4 b hb ji
 ·obtain⟨i,k1,e1,y,h1,h2,h3⟩:=l7.1 hb;obtain⟨g1,g2⟩:=at' i k1 e1 y b h1 h2 h3;exact l7.2 ⟨i,k1,e1,y,g1,g2,h3⟩
def run_keyThatStays(hk:kX P K fK){u v:apU}(hu:(fK x).ok H u)(hv:(fK x).ok H v)(w:apT):(Instr.keyThatStays u v).run P w= .ok v w:=by
 simp[Instr.keyThatStays,hk.bits H u v x hu hv]
def vj{γ:Type}(es:ath γ)(j:Nat)(f:γ->γ):(es.modify j f).toList=es.toList.modify j f:=by simp
def AZ{γ:Type}:∀{l:ard γ} {j:Nat} {f:γ->γ} {x:γ},l[j]? =some x->l.modify j f=l.set j (f x)
 |[],_,_,_,h=>by simp at h
 |y::l,0,f,x,h=>by simp at h;subst h;rfl
 |y::l,j+1,f,x,h=>by
  have:=AZ (l:=l) (j:=j) (f:=f) (x:=x) (by simpa using h);simpa using this
def HZ{v:arc}(bO:∀q∈c8,q∈Γ)(hT:xq P T K E=true)(hk:kX P K fK)(hm:jD c8 m t)(ht:look c8 t=some (.nK K E Eb sz<|mM fK (fun v=> .val<|F v) l))(hx:Arg c8 k (fK x))(hy:Arg c8 v (F y)):
  Step P N ops ⟨none,.mapUpdate T m k v,ty,pos,af,none⟩ Γ ((t,.nK K E Eb sz<|mM fK (fun v=> .val<|F v)<|qp l x y)::bN t Γ):=by
 intro w0 H0 a w H hs K' Q kk;simp only[Region.wanted,if_true];obtain⟨r,es,e,hr,hn,OO,ho,K8⟩:=hs.holds _<|bO _<|ay ht
 simp only at e;have K9:=hs.weaken bO;have em:a.eval m= .map (some r):=by rw[hm.ok K9];exact e
 have FR:=hx.ok K9;have hyv:=hy.ok K9;obtain⟨k1,k2⟩:=Mc ho;have hf:=run_findKey hk FR (w:=w) k1 k2;have hc:=hk.check H _ x FR false w;have hlen:(mM fK (fun v=>lU.val<|F v) l).length=es.toList.length:=by simp[k2,mM]
 have hown:∀b,¬nw b (mM fK (fun v=>lU.val<|F v) l) es.toList:=fun b h=>by
  obtain⟨j,k',e',z,h1,_,h3⟩:=l7.1 h;simp only[mM,mH,Option.map_eq_some_iff] at h1;obtain⟨p,_,h1⟩:=h1;cases h1;exact h3
 have fin:∀(w8:ath MapEntry) (l':ard (Ty×lU)),l'=mM fK (fun v=>lU.val<|F v) (qp l x y)->OL w0 w H Eb sz 0 l' w8.toList->K2 l' w8.toList->(∀b,¬nw b l' w8.toList)->
   K' (a.put none undef) (w.putObj r<| .map w8 w8.size):=fun w8 l' el h1 h2 h3=>by
  subst el;obtain⟨g1,g2⟩:=HY hr hn OO h1 h2;refine kk a _ H (iK hs (bO _<|ay ht) (zM.putObj w r _) OO (by simp only[e];exact .inl rfl) (by simp only[e];exact g1) fun c hc=> .inl ?_);simp only[e] at hc⊢;rcases(g2 c).1 hc with h|h
  ·subst h;exact .inl rfl
  ·exact absurd h<|h3 c
 unfold Oper.wp;cases II:mix x l with
 |none=>
  rw[II] at hf;have er:(execOp a.eval ⟨none,.mapUpdate T m k v,ty,pos,af,none⟩).run P w= .ok .skip (w.putObj r<| .map (es.push {key:=a.eval k,val:=a.eval v,born:=es.size})<|es.size+1):=by
   simp[execOp,em,Instr.mapUpdate,aO<|td hT,run_getObj_map hr,hc,hf,xT hr]
  rw[er,vA];have:=fin (es.push {key:=a.eval k,val:=a.eval v,born:=es.size}) (mM fK (fun v=>lU.val<|F v) l++[(fK x,.val<|F y)]) (by simp[mM,qp,II])
   (by simpa using NB (k:=fK x) (e:= .val<|F y) (x:={key:=a.eval k,val:=a.eval v,born:=es.size}) ho FR hyv (by simp[<-k2]))
   (by simpa using(Jn (k:=fK x) (e:= .val<|F y) hlen K8<|fun _ h=>h).1)
   (fun b hb=>hown b ((Jn (k:=fK x) (e:= .val<|F y) (x:={key:=a.eval k,val:=a.eval v,born:=es.size}) hlen K8<|fun _ h=>h).2 b (by simpa using hb)))
  simpa using this
 |some j=>
  rw[II] at hf;obtain⟨v0,K7⟩:=A0 II;obtain⟨z,h1,h2,h3,h4⟩:=wy ho (j:=j) (k:=fK x) (e:= .val<|F v0) (by simp[K7]);have h1':es[j]? =some z:=by simpa using h1
  have wj:=run_keyThatStays hk h2 FR w;have er:(execOp a.eval ⟨none,.mapUpdate T m k v,ty,pos,af,none⟩).run P w= .ok .skip (w.putObj r<| .map (es.modify j fun e=>{e with key:=a.eval k,val:=a.eval v}) es.size):=by
   simp[execOp,em,Instr.mapUpdate,aO<|td hT,run_getObj_map hr,hc,hf,xT hr,h1',wj]
  rw[er,vA];have Lc:(es.modify j fun e=>{e with key:=a.eval k,val:=a.eval v}).toList=es.toList.set j {z with key:=a.eval k,val:=a.eval v}:=by rw[vj,AZ h1]
  have hl0:(mM fK (fun v=>lU.val<|F v) l)[j]? =some (fK x,.val<|F v0):=by simp[K7]
  have:=fin (es.modify j fun e=>{e with key:=a.eval k,val:=a.eval v}) ((mM fK (fun v=>lU.val<|F v) l).set j (fK x,.val<|F y)) (by simp[mM,qp,II,xz])
   (by rw[Lc];exact Er (k:=fK x) (e:= .val<|F y) (x:={z with key:=a.eval k,val:=a.eval v}) ho FR hyv (by simpa using h4))
   (by rw[Lc];exact(AQ (k:=fK x) (e:= .val<|F y) hlen hl0 h1 K8<|fun _ h=>h.elim).1)
   (fun b hb=>by
    rw[Lc] at hb;rcases(AQ (k:=fK x) (e:= .val<|F y) hlen hl0 h1 K8<|fun _ h=>h.elim).2 b hb with h|h
    ·exact h
    ·exact hown b h.1)
  simpa using this
def H5(hT:xq P T K E=true)(hk:kX P K fK)(hz:∀(w:apT),∃zv,(zeroValue E).run P w= .ok zv w/\∀(B:aq P) (H:HV),(fV z).holds B w H Eb sz zv/\∀b,¬(fV z).owns zv b)
 (hm:jD c8 m t)(ht:look c8 t=some (.nK K E Eb sz<|mM fK fV l))(hx:Arg c8 k (fK x)){a:Act}(hs:Sat w0 H0 N c8 a w H):
  ∃(r:Nat) (es w8:ath MapEntry) (y:MapEntry),aV a t= .map (some r)/\w.heap[r]? =some (.map es es.size)/\H r=none/\w0.mg r/\(Instr.mapEntry T (a.eval m)<|a.eval k).run P w= .ok (.tuple #[y.val,.int .i64<|gQ x l]) (w.putObj r<| .map w8 w8.size)/\
   OL w0 w H Eb sz 0 (mM fK fV<|mz l x z) w8.toList/\K2 (mM fK fV<|mz l x z) w8.toList/\(∀b,nw b (mM fK fV<|mz l x z) w8.toList->nw b (mM fK fV l) es.toList)/\w8.toList[gQ x l]? =some y:=by
 obtain⟨r,es,e,hr,hn,OO,ho,K8⟩:=hs.holds _<|ay ht
 simp only at e;have em:a.eval m= .map (some r):=by rw[hm.ok hs];exact e
 have FR:=hx.ok hs;obtain⟨k1,k2⟩:=Mc ho;have hf:=run_findKey hk FR (w:=w) k1 k2;have hc:=hk.check H _ x FR false w;have hlen:(mM fK fV l).length=es.toList.length:=by simp[k2,mM]
 cases II:mix x l with
 |none=>
  rw[II] at hf;obtain⟨zv,Sr,UT⟩:=hz w;have agC:=Jn (k:=fK x) (e:=fV z) (x:={key:=a.eval k,val:=zv,born:=es.size}) hlen K8 (UT w0 H).2;have el:mM fK fV (mz l x z)=mM fK fV l++[(fK x,fV z)]:=by simp[mM,mz,II]
  refine⟨r,es,es.push {key:=a.eval k,val:=zv,born:=es.size},{key:=a.eval k,val:=zv,born:=es.size},e,hr,hn,OO,?_,?_,?_,?_,?_⟩
  ·have:(gQ x l)=es.size:=by simp only[gQ,II,Option.getD_none];rw[<-k2];simp
   rw[this];simp[em,Instr.mapEntry,aO<|td hT,run_getObj_map hr,hc,hf,xT hr,Sr,goInt]
  ·rw[el];simpa using NB (k:=fK x) (e:=fV z) (x:={key:=a.eval k,val:=zv,born:=es.size}) ho FR (UT w0 H).1 (by simp[<-k2])
  ·rw[el];simpa using agC.1
  ·rw[el];intro b hb;exact agC.2 b (by simpa using hb)
  ·have:(gQ x l)=es.toList.length:=by simp only[gQ,II,Option.getD_none];rw[<-k2]
   rw[this];simp
 |some j=>
  rw[II] at hf;obtain⟨v0,K7⟩:=A0 II;have hl0:(mM fK fV l)[j]? =some (fK x,fV v0):=by simp[K7]
  obtain⟨y,h1,h2,h3,h4⟩:=wy ho hl0;have h1':es[j]? =some y:=by simpa using h1
  have wj:=run_keyThatStays hk h2 FR w;have Lc:(es.modify j fun e=>{e with key:=a.eval k}).toList=es.toList.set j {y with key:=a.eval k}:=by rw[vj,AZ h1]
  have el:mM fK fV (mz l x z)=(mM fK fV l).set j (fK x,fV v0):=by
   simp only[mz,II];exact(Hx hl0).symm
  have tX:=AQ (k:=fK x) (e:=fV v0) (x:={y with key:=a.eval k}) hlen hl0 h1 K8<|fun b hb=> .inl hb
  have hj:gQ x l=j:=by simp[gQ,II]
  refine⟨r,es,es.modify j fun e=>{e with key:=a.eval k},{y with key:=a.eval k},e,hr,hn,OO,?_,?_,?_,?_,?_⟩
  ·have hb:y.born=j:=by simpa using h4
   rw[hj];simp[em,Instr.mapEntry,aO<|td hT,run_getObj_map hr,hc,hf,xT hr,h1',wj,goInt,hb]
  ·rw[Lc,el];exact Er (k:=fK x) (e:=fV v0) (x:={y with key:=a.eval k}) ho FR h3 (by simpa using h4)
  ·rw[Lc,el];exact tX.1
  ·rw[Lc,el];intro b hb;rcases tX.2 b hb with h|h
   ·exact l7.2 ⟨j,fK x,fV v0,y,hl0,h1,h⟩
   ·exact h.1
  ·rw[Lc,hj];have:=(iG.1 h1).1;rw[EH this]
def Zp(bO:∀q∈c8,q∈Γ)(hT:xq P T K E=true)(hk:kX P K fK)(hz:bJ P E (F z))
 (hm:jD c8 m t)(ht:look c8 t=some (.nK K E Eb sz<|mM fK (fun v=> .val<|F v) l))(hx:Arg c8 k (fK x))(na:dd<N)(hne:dd≠t):
  Step P N ops ⟨some dd,.mapEntry T m k,ty,pos,af,none⟩ Γ ((dd,.I6 [F<|iC l x z,TI .i64<|gQ x l])::(t,.nK K E Eb sz<|mM fK (fun v=> .val<|F v)<|mz l x z)::del dd (bN t Γ)):=by
 intro w0 H0 a w H hs K' Q kk;simp only[Region.wanted,if_true];obtain⟨r,es,w8,y,e,hr,hn,OO,qb,h1,h2,h3,h4⟩:=H5 (fV:=fun v=> .val<|F v) (z:=z) hT hk (fun w=>by
  obtain⟨zv,g1,g2⟩:=hz.run w;exact⟨zv,g1,fun B H=>⟨g2 H,fun _ h=>h⟩⟩) hm ht hx<|hs.weaken bO
 obtain⟨g1,g2⟩:=HY hr hn OO h1 h2;have La:=iK hs (bO _<|ay ht) (s':= .nK K E Eb sz<|mM fK (fun v=> .val<|F v)<|mz l x z) (zM.putObj w r<| .map w8 w8.size) OO (by simp only[e];exact .inl rfl) (by simp only[e];exact g1) (fun c hc=> .inl (by
  simp only[e] at hc⊢;rcases(g2 c).1 hc with h|h
  ·subst h;exact .inl rfl
  ·exact .inr ⟨r,es,rfl,hr,h3 c h⟩))
 unfold Oper.wp;have er:(execOp a.eval ⟨some dd,.mapEntry T m k,ty,pos,af,none⟩).run P w= .ok (.value<| .tuple #[y.val,.int .i64<|gQ x l]) (w.putObj r<| .map w8 w8.size):=by
  simp only[execOp,eN,qb,eE];rfl
 rw[er,tx];obtain⟨y',k1,_,k3,_⟩:=wy h1 (j:=gQ x l) (k:=fK x) (e:= .val<|F<|iC l x z) (by simp[mM,LF]);rw[h4] at k1;cases k1;have hs3:=o9 (d:=dd) (s:= .I6 [F<|iC l x z,TI .i64<|gQ x l]) (v:= .tuple #[y.val,.int .i64<|gQ x l]) (Γ:=del dd ((t,.nK K E Eb sz<|mM fK (fun v=> .val<|F v)<|mz l x z)::bN t Γ)) (La.weaken kB) na pF (by simp[bL.bH])
  ⟨_,rfl,y.val,[.int .i64<|gQ x l],rfl,k3,_,[],rfl,rfl,rfl⟩ (fun b h=>h.elim)
 refine kk _ _ H<|hs3.weaken fun q hq=>?_
 simp only[bM] at hq⊢;rcases hq with h|h|h
 ·exact .inl h
 ·subst h;exact .inr (p6 (by simp) (fun e=>hne e.symm) (by simp[bL.bH]))
 ·have:=Ol h;exact .inr<|p6 (fC _<|kB _ h) this.1 this.2
def Qb{F:β->ard Ty}(bO:∀q∈c8,q∈Γ)(hT:xq P T K E=true)(hk:kX P K fK)(hz:(P.info? E).bind (·.zero)=some (.slice none 0 0))(hz0:F z=[])
 (hm:jD c8 m t)(ht:look c8 t=some (.nK K E Eb sz<|mM fK (fun v=> .buf<|F v) l))(hx:Arg c8 k (fK x))(na:dd<N)(hne:dd≠t):
  Step P N ops ⟨some dd,.mapEntry T m k,ty,pos,af,none⟩ Γ ((dd,.DF Eb sz (F<|iC l x z)<|gQ x l)::(t,.nK K E Eb sz<|(mM fK (fun v=> .buf<|F v)<|mz l x z).set (gQ x l) (fK x,.any))::del dd (bN t Γ)):=by
 intro w0 H0 a w H hs K' Q kk;simp only[Region.wanted,if_true];obtain⟨r,es,w8,y,e,hr,hn,OO,qb,h1,h2,h3,h4⟩:=H5 (fV:=fun v=> .buf<|F v) (z:=z) hT hk (fun w=>by
  cases hi:P.info? E with
  |none=>rw[hi] at hz;cases hz
  |some i=>
   rw[hi] at hz;exact⟨_,z7 hi hz w,fun B H=>⟨by simp only[hz0];exact Jr,fun b h=>by simp[lU.owns,Value.ownBlock] at h⟩⟩) hm ht hx<|hs.weaken bO
 obtain⟨g1,g2⟩:=HY hr hn OO h1 h2;have La:=iK hs (bO _<|ay ht) (s':= .nK K E Eb sz<|mM fK (fun v=> .buf<|F v)<|mz l x z) (zM.putObj w r<| .map w8 w8.size) OO (by simp only[e];exact .inl rfl) (by simp only[e];exact g1) (fun c hc=> .inl (by
  simp only[e] at hc⊢;rcases(g2 c).1 hc with h|h
  ·subst h;exact .inl rfl
  ·exact .inr ⟨r,es,rfl,hr,h3 c h⟩))
 unfold Oper.wp;have er:(execOp a.eval ⟨some dd,.mapEntry T m k,ty,pos,af,none⟩).run P w= .ok (.value<| .tuple #[y.val,.int .i64<|gQ x l]) (w.putObj r<| .map w8 w8.size):=by
  simp only[execOp,eN,qb,eE];rfl
 rw[er,tx]
 generalize hw':w.putObj r (.map w8 w8.size)=w' at*
 have Lb:w'.heap[r]? =some (.map w8 w8.size):=by rw[<-hw'];exact L4<|lt_of_heap hr
 have NY:(mM fK (fun v=>lU.buf<|F v)<|mz l x z)[gQ x l]? =some (fK x,.buf<|F<|iC l x z):=by simp[mM,LF]
 obtain⟨r2,es2,e2,JO,Pm,hm2,XO,anS⟩:=La.holds (t,.nK K E Eb sz<|mM fK (fun v=> .buf<|F v)<|mz l x z) (by simp);simp only[e] at e2;cases e2;rw[Lb] at JO;cases JO;obtain⟨y',k1,k2,k3,k4⟩:=wy XO NY;rw[h4] at k1;cases k1;have hlen:(mM fK (fun v=>lU.buf<|F v)<|mz l x z).length=w8.toList.length:=(zg XO).symm;have tX:=AQ (k:=fK x) (e:= .any) (x:=y) hlen NY h4 anS<|fun b hb=>hb.elim
 rw[Hx h4] at tX;have akQ:=Er (k:=fK x) (e:= .any) (x:=y) XO k2 trivial k4;rw[Hx h4] at akQ;have key:=Jo La (t:=t) (dd:=dd) (s:= .nK K E Eb sz<|mM fK (fun v=> .buf<|F v)<|mz l x z) (s':= .nK K E Eb sz<|(mM fK (fun v=> .buf<|F v)<|mz l x z).set (gQ x l) (fK x,.any)) (sd:= .DF Eb sz (F<|iC l x z)<|gQ x l) (v:= .tuple #[y.val,.int .i64<|gQ x l]) (by simp) na hne (by simp[bL.bH])
  ⟨r,w8,e,Lb,Pm,hm2,akQ,tX.1⟩ ⟨y.val,rfl,k3⟩
  (by
   simp only[e];rintro b (h|⟨r3,es3,e3,hr3,hb⟩)
   ·exact .inl h
   ·cases e3;rw[Lb] at hr3;cases hr3;rcases tX.2 b hb with h|h
    ·exact h.elim
    ·exact .inr ⟨r,w8,rfl,Lb,h.1⟩)
  (by
   simp only[e];rintro b ⟨x1,i1,e1,hb⟩;cases e1;exact .inr ⟨r,w8,rfl,Lb,l7.2 ⟨_,_,_,_,NY,h4,hb⟩⟩)
  (by
   simp only[e];rintro b ⟨x1,i1,e1,hb⟩ hb2;cases e1;rcases hb2 with hb2|⟨r3,es3,e3,hr3,hb2⟩
   ·cases hb2;exact Kl k3 hb Lb
   ·cases e3;rw[Lb] at hr3;cases hr3;rcases tX.2 b hb2 with h|h
    ·exact h
    ·exact h.2 hb)
 refine kk _ _ H<|key.weaken fun q hq=>?_
 simp only[bM] at hq⊢;rcases hq with h|h|h
 ·exact .inl h
 ·exact .inr<| .inl h
 ·have:=Ol h;refine .inr<| .inr<|p6 (lF (fC _<|kB _ h) ?_) this.1 this.2
  exact(bG q<|kB q h).2
def TK{u:Nat}{l:ard Ty}(bO:∀q∈c8,q∈Γ)(hu:look c8 u=some (.DF Eb sz l i))(na:dd<N)(hne:dd≠u):
  Step P N ops ⟨some dd,.extract (.tmp u) 0,ty,pos,af,none⟩ Γ ((dd,.buf Eb sz l)::(u,.I6 [iv 1 false,TI .i64 i])::del dd (bN u Γ)):=by
 intro w0 H0 a w H hs K' Q kk;simp only[Region.wanted,if_true];obtain⟨x,e,tN⟩:=hs.holds _<|bO _<|ay hu
 simp only at e;unfold Oper.wp;have eu:a.eval (.tmp u)= .tuple #[x,.int .i64 i]:=e;have er:(execOp a.eval ⟨some dd,.extract (.tmp u) 0,ty,pos,af,none⟩).run P w= .ok (.value x) w:=by
  simp[execOp,eu,Instr.extract]
 rw[er,tx];have hx1:x.oneCell'=true:=by
  obtain⟨xs,⟨_,hr⟩,_,_⟩:=tN;rcases hr with⟨e,_⟩|⟨g,cap,cur,e,_⟩<;>rw[e]<;>rfl
 exact kk _ _ H (Jo hs (bO _<|ay hu) na hne (by simp[bL.bH]) ⟨_,e,x,[.int .i64 i],rfl,Shape.one hx1,_,[],rfl,rfl,rfl⟩ tN (fun b h=>h.elim) (fun b h=>⟨x,_,e,h⟩)<|fun b _ h=>h.elim)
def ZZ{B:aq P}{l:ard (Ty×lU)}{es:ath MapEntry}(ho:OL B w H Eb sz 0 l es.toList)(hi:i<es.size):es.findIdx? (fun e=>(e.born:Int)==(i:Int))=some i:=by
 have hb:∀(j:Nat) (x:MapEntry),es[j]? =some x->x.born=j:=fun j x hx=>by
  have hlt:j<l.length:=by rw[<-zg ho];simpa using(wM.1 hx).1
  obtain⟨y,h1,_,_,h4⟩:=wy ho (j:=j) (k:=l[j].1) (e:=l[j].2) (by simp[hlt]);have:es[j]? =some y:=by simpa using h1
  rw[hx] at this;cases this;simpa using h4
 rw[Array.findIdx?_eq_some_iff_getElem];refine⟨hi,?_,fun j hj=>?_⟩
 ·have:=hb i es[i] (by simp[hi]);simp[this]
 ·have hj':j<es.size:=Nat.lt_trans hj hi;have:=hb j es[j] (by simp[hj']);simp[this];omega
def Dt{B:aq P}{l:ard (Ty×lU)}{es:ath MapEntry}{r:Nat}{v:apU}(hr:w.heap[r]? =some (.map es es.size))(ho:OL B w H Eb sz 0 l es.toList)(hi:i<es.size):
  (Instr.entryStore T (.map<|some r) (.int .i64 i) v).run P w= .ok () (w.putObj r<| .map (es.modify i fun e=>{e with val:=v}) es.size):=by
 simp[Instr.entryStore,run_getObj_map hr,asInt,asIntOf,ZZ ho hi,xT hr]
def Uv{s v:arc}(bO:∀q∈c8,q∈Γ)(hm:jD c8 m t)(ht:look c8 t=some (.nK K E Eb sz<|mM fK (fun v=> .val<|F v)<|mz l x z))(wj:Arg c8 s (TI .i64<|gQ x l))(hy:Arg c8 v (F y)):
  Step P N ops ⟨none,.entryStore T m s v,ty,pos,af,none⟩ Γ ((t,.nK K E Eb sz<|mM fK (fun v=> .val<|F v)<|qp l x y)::bN t Γ):=by
 intro w0 H0 a w H hs K' Q kk;simp only[Region.wanted,if_true];obtain⟨r,es,e,hr,hn,OO,ho,K8⟩:=hs.holds _<|bO _<|ay ht
 simp only at e;have K9:=hs.weaken bO;have em:a.eval m= .map (some r):=by rw[hm.ok K9];exact e
 have es_:a.eval s= .int .i64 (gQ x l):=wj.ok K9;have hyv:=hy.ok K9;have NY:(mM fK (fun v=>lU.val<|F v)<|mz l x z)[gQ x l]? =some (fK x,.val<|F<|iC l x z):=by simp[mM,LF]
 have hlt:gQ x l<es.size:=by
  have:=(iG.1 NY).1;rw[<-zg ho] at this;simpa using this
 obtain⟨y0,h1,h2,h3,h4⟩:=wy ho NY;have hlen:=(zg ho).symm;have Lc:(es.modify (gQ x l) fun e=>{e with val:=a.eval v}).toList=es.toList.set (gQ x l) {y0 with val:=a.eval v}:=by rw[vj,AZ h1]
 have tX:=AQ (k:=fK x) (e:= .val<|F y) (x:={y0 with val:=a.eval v}) hlen NY h1 K8<|fun _ h=>h.elim
 have el:mM fK (fun v=>lU.val<|F v) (qp l x y)=(mM fK (fun v=>lU.val<|F v)<|mz l x z).set (gQ x l) (fK x,.val<|F y):=by
  rw[<-TJ l x z y];simp[mM,xz]
 have hsz:(es.modify (gQ x l) fun e=>{e with val:=a.eval v}).size=es.size:=by simp
 obtain⟨g1,g2⟩:=HY (w8:=es.modify (gQ x l) fun e=>{e with val:=a.eval v}) (l':=mM fK (fun v=>lU.val<|F v)<|qp l x y) hr hn OO
  (by rw[Lc,el];exact Er (k:=fK x) (e:= .val<|F y) (x:={y0 with val:=a.eval v}) ho h2 hyv (by simpa using h4)) (by rw[Lc,el];exact tX.1)
 unfold Oper.wp;have er:(execOp a.eval ⟨none,.entryStore T m s v,ty,pos,af,none⟩).run P w= .ok .skip (w.putObj r<| .map (es.modify (gQ x l) fun e=>{e with val:=a.eval v}) es.size):=by
  simp only[execOp,em,es_,eN,Dt hr ho hlt,eE];rfl
 rw[er,vA];rw[hsz] at g1 g2;refine kk a _ H (iK hs (bO _<|ay ht) (zM.putObj w r _) OO (by simp only[e];exact .inl rfl) (by simp only[e];exact g1) fun c hc=> .inl ?_);simp only[e] at hc⊢;rcases(g2 c).1 hc with h|h
 ·subst h;exact .inl rfl
 ·rw[Lc,el] at h;rcases tX.2 c h with h|h
  ·exact h.elim
  ·exact .inr ⟨r,es,rfl,hr,h.1⟩
def KC{F:β->ard Ty}{s:arc}{u:Nat}(bO:∀q∈c8,q∈Γ)(hm:jD c8 m t)(ht:look c8 t=some (.nK K E Eb sz<|(mM fK (fun v=> .buf<|F v)<|mz l x z).set (gQ x l) (fK x,.any)))(wj:Arg c8 s (TI .i64<|gQ x l))(hu:look c8 u=some (.buf Eb sz<|F y))(hne:u≠t):
  Step P N ops ⟨none,.entryStore T m s<| .tmp u,ty,pos,af,none⟩ Γ ((t,.nK K E Eb sz<|mM fK (fun v=> .buf<|F v)<|qp l x y)::(u,.gone)::bN t (bN u Γ)):=by
 intro w0 H0 a w H hs K' Q kk;simp only[Region.wanted,if_true];obtain⟨r,es,e,hr,hn,OO,ho,K8⟩:=hs.holds _<|bO _<|ay ht
 have hub:=hs.holds _<|bO _<|ay hu
 simp only at e hub;have K9:=hs.weaken bO;have em:a.eval m= .map (some r):=by rw[hm.ok K9];exact e
 have es_:a.eval s= .int .i64 (gQ x l):=wj.ok K9;have hl0:(mM fK (fun v=>lU.buf<|F v)<|mz l x z)[gQ x l]? =some (fK x,.buf<|F<|iC l x z):=by simp[mM,LF]
 have NY:((mM fK (fun v=>lU.buf<|F v)<|mz l x z).set (gQ x l) (fK x,.any))[gQ x l]? =some (fK x,.any):=EH (iG.1 hl0).1;have hlt:gQ x l<es.size:=by
  have:=(iG.1 NY).1;rw[<-zg ho] at this;simpa using this
 obtain⟨y0,h1,h2,h3,h4⟩:=wy ho NY;have hlen:=(zg ho).symm;have Lc:(es.modify (gQ x l) fun e=>{e with val:=aV a u}).toList=es.toList.set (gQ x l) {y0 with val:=aV a u}:=by rw[vj,AZ h1]
 have ab6:∀b,(lU.buf<|F y).owns (aV a u) b-> ¬nw b ((mM fK (fun v=>lU.buf<|F v)<|mz l x z).set (gQ x l) (fK x,.any)) es.toList:=fun b hb ji=>
  hs.sep _ (bO _<|ay hu) _ (bO _<|ay ht) hne b hb (by simp only[e];exact .inr ⟨r,es,rfl,hr,ji⟩)
 have tX:=AQ (k:=fK x) (e:= .buf<|F y) (x:={y0 with val:=aV a u}) hlen NY h1 K8<|fun b h=> .inr<|ab6 b h
 have el:mM fK (fun v=>lU.buf<|F v) (qp l x y)=((mM fK (fun v=>lU.buf<|F v)<|mz l x z).set (gQ x l) (fK x,.any)).set (gQ x l) (fK x,.buf<|F y):=by
  rw[<-TJ l x z y,List.set_set];simp[mM,xz]
 have hsz:(es.modify (gQ x l) fun e=>{e with val:=aV a u}).size=es.size:=by simp
 obtain⟨g1,g2⟩:=HY (w8:=es.modify (gQ x l) fun e=>{e with val:=aV a u}) (l':=mM fK (fun v=>lU.buf<|F v)<|qp l x y) hr hn OO
  (by rw[Lc,el];exact Er (k:=fK x) (e:= .buf<|F y) (x:={y0 with val:=aV a u}) ho h2 hub (by simpa using h4)) (by rw[Lc,el];exact tX.1)
 unfold Oper.wp;have er:(execOp a.eval ⟨none,.entryStore T m s<| .tmp u,ty,pos,af,none⟩).run P w= .ok .skip (w.putObj r<| .map (es.modify (gQ x l) fun e=>{e with val:=aV a u}) es.size):=by
  have eu:a.eval (.tmp u)=aV a u:=rfl;simp only[execOp,em,es_,eu,eN,Dt hr ho hlt,eE];rfl
 rw[er,vA];rw[hsz] at g1 g2;refine kk a _ H (Pd hs (bO _<|ay ht) (bO _<|ay hu) hne (zM.putObj w r _) OO (by simp only[e];exact .inl rfl) (by simp only[e];exact g1) fun c hc=>?_);simp only[e] at hc⊢;rcases(g2 c).1 hc with h|h
 ·subst h;exact .inl<| .inl rfl
 ·rw[Lc,el] at h;rcases tX.2 c h with h|h
  ·exact .inr<| .inl h
  ·exact .inl<| .inr ⟨r,es,rfl,hr,h.1⟩
end
section
variable[D:DR]
variable{P:Program}{w0:aq P}{H0:HV}{N:Nat}{ops:Array Oper}{Q:Exit->Act->World->Prop}{Γ az:Ctx}{d:Option Tmp}{ty:TypeId}{pos:String}{af:Array Edge}{g:Option (Nat×Bool)}
variable{H:HV}{w:apT}{t:Nat}{L:ard (Ty×Ty)}{α:Type}{s s':bL}{r m it:Nat}{seen:ard Nat}{f:FuncId}{xs:ard arc}{pre c6:ard Ty}{dd:Nat}{c8:Ctx}
def Du{n:Nat}(hn:0<n)(w:apT):∃(i:Nat) (k:Nat),w.drawn<=k/\i<n/\(choose<| .mapNext n).run P w= .ok i {w with drawn:=k}:=by
 by_cases h:n<=1
 ·refine⟨0,w.drawn,bC _,hn,?_⟩;simp[choose,Sem.run,Question.forced,h]
 ·refine⟨w.tape w.drawn (.mapNext n)%n,w.drawn+1,vx _,tF _ hn,?_⟩;simp[choose,Sem.run,Question.forced,h,Question.cut]
def Nv{T:aq9}{K E:aq9}{m:arc}(hT:xq P T K E=true)(hm:Arg Γ m (adz L)):bI P Γ ⟨d,.range T m,ty,pos,af,g⟩ (.sw L []):=
 iN fun w0 _ _ a w H hs=>by
  obtain⟨r,es,e,hr,ho⟩:=hm.ok hs;have Lb:=hs.sub _ _ hr;refine⟨.pointer<|some ⟨w.heap.size,0,none⟩,w.alloc<| .mapIter (some r) es.size #[] es.size,H,?_,Ext.alloc hs.sub _,?_,?_⟩
  ·simp[execOp,Instr.range,e,aO<|td hT,run_getObj_map Lb,newObj];rfl
  ·refine⟨w.heap.size,r,es,#[],rfl,rO w _,?_,.inl hs.below.size,hr,ho,rfl⟩;cases hh:H w.heap.size with
   |none=>rfl
   |some o=>have:=wU hs.sub hh;omega
  ·rintro b ⟨ad,e,hb⟩;cases e;simp at hb;omega
def Rr{H:HV}:∀{i:Nat} {l:ard (Ty×Ty)} {es:ard MapEntry},okM H i l es->es.length=l.length
 |_,[],[],_=>rfl
 |_,[],_::_,h=>h.elim
 |_,(_,_)::_,[],h=>h.elim
 |_,(_,_)::_,_::_,⟨_,_,_,h⟩=>by simp[Rr h]
def Rs{H:HV}:∀{i:Nat} {l:ard (Ty×Ty)} {es:ard MapEntry} {j:Nat} {x:MapEntry},okM H i l es->es[j]? =some x->∃k e,l[j]? =some (k,e)/\k.ok H x.key/\e.ok H x.val/\x.born=i+j
 |_,[],[],_,_,_,h=>by simp at h
 |_,[],_::_,_,_,h,_=>h.elim
 |_,(_,_)::_,[],_,_,h,_=>h.elim
 |i,(k,e)::l,x::xs,0,y,⟨h1,h2,h3,h4⟩,h=>by
  simp at h;subst h;exact⟨k,e,rfl,h1,h2,by simpa using h3⟩
 |i,(k,e)::l,x::xs,j+1,y,⟨h1,h2,h3,h4⟩,h=>by
  obtain⟨k',e',g1,g2,g3,g4⟩:=Rs h4 (by simpa using h);exact⟨k',e',by simpa using g1,g2,g3,by omega⟩
def Cx{since last:Nat}{seen:ath Nat}(h:w.heap[r]? =some (.mapIter (some m) since seen last)):(getObj r).run P w= .ok (.mapIter (some m) since seen last) w:=by
 simp[getObj,Sem.run,h]
def K5{o:Obj}{since last:Nat}{seen:ath Nat}(h:w.heap[r]? =some (.mapIter (some m) since seen last)):(setObj r o).run P w= .ok () (w.putObj r o):=by
 simp[setObj,Sem.run,h];rfl
def abx{es:ath MapEntry}{sn:ath Nat}{ty:aq9}(hr:w.heap[r]? =some (.mapIter (some m) es.size sn es.size))(hm:w.heap[m]? =some (.map es es.size))(ho:okM H 0 L es.toList):
  ((∀j,j<L.length->j∈sn.toList)/\∃k,w.drawn<=k/\(Instr.next (.pointer<|some ⟨r,0,none⟩) false ty).run P w= .ok (.tuple #[.bool false]) {w with drawn:=k})\/
  ∃j x k,j<L.length/\j∉sn.toList/\es[j]? =some x/\w.drawn<=k/\(Instr.next (.pointer<|some ⟨r,0,none⟩) false ty).run P w= .ok (.tuple #[.bool true,x.key,x.val]) (World.putObj {w with drawn:=k} r<| .mapIter (some m) es.size (sn.push j) es.size):=by
 have hlen:=Rr ho;have Qo:∀(j:Nat) (x:MapEntry),es[j]? =some x->x.born=j:=fun j x hx=>by
  obtain⟨_,_,_,_,_,h⟩:=Rs ho (j:=j) (x:=x) (by simpa using hx);simpa using h
 have hbl:∀e∈es,e.born<es.size:=fun e he=>by
  obtain⟨j,hj,e1⟩:=Array.getElem_of_mem he;have:=Qo j e (by simp[hj,e1]);omega
 have agG:(!sn.isEmpty&& !es.isEmpty&&es.all (·.born>=es.size))=false:=by
  cases hes:es.isEmpty
  ·simp only[LM,Ip];have hpos:0<es.size:=by
    cases h:es.size with
    |zero=>rw[Array.isEmpty_iff_size_eq_zero.2 h] at hes;cases hes
    |succ n=>omega
   have:es.all (·.born>=es.size)=false:=by
    rw[Array.all_eq_false'];refine⟨es[0],by simp,?_⟩;have:=hbl es[0] (by simp);simp;omega
   simp[this]
  ·simp
 generalize XP:es.filter (fun e=> !sn.contains e.born)=left
 have hlm:∀e∈left,e∈es/\sn.contains e.born=false:=fun e he=>by
  rw[<-XP] at he;simpa using Array.mem_filter.1 he
 have hold:left.filter (·.born<es.size)=left:=by
  rw[Array.filter_eq_self];exact fun e he=>by simpa using hbl e (hlm e he).1
 have RY:left.filter (·.born>=es.size)= #[]:=by
  rw[Array.filter_eq_empty_iff];intro e he;have:=hbl e (hlm e he).1;simp;omega
 have rW:=Cx (P:=P) hr;have hg2:=run_getObj_map (P:=P) hm;by_cases afA:left= #[]
 ·left;refine⟨fun j hj=>?_,?_⟩
  ·have hj':j<es.size:=by rw[<-hlen] at hj;simpa using hj
   have hb:=Qo j es[j] (by simp[hj']);apply nF;intro hn;have:es[j]∈left:=by
    rw[<-XP];refine Array.mem_filter.2 ⟨by simp,?_⟩;rw[hb];simpa using hn
   rw[afA] at this;simp at this
  ·obtain⟨i,k,hk,hi,hc⟩:=Du (P:=P) (n:=1) (by omega) w;have:i=0:=by omega
   subst this;refine⟨k,hk,?_⟩;unfold Instr.next
   simp only[eN,rW,eE,hg2,agG,B4,if_false,XP,hold,RY];rw[afA];simp only[Array.isEmpty_empty,if_true,Array.append_empty,Array.map_empty,Iy,List.length_cons,BY,vy,hc,eE]
   rfl
 ·right;have hpos:0<left.size:=by
   cases h:left.size with
   |zero=>exact absurd (Array.eq_empty_of_size_eq_zero h) afA
   |succ n=>omega
  obtain⟨i,k,hk,hi,hc⟩:=Du (P:=P) (n:=left.size) hpos w;have ZF:=hlm left[i] (by simp);obtain⟨j,hj,e1⟩:=Array.getElem_of_mem ZF.1;have hb:=Qo j left[i] (by simp[hj,e1]);have Lb:World.heap {w with drawn:=k}=w.heap:=rfl;refine⟨j,left[i],k,by rw[<-hlen];simpa using hj,?_,by simp[hj,e1],hk,?_⟩
  ·have:=ZF.2;rw[hb] at this;simpa using this
  ·have hne:left.isEmpty=false:=by
    cases h:left.isEmpty
    ·rfl
    ·rw[Array.isEmpty_iff] at h;exact absurd h afA
   have tX:=K5 (P:=P) (w:={w with drawn:=k}) (o:= .mapIter (some m) es.size (sn.push left[i].born) es.size) hr;rw[hb] at tX;unfold Instr.next
   simp only[eN,rW,eE,hg2,agG,B4,if_false,XP,hold,RY,hne,Array.append_empty,Array.empty_append,Array.size_map,hc,eE];have:(Array.map some left)[i]? =some (some left[i]):=by simp[hi]
   simp only[this,hb,eN,tX,eE]
   rfl
def Wg{dn de id:Nat}{ts:ard Nat}{pL:Ctx}{ty O8:aq9}{pos pos':String}{af Pw:ath Edge}(hit:look Γ it=some (.sw L seen))(Cd:uX Γ ts pL)
 (hN:(Nat.blt dn N&&Nat.blt de N&&(dn !=it)&&(de !=it)&&(de !=dn))=true)(hf:(pL.all fun p=>p.1 !=it&&p.1 !=dn&&p.1 !=de&&p.2.bH.all (fun t=>t !=dn&&t !=de&&t !=it))=true)
 (kt:∀j,j<L.length->j∉seen->lV w0 H0 N (Q .normal) ((de,.val<|aY true)::(it,.sw L<|seen++[j])::pL))(kf:(∀j,j<L.length->j∈seen)->lV w0 H0 N (Q .normal) ((de,.val<|aY false)::pL)):
  Goal P w0 H0 N (.region id #[⟨some dn,.next (.tmp it) false,ty,pos,af,none⟩,⟨some de,.extract (.tmp dn) 0,O8,pos',Pw,none⟩] false) Q Γ:=by
 intro a w H hs;simp only[bV,oj,ne_eq] at hN;obtain⟨⟨⟨⟨h1,h2⟩,h3⟩,h4⟩,h5⟩:=hN;have hdn:=bU h1;have hde:=bU h2;obtain⟨r,m,es,sn,e,hr,hn,OO,hm,ho,hsn⟩:=hs.holds _<|ay hit
 simp only at e;have fr:∀q∈pL,q∈Γ/\q.1≠it/\q.1≠dn/\q.1≠de/\dn∉q.2.bH/\de∉q.2.bH/\it∉q.2.bH:=fun q hq=>by
  have:=db.1 hf q hq;simp only[bV,oj,ne_eq,db] at this;obtain⟨⟨⟨k1,k2⟩,k3⟩,k4⟩:=this;exact⟨Cd.sub q hq,k1,k2,k3,fun h=>(k4 _ h).1.1 rfl,fun h=>(k4 _ h).1.2 rfl,fun h=>(k4 _ h).2 rfl⟩
 have ei:a.eval (.tmp it)= .pointer (some ⟨r,0,none⟩):=e;refine wpIn_region_lit ?_;have fin:∀(vs:ard apU) (b:Bool) (w':apT) (G:Ctx),(∀q∈G,q.1≠dn/\q.1≠de/\dn∉q.2.bH/\de∉q.2.bH)->Sat w0 H0 N G a w' H->vs.head?=some (.bool b)->lV w0 H0 N (Q .normal) ((de,.val<|aY b)::G)->
   wpListIn (hC w0.rd) 0 P #[⟨some dn,.next (.tmp it) false,ty,pos,af,none⟩,⟨some de,.extract (.tmp dn) 0,O8,pos',Pw,none⟩] Q [⟨some de,.extract (.tmp dn) 0,O8,pos',Pw,none⟩] (a.put (some dn)<| .tuple vs.toArray) w':=by
  intro vs b w' G hG hS hv kk;unfold wpListIn;have hw:Region.wanted (⟨some de,.extract (.tmp dn) 0,O8,pos',Pw,none⟩:Oper) (yielded #[⟨some dn,.next (.tmp it) false,ty,pos,af,none⟩,⟨some de,.extract (.tmp dn) 0,O8,pos',Pw,none⟩] (a.put (some dn)<| .tuple vs.toArray).tmps)=true:=rfl;rw[if_pos hw];refine HM (fun c e=>by cases e) ?_;unfold Oper.wp;have ed:(a.put (some dn)<| .tuple vs.toArray).eval (.tmp dn)= .tuple vs.toArray:=sD (by rw[hs.sz];exact hdn);have VX:vs[0]? =some (.bool b):=by rw[<-List.head?_eq_getElem?];exact hv
  have er:(execOp (a.put (some dn)<| .tuple vs.toArray).eval ⟨some de,.extract (.tmp dn) 0,O8,pos',Pw,none⟩).run P w'= .ok (.value<| .bool b) w':=by
   simp[execOp,ed,Instr.extract,VX]
  rw[er,tx];unfold wpListIn;have La:=o9 (s:= .gone) (v:= .tuple vs.toArray) hS hdn (by
   simp only[mK,db,bV,oj,ne_eq];exact fun q hq=>⟨(hG q hq).1,by simpa using(hG q hq).2.2.1⟩) (by simp[bL.bH]) trivial<|fun b h=>h.elim
  have hs3:=o9 (s:= .val<|aY b) (v:= .bool b) (La.weaken (az:=G) fun q hq=>fC _ hq) hde (by
   simp only[mK,db,bV,oj,ne_eq];exact fun q hq=>⟨(hG q hq).2.1,by simpa using(hG q hq).2.2.2⟩) (by simp[bL.bH]) rfl<|fun b h=>h.elim
  exact kk _ w' H hs3
 unfold wpListIn;have hw:Region.wanted (⟨some dn,.next (.tmp it) false,ty,pos,af,none⟩:Oper) (yielded #[⟨some dn,.next (.tmp it) false,ty,pos,af,none⟩,⟨some de,.extract (.tmp dn) 0,O8,pos',Pw,none⟩] a.tmps)=true:=rfl;rw[if_pos hw];refine HM (fun c e=>by cases e) ?_;unfold Oper.wp;rcases abx (P:=P) (ty:=ty) hr (hs.sub _ _ hm) ho with⟨hall,k,hk,qb⟩|⟨j,x,k,hj,hjn,hx,hk,qb⟩
 ·have er:(execOp a.eval ⟨some dn,.next (.tmp it) false,ty,pos,af,none⟩).run P w= .ok (.value<| .tuple #[.bool false]) {w with drawn:=k}:=by
   simp only[execOp,ei,eN,qb,eE];rfl
  rw[er,tx];have he:Ext w H {w with drawn:=k} H:=⟨⟨⟨rfl,rfl,rfl,bC _,fun _ _=>rfl⟩,GN.of hk⟩,HV.le.refl _,fun _ _=>rfl,hs.sub⟩;exact fin [.bool false] false _ pL (fun q hq=>⟨(fr q hq).2.2.1,(fr q hq).2.2.2.1,(fr q hq).2.2.2.2.1,(fr q hq).2.2.2.2.2.1⟩) (Dp (hs.weaken Cd.sub) he) rfl (kf (by rw[<-hsn];exact hall))
 ·have er:(execOp a.eval ⟨some dn,.next (.tmp it) false,ty,pos,af,none⟩).run P w= .ok (.value<| .tuple #[.bool true,x.key,x.val]) (World.putObj {w with drawn:=k} r<| .mapIter (some m) es.size (sn.push j) es.size):=by
   simp only[execOp,ei,eN,qb,eE];rfl
  rw[er,tx];have hg:zM w (World.putObj {w with drawn:=k} r<| .mapIter (some m) es.size (sn.push j) es.size) (some r):=
   ⟨⟨rfl,rfl,rfl,by simp,fun i _ hi=>by rw[IC (fun e=>hi (by rw[e]))]⟩,GN.of hk⟩
  have Lb:(World.putObj {w with drawn:=k} r<| .mapIter (some m) es.size (sn.push j) es.size).heap[r]? =some (.mapIter (some m) es.size (sn.push j) es.size):=L4<|lt_of_heap hr
  have La:=iK (s':= .sw L<|seen++[j]) hs (ay hit) hg OO ⟨_,e,rfl⟩ ⟨r,m,es,sn.push j,e,Lb,hn,OO,hm,ho,by simp[hsn]⟩<|fun c hc=> .inl hc
  exact fin [.bool true,x.key,x.val] true _ ((it,.sw L<|seen++[j])::pL) (fun q hq=>by
    rcases bM.1 hq with e|hq
    ·subst e;exact⟨fun e=>h3 e.symm,fun e=>h4 e.symm,by simp[bL.bH],by simp[bL.bH]⟩
    ·exact⟨(fr q hq).2.2.1,(fr q hq).2.2.2.1,(fr q hq).2.2.2.2.1,(fr q hq).2.2.2.2.2.1⟩)
   (La.weaken fun q hq=>by
    rcases bM.1 hq with e|hq
    ·subst e;simp
    ·exact fC _<|lF (fr q hq).1 (fr q hq).2.1) rfl (kt j hj (by rw[<-hsn];exact hjn))
def Ny{j:Nat}{k e:Ty}(hit:look Γ it=some (.sw L<|seen++[j]))(hj:L[j]? =some (k,e)):bI P Γ ⟨d,.entry<| .tmp it,ty,pos,af,g⟩ (.I6 [k,e]):=
 bb fun w0 _ _ a w H hs=>by
  obtain⟨r,m,es,sn,ev,hr,hn,OO,hm,ho,hsn⟩:=hs.holds _<|ay hit
  simp only at ev;have ei:a.eval (.tmp it)= .pointer (some ⟨r,0,none⟩):=ev;have hm':=hs.sub _ _ hm;have Qo:∀(i:Nat) (x:MapEntry),es[i]? =some x->x.born=i:=fun i x hx=>by
   obtain⟨_,_,_,_,_,h⟩:=Rs ho (j:=i) (x:=x) (by simpa using hx);simpa using h
  have hlt:j<es.size:=by
   have:=(iG.1 hj).1;rw[<-Rr ho] at this;simpa using this
  obtain⟨k',e',h1,h2,h3,_⟩:=Rs ho (j:=j) (x:=es[j]) (by simp[hlt]);rw[hj] at h1;cases h1;have acr:sn.back?=some j:=by
   have:sn=(seen++[j]).toArray:=by rw[<-hsn]
   rw[this];simp
  have alh:es.find? (fun x=>x.born==j)=some es[j]:=by
   rw[Array.find?_eq_some_iff_getElem];refine⟨by simpa using Qo j es[j] (by simp[hlt]),j,hlt,rfl,fun i hi=>?_⟩;have:=Qo i es[i] (by simp[Nat.lt_trans hi hlt]);simp[this];omega
  refine⟨.tuple #[es[j].key,es[j].val],?_,⟨_,rfl,_,_,rfl,h2,_,[],rfl,h3,rfl⟩,rfl⟩;simp[execOp,ei,Instr.entry,Cx hr,run_getObj_map hm',acr,alh]
def FI{α σ:Type}(f:α->σ->atg σ):ard α->σ->atg σ
 |[],s=>some s
 |x::l,s=>bd (f x s)<|FI f l
def Fa{α σ ρ:Type}(f:α->σ->atg σ)(l:ard α)(s:σ)(K:σ->atg ρ):atg ρ:=bd (FI f l s) K
def apV{P:arb}{α σ:Type}(w0:aq P)(H0:HV)(N it:Nat)(l:ard α)(enc:α->Ty×Ty)(f:α->σ->atg σ)(c8:σ->Ctx)(seen:ard Nat)(s:σ)(a:Act)(w:apT):Prop:=
 ∃j x s',l[j]? =some x/\j∉seen/\f x s=some s'/\∃H,Sat w0 H0 N ((it,.sw (l.map enc)<|seen++[j])::c8 s') a w H
def FP{α:Type}(l:ard α)(seen:ard Nat):ard α:=((List.range l.length).filter fun j=> !seen.contains j).filterMap fun j=>l[j]?
def Gf{l:ard α}{j:Nat}{x:α}(hj:l[j]? =some x)(hn:j∉seen):(x::FP l (seen++[j])).Perm (FP l seen):=by
 have hlt:=(iG.1 hj).1;have key:((List.range l.length).filter fun i=> !seen.contains i).Perm (j::(List.range l.length).filter fun i=> !(seen++[j]).contains i):=by
  have Pl:((List.range l.length).filter fun i=> !seen.contains i).Nodup:=List.nodup_range.filter _;have ZF:j∈(List.range l.length).filter fun i=> !seen.contains i:=by simp[hlt,hn]
  have h1:=List.perm_cons_erase ZF;refine h1.trans<|List.Perm.cons _ ?_
  rw[Pl.erase_eq_filter,List.filter_filter];refine List.Perm.of_eq<|List.filter_congr fun i _=>?_
  by_cases e:i=j
  ·subst e;simp
  ·simp[e]
 have h2:=(key.filterMap fun i=>l[i]?).symm;simpa[FP,hj] using h2
def PW{α:Type}:∀(l pre:ard α),(List.range' pre.length l.length).filterMap (fun j=>(pre++l)[j]?)=l
 |[],_=>rfl
 |x::l,pre=>by
  have ih:=PW l<|pre++[x]
  simp only[List.length_append,List.length_singleton,rQ,List.singleton_append] at ih;simp only[List.length_cons,List.range'_succ,List.filterMap_cons];rw[Aq<|bC _,Nat.sub_self];simp only[List.getElem?_cons_zero,ih]
def Zr(l:ard α):FP l []=l:=by
 have:=PW l [];simp only[BY,zz] at this;unfold FP;have e:List.filter (fun j=> !([]:ard Nat).contains j) (List.range l.length)=List.range l.length:=List.filter_eq_self.2<|fun j _=>rfl
 rw[e,List.range_eq_range'];exact this
def R6{σ ρ:Type}{l:ard α}(enc:α->Ty×Ty){f:α->σ->atg σ}{K:σ->atg ρ}{s0:σ}{r:ρ}(c8:σ->Ctx){c:Code}{ts:ard Nat}(hall:∀π,π.Perm l->Fa f π s0 K=some r)(h0:uX Γ ts ((it,.sw (l.map enc) [])::c8 s0))
 (round:∀(seen:ard Nat) (s:σ),(∀j x,l[j]? =some x->j∉seen->∃s',f x s=some s')->((∀j,j<(l.map enc).length->j∈seen)->K s=some r)->
 Goal P w0 H0 N c (Exit.then (apV w0 H0 N it l enc f c8 seen s) Q) ((it,.sw (l.map enc) seen)::c8 s)):Goal P w0 H0 N (.loop c) Q Γ:=by
 intro a w H hs;refine wp_loop_ghost (fun(i:ard Nat×σ) a w=>(∀π,π.Perm (FP l i.1)->Fa f π i.2 K=some r)/\∃H,Sat w0 H0 N ((it,.sw (l.map enc) i.1)::c8 i.2) a w H) (fun i=>(FP l i.1).length) ([],s0) ⟨fun π hπ=>hall π (hπ.trans (by rw[Zr])),H,hs.weaken h0.sub⟩ ?_
 ·rintro⟨seen,s⟩ a w ⟨hI,H,hs⟩;refine BR (round seen s (fun j x hj hn=>?_) (fun hd=>?_) a w H hs) fun e a' w' q=>?_
  ·have h1:=hI (x::FP l (seen++[j])) (Gf hj hn);unfold Fa at h1;simp only[FI] at h1;obtain⟨s1,h2,_⟩:=ab h1;obtain⟨s2,h3,_⟩:=ab h2;exact⟨s2,h3⟩
  ·have:FP l seen=[]:=by
    unfold FP;have:((List.range l.length).filter fun j=> !seen.contains j)=[]:=List.filter_eq_nil_iff.2 fun j hj=>by
     have:=hd j (by simpa using hj);simp[this]
    rw[this];rfl
   have h1:=hI [] (by rw[this]);exact h1
  ·cases e with
   |normal=>
    obtain⟨j,x,s',hj,hn,hf,H',oV⟩:=q;refine⟨(seen++[j],s'),⟨fun π hπ=>?_,H',oV⟩,?_⟩
    ·have h1:=hI (x::π) ((hπ.cons x).trans<|Gf hj hn);unfold Fa at h1⊢;simp only[FI] at h1;rw[hf] at h1;exact h1
    ·have:=(Gf hj hn).length_eq;simp at this;simp only;omega
   |_=>exact q
def aq.JH(P:arb)(w:apT)(X:Nat->Prop):aq P:=⟨w,X,none,false,[],0,jc _,fun _ _=>jc _⟩
def Si:Act:=⟨#[],[]⟩
structure fF(P:arb)(f:FuncId)(pre:ard Ty)(s s':bL)(post:ard Ty)(c6:ard Ty):Prop where
 can:dY P f=true
 run:∀(w:apT) (H:HV) (v:apU) (ps qs:ard apU),(∀r o,H r=some o->w.heap[r]? =some o)->pI P H->BF H pre ps->BF H post qs->s.holds (aq.JH P w fun b=>s.owns w v b) Si w H v->
  Calls P f (ps++v::qs).toArray w fun e w'=>∃r,e= .returned r/\∃H',I2 (fun b=>s.owns w v b) w H w' H'/\s'.holds (aq.JH P w fun b=>s.owns w v b) Si w' H' v/\(∀b,s'.owns w' v b->s.owns w v b\/w.heap.size<=b)/\vO H' c6 r
inductive dZ(Γ:Ctx):arc->Nat->Prop where
 |own {t:Nat}:dZ Γ (.tmp t) t
 |same {u t:Nat} (h:look Γ u=some (.same t)):dZ Γ (.tmp u) t
 |ptr {u t:Nat} (h:look Γ u=some (.ptr t 0)):dZ Γ (.tmp u) t
def dZ.ok{x:arc}(h:dZ Γ x t){a:Act}(hs:Sat w0 H0 N Γ a w H):a.eval x=aV a t:=by
 cases h with
 |own=>rfl
 |same h=>exact hs.holds _<|ay h
 |ptr h=>
  obtain⟨b,e1,e2⟩:=hs.holds _<|ay h
  simp only at e1 e2;rw[e1];exact e2
def Ta{a:Act}{w':apT}{H':HV}(hs:Sat w0 H0 N Γ a w H)(ht:(t,s)∈Γ)(hi:s.iU=false)(hi':s'.iU=false)(NV:∀q∈bN t Γ,q.2.iU=true->∀b,s.owns w (aV a t) b->w0.lo<=b)
 (hy:I2 (fun b=>s.owns w (aV a t) b) w H w' H')(oV:s'.holds w0 a w' H' (aV a t))(ho:∀b,s'.owns w' (aV a t) b->s.owns w (aV a t) b\/w.heap.size<=b):Sat w0 H0 N ((t,s')::bN t Γ) a w' H':=by
 have wj:=hs.holds _ ht;have mg:∀b,s.owns w (aV a t) b->w0.mg b:=fun b hb=>bL.qO hi wj hb
 have other:∀q∈bN t Γ,∀b,q.2.owns w (aV a q.1) b-> ¬s.owns w (aV a t) b:=fun q hq b hb ji=>hs.sep _ ht q (bG q hq).1 (fun e=>(bG q hq).2 e.symm) b ji hb
 have key:∀q∈bN t Γ,q.2.holds w0 a w' H' (aV a q.1)/\∀b,q.2.owns w' (aV a q.1) b↔q.2.owns w (aV a q.1) b:=fun q hq=>by
  refine bL.uT (n:=w0.lo) (hs.holds q (bG q hq).1) (fun _=>rfl) ?_;have kp:∀b,b<w.heap.size->(b<w0.lo\/q.2.owns w (aV a q.1) b)->w'.heap[b]? =w.heap[b]? /\H' b=H b:=fun b hb h=>hy.kF b hb (fun h2=>by
   rcases h with h|h
   ·have:=aq.xp (mg b h2);omega
   ·exact other q hq b h h2)
  exact⟨hy.size,hy.os,hy.tape,hy.output,hy.drawn,hy.le,fun b hb h=>(kp b hb h).1,fun b hb h=>(kp b hb h).2,hy.sub⟩
 refine⟨?_,hs.sz,?_,?_,hy.sub,?_,?_,hs.gl.mono hy.le⟩
 ·refine hs.nd.kept fun D _ h1 h2=>?_
  have hn: ¬s.owns w (aV a t) D:=fun hm=>by
   obtain⟨_,_,o,ho,V4⟩:=bL.lE wj hm;rw[h1] at ho;cases ho;exact V4
  have:=hy.kF D (lt_of_heap h1) hn;exact⟨by rw[this.1];exact h1,by rw[this.2];exact h2⟩
 ·refine⟨hy.os.trans hs.below.os,hy.tape.trans hs.below.tape,hy.output.trans hs.below.output,fc hs.below.drawn hy.drawn,fc hs.below.size hy.size,fun hv k hk hx=>?_⟩;rw[(hy.kF k (nD hk hs.below.size) (fun h=>by
   rcases mg k h with h|h
   ·omega
   ·exact hx h)).1]
  exact hs.below.block hv k hk hx
 ·intro hv r hr hx;rw[(hy.kF r (nD hr hs.below.size) (fun h=>by
   rcases mg r h with h|h
   ·omega
   ·exact hx h)).2]
  exact hs.I7 hv r hr hx
 ·intro q hq;rcases bM.1 hq with e|hq
  ·subst e;exact oV
  ·exact(key q hq).1
 ·have low:∀q∈bN t Γ,∀b,q.2.owns w' (aV a q.1) b-> ¬s'.owns w' (aV a t) b:=fun q hq b hb hm=>by
   have hb:=((key q hq).2 b).1 hb;rcases ho b hm with h|h
   ·exact other q hq b hb h
   ·have:=(bL.lE (hs.holds q (bG q hq).1) hb).1;omega
  intro q hq r hr hne b hb ji;rcases bM.1 hq with e|hq<;>rcases bM.1 hr with e'|hr
  ·subst e;subst e';exact hne rfl
  ·subst e;exact low r hr b ji hb
  ·subst e';exact low q hq b hb ji
  ·exact hs.sep q (bG q hq).1 r (bG r hr).1 hne b (((key q hq).2 b).1 hb)<|((key r hr).2 b).1 ji
def NK{o:Oper}{ys:ard arc}{post:ard Ty}(bO:∀q∈c8,q∈Γ)(hf:fF P f pre s s' post c6)(hod:(o.dst,o.guard)=(some dd,none))(hoe:∀{w0:aq P} {H0:HV} {N:Nat} {a:Act} {w:apT} {H:HV},Sat w0 H0 N c8 a w H->execOp a.eval o=callFunc f (xs.map a.eval++aV a t::ys.map a.eval).toArray)(ht:look c8 t=some s)(hi:(s.iU||s'.iU)=false)(hl:s.bH=[])(UX:s'.bH=[])
 (ha:aJ c8 xs pre)(hb:aJ c8 ys post)(na:dd<N)(hne:dd≠t):
  Step P N ops o Γ ((dd,sW c6)::(t,s')::del dd (bN t Γ)):=by
 intro w0 H0 a w H hs K Q k;have hg:o.guard=none:=congrArg Prod.snd hod;have hd:o.dst=some dd:=congrArg Prod.fst hod;simp only[Region.wanted,hg,if_true];simp only[wI] at hi;have K9:=hs.weaken bO;have wj:=hs.holds _<|bO _<|ay ht
 simp only at wj;unfold Oper.wp;rw[hoe K9,jo hf.can,BZ,hd];have anR:s.holds (aq.JH P w fun b=>s.owns w (aV a t) b) Si w H (aV a t):=
  bL.nX (a:=a) (fun t h=>by rw[hl] at h;cases h) (bL.pz hi.1 wj fun b hb=> .inr hb)
 refine(hf.run w H _ _ _ hs.sub hs.gl (ha.ok K9) (hb.ok K9) anR).mono ?_;rintro e w' ⟨r,rfl,H',hy,oV,ho,hr⟩;have anU:s'.holds w0 a w' H' (aV a t):=bL.nX (a:=Si) (fun t h=>by rw[UX] at h;cases h) (bL.pz hi.2 oV fun b hb=>by
  rcases ho b hb with h|h
  ·exact bL.qO hi.1 wj h
  ·exact .inl<|fc hs.below.size h)
 have h1:=Ta hs (bO _<|ay ht) hi.1 hi.2 (fun q hq _ b hb=>aq.xp<|bL.qO hi.1 wj hb) hy anU ho;have h2:=o9 (h1.weaken (az:=del dd ((t,s')::bN t Γ)) kB) na pF (s:=sW c6) (v:=r) (by
  match c6 with
  |[]=>simp[sW,bL.bH]
  |[_]=>simp[sW,bL.bH]
  |_::_::_=>simp[sW,bL.bH]) (rL hr)<|fun b e=>absurd e<|bL.free_spec uy
 refine k _ w' H'<|h2.weaken fun q hq=>?_
 simp only[bM] at hq⊢;rcases hq with h|h|h
 ·exact .inl h
 ·subst h;exact .inr (p6 (by simp) (fun e=>hne e.symm) (by simp only;rw[UX];simp))
 ·have:=Ol h;exact .inr<|p6 (fC _<|kB _ h) this.1 this.2
def Qe{x:arc}{ys:ard arc}{r9:ath aq9}{post:ard Ty}(bO:∀q∈c8,q∈Γ)(hf:fF P f pre s s' post c6)(hx:dZ c8 x t)(ht:look c8 t=some s)(hi:(s.iU||s'.iU)=false)(hl:s.bH=[])(UX:s'.bH=[])
 (ha:aJ c8 xs pre)(hb:aJ c8 ys post)(na:dd<N)(hne:dd≠t):
  Step P N ops ⟨some dd,.call ⟨.value<| .func f,(xs++x::ys).toArray,r9⟩,ty,pos,af,none⟩ Γ ((dd,sW c6)::(t,s')::del dd (bN t Γ)):=by
 refine NK bO hf rfl (fun{_ _ _ a _ _} K9=>?_) ht hi hl UX ha hb na hne;have e:execOp a.eval ⟨some dd,.call ⟨.value<| .func f,(xs++x::ys).toArray,r9⟩,ty,pos,af,none⟩=callFunc f (#[]++(xs++x::ys).toArray.map a.eval++ #[]):=rfl;rw[e]
 congr 1
 simp[hx.ok K9]
def abF{r9:ath aq9}{c:Nat}(bO:∀q∈c8,q∈Γ)(hf:fF P f pre s s' [] c6)(hc:look c8 c=some (.vec (some f) [t]))(ht:look c8 t=some s)(hi:(s.iU||s'.iU)=false)(hl:s.bH=[])(UX:s'.bH=[])
 (ha:aJ c8 xs pre)(na:dd<N)(hne:dd≠t):
  Step P N ops ⟨some dd,.call ⟨.value<| .tmp c,xs.toArray,r9⟩,ty,pos,af,none⟩ Γ ((dd,sW c6)::(t,s')::del dd (bN t Γ)):=by
 refine NK (ys:=[]) bO hf rfl (fun{_ _ _ a _ _} K9=>?_) ht hi hl UX ha aJ.nil na hne;have ec:a.eval (.tmp c)= .func (.func f) #[] #[aV a t]:=K9.holds _<|ay hc
 have e:execOp a.eval ⟨some dd,.call ⟨.value<| .tmp c,xs.toArray,r9⟩,ty,pos,af,none⟩=callFunc f (#[]++xs.toArray.map a.eval++ #[aV a t]):=by
  simp only[execOp,resolve,ec,Deferred.ofValue,pure_bind]
  rfl
 rw[e]
 congr 1
 simp
end
section
variable[D:DR]
variable{P:Program}{w0:aq P}{H0:HV}{N:Nat}{Q:Exit->Act->World->Prop}{Γ az:Ctx}
variable{fn:Func}{c6:ard Ty}{s s':bL}{rs:ard ResultVar}{w1:apT}{v:apU}{i:Nat}
def amt(P:arb)(w:apT)(H:HV)(v:apU)(s s':bL)(c6:ard Ty)(e:Ending)(w':apT):Prop:=
 ∃r,e= .returned r/\∃H',I2 (fun b=>s.owns w v b) w H w' H'/\s'.holds (aq.JH P w fun b=>s.owns w v b) Si w' H' v/\(∀b,s'.owns w' v b->s.owns w v b\/w.heap.size<=b)/\vO H' c6 r
def Yn(P:arb)(fn:Func)(w:apT)(H:HV)(v:apU)(s s':bL)(c6:ard Ty):Exit->Act->apT->Prop:=bodyPostM (hC none) 0 P fn<|amt P w H v s s' c6
def Qd(hw0:w0=aq.JH P w1 fun b=>s.owns w1 v b)(NV:∀b,s.owns w1 v b->H0 b=none)(hlt:∀r o,H0 r=some o->r<w1.heap.size)(hr:fn.results=rs.toArray)(h:bu P Γ rs c6)(oV:look Γ i=some s')(hp:look Γ N=some (.OK i v))(hi:s'.iU=false)(hl:s'.bH=[])
 {a:Act}{w:apT}{H:HV}(hs:Sat w0 H0 N Γ a w H):LeavesInM (hC none) 0 P fn a.tmps (amt P w1 H0 v s s' c6) a.defers .returning w:=by
 subst hw0;refine sy rfl rfl (a:=a) (ds:=a.defers) hs fun w H hs=>?_
 obtain⟨vs,h1,h2⟩:=h.run hs;have hlen:=zf h2;rw[xV hr];simp only[eN,Sem.run_map,h1,eE,ot];have hv:aV a i=v:=hs.holds _<|ay hp
 have wj:=hs.holds _<|ay oV
 simp only at wj;have ea:aV {a with defers:=[]} i=v:=hv;rw[ea] at wj;refine⟨_,rfl,_,rfl,H,⟨hs.below.size,hs.below.os,hs.below.tape,hs.below.output,hs.below.drawn,?_,?_,hs.sub⟩,bL.nX (fun t h=>by rw[hl] at h;cases h) wj,?_,?_⟩
 ·intro r o ho;rw[hs.I7 rfl r (hlt r o ho) (fun hx=>by have:=NV r hx;rw[this] at ho;cases ho)];exact ho
 ·exact fun b hb hx=>⟨hs.below.block rfl b hb hx,hs.I7 rfl b hb hx⟩
 ·intro b hb;rcases bL.qO hi wj hb with h|h
  ·exact .inr h
  ·exact .inl h
 ·match c6,h2,hlen with
  |[],h2,hl=>
   have:vs=[]:=h2;subst this;exact⟨#[],rfl,rfl⟩
  |[τ],h2,hl=>
   obtain⟨v,rest,e,hv,hr⟩:=h2;have:rest=[]:=hr;subst this;subst e;exact hv
  |τ::Fl::l,h2,hl=>
   have: ¬vs.toArray.size=1:=by simp[hl]
   rw[dif_neg this];exact⟨vs.toArray,rfl,by simpa using h2⟩
structure OF(P:arb)(w0:aq P)(H0:HV)(w1:apT)(v:apU)(s:bL):Prop where
 eq:w0=aq.JH P w1 fun b=>s.owns w1 v b
 no:∀b,s.owns w1 v b->H0 b=none
 lt:∀r o,H0 r=some o->r<w1.heap.size
def Wx(hk:OF P w0 H0 w1 v s)(hr:fn.results=rs.toArray)(h:bu P Γ rs c6)(oV:look Γ i=some s')(hp:look Γ N=some (.OK i v))(hi:s'.iU=false)(hl:s'.bH=[]):
  lV w0 H0 N (fun a w=>Yn P fn w1 H0 v s s' c6 .ret a w) Γ:=fun _ _ _ hs=>Qd hk.eq hk.no hk.lt hr h oV hp hi hl hs
def Wy(hk:OF P w0 H0 w1 v s)(hr:fn.results=rs.toArray)(h:bu P Γ rs c6)(oV:look Γ i=some s')(hp:look Γ N=some (.OK i v))(hi:s'.iU=false)(hl:s'.bH=[]):
  lV w0 H0 N (fun a w=>Yn P fn w1 H0 v s s' c6 .normal a w) Γ:=fun _ _ _ hs=>Qd hk.eq hk.no hk.lt hr h oV hp hi hl hs
def GA:∀{l:ard Ty} {i:Nat},∀p∈kV i l,i<=p.1/\p.1<i+l.length/\p.2.free=true/\p.2.iU=false
 |[],_,p,hp=>by simp[kV] at hp
 |τ::l,i,p,hp=>by
  simp only[kV,bM] at hp;rcases hp with e|hp
  ·subst e;exact⟨bC _,by simp,rfl,rfl⟩
  ·have:=GA p hp;refine⟨by omega,by simp;omega,this.2.2.1,this.2.2.2⟩
def uS{f:FuncId}{c:Code}{pre post:ard Ty}{N:Nat}(hf:P.funcs[f]? =some fn)(hb:fn.body=some c)(hN:fn.ntmps=N)(hn:pre.length+1+post.length<=N)(hc:dY P f=true)(hl:s.bH=[])(hi:s.iU=false)
 (h:∀(w1:apT) (v:apU) (w0:aq P) (H0:HV),OF P w0 H0 w1 v s->Goal P w0 H0 N c (Yn P fn w1 H0 v s s' c6) ((N,.OK pre.length v)::(pre.length,s)::(kV 0 pre++kV (pre.length+1) post))):fF P f pre s s' post c6:=by
 subst hN;refine⟨hc,fun w H v ps qs sub gl hps hqs hs=>?_⟩;have gq:BF H (pre++post) (ps++qs):=yd hps hqs;have Pk:=zf hps;have hql:=zf hqs;have ak0:OF P (aq.JH P w fun b=>s.owns w v b) H w v s:=⟨rfl,fun b hb=>(bL.lE hs hb).2.1,fun r o ho=>wU sub ho⟩;refine(callsIn_wide (n:=0)).1<|callsIn_of_wp_marks (F:=Fence.wide) hf hb trivial<|h w v _ H ak0 _ w H ?_
 obtain⟨a,ha⟩:∃a:Act,a={tmps:=(ps++v::qs).toArray++Array.replicate (fn.ntmps-(ps++v::qs).toArray.size) undef,defers:=[]}:=⟨_,rfl⟩;rw[<-ha];have Uh:∀j x,(ps++v::qs)[j]? =some x->aV a j=x:=fun j x hj=>by
  have OP:=(iG.1 hj).1;have e:((ps++v::qs).toArray++Array.replicate (fn.ntmps-(ps++v::qs).toArray.size) undef)[j]? =some x:=by
   rw[Array.getElem?_append_left (by simpa using OP)];simpa using hj
  rw[ha];simp only[aV,DO,e,EE]
 have hvv:aV a pre.length=v:=Uh _ _ (by rw[<-Pk];simp);have e1:∀p∈kV 0 pre,p.2.holds (aq.JH P w fun b=>s.owns w v b) a w H (aV a p.1):=zL 0 hps fun j x hj=>Uh _ _ (by
  rw[vy,wL (iG.1 hj).1];exact hj)
 have e2:∀p∈kV (pre.length+1) post,p.2.holds (aq.JH P w fun b=>s.owns w v b) a w H (aV a p.1):=zL (pre.length+1) hqs fun j x hj=>Uh _ _ (by
  rw[Aq (by omega),<-Pk,show ps.length+1+j-ps.length=j+1 by omega];simpa using hj)
 have qh:∀p∈(fn.ntmps,bL.OK pre.length v)::(pre.length,s)::(kV 0 pre++kV (pre.length+1) post),p.1≠pre.length->∀b,¬p.2.owns w (aV a p.1) b:=by
  intro p hp hne b hb;simp only[bM,lN] at hp;rcases hp with e|e|hp|hp
  ·subst e;exact hb
  ·subst e;exact hne rfl
  ·exact bL.free_spec (GA p hp).2.2.1 hb
  ·exact bL.free_spec (GA p hp).2.2.1 hb
 refine⟨by rw[ha];trivial,by rw[ha];simp;omega,⟨rfl,rfl,rfl,bC _,bC _,fun _ _ _ _=>rfl⟩,fun _ _ _ _=>rfl,sub,?_,?_,gl⟩
 ·intro p hp;simp only[bM,lN] at hp;rcases hp with e|e|hp|hp
  ·subst e;exact hvv
  ·subst e;simp only;rw[hvv];exact bL.nX (fun t h=>by rw[hl] at h;cases h) hs
  ·exact e1 p hp
  ·exact e2 p hp
 ·intro p hp q hq hne b hb ji;by_cases h1:p.1=pre.length
  ·exact qh q hq (fun e=>hne<|h1.trans e.symm) b ji
  ·exact qh p hp h1 b hb
end
@[reducible] def ajB(_:Unit):Ty:=WE .nilIface rfl
def Hg:Int:=18446744073709551616
def v8(x:Int):Bool:=decide (0<=x)&&decide (x<18446744073709551616)
def nC(x y c:Int):atg (Int×Int):=bif (v8 x&&v8 y)&&(decide (c=0)||decide (c=1)) then some ((x+y+c)%Hg,(x+y+c)/Hg) else none
def zu(x y b:Int):atg (Int×Int):=bif (v8 x&&v8 y)&&(decide (b=0)||decide (b=1)) then some ((x-y-b)%Hg,bif decide (x<y+b) then 1 else 0) else none
def tV(z:Int):Bool:=Nat.blt (Nat.log2 z.natAbs) 1099511627776
def yW{α:Type}(b:Bool)(x:α):atg α:=bif b then some x else none
def UB(x y:Int):Int:=bif decide (x<y) then -1 else bif decide (y<x) then 1 else 0
def adt(z:Int):atg Int:=some z.sign
def amq(z:Int):atg Int:=some<| -z
def ajA(z:Int):atg Int:=some (z.natAbs:Int)
def adv(x y:Int):atg Int:=yW (tV x&&tV y)<|UB x y
def UJ(x y:Int):atg Int:=yW (tV x&&tV y)<|x+y
def CR(x y:Int):atg Int:=yW (tV x&&tV y)<|x*y
def amp(x y:Int):atg Int:=yW (tV x&&tV y&& !decide (y=0))<|x.fdiv y
def Sj(x y:Int):atg Int:=yW (tV x&&tV y) (Int.gcd x y:Int)
def aOf(x:Int):atg Int:=aF x
def GJ(z:Int):atg (Int×Bool):=yW (!decide (z= -9223372036854775808))<|bif A6 z then(z,true) else(z.sign,false)
def adw(z:Int):atg Int:=yW (tV z)<|bif decide (z=0) then 0 else(Nat.log2 z.natAbs:Int)+1
def ac3:Nat->Nat->ard UInt8->ard UInt8
 |0,_,acc=>acc
 |f+1,n,acc=>bif Nat.blt n 10 then UInt8.ofNat (48+n)::acc else ac3 f (n/10) (UInt8.ofNat (48+n%10)::acc)
def dc(n:Nat):ard UInt8:=ac3 (n+1) n []
def eL(z:Int):ard UInt8:=bif decide (z<0) then 45::dc z.natAbs else dc z.natAbs
def NI(z:Int):atg (ard UInt8):=bif A6 z then some (eL z) else none
def RD(z b:Int):atg (ard UInt8):=yW (v8 z&&decide (b=10))<|dc z.toNat
def aeJ(l:ard UInt8):Nat->ard UInt8
 |0=>[]
 |c+1=>l++aeJ l c
def RC(s:ard UInt8)(c:Int):atg (ard UInt8):=yW (decide (0<=c)&&decide (c<=64)&&decide (s=[48]))<|aeJ s c.toNat
def vG(z:Int):atg (ard UInt8):=yW (tV z)<|eL z
def CT(q:Rat):Bool:=Nat.blt (Nat.log2 q.num.natAbs) 68719476736&&Nat.blt (Nat.log2 q.den) 68719476736
def FV(x y:Int):atg Rat:=yW (tV x&&tV y&& !decide (y=0))<|(x:Rat)/(y:Rat)
def lQ(q:Rat):atg Bool:=some<|decide<|q.den=1
def J5(x:Int):atg Rat:=some (x:Rat)
def Np(q:Rat):atg Rat:=some<| -q
def Bv(x y:Rat):atg Rat:=yW (CT x&&CT y)<|x+y
def AV(x y:Rat):atg Rat:=yW (CT x&&CT y)<|x-y
def nr(x y:Rat):atg Rat:=yW (CT x&&CT y)<|x*y
def HH(x y:Rat):atg Rat:=yW (CT x&&CT y&& !decide (y=0))<|x/y
def aeQ(x:Rat):atg Rat:=yW (CT x&& !decide (x=0)) x⁻¹
def oR(x y:Rat):atg Int:=yW (CT x&&CT y)<|bif decide (x<y) then -1 else bif decide (y<x) then 1 else 0
def Km(x y:Rat):atg Bool:=yW (CT x&&CT y)<|decide<|x=y
def j9(x:Rat):atg Int:=some x.num.sign
def qF(x:Int):atg Rat:=(aF x).map fun z=>(z:Rat)
def Zm(a b:Int):atg Rat:=match b with
 | .ofNat (d+1)=>yW (Nat.beq (Nat.gcd a.natAbs<|d+1) 1)<|mkRat a<|d+1
 |_=>none
def TF{a b:Int}{r:Rat}(h:Zm a b=some r):r.num=a/\(r.den:Int)=b:=by
 unfold Zm at h;split at h
 ·rename_i d;unfold yW at h;cases hc:Nat.beq (Nat.gcd a.natAbs<|d+1) 1
  ·rw[hc] at h;cases h
  ·rw[hc] at h;have h:=(fj h).symm;subst h;have hg:Nat.gcd a.natAbs (d+1)=1:=fB hc;rw[Rat.num_mkRat,Rat.den_mkRat];rw[Ew] at hg;simp[hg]
 ·cases h
def VH[D:DR]{a b:Int}{r:Rat}(h:Zm a b=some r):(bL.val<|fJ [mP a,mP b])= .val (aX r):=by
 obtain⟨h1,h2⟩:=TF h;rw[<-h1,<-h2]
def gZ(b:UInt8):Bool:=Nat.ble 48 b.toNat&&Nat.ble b.toNat 57
def dD(l:ard UInt8):Nat:=l.foldl (fun n b=>10*n+(b.toNat-48)) 0
def NJ(s:ard UInt8):atg (Int×Unit):=yW (!s.isEmpty&&Nat.ble s.length 18&&s.all gZ) ((dD s:Int),())
def cutAt(sep:UInt8):ard UInt8->ard UInt8->ard UInt8×ard UInt8×Bool
 |pre,[]=>(pre.reverse,[],false)
 |pre,b::l=>bif b==sep then(pre.reverse,l,true) else cutAt sep (b::pre) l
def Xw(s sep:ard UInt8):atg (ard UInt8×ard UInt8×Bool):=match sep with
 |[c]=>yW (Nat.blt s.length 4294967281)<|cutAt c [] s
 |_=>none
def tT(s:ard UInt8):atg Int:=match s with
 |45::ds=>yW (ds.all gZ&&Nat.blt ds.length 1000000)<| -(dD ds:Int)
 |ds=>yW (ds.all gZ&&Nat.blt ds.length 1000000) (dD ds:Int)
abbrev V3:=Rat×Rat×Rat
abbrev agW:=(Int×Int×Int)×ard UInt8
def Bx{α:Type}:ard α->ard (α×α)
 |[]=>[]
 |a::l=>(a::l).zip<|l++[a]
def T9{α:Type}(c:α->α->atg Int)(x:α):ard α->atg (ard α)
 |[]=>some [x]
 |y::l=>bd (c x y) fun k=>cond (decide<|k<0) (bd (T9 c x l) fun r=>some (y::r))<|some (x::y::l)
def VV{α:Type}(c:α->α->atg Int)(l:ard α):atg (ard α):=
 Kw l (fun next x s=>bd (T9 c x s) next) [] fun s=>some s.reverse
def adb{α:Type}(e:α->α->atg Bool):α->ard α->atg (ard α)
 |_,[]=>some []
 |x,y::l=>bd (e y x) fun b=>bd (adb e y l) fun r=>some<|cond b r (y::r)
def ac9{α:Type}(e:α->α->atg Bool):ard α->atg (ard α)
 |[]=>some []
 |x::l=>bd (adb e x l) fun r=>some (x::r)
def af0{α:Type}[DecidableEq α](c:α×α->atg Int)(x:α):ard α->Bool
 |[]=>true
 |y::l=>(bif decide (x=y) then true else match c (x,y),c (y,x) with
  |some i,some j=>decide (i<0)&&decide (0<=j)
  |_,_=>false)&&af0 c x l
def IZ{α:Type}[DecidableEq α](c:α×α->atg Int):ard α->Bool
 |[]=>true
 |x::l=>(match c (x,x) with
  |some i=>decide<|0<=i
  |none=>false)&&(af0 c x l&&IZ c l)
def totB{α:Type}(c:α×α->atg Int)(l:ard α):Bool:=l.all fun x=>l.all fun y=>(c (x,y)).isSome
def gU{α:Type}[DecidableEq α](l:ard α)(c:α×α->atg Int):atg (ard α):=
 bd (VV (fun a b=>c (a,b)) l) fun s=>yW (Nat.blt l.length 4611686018427387904&&(totB c l&&IZ c s)) s
def jZ{α:Type}(l:ard α)(e:α×α->atg Bool):atg (ard α):=ac9 (fun a b=>e (a,b)) l
def Js{α:Type}(l:ard α):atg (ard α):=some l.reverse
def ahK(l:ard (ard UInt8))(x:ard UInt8):atg (ard UInt8):=match l with
 |[]=>some []
 |y::l=>some<|l.foldl (fun s z=>s++(x++z)) y
def Hp(l:ard V3):atg (ard<|V3×V3):=yW (Nat.blt l.length 1000000000)<|Bx l
def Lp(f:V3×V3×V3×V3):atg (ard V3):=some [f.2.1,f.2.2.1,f.2.2.2]
def AP(low high:Rat)(l:ard Rat):atg (ard<|Rat×Rat):=bd (yW (Nat.blt l.length 1000000000) ()) fun _=>
 Kw l (fun next x s=>bd (oR x low) fun k=>cond (decide<|0<k) (bd (oR x high) fun j=>cond (decide<|j<0) (next<|s++[x])<|next s)<|next s) [low,high] fun all=>
 bd (gU all<|fun p=>oR p.1 p.2) fun s=>bd (jZ s<|fun p=>Km p.1 p.2) fun c=>yW (Nat.blt c.length 4000000000)<|c.zip c.tail
section
variable[D:DR]
variable{P:Program}{w0:aq P}{H0:HV}{N:Nat}{ops:Array Oper}{Q:Exit->Act->World->Prop}{Γ az:Ctx}{d:Option Tmp}{ty:TypeId}{pos:String}{af:Array Edge}{g:Option (Nat×Bool)}
variable{T:aq9}{τ:Ty}{ps:ard lA}{t:Nat}
@[reducible] def TP{α:Type}(f:α->Ty)(x:α):Ty:=nm<|f x
@[reducible] def TMp{α β:Type}(fK:α->Ty)(F:β->Ty)(l:ard (α×β)):Ty:=adz<|l.map fun p=>(fK p.1,F p.2)
def Ep{l:ard Ty}(gg:Bool)(h:bJ P T τ)(hτ:∀H v,τ.ok H v->uD H l v.cells.toList)(ho:yQ l ps):bI P Γ ⟨d,.alloc T,ty,pos,af,g⟩ (.qH T gg ps):=
 iN fun w0 _ _ a w H hs=>by
  obtain⟨z,hr,hz⟩:=h.run w;have he:=Ext.alloc hs.sub<| .cells z.cells T (0,0)
  obtain⟨h1,h2,h3⟩:=ho.ok (B:=w0) (a:=a) (w:=w.alloc<| .cells z.cells T (0,0))<|hτ H z<|hz H
  refine⟨.pointer<|some ⟨w.heap.size,0,none⟩,w.alloc<| .cells z.cells T,H,?_,he,?_,?_⟩
  ·simp[execOp,Instr.alloc,hr,newVar,newRow]
  ·refine⟨w.heap.size,z.cells,rfl,rO w _,?_,.inl hs.below.size,h1,h3,h2 _⟩;cases hh:H w.heap.size with
   |none=>rfl
   |some o=>have:=wU hs.sub hh;omega
  ·rintro b ⟨c,e,hb⟩;cases e;rcases hb with hb|⟨cs,hc,hb⟩
   ·omega
   ·rw[rO] at hc;cases hc;exact absurd hb<|h2 b
def Xk{x:arc}{l:ard Ty}(gg:Bool)(hx:Arg Γ x τ)(hτ:∀H v,τ.ok H v->uD H l v.cells.toList)(ho:yQ l ps):bI P Γ ⟨d,.box T x,ty,pos,af,g⟩ (.qH T gg ps):=
 iN fun w0 _ _ a w H hs=>by
  have he:=Ext.alloc hs.sub<| .cells (a.eval x).cells T (0,0)
  obtain⟨h1,h2,h3⟩:=ho.ok (B:=w0) (a:=a) (w:=w.alloc<| .cells (a.eval x).cells T (0,0))<|hτ H _<|hx.ok hs
  refine⟨.pointer<|some ⟨w.heap.size,0,none⟩,w.alloc<| .cells (a.eval x).cells T,H,?_,he,?_,?_⟩
  ·simp[execOp,Instr.box,newVar,newRow]
  ·refine⟨w.heap.size,(a.eval x).cells,rfl,rO w _,?_,.inl hs.below.size,h1,h3,h2 _⟩;cases hh:H w.heap.size with
   |none=>rfl
   |some o=>have:=wU hs.sub hh;omega
  ·rintro b ⟨c,e,hb⟩;cases e;rcases hb with hb|⟨cs,hc,hb⟩
   ·omega
   ·rw[rO] at hc;cases hc;exact absurd hb<|h2 b
def akk{u:Nat}(hu:look Γ u=some (.ptr t 0))(ht:look Γ t=some (.val<|nm τ)):qj w0 N Γ ((u,.val<|nm τ)::bN u Γ):=fun H0 a w H hs=>by
 obtain⟨b,e1,e2⟩:=hs.holds _<|ay hu
 have hv:=hs.holds _<|ay ht
 simp only at e1 e2 hv;have e:aV a u=aV a t:=by rw[e1,e2]
 exact⟨H,F9 (us:=[]) hs (fun q hq=>bG q hq) (by rw[e];exact hv) (fun b h=>h.elim) (fun _ _ h=>by cases h)⟩
def agi{u:Nat}(hu:look Γ u=some (.same t))(ht:look Γ t=some (.val τ)):qj w0 N Γ ((u,.val τ)::bN u Γ):=fun H0 a w H hs=>by
 have e:=hs.holds _<|ay hu
 have hv:=hs.holds _<|ay ht
 exact⟨H,F9 (us:=[]) hs (fun q hq=>bG q hq) (by rw[show aV a u=aV a t from e];exact hv) (fun b h=>h.elim) (fun _ _ h=>by cases h)⟩
def Bp{p off i dd:Nat}{T':aq9}{gg:Bool}{pp:lA}(sm:Bool)(hp:iV Γ p t off)(ht:look Γ t=some (.qH T' gg ps))(hi:ps[i]? =some pp)(ho:ff ps i=off)(h1:(pp.n,pp.agg)=(1,false))(hT:dR P T 1 false=true)(na:dd<N)(hd:(dd !=t&& !(Hm ps).contains dd)=true):
  Step P N ops ⟨some dd,.load T<| .tmp p,ty,pos,af,none⟩ Γ ((dd,pp.sty)::(t,.qH T' gg<|ps.set i<|Ku dd sm)::del dd (bN t Γ)):=by
 simp only[bV,oj,ne_eq,gY,IA,kE] at hd;exact Xz (fun _ h=>h) sm hp ht hi ho (congrArg Prod.fst h1) (congrArg Prod.snd h1) hT na hd.1 hd.2
def MX{p off i dd:Nat}{T':aq9}{gg:Bool}{pp:lA}(sm:Bool)(hp:iV Γ p t off)(ht:look Γ t=some (.qH T' gg ps))(hi:ps[i]? =some pp)(ho:ff ps i=off)(h1:(pp.n,pp.agg)=(1,false))(hT:dR P T 1 false=true)(na:dd<N)(hd:(dd !=t&& !(Hm ps).contains dd)=true):
  WD P N ops Γ ⟨some dd,.load T<| .tmp p,ty,pos,af,none⟩ t (.qH T' gg<|ps.set i<|Ku dd sm) dd pp.sty:=fun sI bO=>by
 simp only[bV,oj,ne_eq,gY,IA,kE] at hd;exact Xz bO sm hp ht hi ho (congrArg Prod.fst h1) (congrArg Prod.snd h1) hT na hd.1 hd.2
end
section
variable[D:DR]
variable{P:Program}{w0:aq P}{H0:HV}{N:Nat}{ops:Array Oper}{Q:Exit->Act->World->Prop}{Γ az:Ctx}{d:Option Tmp}{ty:TypeId}{pos:String}{af:Array Edge}{g:Option (Nat×Bool)}
variable{α β:Type}[DecidableEq α]{K E Eb T:TypeId}{sz:Nat}{fK:α->Ty}
variable{t:Nat}{m k:arc}{dd u:Nat}{v s:arc}
def aaO{F:β->Ty}{l:ard (α×β)}{x:α}{y:β}(hT:xq P T K E=true)(hk:kX P K fK)(hm:jD Γ m t)(ht:look Γ t=some (.nK K E Eb sz<|mM fK (fun v=> .val<|F v) l))(hx:Arg Γ k (fK x))(hy:Arg Γ v (F y)):
  Step P N ops ⟨none,.mapUpdate T m k v,ty,pos,af,none⟩ Γ ((t,.nK K E Eb sz<|mM fK (fun v=> .val<|F v)<|qp l x y)::bN t Γ):=HZ (fun _ h=>h) hT hk hm ht hx hy
def aet{F:β->Ty}{l:ard (α×β)}{x:α}{y:β}(hT:xq P T K E=true)(hk:kX P K fK)(hm:jD Γ m t)(ht:look Γ t=some (.nK K E Eb sz<|mM fK (fun v=> .val<|F v) l))(hx:Arg Γ k (fK x))(hy:Arg Γ v (F y)):
  Px P N ops Γ ⟨none,.mapUpdate T m k v,ty,pos,af,none⟩ t (.nK K E Eb sz<|mM fK (fun v=> .val<|F v)<|qp l x y):=fun _ bO=>HZ bO hT hk hm ht hx hy
def SU{F:β->Ty}{l:ard (α×β)}{x:α}{z:β}(hT:xq P T K E=true)(hk:kX P K fK)(hz:bJ P E (F z))(hm:jD Γ m t)(ht:look Γ t=some (.nK K E Eb sz<|mM fK (fun v=> .val<|F v) l))(hx:Arg Γ k (fK x))(na:dd<N)(hne:(dd !=t)=true):
  WD P N ops Γ ⟨some dd,.mapEntry T m k,ty,pos,af,none⟩ t (.nK K E Eb sz<|mM fK (fun v=> .val<|F v)<|mz l x z) dd (.I6 [F<|iC l x z,TI .i64<|gQ x l]):=fun _ bO=>Zp bO hT hk hz hm ht hx na (by simpa using hne)
def aaP{F:β->ard Ty}{l:ard (α×β)}{x:α}{z:β}(hT:xq P T K E=true)(hk:kX P K fK)(hz:(P.info? E).bind (·.zero)=some (.slice none 0 0))(hz0:F z=[])(hm:jD Γ m t)(ht:look Γ t=some (.nK K E Eb sz<|mM fK (fun v=> .buf<|F v) l))(hx:Arg Γ k (fK x))(na:dd<N)(hne:(dd !=t)=true):
  Step P N ops ⟨some dd,.mapEntry T m k,ty,pos,af,none⟩ Γ ((dd,.DF Eb sz (F<|iC l x z)<|gQ x l)::(t,.nK K E Eb sz<|(mM fK (fun v=> .buf<|F v)<|mz l x z).set (gQ x l) (fK x,.any))::del dd (bN t Γ)):=Qb (fun _ h=>h) hT hk hz hz0 hm ht hx na (by simpa using hne)
def aeu{l:ard Ty}{i:Nat}(hu:look Γ u=some (.DF Eb sz l i))(na:dd<N)(hne:(dd !=u)=true):
  Step P N ops ⟨some dd,.extract (.tmp u) 0,ty,pos,af,none⟩ Γ ((dd,.buf Eb sz l)::(u,.I6 [iv 1 false,TI .i64 i])::del dd (bN u Γ)):=TK (fun _ h=>h) hu na (by simpa using hne)
def WS{l:ard Ty}{i:Nat}(hu:look Γ u=some (.DF Eb sz l i))(na:dd<N)(hne:(dd !=u)=true):
  WD P N ops Γ ⟨some dd,.extract (.tmp u) 0,ty,pos,af,none⟩ u (.I6 [iv 1 false,TI .i64 i]) dd (.buf Eb sz l):=fun _ bO=>TK bO hu na (by simpa using hne)
def WX{F:β->Ty}{l:ard (α×β)}{x:α}{z y:β}(hm:jD Γ m t)(ht:look Γ t=some (.nK K E Eb sz<|mM fK (fun v=> .val<|F v)<|mz l x z))(wj:Arg Γ s (TI .i64<|gQ x l))(hy:Arg Γ v (F y)):
  Step P N ops ⟨none,.entryStore T m s v,ty,pos,af,none⟩ Γ ((t,.nK K E Eb sz<|mM fK (fun v=> .val<|F v)<|qp l x y)::bN t Γ):=Uv (fun _ h=>h) hm ht wj hy
def aev{F:β->ard Ty}{l:ard (α×β)}{x:α}{z y:β}(hm:jD Γ m t)(ht:look Γ t=some (.nK K E Eb sz<|(mM fK (fun v=> .buf<|F v)<|mz l x z).set (gQ x l) (fK x,.any)))(wj:Arg Γ s (TI .i64<|gQ x l))(hu:look Γ u=some (.buf Eb sz<|F y))(hne:(u !=t)=true):
  Step P N ops ⟨none,.entryStore T m s<| .tmp u,ty,pos,af,none⟩ Γ ((t,.nK K E Eb sz<|mM fK (fun v=> .buf<|F v)<|qp l x y)::(u,.gone)::bN t (bN u Γ)):=KC (fun _ h=>h) hm ht wj hu (by simpa using hne)
def Xb{F:β->ard Ty}{l:ard (α×β)}{x:α}{z y:β}(hm:jD Γ m t)(ht:look Γ t=some (.nK K E Eb sz<|(mM fK (fun v=> .buf<|F v)<|mz l x z).set (gQ x l) (fK x,.any)))(wj:Arg Γ s (TI .i64<|gQ x l))(hu:look Γ u=some (.buf Eb sz<|F y))(hne:(u !=t)=true):
  agV P N ops Γ ⟨none,.entryStore T m s<| .tmp u,ty,pos,af,none⟩ t (.nK K E Eb sz<|mM fK (fun v=> .buf<|F v)<|qp l x y) u .gone:=fun _ bO=>KC bO hm ht wj hu (by simpa using hne)
def Gd{K E Eb T:aq9}{sz:Nat}{α β:Type}(fK:α->Ty)(fV:β->lU):bI P Γ ⟨d,.makeMap T none,ty,pos,af,g⟩ (.nK K E Eb sz<|mM fK fV ([]:ard (α×β))):=VA
def Ts{F:β->Ty}{l:ard (α×β)}(ht:look Γ t=some (.nK K E Eb sz<|mM fK (fun v=> .val<|F v) l)):qj w0 N Γ ((t,.val<|TMp fK F l)::bN t Γ):=
 aeR ht (fun p hp=>by obtain⟨q,_,rfl⟩:=mF.1 hp;rfl) (by simp[mM,Vu,lU.pub])
def ua.anl{F:β->Ty}{l:ard (α×β)}{ls:ard Ty}{ps:ard lA}(r:ua ps ls):ua (.map K E Eb sz (mM fK (fun v=> .val<|F v) l)::ps) (TMp fK F l::ls):=
 .map (fun p hp=>by obtain⟨q,_,rfl⟩:=mF.1 hp;rfl) (by simp[mM,Vu,lU.pub]) r
def ua.xq{γ:Type}{F:γ->Ty}{l:ard (α×ard γ)}{ls:ard Ty}{ps:ard lA}(r:ua ps ls):ua (.map K E Eb sz (mM fK (fun v=> .buf<|lT F v) l)::ps) (TMp fK (TL F) l::ls):=
 .map (fun p hp=>by obtain⟨q,_,rfl⟩:=mF.1 hp;rfl) (by simp[mM,Vu,lU.pub]) r
end
section
variable[D:DR]
variable{P:Program}{w0:aq P}{H0:HV}{N:Nat}{ops:Array Oper}{Q:Exit->Act->World->Prop}{Γ az:Ctx}{d:Option Tmp}{ty:TypeId}{pos:String}{af:Array Edge}{g:Option (Nat×Bool)}
variable{t:Nat}{f:FuncId}{u:Nat}{xs:ard arc}{r9:ath aq9}{pre c6:ard Ty}{s s':bL}{dd:Nat}{us:ard Nat}
def jK{x:arc}{ys:ard arc}{post:ard Ty}(hf:fF P f pre s s' post c6)(hx:dZ Γ x t)(ht:look Γ t=some s)(hi:(s.iU||s'.iU)=false)(hl:(s.bH,s'.bH)=([],[]))
 (ha:aJ Γ xs pre)(hb:aJ Γ ys post)(na:dd<N)(hne:(dd !=t)=true):
  Step P N ops ⟨some dd,.call ⟨.value<| .func f,(xs++x::ys).toArray,r9⟩,ty,pos,af,none⟩ Γ ((dd,sW c6)::(t,s')::del dd (bN t Γ)):=Qe (fun _ h=>h) hf hx ht hi (congrArg Prod.fst hl) (congrArg Prod.snd hl) ha hb na (by simpa using hne)
def SV{x:arc}{ys:ard arc}{post:ard Ty}(hf:fF P f pre s s' post c6)(hx:dZ Γ x t)(ht:look Γ t=some s)(hi:(s.iU||s'.iU)=false)(hl:(s.bH,s'.bH)=([],[]))
 (ha:aJ Γ xs pre)(hb:aJ Γ ys post)(na:dd<N)(hne:(dd !=t)=true):
  WD P N ops Γ ⟨some dd,.call ⟨.value<| .func f,(xs++x::ys).toArray,r9⟩,ty,pos,af,none⟩ t s' dd (sW c6):=fun _ bO=>Qe bO hf hx ht hi (congrArg Prod.fst hl) (congrArg Prod.snd hl) ha hb na (by simpa using hne)
def ahd{c:Nat}(hf:fF P f pre s s' [] c6)(hc:look Γ c=some (.vec (some f) [t]))(ht:look Γ t=some s)(hi:(s.iU||s'.iU)=false)(hl:(s.bH,s'.bH)=([],[]))
 (ha:aJ Γ xs pre)(na:dd<N)(hne:(dd !=t)=true):
  Step P N ops ⟨some dd,.call ⟨.value<| .tmp c,xs.toArray,r9⟩,ty,pos,af,none⟩ Γ ((dd,sW c6)::(t,s')::del dd (bN t Γ)):=abF (fun _ h=>h) hf hc ht hi (congrArg Prod.fst hl) (congrArg Prod.snd hl) ha na (by simpa using hne)
def abn:bI P Γ ⟨d,.makeFunc (.func f) #[] (us.map Operand.tmp).toArray,ty,pos,af,g⟩ (.vec (some f) us):=
 bb fun _ _ _ a w H hs=>by
  refine⟨.func (.func f) #[] (us.map<|aV a).toArray,?_,rfl,rfl⟩;have:((us.map Operand.tmp).toArray).map a.eval=(us.map<|aV a).toArray:=by simp[Function.comp_def];exact fun _ _=>rfl
  simp only[execOp,this];simp[Instr.makeFunc]
def abm{k:atg FuncId}(h:look Γ u=some (.vec k us)):bI P Γ ⟨d,.move<| .tmp u,ty,pos,af,g⟩ (.vec k us):=
 bb fun _ _ _ a w H hs=>⟨aV a u,by simp[execOp];rfl,hs.holds _<|ay h,rfl⟩
def abp{k:atg FuncId}(h:look Γ u=some (.vec k us)):bI P Γ ⟨d,.assign<| .tmp u,ty,pos,af,g⟩ (.vec k us):=
 bb fun _ _ _ a w H hs=>⟨aV a u,by simp[execOp];rfl,hs.holds _<|ay h,rfl⟩
def aeV{o:Oper}{u1 u2 u3:Nat}(h1:wS Γ u1)(h2:wS Γ u2)(h3:wS Γ u3)
  (h:∀(v1 v2 v3:apU) (k1:v1.oneCell'=true) (k2:v2.oneCell'=true) (k3:v3.oneCell'=true),bI P [(u1,.val<|WE v1 k1),(u2,.val<|WE v2 k2),(u3,.val<|WE v3 k3)] o<| .val<|fJ [WE v1 k1,WE v2 k2,WE v3 k3]):bI P Γ o (.vec none [u1,u2,u3]):=by
 intro w0 H0 N a w H hs K Q k;refine h (aV a u1) (aV a u2) (aV a u3) (h1.ok hs) (h2.ok hs) (h3.ok hs) w0 H0 N a w H ?_ K Q fun v w' H' he hv _=>k v w' H' he ?_<|fun b hb=>hb.elim
 ·refine⟨hs.nd,hs.sz,hs.below,hs.I7,hs.sub,?_,?_,hs.gl⟩
  ·intro p hp;simp only[bM,yD,or_false] at hp;rcases hp with e|e|e<;>subst e<;>rfl
  ·intro p hp q hq _ b hb;simp only[bM,yD,or_false] at hp;rcases hp with e|e|e<;>subst e<;>exact hb.elim
 ·obtain⟨cs,e,v1,r1,e1,rfl,v2,r2,e2,rfl,v3,r3,e3,rfl,er⟩:=hv;have er:r3=[]:=er;subst er;subst e3;subst e2;have c1:=(nv<|Shape.one<|h1.ok hs).2.2;have c2:=(nv<|Shape.one<|h2.ok hs).2.2;have c3:=(nv<|Shape.one<|h3.ok hs).2.2;rw[c1,c2,c3] at e1;show v= .agg _;rw[e];congr 1;apply Array.ext';simpa using e1
def ae2{T:aq9}{u1 u2 u3:Nat}(h:look Γ t=some (.vec none [u1,u2,u3]))(h1:wS Γ u1)(h2:wS Γ u2)(h3:wS Γ u3):bI P Γ ⟨d,.box T<| .tmp t,ty,pos,af,g⟩ (.qH T true [.sm u1,.sm u2,.sm u3]):=
 iN fun w0 _ _ a w H hs=>by
  have e:a.eval (.tmp t)= .agg #[aV a u1,aV a u2,aV a u3]:=hs.holds _<|ay h
  have he:=Ext.alloc hs.sub<| .cells (a.eval<| .tmp t).cells T (0,0)
  have k1:=h1.ok hs;have k2:=h2.ok hs;have k3:=h3.ok hs;have c1:=(nv<|Shape.one k1).2.2;have c2:=(nv<|Shape.one k2).2.2;have c3:=(nv<|Shape.one k3).2.2;refine⟨.pointer<|some ⟨w.heap.size,0,none⟩,w.alloc<| .cells (a.eval<| .tmp t).cells T,H,?_,he,?_,?_⟩
  ·simp[execOp,Instr.box,newVar,newRow]
  ·refine⟨w.heap.size,(a.eval<| .tmp t).cells,rfl,rO w _,?_,.inl hs.below.size,?_,?_,?_⟩
   ·cases hh:H w.heap.size with
    |none=>rfl
    |some o=>have:=wU hs.sub hh;omega
   ·rw[e];exact⟨aV a u1,[aV a u2,aV a u3],by rw[c1];rfl,Shape.one k1,⟨rfl,k1⟩,aV a u2,[aV a u3],by rw[c2];rfl,Shape.one k2,⟨rfl,k2⟩,aV a u3,[],by rw[c3];rfl,Shape.one k3,⟨rfl,k3⟩,rfl⟩
   ·exact⟨fun _ h=>h.elim,fun _ h=>h.elim,fun _ h=>h.elim,trivial⟩
   ·rintro(h|h|h|h)<;>exact h
  ·rintro b ⟨c,e',hb⟩;cases e';rcases hb with hb|⟨cs,hc,hb⟩
   ·omega
   ·rcases hb with hb|hb|hb|hb<;>exact hb.elim
def we{w0:aq P}{i:Nat}{T':aq9}{gg:Bool}{ps:ard lA}{E:aq9}{sz:Nat}{l:ard Ty}(ht:look Γ t=some (.qH T' gg ps))(hi:ps[i]? =some (.sm u))(hu:look Γ u=some (.buf E sz l))(hne:(u !=t)=true):
  qj w0 N Γ ((t,.qH T' gg<|ps.set i<| .buf E sz l)::bN t (bN u Γ)):=XX (.buf E sz l) ht hi hu hne rfl (fun e=>by cases e)
def wc{w0:aq P}{i:Nat}{T':aq9}{gg:Bool}{ps:ard lA}{K E Eb:aq9}{sz:Nat}{l:ard (Ty×lU)}(ht:look Γ t=some (.qH T' gg ps))(hi:ps[i]? =some (.sm u))(hu:look Γ u=some (.nK K E Eb sz l))(hne:(u !=t)=true):
  qj w0 N Γ ((t,.qH T' gg<|ps.set i<| .map K E Eb sz l)::bN t (bN u Γ)):=XX (.map K E Eb sz l) ht hi hu hne rfl (fun e=>by cases e)
end
section
variable[D:DR]
variable{P:Program}{w0:aq P}{H0:HV}{N:Nat}{Q:Exit->Act->World->Prop}{Γ az:Ctx}{d:Option Tmp}{ty:TypeId}{pos:String}{af:Array Edge}{g:Option (Nat×Bool)}
def aiU{α β:Type}{f:α->β}{l:ard α}{j:Nat}(h:j<(l.map f).length):∃x,l[j]? =some x:=⟨l[j]'(by simpa using h),by simp at h;simp[h]⟩
def Mi{k t:Nat}{c:Code}{T:aq9}{gg:Bool}{ps:ard lA}(ht:look Γ t=some (.qH T gg ps))(hk:Nat.ble N k=true)(h:∀b,Goal P w0 H0 N c Q ((k,.OK t<| .pointer<|some ⟨b,0,none⟩)::Γ)):Goal P w0 H0 N c Q Γ:=fun a w H hs=>by
 obtain⟨b,cs,e,_⟩:=hs.holds _<|ay ht
 exact h b a w H (hs.Sh (G:=[(k,.OK t<| .pointer<|some ⟨b,0,none⟩)]) fun p hp=>by
  rw[uO.1 hp];exact⟨rfl,e⟩)
def DA{k t b:Nat}(h:look Γ k=some (.OK t<| .pointer<|some ⟨b,0,none⟩)):bI P Γ ⟨d,.move<| .tmp t,ty,pos,af,g⟩ (.ptr t 0):=
 bb fun _ _ _ a w _ hs=>by
  have e:aV a t= .pointer (some ⟨b,0,none⟩):=hs.holds _<|ay h
  exact⟨aV a t,by simp[execOp];rfl,⟨b,e,e⟩,rfl⟩
def Sb{fn:Func}{rs:ard ResultVar}{c6:ard Ty}{w1:apT}{v:apU}{s:bL}(hk:OF P w0 H0 w1 v s)(hr:fn.results=rs.toArray)(h:bu P Γ rs c6):
  lV w0 H0 N (fun a w=>Yn P fn w1 H0 v s .gone c6 .ret a w) Γ:=fun a w H hs=>by
 obtain⟨e1,e2,e3⟩:=hk;subst e1;refine sy rfl rfl (a:=a) (ds:=a.defers) hs fun w H hs=>?_
 obtain⟨vs,h1,h2⟩:=h.run hs;have hlen:=zf h2;rw[xV hr];simp only[eN,Sem.run_map,h1,eE,ot];refine⟨_,rfl,_,rfl,H,⟨hs.below.size,hs.below.os,hs.below.tape,hs.below.output,hs.below.drawn,?_,?_,hs.sub⟩,trivial,(fun b hb=>hb.elim),?_⟩
 ·intro r o ho;rw[hs.I7 rfl r (e3 r o ho) (fun hx=>by have:=e2 r hx;rw[this] at ho;cases ho)];exact ho
 ·exact fun b hb hx=>⟨hs.below.block rfl b hb hx,hs.I7 rfl b hb hx⟩
 ·match c6,h2,hlen with
  |[],h2,hl=>
   have:vs=[]:=h2;subst this;exact⟨#[],rfl,rfl⟩
  |[τ],h2,hl=>
   obtain⟨v,rest,e,hv,hr⟩:=h2;have:rest=[]:=hr;subst this;subst e;exact hv
  |τ::Fl::l,h2,hl=>
   have: ¬vs.toArray.size=1:=by simp[hl]
   rw[dif_neg this];exact⟨vs.toArray,rfl,by simpa using h2⟩
def Rh{α γ:Type}[DecidableEq α]{K E T:aq9}{fK:α->Ty}{f:γ->Ty}{m k:arc}{l:ard (α×ard γ)}{x:α}(hT:xq P T K E=true)(hk:kX P K fK)(hz:bJ P E (TN f []))(hm:Arg Γ m (TMp fK (TL f) l))(hx:Arg Γ k (fK x))
  (h:((mix x l).isNone|| !(List.isEmpty<|iC l x []))=true):bI P Γ ⟨d,.lookup T m k false,ty,pos,af,g⟩ (.val<|TN f<|iC l x []):=
 bb fun w0 _ _ a w H hs=>by
  obtain⟨r,es,em,hr,ho⟩:=hm.ok hs;have hr:=hs.sub _ _ hr;have FR:=hx.ok hs;have conv:∀{i:Nat} {l:ard (Ty×Ty)} {es:ard MapEntry},okM H i l es->OL w0 w H 0 0 i (l.map fun p=>(p.1,.val p.2)) es:=by
   intro i l
   induction l generalizing i with
   |nil=>intro es h;cases es with|nil=>trivial|cons _ _=>exact h.elim
   |cons p l ih=>intro es h;cases es with|nil=>exact h.elim|cons _ _=>exact⟨h.1,h.2.1,h.2.2.1,ih h.2.2.2⟩
  have ho:=conv ho;have el:(l.map fun p=>(fK p.1,TL f p.2)).map (fun p:Ty×Ty=>(p.1,lU.val p.2))=mM fK (fun v=> .val<|TL f v) l:=by simp[mM]
  rw[el] at ho;obtain⟨k1,k2⟩:=Mc ho;have hf:=run_findKey hk FR (w:=w) k1 k2;have hc:=hk.check H _ x FR es.isEmpty w;obtain⟨zv,Sr,UT⟩:=hz.run w;cases II:mix x l with
  |none=>
   rw[II] at hf;refine⟨zv,?_,by simp only[iC,II];exact UT H,rfl⟩;simp[execOp,em,Instr.lookup,aO<|td hT,run_getObj_map hr,hc,hf,Sr]
  |some j=>
   rw[II] at hf;obtain⟨v,hv⟩:=A0 II;obtain⟨y,h1,_,h3,_⟩:=wy ho (j:=j) (k:=fK x) (e:= .val<|TL f v) (by simp[hv]);have hg:iC l x []=v:=by simp only[iC,II,hv]
   rw[hg,II] at h;refine⟨y.val,?_,by rw[hg];exact UM (by simpa using h) H _ h3,rfl⟩;simp only[xB,h1,EE] at hf;simp[execOp,em,Instr.lookup,aO<|td hT,run_getObj_map hr,hc,hf]
end
section
variable[D:DR]
variable{P:Program}{w0:aq P}{H0:HV}{N:Nat}{ops:Array Oper}{Q:Exit->Act->World->Prop}{Γ az:Ctx}{d:Option Tmp}{ty:TypeId}{pos:String}{af:Array Edge}{g:Option (Nat×Bool)}
variable{t:Nat}{E:aq9}{sz dd:Nat}{T:aq9}
def aa1{B:aq P}{w:apT}{H:HV}{l:ard Ty}{ad:atg Addr}{n cap j:Nat}(hu:GK sz l)(h:vN B w H E sz l (.slice ad n cap))(hj:j<=l.length):vN B w H E sz (l.take j) (.slice ad j cap):=by
 obtain⟨xs,⟨hl,hr⟩,ho,hn⟩:=h;have hlen:=nB ho;rw[hZ hu] at hlen;have hmul:j*sz<=l.length*sz:=mI _ hj;have gq:uD H (l.take j) (xs.take<|j*sz):=by
  have:=Af hu ho 0 j;simpa using this
 have OP:(l.take j).length=j:=by simp;omega
 refine⟨xs.take<|j*sz,⟨by rw[OP,List.length_take,fA (by omega)],?_⟩,gq,fun b hb=>hn b (by cases ad<;>simpa[Value.ownBlock] using hb)⟩;rcases hr with⟨e,e2⟩|⟨g,Z9,cur,e,h1,h2,h3,h4,h5,h6⟩
 ·cases e;have:j=0:=by omega
  subst this;exact .inl ⟨rfl,by simp⟩
 ·cases e;refine .inr ⟨g,cap,cur,?_,h1,h2,?_,h4,h5,?_⟩
  ·have:(l.take j).length=j:=by simp;omega
   rw[this]
  ·have:(l.take j).length=j:=by simp;omega
   omega
  ·have:(l.take j).length=j:=by simp;omega
   rw[this,<-h6,uM,fA hmul]
def afU{c8:Ctx}(bO:∀q∈c8,q∈Γ){s y:arc}{l:ard Ty}{k:IntKind}{j:Nat}(hT:Ay P T sz=true)(hs:dZ c8 s t)(ht:look c8 t=some (.buf E sz l))(hu:GK sz l)(hy:Arg c8 y (TI k j))(hj:j<=l.length)(na:dd<N):
  Step P N ops ⟨some dd,.slice T s none (some y) none,ty,pos,af,none⟩ Γ ((dd,.buf E sz<|l.take j)::del dd (bN t Γ)):=by
 intro w0 H0 a w H cn K Q kk;simp only[Region.wanted,if_true];have K9:=cn.weaken bO;have hb:=cn.holds _<|bO _<|ay ht
 simp only at hb;have es:=hs.ok K9;have ey:a.eval y= .int k j:=hy.ok K9;obtain⟨el,ii,hue,hii,hsz⟩:=Ls hT;have wa:∀w,(Go.sizeOf el).run P w= .ok sz w:=fun w=>by simp[Go.sizeOf,typeInfo,program,Sem.run,hii,hsz]
 obtain⟨ad,cap,hv,hcap,h0⟩:∃ad cap,aV a t= .slice ad l.length cap/\l.length<=cap/\(ad=none\/∃b,ad=some ⟨b,0,none⟩):=by
  obtain⟨xs,⟨_,hr⟩,_,_⟩:=hb;rcases hr with⟨e,e2⟩|⟨g,cap,cur,e,_,_,h3,_⟩
  ·exact⟨none,0,by rw[e,e2],by omega,.inl rfl⟩
  ·exact⟨_,cap,e,h3,.inr ⟨g,rfl⟩⟩
 rw[hv] at hb;have tN:=aa1 hu hb hj;have hbd:(Instr.sliceBounds true l.length cap none (some<| .int k (j:Int)) none).run P w= .ok (0,j,cap) w:=by
  have b1:∀(code:BoundsCode),(Instr.sliceBound (.int k (j:Int)) cap code).run P w= .ok j w:=fun code=>by
   have:(j:Int)<=cap:=by omega
   simp[Instr.sliceBound,asIntOf];omega
  simp[Instr.sliceBounds,b1]
 have Wd:ad.map (·.add 0)=ad:=by
  rcases h0 with e|⟨b,e⟩<;>subst e
  ·rfl
  ·simp[addr_add]
 unfold Oper.wp;have e3:a.eval s= .slice ad l.length cap:=by rw[es];exact hv
 have er:(execOp a.eval ⟨some dd,.slice T s none (some y) none,ty,pos,af,none⟩).run P w= .ok (.value<| .slice ad j cap) w:=by
  simp[execOp,e3,ey,Instr.sliceAt,aO hue,Instr.slice,hbd,wa];intro _;simpa using Wd
 rw[er,tx];exact kk _ w H (AR cn (bO _<|ay ht) (Cg w) (fun _ e=>by cases e) na (by simp[bL.bH]) tN fun b hb=> .inl (by
  show(aV a t).ownBlock=some b;rw[hv];cases ad<;>simpa[bL.owns,Value.ownBlock] using hb))
def aaQ{α:Type}{f:α->Ty}{l r:ard α}{s y:arc}{j:Int}(hT:Ay P T sz=true)(hf:∀z,(f z).n=sz)(hs:dZ Γ s t)(ht:look Γ t=some (.buf E sz<|lT f l))(hy:Arg Γ y (TI .i64 j))(h:im l 0 j=some r)(na:dd<N):
  Step P N ops ⟨some dd,.slice T s none (some y) none,ty,pos,af,none⟩ Γ ((dd,.buf E sz<|lT f r)::del dd (bN t Γ)):=by
 obtain⟨_,h2,h4,h5⟩:=M3 h;obtain⟨j0,rfl⟩:=gk h2;have h4':j0<=l.length:=by exact_mod_cast h4
 have:=afU (ops:=ops) (ty:=ty) (pos:=pos) (af:=af) (fun _ h=>h) hT hs ht (lR hf l) (j:=j0) hy (by rw[fW];exact h4') na;have e:(lT f l).take j0=lT f r:=by rw[h5];simp[lT,List.map_take]
 rw[e] at this;exact this
def TFc(f:FuncId):Ty:=WE (.func (.func f) #[] #[]) rfl
def Arg.fnc{f:FuncId}:Arg Γ (.func f) (TFc f):=⟨fun _=>rfl⟩
def Tx{f:FuncId}{xs:ard arc}{r9:ath aq9}{args:ard Ty}{c6:Yl}(ht:look Γ t=some (.val<|TFc f))(hf:al P f args c6)(ha:aJ Γ xs args):
  bI P Γ ⟨d,.call ⟨.value<| .tmp t,xs.toArray,r9⟩,ty,pos,af,g⟩ (aeH c6):=by
 intro w0 H0 N a w H hs K Q k;have et:a.eval (.tmp t)= .func (.func f) #[] #[]:=hs.holds _<|ay ht
 have e:execOp a.eval ⟨d,.call ⟨.value<| .tmp t,xs.toArray,r9⟩,ty,pos,af,g⟩=execOp a.eval ⟨d,.call ⟨.value<| .func f,xs.toArray,r9⟩,ty,pos,af,g⟩:=by
  simp only[execOp,resolve,et,Deferred.ofValue,pure_bind]
  rfl
 have:=fL (d:=d) (ty:=ty) (pos:=pos) (af:=af) (g:=g) (r9:=r9) hf ha w0 H0 N a w H hs K Q k;unfold Oper.wp at this⊢;rw[e];exact this
def SX{α β:Type}[DecidableEq α]{K Eb:aq9}{fK:α->Ty}{F:β->ard Ty}{m k:arc}{u:Nat}{l:ard (α×β)}{x:α}{z:β}(hT:xq P T K E=true)(hk:kX P K fK)(hz:(P.info? E).bind (·.zero)=some (.slice none 0 0))(hz0:F z=[])(hm:jD Γ m t)(ht:look Γ t=some (.nK K E Eb sz<|mM fK (fun v=> .buf<|F v) l))(hx:Arg Γ k (fK x))(na:dd<N)(hne:(dd !=t)=true):
  amr P N ops Γ ⟨some dd,.mapEntry T m k,ty,pos,af,none⟩ t (.nK K E Eb sz<|(mM fK (fun v=> .buf<|F v)<|mz l x z).set (gQ x l) (fK x,.any)) dd (.DF Eb sz (F<|iC l x z)<|gQ x l) u (.MY dd<|gQ x l):=fun sI bO=>by
 intro w0 H0 a w H hs K' Q kk;refine Qb bO hT hk hz hz0 hm ht hx na (by simpa using hne) w0 H0 a w H hs K' Q fun a' w' H' oV=>kk a' w' H' ?_
 obtain⟨y,e,_⟩:=oV.holds (dd,.DF Eb sz (F<|iC l x z)<|gQ x l) (by simp);have:=oV.Sh (G:=[(u,.MY dd<|gQ x l)]) fun p hp=>by
  rw[uO.1 hp];exact⟨rfl,y,e⟩
 refine this.weaken fun q hq=>?_
 simp only[bM,lN,yD,or_false] at hq⊢;rcases hq with h|h|h|h
 ·exact .inr<| .inl h
 ·exact .inr<| .inr<| .inl h
 ·exact .inl h
 ·exact .inr<| .inr<| .inr h
def abo{u:Nat}{i:Int}(h:look Γ u=some (.MY t i)):bI P Γ ⟨d,.extract (.tmp t) 1,ty,pos,af,g⟩ (.val<|TI .i64 i):=
 bb fun _ _ _ a w _ hs=>by
  obtain⟨x,e⟩:=hs.holds _<|ay h
  have e':a.eval (.tmp t)= .tuple #[x,.int .i64 i]:=e;exact⟨.int .i64 i,by simp[execOp,e',Instr.extract],rfl,rfl⟩
end
section
variable[D:DR]
variable{P:Program}{N:Nat}{ops:Array Oper}{w0:aq P}{H0:HV}
def Ux{k:Nat}{av gP:ard (ard Nat)}{gK:ard Bool}{kl:ard (ard<|Nat×ard Nat)}{L:ard Nat}{S:ard Ctx}{Γ CS:Ctx}{ts:ard Nat}(gq:pb (ops.toList.take k)=true)(Lg:Be ops av=true)(Pl:Pu k kl gP gK L av=true)(hkn:k<=ops.size)(NU:∀i,k<=i->i<ops.size->∀j,j<k->j∈av.getD i [])
  (IJ:S.reverse.map Ar=kl)(hL:rB Γ=L)
  {w0:aq P}(hp:cd P N ops Γ [] (ops.toList.take k) gP gK S)(Cd:uX (S.flatten++Γ) ts CS)
  {H0:HV}{Q:Exit->Act->apT->Prop}(R0:∀(fuel:Nat) (listed:ath Bool) (a:Act) (w:apT) (H:HV),listed.size=ops.size->(∀j,j<ops.size->(rV listed j↔j<k))->(∀m,rV listed m->∀j∈av.getD m [],rV listed j)->YL listed<=fuel->Sat w0 H0 N CS a w H->uk (hC w0.rd) P ops Q fuel listed a w):
  ∀(fuel:Nat) (listed:ath Bool) (a:Act) (w:apT) (H:HV),listed.size=ops.size->(∀m,rV listed m->∀j∈av.getD m [],rV listed j)->(∀i,k<=i->i<ops.size-> ¬rV listed i)->
   YL listed<=fuel->Sat w0 H0 N (Pc listed S.reverse k Γ) a w H->uk (hC w0.rd) P ops Q fuel listed a w:=by
 obtain⟨⟨S',hS',hlen⟩,hnl,Pk,Sx⟩:=hp.at_;have hSl:S.length=k:=by rw[hS'];simp[hlen,hkn]
 have V5:gP.length=k:=by rw[hnl];simp[hkn]
 have ab8:gK.length=k:=by rw[Pk];simp[hkn]
 have key:∀j c,S.reverse[j]? =some c->kl.getD j []=Ar c:=by
  intro j c h;rw[<-IJ,gy,mH,h]
  rfl
 simp only[Pu,bV] at Pl;obtain⟨ZO,Qn⟩:=Pl;have Wn:∀i j (ci cj:Ctx),i<j->j<k->S.reverse[i]? =some ci->S.reverse[j]? =some cj->((∃p∈ci,p.1∈gP.getD j [])\/(∃p∈ci,∃q∈cj,p.1=q.1)\/(∃p∈cj,p.1∈gP.getD i []))->i∈av.getD j []:=by
  intro i j ci cj Sv hj h1 h2 h3;simp only[db,rA,mY,gY,wJ] at ZO;rcases ZO j hj i Sv with h|h
  ·rw[key i ci h1,key j cj h2] at h;simp only[wI] at h;exfalso;rcases h3 with⟨p,hp,h3⟩|⟨p,hp,q,hq,h3⟩|⟨p,hp,h3⟩
   ·have:=nN hp h3;rw[h.1.1] at this;cases this
   ·have:=nN (l:=(Ar cj).map (·.1)) hp (by rw[h3];exact mF.2 ⟨_,DS hq,rfl⟩);rw[h.1.2] at this;cases this
   ·have:=nN hp h3;rw[h.2] at this;cases this
  ·exact h
 have lean:∀j (cj:Ctx),j<k->gK.getD j true=true->S.reverse[j]? =some cj->∀p∈cj.take 1,(p.1∉L)/\∀i (ci:Ctx),i<k->S.reverse[i]? =some ci->∀q∈ci,p.1∈q.2.bH->(i≠j/\(q.1∈cj.map (·.1)\/j∈av.getD i []\/∃m,m∈av.getD j []/\i<m/\meets (kl.getD m []) [q.1]=true))\/(i=j/\∀p'∈cj.take 1,p'.1≠q.1):=by
  intro j cj hj hpj h1 p hp;have tk:(Ar cj).take 1=Ar (cj.take 1):=by simp[Ar,List.map_take]
  simp only[db,rA,mY,gY,bV] at Qn;rcases Qn j hj with h|⟨h2,h3⟩
  ·rw[hpj] at h;cases h
  ·rw[key j cj h1,tk] at h2;refine⟨(fun hm=>by have:=nN hp hm;rw[h2] at this;cases this),fun i ci hi h4 q hq h5=>?_⟩;have h6:=h3 i hi (q.1,q.2.bH) (by rw[key i ci h4];exact DS hq);have h6:=h6 p.1 h5;simp only[mY,gY,bV,oj,ne_eq,wJ] at h6;rcases h6 with(h6|⟨h6,(h7|h7)|h7⟩)|⟨h6,h7⟩
   ·have:=nN (l:=[p.1]) hp (by simp);rw[key j cj h1,tk] at h6;rw[h6] at this;cases this
   ·refine .inl ⟨h6,.inl ?_⟩;rw[key j cj h1] at h7;exact Es h7
   ·exact .inl ⟨h6,.inr<| .inl h7⟩
   ·obtain⟨m,hm,h8⟩:=Iv.1 h7;simp only[bV,wG] at h8;exact .inl ⟨h6,.inr<| .inr ⟨m,hm,h8.1,h8.2⟩⟩
   ·refine .inr ⟨by simpa using h6,fun p' hp' e=>?_⟩;rw[key j cj h1,tk] at h7;have:=nN (l:=[q.1]) hp' (by simp[e]);rw[h7] at this;cases this
 have pure:∀i o,i<k->ops[i]? =some o->∃c,S.reverse[i]? =some c/\WG P N ops Γ (gP.getD i []) (gK.getD i true) S.reverse i o c:=by
  intro i o hi ho;have e1:gP[i]? =some (gP.getD i []):=by simp[gy,V5,hi]
  have e2:gK[i]? =some (gK.getD i true):=by simp[gy,ab8,hi]
  obtain⟨p,h1,h2⟩:=Sx i o _ _ (by rw[L5 hi];simpa using ho) e1 e2;exact⟨p,by simpa using h1,by simpa using h2⟩
 have toTail:∀(fuel:Nat) (listed:ath Bool) (a:Act) (w:apT) (H:HV),listed.size=ops.size->(∀m,rV listed m->∀j∈av.getD m [],rV listed j)->(∀i,k<=i->i<ops.size-> ¬rV listed i)->
   YL listed<=fuel->(∀j,j<k->rV listed j)->Sat w0 H0 N (Pc listed S.reverse k Γ) a w H->uk (hC w0.rd) P ops Q fuel listed a w:=by
  intro fuel listed a w H hsz hc IJ hu hall cn;refine R0 fuel listed a w H hsz ?_ hc hu<|cn.weaken ?_
  ·intro j hj;constructor
   ·intro h;apply nF;intro Ui;exact IJ j (by omega) hj h
   ·exact hall j
  ·intro q hq;have Sx:=mL (S:=S.reverse) (fun j _=>rfl)<|Cd.looks q hq
   rw[hSl] at Sx;rw[mh];rcases Sx with⟨j,c,hj,h1,h1',h2⟩|⟨h1,h2⟩
   ·exact .inl ⟨j,c,hj,hall j hj,h1,h1',fun j' q' h3 h4 _ h5=>h2 j' q' h3 h4 h5⟩
   ·exact .inr ⟨h1,fun j q' h3 _ h5=>h2 j q' h3 h5⟩
 intro fuel
 induction fuel with
 |zero=>
  intro listed a w H hsz hc IJ hu cn;exact toTail 0 listed a w H hsz hc IJ hu (fun j hj=>Hi (by omega) (by omega)) cn
 |succ f ih=>
  intro listed a w H hsz hc IJ hu cn;by_cases hall:∀j,j<k->rV listed j
  ·exact toTail (f+1) listed a w H hsz hc IJ hu hall cn
  ·have⟨j0,hj0,hn0⟩:∃j,j<k/\ ¬rV listed j:=by
    apply nF;intro aii;exact hall fun j hj=>nF fun h=>aii ⟨j,hj,h⟩
   refine⟨fun e=>absurd e (Bq Lg hsz (by omega) hn0),fun i hi=>?_⟩;obtain⟨o,ho,Ql,_⟩:=(so hsz).1 hi;have JP:=(wM.1 ho).1;have Mg:i<listed.size:=hsz▸JP;have DT:=Bg Lg hsz hc hi;by_cases Su:i<k
   ·obtain⟨c,Fc,Ss⟩:=pure i o Su ho;obtain⟨c8,hex,bO⟩:=Ss.exec;have hin:∀q∈c8,q∈Pc listed S.reverse k Γ:=by
     intro q hq;obtain⟨hm,hx⟩:=bO q hq;have up:∀j' c',i<=j'->j'<k->rV listed j'->S.reverse[j']? =some c'->∀q'∈c',q'.1≠q.1:=by
      intro j' c' h3 h4 h5 h6 q' hq' e;rcases Nat.lt_or_eq_of_le h3 with h3|h3
      ·have:=Wn i j' c c' h3 h4 Fc h6 (.inr<| .inr ⟨q',hq',e▸hm⟩);exact Ql<|hc j' h5 i this
      ·subst h3;exact Ql h5
     refine mh.2 ?_;rcases hx with⟨j,cj,hj,RX,Ub,wN⟩|⟨hx,wN⟩
     ·refine .inl ⟨j,cj,by omega,DT j<|Wn j i cj c hj Su RX Fc<| .inl ⟨q,Ub,hm⟩,RX,Ub,fun j' c' h3 h4 h5 h6=>?_⟩;rcases jI j' i with h7|h7
      ·exact wN j' c' h3 h7 h6
      ·exact up j' c' h7 h4 h5 h6
     ·refine .inr ⟨hx,fun j' c' h4 h5 h6=>?_⟩;rcases jI j' i with h7|h7
      ·exact wN j' c' h7 h6
      ·exact up j' c' h7 h4 h5 h6
    have qh:gK.getD i true=true->∀q∈Pc listed S.reverse k Γ,q.1∉c.map (·.1)->∀p∈c.take 1,p.1∉q.2.bH:=by
     intro hpt q hq hnk p hp e;obtain⟨l1,l2⟩:=lean i c Su hpt Fc p hp;rcases mh.1 hq with⟨j,cj,hj,hlj,RX,Ub,wN⟩|⟨hq,_⟩
     ·rcases(l2 j cj hj RX q Ub e).resolve_right (fun h=>by obtain⟨rfl,_⟩:=h;exact Ql hlj)|>.2 with h|h
      ·exact hnk h
      ·rcases h with h|⟨m,hm,him,hme⟩
       ·exact Ql<|hc j hlj i h
       ·have hlm:=DT m hm;have hmk:m<k:=by
         apply nF;intro Ui;exact IJ m (by omega) (hsz▸abZ hlm) hlm
        obtain⟨cm,hcm,_⟩:=pure m ops[m] hmk (by simp<;>omega);rw[key m cm hcm] at hme;obtain⟨y,hy1,hy2⟩:=mF.1<|Es hme
        exact wN m cm (by omega) hmk hlm hcm y hy1 hy2
     ·exact l1<|hL▸DP hq e
    have NT:gK.getD i true=true->∀q∈c.take 1,∀p∈c.take 1,p.1∉q.2.bH:=by
     intro hpt q hq p hp e;rcases(lean i c Su hpt Fc p hp).2 i c Su Fc q (tC hq) e with h|h
     ·exact h.1 rfl
     ·exact h.2 q hq rfl
    obtain⟨Γn,wj,Qj⟩:=hex _ hin qh NT;refine Bi ho (xZ gq (B6 (i:=i) (by rw[L5 Su];simpa using ho)))<|wj w0 H0 a w H cn _ Q fun a' w' H' La=>?_
    refine ih _ _ w' H' (by simp[hsz]) ?_ ?_ ?_<|La.weaken ?_
    ·intro m hm x hx;rw[kA Mg] at hm⊢;rcases hm with hm|hm
     ·subst hm;exact .inr<|DT x hx
     ·exact .inr<|hc m hm x hx
    ·intro m ZG hm2;rw[kA Mg];rintro(h|h)
     ·omega
     ·exact IJ m ZG hm2 h
    ·have:=Ll Mg Ql;omega
    ·intro q hq;refine Qj q ?_;rcases mh.1 hq with⟨j,cj,hj,hlj,RX,Ub,wN⟩|⟨hq,wN⟩
     ·by_cases hji:j=i
      ·subst hji;rw[Fc] at RX;cases RX;exact B7 _ Ub
      ·have ach:rV listed j:=by
        rw[kA Mg] at hlj;rcases hlj with h|h
        ·exact absurd h hji
        ·exact h
       refine Ap _ (tc.2 ⟨mh.2 (.inl ⟨j,cj,hj,ach,RX,Ub,fun j' q' h3 h4 h5 h6=>wN j' q' h3 h4 (by rw[kA Mg];exact .inr h5) h6⟩),fun e=>?_⟩);obtain⟨p,hp,e⟩:=mF.1 e;rcases jI i j with h7|h7
       ·exact Ql<|hc j ach i<|Wn i j c cj h7 hj Fc RX<| .inr<| .inl ⟨p,hp,q,Ub,e⟩
       ·exact wN i c (by omega) Su (by rw[kA Mg];exact .inl rfl) Fc p hp e
     ·refine Ap _ (tc.2 ⟨mh.2 (.inr ⟨hq,fun j q' h4 h5 h6=>wN j q' h4 (by rw[kA Mg];exact .inr h5) h6⟩),fun e=>?_⟩);obtain⟨p,hp,e⟩:=mF.1 e;exact wN i c Su (by rw[kA Mg];exact .inl rfl) Fc p hp e
   ·exfalso;exact hn0 (DT j0 (NU i (by omega) JP j0 hj0))
def TH{α β:Type}[DecidableEq α]{x:α}{z:β}:∀{l:ard (α×β)},mix x l=none->mix x (l++[(x,z)])=some l.length
 |[],_=>by simp[mix]
 |p::l,h=>by
  simp only[mix] at h⊢;by_cases e:x=p.1
  ·simp[e] at h
  ·simp only[e,decide_false,fU,Option.map_eq_none_iff] at h;simp[e,mix,TH h]
def Zo{α β:Type}[DecidableEq α](l:ard (α×β))(x:α)(z:β):iC (mz l x z) x z=iC l x z:=by
 unfold mz;cases h:mix x l with
 |none=>
  have:=TH (z:=z) h;simp[iC,this,h]
 |some j=>rfl
end
section
variable[D:DR]
variable{P:Program}{N:Nat}{ops:Array Oper}{w0:aq P}{H0:HV}
variable{α β:Type}[DecidableEq α]{K E T:TypeId}{fK:α->Ty}{F:β->Ty}{l:List (α×β)}{x:α}{z y:β}{t dL dB dM dX:Nat}{pL:Ctx}
def Uz(K E:aq9)(fK:α->Ty)(F:β->Ty)(l:ard (α×β))(x:α)(z y:β)(t dL dB dM dX:Nat)(pL:Ctx)(fl fb fm fx:Bool):Ctx:=
 (bif fb then [(dB,.val<|F y)] else [])++(bif fl then [(dL,.val<|F<|iC l x z)] else [])++(bif fx then [(dX,.val<|TI .i64<|gQ x l)] else [])++(bif fm then [(dM,.I6 [F<|iC l x z,TI .i64<|gQ x l])] else [])++
  ((t,.nK K E 0 0<|mM fK (fun v=> .val<|F v)<|bif fm then mz l x z else l)::pL)
structure adD(N t dL dB dM dX:Nat)(pL:Ctx):Prop where
 lt:dL<N/\dB<N/\dM<N/\dX<N
 ne:dL≠t/\dB≠t/\dM≠t/\dX≠t/\dL≠dB/\dL≠dM/\dL≠dX/\dB≠dM/\dB≠dX/\dM≠dX
 fr:∀q∈pL,q.1≠t/\∀d∈[dL,dB,dM,dX],q.1≠d/\d∉q.2.bH
def ahI(N t dL dB dM dX:Nat)(pL:Ctx):Bool:=
 Nat.blt dL N&&Nat.blt dB N&&Nat.blt dM N&&Nat.blt dX N&&(dL !=t)&&(dB !=t)&&(dM !=t)&&(dX !=t)&&(dL !=dB)&&(dL !=dM)&&(dL !=dX)&&(dB !=dM)&&(dB !=dX)&&(dM !=dX)&&
 pL.all fun q=>q.1 !=t&&[dL,dB,dM,dX].all fun d=>q.1 !=d&& !q.2.bH.contains d
def Zl(h:ahI N t dL dB dM dX pL=true):adD N t dL dB dM dX pL:=by
 simp only[ahI,bV,oj,ne_eq,db,gY,IA,kE] at h;obtain⟨⟨⟨⟨⟨⟨⟨⟨⟨⟨⟨⟨⟨⟨h1,h2⟩,h3⟩,h4⟩,h5⟩,h6⟩,h7⟩,h8⟩,h9⟩,kG⟩,jv⟩,qC⟩,kU⟩,nJ⟩,mu⟩:=h;exact⟨⟨bU h1,bU h2,bU h3,bU h4⟩,⟨h5,h6,h7,h8,h9,kG,jv,qC,kU,nJ⟩,mu⟩
def fE{fl fb fm fx:Bool}{q:Nat×bL}:q∈Uz K E fK F l x z y t dL dB dM dX pL fl fb fm fx↔(fb=true/\q=(dB,.val<|F y))\/(fl=true/\q=(dL,.val<|F<|iC l x z))\/(fx=true/\q=(dX,.val<|TI .i64<|gQ x l))\/(fm=true/\q=(dM,.I6 [F<|iC l x z,TI .i64<|gQ x l]))\/
  q=(t,.nK K E 0 0<|mM fK (fun v=> .val<|F v)<|bif fm then mz l x z else l)\/q∈pL:=by
 cases fl<;>cases fb<;>cases fm<;>cases fx<;>simp[Uz,or_assoc]
def On{fl fb fm fx:Bool}(h:adD N t dL dB dM dX pL){d:Nat}(hd:d∈[dL,dB,dM,dX])(h1:d=dL->fl=false)(h2:d=dB->fb=false)(h3:d=dM->fm=false)(h4:d=dX->fx=false):
  mK d (Uz K E fK F l x z y t dL dB dM dX pL fl fb fm fx)=true:=by
 obtain⟨n1,n2,n3,n4,n5,n6,n7,n8,n9,n10⟩:=h.ne;simp only[mK,db,bV,oj,ne_eq,gY,IA,kE];intro q hq;rcases fE.1 hq with⟨hf,rfl⟩|⟨hf,rfl⟩|⟨hf,rfl⟩|⟨hf,rfl⟩|rfl|hq
 ·exact⟨fun e=>(by have:=h2 e.symm;rw[hf] at this;cases this),by simp[bL.bH]⟩
 ·exact⟨fun e=>(by have:=h1 e.symm;rw[hf] at this;cases this),by simp[bL.bH]⟩
 ·exact⟨fun e=>(by have:=h4 e.symm;rw[hf] at this;cases this),by simp[bL.bH]⟩
 ·exact⟨fun e=>(by have:=h3 e.symm;rw[hf] at this;cases this),by simp[bL.bH]⟩
 ·refine⟨fun e=>?_,by simp[bL.bH]⟩;simp only at e;simp only[bM,yD,or_false] at hd;rcases hd with r|r|r|r<;>subst r<;>simp_all
 ·exact(h.fr q hq).2 d hd
end
section
variable[D:DR]
variable{P:Program}{N:Nat}{ops:Array Oper}{w0:aq P}{H0:HV}
variable{α β:Type}[DecidableEq α]{K E T:TypeId}{fK:α->Ty}{F:β->Ty}{l:List (α×β)}{x:α}{z y:β}{t dL dB dM dX k:Nat}{pL:Ctx}{Q:Exit->Act->World->Prop}{av:List (List Nat)}{m kx:Operand}{oL oB oM oX oS:Oper}
def abA(Lg:Be ops av=true)(hsz:ops.size=k+5)(hd:ops.toList.drop k=[oL,oB,oM,oX,oS])(XS:((av.getD (k+1) []).contains k&&(av.getD (k+3) []).contains (k+2)&&(av.getD (k+4) []).contains k&&(av.getD (k+4) []).contains (k+1)&&(av.getD (k+4) []).contains (k+2)&&(av.getD (k+4) []).contains (k+3))=true)
  (gq:pb [oL,oB,oM,oX,oS]=true)(hg:(oL.guard,oB.guard,oM.guard,oX.guard,oS.guard)=(none,none,none,none,none))(afC:(oL.dst,oB.dst,oX.dst)=(some dL,some dB,some dX))(V7:adD N t dL dB dM dX pL)
  (hL:∀b,bI P (Uz K E fK F l x z y t dL dB dM dX pL false false b false) oL<| .val<|F<|iC l x z)(hB:bI P [(dL,.val<|F<|iC l x z)] oB (.val<|F y))
  (hM:∀sI:Ctx,(∀q∈Uz K E fK F l x z y t dL dB dM dX pL false false false false,q∈sI)->Step P N ops oM sI ((dM,.I6 [F<|iC l x z,TI .i64<|gQ x l])::(t,.nK K E 0 0<|mM fK (fun v=> .val<|F v)<|mz l x z)::del dM (bN t sI)))
  (hX:bI P [(dM,.I6 [F<|iC l x z,TI .i64<|gQ x l])] oX (.val<|TI .i64<|gQ x l))
  (hS:Step P N ops oS (Uz K E fK F l x z y t dL dB dM dX pL true true true true) ((t,.nK K E 0 0<|mM fK (fun v=> .val<|F v)<|qp l x y)::bN t (Uz K E fK F l x z y t dL dB dM dX pL true true true true)))
  (kk:lV w0 H0 N (Q .normal) ((t,.nK K E 0 0<|mM fK (fun v=> .val<|F v)<|qp l x y)::pL)):
  ∀(fuel:Nat) (listed:ath Bool) (a:Act) (w:apT) (H:HV),listed.size=ops.size->(∀j,j<k->rV listed j)-> ¬rV listed (k+4)->(∀m,rV listed m->∀j∈av.getD m [],rV listed j)->YL listed<=fuel->
   Sat w0 H0 N (Uz K E fK F l x z y t dL dB dM dX pL (listed.getD k false) (listed.getD (k+1) false) (listed.getD (k+2) false)<|listed.getD (k+3) false) a w H->uk (hC w0.rd) P ops Q fuel listed a w:=by
 have Sx:∀j,ops[k+j]? =[oL,oB,oM,oX,oS][j]? :=fun j=>by
  rw[<-hd,yF];simp
 simp only[bV,wJ] at XS;obtain⟨⟨⟨⟨⟨e1,e2⟩,e3⟩,e4⟩,e5⟩,e6⟩:=XS;obtain⟨n1,n2,n3,n4,n5,n6,n7,n8,n9,n10⟩:=V7.ne;obtain⟨l1,l2,l3,l4⟩:=V7.lt;simp only[LL] at hg afC;obtain⟨g1,g2,g3,g4,g5⟩:=hg;obtain⟨d1,d2,d4⟩:=afC;intro fuel
 induction fuel with
 |zero=>
  intro listed a w H hs _ hn _ hu;exact absurd (Hi (by omega) (by omega)) hn
 |succ f ih=>
  intro listed a w H hs hk hn hc hu cn;refine⟨fun e=>absurd e (Bq Lg hs (i:=k+4) (by omega) hn),fun i hi=>?_⟩;obtain⟨o,ho,Ql,_⟩:=(so hs).1 hi;have JP:=(wM.1 ho).1;have Mg:i<listed.size:=hs▸JP;have DT:=Bg Lg hs hc hi;have Su:k<=i:=by
   apply nF;intro h;exact Ql (hk i (by omega))
  obtain⟨j,rfl⟩:∃j,i=k+j:=⟨i-k,by omega⟩;have hj:j<5:=by omega
  rw[Sx j] at ho;have next:∀(a':Act) (w':apT) (H':HV),j≠4->Sat w0 H0 N (Uz K E fK F l x z y t dL dB dM dX pL (decide (j=0)||listed.getD k false) (decide (j=1)||listed.getD (k+1) false) (decide (j=2)||listed.getD (k+2) false) (decide (j=3)||listed.getD (k+3) false)) a' w' H'->
    uk (hC w0.rd) P ops Q f (listed.setIfInBounds (k+j) true) a' w':=fun a' w' H' hj4 hS'=>by
   have Uh:∀c,(listed.setIfInBounds (k+j) true).getD (k+c) false=(decide (j=c)||listed.getD (k+c) false):=fun c=>by
    by_cases e:j=c
    ·subst e;simp[Mg]
    ·have:k+j≠k+c:=by omega
     simp[DO,Array.getElem?_setIfInBounds_ne this,e]
   refine ih _ a' w' H' (by simp[hs]) (fun q hq=>(kA Mg).2<| .inr<|hk q hq) (fun h=>?_) ?_ (by have:=Ll Mg Ql;omega) ?_
   ·rcases(kA Mg).1 h with h|h
    ·omega
    ·exact hn h
   ·intro m hm q hq;rw[kA Mg] at hm⊢;rcases hm with hm|hm
    ·subst hm;exact .inr<|DT q hq
    ·exact .inr<|hc m hm q hq
   ·have h0:=Uh 0;simp only[tG] at h0;rw[h0,Uh 1,Uh 2,Uh 3];exact hS'
  have nl:∀{c:Nat},¬rV listed c->listed.getD c false=false:=fun{c} h=>by
   cases hb:listed.getD c false
   ·rfl
   ·exact absurd hb h
  have aca:∀o∈[oL,oB,oM,oX,oS],∀c,o.op≠ .defer c:=fun o h=>xZ gq h
  match j,hj with
  |0,_=>
   simp at ho;subst ho;have hf0:listed.getD k false=false:=nl Ql;refine Bi (o:=oL) (by rw[Sx 0];rfl) (aca _ (by simp)) ?_;simp only[Region.wanted,g1,if_true];refine hL (listed.getD (k+2) false) w0 H0 N a w H (cn.weaken fun q hq=>?_) _ Q fun v w' H' he hv hb=>?_
   ·rcases fE.1 hq with h|h|h|h|h|h
    ·cases h.1
    ·cases h.1
    ·cases h.1
    ·exact fE.2<| .inr<| .inr<| .inr<| .inl h
    ·exact fE.2<| .inr<| .inr<| .inr<| .inr<| .inl h
    ·exact fE.2<| .inr<| .inr<| .inr<| .inr<| .inr h
   ·rw[d1];have h1:=vh cn he l1 (On V7 (d:=dL) (by simp) (fun _=>hf0) (fun e=>absurd e n5) (fun e=>absurd e n6)<|fun e=>absurd e n7) (by simp[bL.bH]) hv hb;refine next _ w' H' (by decide)<|h1.weaken fun q hq=>?_
    rcases fE.1 hq with h|h|h|h|h|h
    ·exact fC _ (fE.2 (.inl (by simpa using h)))
    ·rw[h.2];simp
    ·exact fC _ (fE.2 (.inr (.inr (.inl (by simpa using h)))))
    ·exact fC _ (fE.2 (.inr (.inr (.inr (.inl (by simpa using h))))))
    ·exact fC _ (fE.2 (.inr (.inr (.inr (.inr (.inl (by simpa using h)))))))
    ·exact fC _<|fE.2<| .inr<| .inr<| .inr<| .inr<| .inr h
  |1,_=>
   simp at ho;subst ho;have hf1:listed.getD (k+1) false=false:=nl Ql;have hl0:listed.getD k false=true:=DT k e1;refine Bi (o:=oB) (by rw[Sx 1];rfl) (aca _ (by simp)) ?_;simp only[Region.wanted,g2,if_true];refine hB w0 H0 N a w H (cn.weaken fun q hq=>?_) _ Q fun v w' H' he hv hb=>?_
   ·rw[uO.1 hq];exact fE.2<| .inr<| .inl ⟨hl0,rfl⟩
   ·rw[d2];have h1:=vh cn he l2 (On V7 (d:=dB) (by simp) (fun e=>absurd e.symm n5) (fun _=>hf1) (fun e=>absurd e n8)<|fun e=>absurd e n9) (by simp[bL.bH]) hv hb;refine next _ w' H' (by decide)<|h1.weaken fun q hq=>?_
    rcases fE.1 hq with h|h|h|h|h|h
    ·rw[h.2];simp
    ·exact fC _ (fE.2 (.inr (.inl (by simpa using h))))
    ·exact fC _ (fE.2 (.inr (.inr (.inl (by simpa using h)))))
    ·exact fC _ (fE.2 (.inr (.inr (.inr (.inl (by simpa using h))))))
    ·exact fC _ (fE.2 (.inr (.inr (.inr (.inr (.inl (by simpa using h)))))))
    ·exact fC _<|fE.2<| .inr<| .inr<| .inr<| .inr<| .inr h
  |2,_=>
   simp at ho;subst ho;have hf2:listed.getD (k+2) false=false:=nl Ql;refine Bi (o:=oM) (by rw[Sx 2];rfl) (aca _ (by simp)) ?_;refine hM _ (fun q hq=>?_) w0 H0 a w H cn _ Q fun a' w' H' hS'=>?_
   ·rcases fE.1 hq with h|h|h|h|h|h
    ·cases h.1
    ·cases h.1
    ·cases h.1
    ·cases h.1
    ·exact fE.2 (.inr (.inr (.inr (.inr (.inl (by rw[hf2];exact h))))))
    ·exact fE.2<| .inr<| .inr<| .inr<| .inr<| .inr h
   ·have kF:∀q,q∈Uz K E fK F l x z y t dL dB dM dX pL (listed.getD k false) (listed.getD (k+1) false) (listed.getD (k+2) false) (listed.getD (k+3) false)->q.1≠t->q.1≠dM->dM∉q.2.bH->q∈(dM,bL.I6 [F<|iC l x z,TI .i64<|gQ x l])::(t,.nK K E 0 0<|mM fK (fun v=> .val<|F v)<|mz l x z)::del dM (bN t<|Uz K E fK F l x z y t dL dB dM dX pL (listed.getD k false) (listed.getD (k+1) false) (listed.getD (k+2) false)<|listed.getD (k+3) false):=
     fun q h1 h2 h3 h4=>fC _<|fC _<|p6 (lF h1 h2) h3 h4
    refine next _ w' H' (by decide)<|hS'.weaken fun q hq=>?_
    rcases fE.1 hq with h|h|h|h|h|h
    ·exact kF q (fE.2 (.inl (by simpa using h))) (by rw[h.2];exact n2) (by rw[h.2];exact n8) (by rw[h.2];simp[bL.bH])
    ·exact kF q (fE.2 (.inr (.inl (by simpa using h)))) (by rw[h.2];exact n1) (by rw[h.2];exact n6) (by rw[h.2];simp[bL.bH])
    ·exact kF q (fE.2 (.inr (.inr (.inl (by simpa using h))))) (by rw[h.2];exact n4) (by rw[h.2];exact fun e=>n10 e.symm) (by rw[h.2];simp[bL.bH])
    ·rw[h.2];simp
    ·rw[h];simp
    ·exact kF q (fE.2<| .inr<| .inr<| .inr<| .inr<| .inr h) (V7.fr q h).1 ((V7.fr q h).2 dM (by simp)).1 ((V7.fr q h).2 dM (by simp)).2
  |3,_=>
   simp at ho;subst ho;have hf3:listed.getD (k+3) false=false:=nl Ql;have St:listed.getD (k+2) false=true:=DT _ e2;refine Bi (o:=oX) (by rw[Sx 3];rfl) (aca _ (by simp)) ?_;simp only[Region.wanted,g4,if_true];refine hX w0 H0 N a w H (cn.weaken fun q hq=>?_) _ Q fun v w' H' he hv hb=>?_
   ·rw[uO.1 hq];exact fE.2<| .inr<| .inr<| .inr<| .inl ⟨St,rfl⟩
   ·rw[d4];have h1:=vh cn he l4 (On V7 (d:=dX) (by simp) (fun e=>absurd e.symm n7) (fun e=>absurd e.symm n9) (fun e=>absurd e.symm n10)<|fun _=>hf3) (by simp[bL.bH]) hv hb;refine next _ w' H' (by decide)<|h1.weaken fun q hq=>?_
    rcases fE.1 hq with h|h|h|h|h|h
    ·exact fC _ (fE.2 (.inl (by simpa using h)))
    ·exact fC _ (fE.2 (.inr (.inl (by simpa using h))))
    ·rw[h.2];simp
    ·exact fC _ (fE.2 (.inr (.inr (.inr (.inl (by simpa using h))))))
    ·exact fC _ (fE.2 (.inr (.inr (.inr (.inr (.inl (by simpa using h)))))))
    ·exact fC _<|fE.2<| .inr<| .inr<| .inr<| .inr<| .inr h
  |4,_=>
   simp at ho;subst ho;have h0:listed.getD k false=true:=DT _ e3;have h1:listed.getD (k+1) false=true:=DT _ e4;have h2:listed.getD (k+2) false=true:=DT _ e5;have h3:listed.getD (k+3) false=true:=DT _ e6;rw[h0,h1,h2,h3] at cn;refine Bi (o:=oS) (by rw[Sx 4];rfl) (aca _ (by simp)) ?_;refine hS w0 H0 a w H cn _ Q fun a' w' H' hS'=>?_
   refine PJ (kk a' w' H'<|hS'.weaken fun q hq=>?_) f _ (by simp[hs]) fun c hcs=>(kA Mg).2 ?_
   ·rcases bM.1 hq with h|h
    ·rw[h];simp
    ·exact fC _<|lF (fE.2<| .inr<| .inr<| .inr<| .inr<| .inr h) (V7.fr q h).1
   ·by_cases hck:c<k
    ·exact .inr<|hk c hck
    ·obtain⟨e,rfl⟩:∃e,c=k+e:=⟨c-k,by omega⟩;have:e=0\/e=1\/e=2\/e=3\/e=4:=by omega
     rcases this with rfl|rfl|rfl|rfl|rfl
     ·exact .inr h0
     ·exact .inr h1
     ·exact .inr h2
     ·exact .inr h3
     ·exact .inl rfl
def ade(n k:Nat)(av:ard (ard Nat)):Bool:=decide (k<=n)&&(List.range n).all fun i=>decide (i<k)||(List.range k).all fun j=>(av.getD i []).contains j
def X1{id:Nat}{S:ard Ctx}{Γ CS:Ctx}{ts ts2:ard Nat}{kl:ard (ard<|Nat×ard Nat)}{L:ard Nat}{gP:ard (ard Nat)}{gK:ard Bool}(gq:pb ops.toList=true)(hm:P.follows .mixedOrders=true)(hc:(Be ops av&&Pu k kl gP gK L av&&ade ops.size k av)=true)
  (hp:cd P N ops Γ [] (ops.toList.take k) gP gK S)(IJ:S.reverse.map Ar=kl)(hLn:rB Γ=L)(Cd:uX (S.flatten++Γ) ts CS)(akL:uX CS ts2 ((t,.nK K E 0 0<|mM fK (fun v=> .val<|F v) l)::pL))
  (hsz:ops.size=k+5)(hd:ops.toList.drop k=[oL,oB,oM,oX,oS])(XS:((av.getD (k+1) []).contains k&&(av.getD (k+3) []).contains (k+2)&&(av.getD (k+4) []).contains k&&(av.getD (k+4) []).contains (k+1)&&(av.getD (k+4) []).contains (k+2)&&(av.getD (k+4) []).contains (k+3))=true)
  (hg:(oL.guard,oB.guard,oM.guard,oX.guard,oS.guard)=(none,none,none,none,none))(afC:(oL.dst,oB.dst,oX.dst)=(some dL,some dB,some dX))(V7:ahI N t dL dB dM dX pL=true)
  (hL0:bI P (Uz K E fK F l x z y t dL dB dM dX pL false false false false) oL (.val<|F<|iC l x z))(hL1:bI P (Uz K E fK F l x z y t dL dB dM dX pL false false true false) oL (.val<|F<|iC (mz l x z) x z))(hB:bI P [(dL,.val<|F<|iC l x z)] oB (.val<|F y))
  (hM:WD P N ops (Uz K E fK F l x z y t dL dB dM dX pL false false false false) oM t (.nK K E 0 0<|mM fK (fun v=> .val<|F v)<|mz l x z) dM (.I6 [F<|iC l x z,TI .i64<|gQ x l]))
  (hX:bI P [(dM,.I6 [F<|iC l x z,TI .i64<|gQ x l])] oX (.val<|TI .i64<|gQ x l))
  (hS:Step P N ops oS (Uz K E fK F l x z y t dL dB dM dX pL true true true true) ((t,.nK K E 0 0<|mM fK (fun v=> .val<|F v)<|qp l x y)::bN t (Uz K E fK F l x z y t dL dB dM dX pL true true true true)))
  (kk:lV w0 H0 N (Q .normal) ((t,.nK K E 0 0<|mM fK (fun v=> .val<|F v)<|qp l x y)::pL)):Goal P w0 H0 N (.region id ops true) Q Γ:=by
 intro a w H hs;simp only[bV] at hc;obtain⟨⟨Lg,Pl⟩,NU⟩:=hc;simp only[ade,bV,wG,db,rA,mY,wJ] at NU;have h1:pb (ops.toList.take k)=true:=db.2 fun o ho=>db.1 gq o<|tC ho
 have h2:pb [oL,oB,oM,oX,oS]=true:=by rw[<-hd];exact db.2 fun o ho=>db.1 gq o<|yG ho
 have hL:∀b,bI P (Uz K E fK F l x z y t dL dB dM dX pL false false b false) oL (.val<|F<|iC l x z):=fun b=>by
  cases b
  ·exact hL0
  ·rw[Zo] at hL1;exact hL1
 refine Cs hm (Ux (w0:=w0) (H0:=H0) h1 Lg Pl NU.1 (fun i hi XQ j hj=>(NU.2 i XQ).resolve_left (by omega) j hj) IJ hLn hp Cd ?_ ops.size _ a _ H (by simp) ?_ ?_ ?_ ?_)
 ·intro fuel listed a w H wa Uf hcl hu cn;have nf:∀c,c<5->listed.getD (k+c) false=false:=fun c hcc=>by
   cases hb:listed.getD (k+c) false
   ·rfl
   ·have:=(Uf (k+c) (by omega)).1 hb;omega
  refine abA Lg hsz hd XS h2 hg afC (Zl V7) hL hB hM hX hS kk fuel listed a w H wa (fun j hj=>(Uf j (by omega)).2 hj) (fun h=>by have:=(Uf (k+4) (by omega)).1 h;omega) hcl hu ?_;have f0:=nf 0 (by omega);simp only[tG] at f0;rw[f0,nf 1 (by omega),nf 2 (by omega),nf 3 (by omega)];exact cn.weaken akL.sub
 ·intro m h;exact absurd h ki
 ·intro i _ hi h;exact absurd h ki
 ·simp[YL]
 ·have he:Ext w H {w with drawn:=w.drawn+1} H:=⟨⟨⟨rfl,rfl,rfl,bC _,fun _ _=>rfl⟩,GN.of<|vx _⟩,HV.le.refl _,fun _ _=>rfl,hs.sub⟩;refine(Dp hs he).weaken fun q hq=>?_
  rcases mh.1 hq with⟨j,_,_,hl,_⟩|⟨hq,_⟩
  ·exact absurd hl ki
  ·exact hq
end
section
variable{p:arb}
def K0{w w':apT}{at_:Addr}{u:aq9}{k:Addr}{v:apU}{b:Bool}{l:ard Addr}(h:w.viewStore p at_ u k v b= .ok (w',l)):w'.drawn=w.drawn:=by
 unfold World.viewStore at h;simp only[bind,Except.bind,pure,Except.pure,MonadExcept.throw,throwThe,MonadExceptOf.throw] at h
 repeat' (split at h)
 all_goals first|(cases h;done)|skip
 all_goals (cases h;rfl)
def Oe{w w':apT}{a:Addr}{v:apU}{b:Bool}{l:ard Addr}(h:w.farStore p a v b= .ok (w',l)):w'.drawn=w.drawn:=by
 unfold World.farStore at h;split at h
 ·split at h
  ·cases h;rename_i h2;exact K0 h2
  ·cases h
 ·cases h
def J2{α:Type}:∀(q:Ask α) (w:apT),w.drawn<=(w.ask q).2.drawn
 | .done a,w=>by simp[World.ask]
 | .ask arf range k,w=>by
  unfold World.ask;simp only;split
  ·exact J2 _ w
  ·exact fc (vx w.drawn)<|J2 _ {w with drawn:=w.drawn+1}
def YN(w:apT)(c:Sys):w.drawn<=(w.sys c).2.drawn:=by
 unfold World.sys;split
 ·exact bC _
 ·rename_i h;have:=J2 (Kernel.perform c w.os) w;rw[h] at this;exact this
def Y3{α:Type}:∀(s:Sem α) {w w':apT} {v:α},s.run p w= .ok v w'->w.drawn<=w'.drawn:=by
 intro s
 induction s with
 |pure a=>intro w w' v h;simp only[Sem.run] at h;cases h;exact bC _
 |load m a k ih=>
  intro w w' v h;simp only[Sem.run] at h;split at h
  ·exact ih _ h
  ·split at h
   ·exact ih _ h
   ·cases h
 |store m a u k ih=>
  intro w w' v h;have key:∀r:Result α,(match w.cell? a with
   |some _=>if w.frozen? a then Result.halt (.unsupported<| .unsafePointer "a write to bytes that a string shares") w else k.run p (w.setCell a u)
   |none=>match w.farStore p a u (m== .atomic) with
    | .ok (w,_)=>k.run p w
    | .error h=>Result.halt h w)=r->r= .ok v w'->w.drawn<=w'.drawn:=by
   intro r hr e;subst e;split at hr
   ·split at hr
    ·cases hr
    ·have:= @ih _ _ _ hr;exact this
   ·split at hr
    ·rename_i w2 l h2;have:=ih hr;rwa [Oe h2] at this
    ·cases hr
  cases u<;>first|(unfold Sem.run at h;cases h;done)|(unfold Sem.run at h;exact key _ rfl h)
 |new o k ih=>intro w w' v h;simp only[Sem.run] at h;have:= @ih _ _ _ _ h;exact this
 |shape r k ih=>intro w w' v h;simp only[Sem.run] at h;exact ih _ h
 |freeze a n k ih=>
  intro w w' v h;simp only[Sem.run] at h;have:=ih h;have e:(w.freeze a n).drawn=w.drawn:=by unfold World.freeze;split<;>rfl
  rwa [e] at this
 |frozen a k ih=>intro w w' v h;simp only[Sem.run] at h;exact ih _ h
 |getObj r k ih=>
  intro w w' v h;simp only[Sem.run] at h;split at h<;>first|(cases h;done)|exact ih _ h
 |setObj r o k ih=>
  intro w w' v h;simp only[Sem.run] at h;split at h
  ·cases h
  ·have:= @ih _ _ _ h;exact this
  ·cases h
 |choose q k ih=>
  intro w w' v h;simp only[Sem.run] at h;split at h
  ·exact ih _ h
  ·have:= @ih _ _ _ _ h;exact fc (vx _) this
 |sys c k ih=>
  intro w w' v h;simp only[Sem.run] at h;exact fc (YN w c)<|ih _ h
 |program k ih=>intro w w' v h;simp only[Sem.run] at h;exact ih _ h
 |mark m k ih=>intro w w' v h;simp only[Sem.run] at h;exact ih h
 |halt h=>intro w w' v e;simp only[Sem.run] at e;cases e
end
section
variable[D:DR]
variable{P:Program}{w0:aq P}{H0:HV}{N:Nat}{ops:Array Oper}{Q:Exit->Act->World->Prop}{Γ az:Ctx}{d:Option Tmp}{ty:TypeId}{pos:String}{af:Array Edge}{g:Option (Nat×Bool)}
def qc{f:FuncId}{args c6:ard Ty}(hc:dY P f=true)
  (h:∀(w:apT) (H:HV) (vs:ard apU),(∀r o,H r=some o->w.heap[r]? =some o)->pI P H->BF H args vs->Calls P f vs.toArray w fun e w'=>∃v,e= .returned v/\E0 w.heap.size w w'/\vO H c6 v):al P f args (.vs c6):=
 ⟨hc,fun w H vs sub gl ha=>(h w H vs sub gl ha).mono fun e w' ⟨v,he,hb,hv⟩=>⟨v,he,hb,H,fun _ _=>rfl,fun r o hr=>by
  have:=sub r o hr;rw[hb.block r<|lt_of_heap this];exact this,hv⟩⟩
def lB(l:ard UInt8):ard Ty:=l.map fun b=>TI .u8 (b.toNat:Int)
def JD{H:HV}:∀{l:ard UInt8} {xs:ard apU},uD H (lB l) xs↔xs=Lib.byteCells l
 |[],xs=>Iff.rfl
 |b::l,xs=>by
  show uD H (TI .u8 (b.toNat:Int)::lB l) xs↔_;constructor
  ·rintro⟨v,rest,e,hv,hr⟩;have hv:v= .int .u8 b.toNat:=hv;subst hv;rw[JD] at hr;subst hr;exact e
  ·intro e;exact⟨.int .u8 b.toNat,Lib.byteCells l,e,rfl,JD.2 rfl⟩
def EJ(l:ard UInt8):(lB l).length=l.length:=by simp[lB]
def Ko{T E:aq9}(h:(P.info? T).bind (·.zero)=some (.agg #[.pointer none,.slice none 0 0])):bI P Γ ⟨d,.alloc T,ty,pos,af,g⟩ (.GO T E<|lB []):=
 iN fun w0 _ _ a w H hs=>by
  have hz:bJ P T (iv 2 true):=a7 _ h<|fun _=>iQ rfl rfl
  have hr:(zeroValue T).run P w= .ok (.agg #[.pointer none,.slice none 0 0]) w:=by
   cases hi:P.info? T with
   |none=>rw[hi] at h;cases h
   |some i=>rw[hi] at h;exact z7 hi h w
  refine⟨.pointer<|some ⟨w.heap.size,0,none⟩,w.alloc<| .cells #[.pointer none,.slice none 0 0] T,H,?_,Ext.alloc hs.sub _,?_,?_⟩
  ·simp[execOp,Instr.alloc,hr,newVar,newRow,Value.cells]
  ·refine⟨w.heap.size,_,_,rfl,rO w _,.inl rfl,?_,.inl hs.below.size,Jr,by simp[Value.ownBlock]⟩;cases hh:H w.heap.size with
   |none=>rfl
   |some o=>have:=wU hs.sub hh;omega
  ·rintro b ⟨c,e,hb⟩;cases e;rcases hb with hb|⟨p,r,hc,hb⟩
   ·omega
   ·rw[rO] at hc;simp at hc;obtain⟨rfl,rfl⟩:=hc;simp[Value.ownBlock] at hb
def afY{w:apT}{t u ty e:aq9}{i:TypeInfo}(ht:P.underlying t=some (.slice e))(hu:P.underlying u=some .string)(hi:P.info? e=some i)(hz:i.zero=some (.int .u8 0))(NS:i.size=1)(hby:i.bytes=1)
  {v:apU}{n:Nat}{xs:ard apU}(hown:w.ownsRow 0 e 1 v n xs)(s:ByteArray)(hlen:n+s.size<=140737488355328):
  ∃v' w',(Builtin.append_ #[t,u] ty #[v,.string s]).run P w= .ok v' w'/\w'.ownsRow 0 e 1 v' (n+s.size) (xs++Lib.strCells s)/\zM w w' v.ownBlock/\
   ∀b,v'.ownBlock=some b->v.ownBlock=some b\/w.heap.size<=b:=by
 have Lh:n+s.size<=maxLen:=by unfold maxLen;omega
 obtain⟨v',w',hr,h2,h3,h4⟩:=Lib.run_append_own_string (P:=P) w 0 t u ty e i ht hu hi hz NS hby v n xs hown s Lh hlen<|jc _
 refine⟨v',w',hr,h2,⟨h3,GN.of<|Y3 _ hr⟩,fun b hb=>?_⟩;have FT:xs.length=n:=by simpa using hown.1
 rcases hown.2 with⟨rfl,rfl⟩|⟨g,cap,cur,rfl,hbg,hg,hnc,hcm,hcs,htake⟩
 ·by_cases hm:s.size=0
  ·rw[h4.2 ⟨rfl,hm⟩] at hb;simp[Value.ownBlock] at hb
  ·have JO:=run_append_nil_string (P:=P) w t u ty e i (.int .u8 0) ht hu hi hz s (by omega) (by omega) (by rw[hby];omega);rw[hr] at JO;cases JO;simp[Value.ownBlock] at hb;exact .inr (by omega)
 ·by_cases Kz:n+s.size<=cap
  ·have JO:=Lib.run_append_room_string (P:=P) w t u ty e i ht hu hi NS g n cap cur hg s Kz (by omega);rw[hr] at JO;cases JO;exact .inl hb
  ·have holds:∀j u,xs[j]? =some u->w.cell? ((⟨g,0,none⟩:Addr).add j)=some u:=hown.cells (g:=g) rfl;have JO:=Lib.run_append_grow_string (P:=P) w t u ty e i (.int .u8 0) ht hu hi hz ⟨g,0,none⟩ n cap xs (by rw[NS];simpa using FT) holds s (by omega) (by omega) (by rw[hby];exact growslice_fits (by omega) (by omega));rw[hr] at JO;cases JO;simp[Value.ownBlock] at hb;exact .inr (by omega)
def ag5{w:apT}{ops:ath Oper}{rest:ard Oper}{o:Oper}{a:Act}{Q:Exit->Act->apT->Prop}(hgd:o.guard=none)(sl x:arc)(t u:aq9)
  (ho:o.op= .call {callee:= .builtin .append,args:= #[sl,x],argTypes:= #[t,u]})
  (e:aq9)(i:TypeInfo)(ht:P.underlying t=some (.slice e))(hu:P.underlying u=some .string)(hi:P.info? e=some i)(hz:i.zero=some (.int .u8 0))(NS:i.size=1)(hby:i.bytes=1)
  (v:apU)(n:Nat)(xs:ard apU)(hs:a.eval sl=v)(hown:w.ownsRow 0 e 1 v n xs)(s:ByteArray)(hx:a.eval x= .string s)(hlen:n+s.size<=140737488355328)
  (h:∀v' w',w'.ownsRow 0 e 1 v' (n+s.size) (xs++Lib.strCells s)->zM w w' v.ownBlock->(∀b,v'.ownBlock=some b->v.ownBlock=some b\/w.heap.size<=b)->wpList P ops Q rest (a.put o.dst v') w'):wpList P ops Q (o::rest) a w:=by
 refine wpList_plain hgd fun K hK=>?_
 obtain⟨v',w',hr,h2,h3,h4⟩:=afY (P:=P) (ty:=o.type) ht hu hi hz NS hby hown s hlen;unfold Oper.wp execOp;simp only[ho,resolve,invoke,builtin,eN,ot,eE,List.map_toArray,tH,LK,hs,hx,hr];exact hK _ _<|h v' w' h2 h3 h4
end
section
open Go.Shelf
variable[D:DR]
variable{P:Program}{ρ:Ren}
variable{w:apT}{M:Nat->Prop}{v:apU}{w':apT}{b:Nat}{p:apU}{T:aq9}
structure Tr(M:Nat->Prop)(w w':apT):Prop where
 size:w.heap.size<=w'.heap.size
 os:w'.os=w.os
 tape:w'.tape=w.tape
 output:w'.output=w.output
 drawn:GN w w'
 kF:∀k,k<w.heap.size-> ¬M k->w'.heap[k]? =w.heap[k]?
def Tr.refl(M:Nat->Prop)(w:apT):Tr M w w:=⟨bC _,rfl,rfl,rfl,bC _,fun _ _ _=>rfl⟩
def Tr.trans{M:Nat->Prop}{w w' w'':apT}(h:Tr M w w')(k:Tr M w' w''):Tr M w w'':=
 ⟨fc h.size k.size,k.os.trans h.os,k.tape.trans h.tape,k.output.trans h.output,fc h.drawn k.drawn,fun i hi hm=>(k.kF i (nD hi h.size) hm).trans<|h.kF i hi hm⟩
def Tr.setCell{M:Nat->Prop}(w:apT)(a:Addr)(x:apU)(h:M a.block):Tr M w (w.setCell a x):=
 ⟨by simp[World.setCell],rfl,rfl,rfl,bC _,fun k _ hk=>Below.heap_setCell _ _ _ _<|fun e=>hk<|e▸h⟩
def Tr.grown{row:atg Nat}(h:zM w w' row)(hr:∀k,row=some k->M k):Tr M w w':=
 ⟨h.size,h.os,h.tape,h.output,h.drawn,fun k hk hm=>h.block k hk<|fun e=>hm<|hr k e.symm⟩
def Tr.mono{M2:Nat->Prop}{w2:apT}(h:Tr M w w2)(k:∀b,M b->M2 b):Tr M2 w w2:=⟨h.size,h.os,h.tape,h.output,h.drawn,fun i hi hm=>h.kF i hi<|fun x=>hm<|k i x⟩
def Tr.drew{M:Nat->Prop}(w:apT):Tr M w w.drew:=⟨bC _,rfl,rfl,rfl,GN.of<|vx _,fun _ _ _=>rfl⟩
def Tr.below(h:E0 w.heap.size w w'):Tr M w w':=⟨h.size,h.os,h.tape,h.output,h.drawn,fun k hk _=>h.block k hk⟩
def Tr.AN{H:HV}(h:Tr M w w')(sub:∀r o,H r=some o->w.heap[r]? =some o)(hM:∀b,M b->H b=none):I2 M w H w' H:=
 ⟨h.size,h.os,h.tape,h.output,h.drawn,HV.le.refl _,fun b hb hm=>⟨h.kF b hb hm,rfl⟩,fun r o hr=>by
  have hw:=sub r o hr;rw[h.kF r (lt_of_heap hw) (fun hm=>by rw[hM r hm] at hr;cases hr)];exact hw⟩
def Jy(hb:w.heap[b]? =some (.cells #[p,v] T (0,0))):w.cell? ⟨b,0,none⟩=some p/\w.cell? ⟨b,1,none⟩=some v/\w.shape? b=some (T,2)/\(∀j,w.frozen? ⟨b,j,none⟩=false):=
 ⟨by rw[Iu hb];rfl,by rw[Iu hb];rfl,by simp[World.shape?,hb],fun j=>Lib.frozen_of_heap hb j⟩
def ZM{x:apU}(hb:w.heap[b]? =some (.cells #[p,v] T (0,0))):(w.setCell ⟨b,1,none⟩ x).heap[b]? =some (.cells #[p,x] T (0,0)):=by
 simp[World.setCell,B8,hb]
def ZN{x:apU}(hb:w.heap[b]? =some (.cells #[p,v] T (0,0))):(w.setCell ⟨b,0,none⟩ x).heap[b]? =some (.cells #[x,v] T (0,0)):=by
 simp[World.setCell,B8,hb]
def aab(L:Lays.n240 P ρ)(X:Builder.X72 P ρ)(hb:w.heap[b]? =some (.cells #[p,v] (ρ.t 72) (0,0)))(hp:p= .pointer none\/p= .pointer (some ⟨b,0,none⟩)):
  Calls P (ρ.f 240) #[.pointer<|some ⟨b,0,none⟩] w fun e w'=>e= .returned (.tuple #[])/\w'.heap[b]? =some (.cells #[.pointer<|some ⟨b,0,none⟩,v] (ρ.t 72) (0,0))/\Tr (fun k=>k=b) w w'/\w'.heap.size=w.heap.size:=by
 obtain⟨c0,c1,nP,hfz⟩:=Jy hb;rcases hp with rfl|rfl
 ·refine(Any.Builder_copyCheck_fresh L X b w c0 nP<|hfz 0).mono ?_;rintro e w' ⟨rfl,rfl⟩;exact⟨rfl,ZN hb,Tr.setCell w _ _ rfl,by simp[World.setCell]⟩
 ·refine(Any.Builder_copyCheck_used L X b w c0).mono ?_;rintro e w' ⟨rfl,rfl⟩;exact⟨rfl,hb,Tr.refl _ _,rfl⟩
def Tj{e:aq9}{n:Nat}{xs:ard apU}(h:w.ownsRow 0 e 1 v n xs)(hk:∀g,v.ownBlock=some g->w'.heap[g]? =w.heap[g]?):w'.ownsRow 0 e 1 v n xs:=by
 refine⟨h.1,?_⟩;rcases h.2 with h|⟨g,cap,cur,e1,h1,hc,h2⟩
 ·exact .inl h
 ·exact .inr ⟨g,cap,cur,e1,h1,by rw[hk g (by rw[e1];rfl)];exact hc,h2⟩
set_option maxHeartbeats 2000000 in
set_option maxRecDepth 100000 in
def Lj(L:Lays.n166 P ρ)(X:Builder.Extra P ρ){bs:ard apU}(s:ByteArray)(hb:w.heap[b]? =some (.cells #[p,v] (ρ.t 72) (0,0)))(hp:p= .pointer none\/p= .pointer (some ⟨b,0,none⟩))
 (hown:w.ownsRow 0 (ρ.t 5) 1 v bs.length bs)(hne:v.ownBlock≠some b)(hlen:bs.length+s.size<=140737488355328):
  Calls P (ρ.f 166) #[.pointer<|some ⟨b,0,none⟩,.string s] w fun e w'=>e= .returned (.tuple #[.int .i64 s.size,.nilIface])/\∃v',w'.heap[b]? =some (.cells #[.pointer<|some ⟨b,0,none⟩,v'] (ρ.t 72) (0,0))/\w'.ownsRow 0 (ρ.t 5) 1 v' (bs.length+s.size) (bs++Lib.strCells s)/\v'.ownBlock≠some b/\
   (∀g,v'.ownBlock=some g->v.ownBlock=some g\/w.heap.size<=g)/\Tr (fun k=>k=b\/v.ownBlock=some k) w w':=by
 obtain⟨i0,hi,hz0,hz1,hz2⟩:=info_parts X.infoByte;have hblt:b<w.heap.size:=lt_of_heap hb;have mixed:=L.mixed;have t72:=L.t72;have a72:=L.a72;have z72:=L.z72;have v72:=L.v72;have u72:=pt L.t72;have t70:=L.t70;have a70:=L.a70;have z70:=L.z70;have v70:=L.v70;have u70:=pt L.t70;have t37:=L.t37;have a37:=L.a37;have z37:=L.z37;have v37:=L.v37;have u37:=pt L.t37;have t3:=L.t3;have a3:=L.a3;have z3:=L.z3;have v3:=L.v3;have u3:=pt L.t3;have t9:=L.t9;have a9:=L.a9;have z9:=L.z9;have v9:=L.v9;have u9:=pt L.t9;have t4:=L.t4;have a4:=L.a4;have z4:=L.z4;have v4:=L.v4;have u4:=pt L.t4;have t164:=L.t164;have a164:=L.a164;have z164:=L.z164;have v164:=L.v164;have u164:=pt L.t164;have t5:=X.t5;have a5:=X.a5;have z5:=X.z5;have v5:=X.v5;have u5:=pt X.t5;have e240:∀args w,(callFunc (ρ.f 240) args).run P w= .ok (.enter (ρ.f 240) args) w:=enters_of L.f240 (by kernel_rfl) rfl
 go_enter L.f166,Body.n166_ntmps ρ
 go_wp2_with (go_at_fn (ρ.f 240);refine(aab {L with} X.toX72 hb hp).mono ?_)
 rintro e w1 ⟨rfl,hb1,ht1,hs1⟩;have hown1:w1.ownsRow 0 (ρ.t 5) 1 v bs.length bs:=Tj hown fun g hg=>ht1.kF g (hown.lt g hg).2 (fun e=>hne (by rw[hg,e]))
 obtain⟨c0,c1,_,_⟩:=Jy hb1
 go_wp2_with (at_builtin;refine ag5 rfl _ _ (ρ.t 37) (ρ.t 9) rfl (ρ.t 5) i0 L.t37 L.t9 hi hz0 hz1 hz2 _ _ _ rfl hown1 s rfl hlen ?_)
 intro v' w2 hown' hgrow hfr;have hb2:w2.heap[b]? =some (.cells #[.pointer<|some ⟨b,0,none⟩,v] (ρ.t 72) (0,0)):=by
  rw[hgrow.block b (by omega)<|fun e=>hne e.symm];exact hb1
 obtain⟨d0,d1,_,hf⟩:=Jy hb2;have f1:=hf 1;have hne':v'.ownBlock≠some b:=fun e=>by
  rcases hfr b e with h|h
  ·exact hne h
  ·omega
 obtain⟨ao,n',cap,rfl⟩:∃ao n' cap,v'= .slice ao n' cap:=by
  rcases hown'.2 with⟨hv,_⟩|⟨g,cap,cur,hv,_⟩
  ·exact⟨_,_,_,hv⟩
  ·exact⟨_,_,_,hv⟩
 go_wp2
 go_ret2
 refine⟨rfl,_,ZM hb2,Tj hown' fun g hg=>?_,hne',fun g hg=>by have:=hfr g hg;omega,?_⟩
 ·exact Below.heap_setCell _ _ _ _ (fun e=>hne' (by rw[hg,e]))
 ·exact((ht1.mono<|fun k h=> .inl h).trans<|Tr.grown hgrow<|fun k h=> .inr h).trans<|Tr.setCell _ _ _<| .inl rfl
def Tr.freeze{M:Nat->Prop}(w:apT)(a:Addr)(n:Nat)(h:M a.block):Tr M w (w.freeze a n):=by
 unfold World.freeze;split
 ·exact Tr.refl _ _
 ·refine⟨by simp,rfl,rfl,rfl,bC _,fun k _ hk=>?_⟩;simp only[B8];rw[if_neg (fun(e:a.block=k)=>hk (by rw[<-e];exact h))]
end
end Trn
