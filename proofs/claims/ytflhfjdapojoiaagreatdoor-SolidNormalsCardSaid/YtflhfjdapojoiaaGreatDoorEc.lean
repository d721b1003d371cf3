/-
  Part of the proof of SolidNormals.
-/
import Derived.Test.YtflhfjdapojoiaaGreatDoorEb
set_option maxRecDepth 100000
set_option maxHeartbeats 20000000
set_option linter.all false
open Go Go.RowKit Go.Proofs
namespace Trn
section
variable[D:DR]
variable{P:Program}{w0:ar P}{H0:HV}{N:Nat}{ops:Array Oper}{Q:Exit->Act->World->Prop}{Γ aA:Ctx}{d:Option Tmp}{ty:TypeId}{pos:String}{af:Array Edge}{g:Option (Nat×Bool)}
variable{ps:att lE}{t:Nat}{w:arG}{H:HV}{i:Nat}{T:ato}{gg:Bool}{p:Nat}{T':ato}{a:Act}{B:ar P}{sz:Nat}{l:att Ty}{off:Nat}{pp:lE}{u:Nat}{E:ato}{H':HV}{Eb:ato}
def XT{eI:Ctx}(dc:∀q∈eI,q∈Γ){dd:Nat}(sm:Bool)(hp:nW eI p t off)(ht:look eI t=some (.vW T' gg ps))(hi:ps[i]? =some pp)(ho:eN ps i=off)(h1:pp.n=1)(hg:pp.agg=false)(hT:fM P T 1 false=true)
 (vD:dd<N)(hne:dd≠t)(hd:dd∉G5 ps):
  Step P N ops ⟨some dd,.load T<| .tmp p,ty,pos,af,none⟩ Γ ((dd,pp.sty)::(t,.vW T' gg<|ps.set i<|Ka dd sm)::del dd (da t Γ)):=by
 intro w0 H0 a w H dh K Q k;simp only[Region.wanted,if_true];obtain⟨b,cs,e,ep,hb,hn,hm,ij,OV,hx⟩:=hp.ok ht<|dh.weaken dc
 subst ho;obtain⟨h2,h3,h4,h5⟩:=Cf ij hi;have sO:=Px (p:=pp) (by rw[h1,hg];exact hT) hb ij hi
 generalize hv:pv pp (eN ps i) cs.toList=v at*
 unfold Oper.wp;have er:(execOp a.eval ⟨some dd,.load T<| .tmp p,ty,pos,af,none⟩).run P w= .ok (.value v) w:=by
  simp[execOp,ep,Instr.loadAt,Instr.sureAddr,sO]
 rw[er,ve];have hv1:v.oneCell'=true:=by rw[h1,hg] at h3;exact(DD h3).1
 have Kf:(Ka dd sm).n=pp.n:=by rw[h1];cases sm<;>rfl
 have pt:Shape (Ka dd sm).n (Ka dd sm).agg v:=by rw[h1,hg] at h3;cases sm<;>exact h3
 have ajg:OS w0 (a.put (some dd) v) w H ps cs.toList:=Cg (fun u hu=>lM<|fun e=>hd<|e▸hu) ij;have hq:(Ka dd sm).holds w0 (a.put (some dd) v) w H v:=by
  cases sm
  ·exact Shape.one hv1
  ·exact⟨(ua (by rw[dh.sz];exact vD)).symm,hv1⟩
 have Bk:∀c,¬(Ka dd sm).owns w v c:=fun c h=>by cases sm<;>exact h
 obtain⟨zJ,hcs,k1,k2,k3⟩:=BC ajg OV hi pt Kf hq<|fun c hc=>absurd hc<|Bk c
 have hcc:zJ=cs.toList:=by rw[hcs,<-hv];exact K8 ij hi
 rw[hcc] at k1 k2 k3;refine k _ _ H (Zj dh (dc _<|aF ht) vD hne (by rw[lE.Y9];simp) ?_ (lE.Za h4) ?_ ?_ ?_)
 ·refine⟨b,cs,e,hb,hn,hm,k1,k2,fun hc=>?_⟩;rcases k3 b hc with h|h
  ·exact Bk b h
  ·exact hx h.1
 ·rintro c ⟨c',e',hc⟩;simp only[e] at e';cases e';refine⟨b,e,?_⟩;rcases hc with hc|⟨cs2,hb2,hc⟩
  ·exact .inl hc
  ·rw[hb] at hb2;cases hb2;rcases k3 c hc with h|h
   ·exact absurd h<|Bk c
   ·exact .inr ⟨cs,hb,h.1⟩
 ·intro c hc;exact⟨b,e,.inr ⟨cs,hb,pJ.2 ⟨i,pp,hi,by rw[hv];exact lE.Dz.1 hc⟩⟩⟩
 ·rintro c hc ⟨c',e',AF⟩;simp only[e] at e';cases e';have hc:=lE.Dz.1 hc;rcases AF with AF|⟨cs2,hb2,AF⟩
  ·subst AF;exact hx (pJ.2 ⟨i,pp,hi,by rw[hv];exact hc⟩)
  ·rw[hb] at hb2;cases hb2;rcases k3 c AF with h|h
   ·exact Bk c h
   ·exact h.2 (by rw[hv];exact hc)
def QO{eI:Ctx}(dc:∀q∈eI,q∈Γ){q:lE}{x:atq}(hp:nW eI p t off)(ht:look eI t=some (.vW T' gg ps))(hi:ps[i]? =some pp)(ho:eN ps i=off)(hn:q.n=pp.n)
 (hT:fM P T q.n q.agg=true)(hq:∀(a:Act) (w:arG) (H:HV),Sat w0 H0 N eI a w H->Shape q.n q.agg (a.eval x)/\q.holds w0 a w H (a.eval x))(Bk:∀w v b,¬q.owns w v b)
 (dh:Sat w0 H0 N Γ a w H){K:Act->arG->Prop}(k:∀w',Sat w0 H0 N ((t,.vW T' gg<|ps.set i q)::da t Γ) a w' H->K a w'):
  (⟨none,.store T (.tmp p) x,ty,pos,af,none⟩:Oper).wp P a w K Q:=by
 obtain⟨b,cs,e,ep,hb,hnb,hm,ij,OV,hx⟩:=hp.ok ht<|dh.weaken dc
 subst ho;obtain⟨pt,hqh⟩:=hq a w H<|dh.weaken dc
 obtain⟨h2,_,_,_⟩:=Cf ij hi;obtain⟨zJ,hcs,k1,k2,k3⟩:=BC ij OV hi pt hn hqh<|fun c hc=>absurd hc<|Bk _ _ c
 have sO:=lP (P:=P) (x:=a.eval x) (off:=eN ps i) (BL hT) pt.size hb (by rw[hn];simpa using h2) pt.cell;rw[hn,<-hcs] at sO;unfold Oper.wp;have er:(execOp a.eval ⟨none,.store T (.tmp p) x,ty,pos,af,none⟩).run P w= .ok .skip (w.setRow b zJ.toArray):=by
  simp[execOp,ep,Instr.storeAt,Instr.sureAddr,sO]
 rw[er,Ao];have hg:CR w (w.setRow b zJ.toArray) (some b):=CR.setRow w b _;have ju:(w.setRow b zJ.toArray).heap[b]? =some (.cells zJ.toArray T' (0,0)):=EL w b _ _ _ _ hb;have hnx: ¬lX w b (ps.set i q) zJ:=fun hc=>by
  rcases k3 b hc with h|h
  ·exact Bk _ _ b h
  ·exact hx h.1
 have Vi:=Le (w':=w.setRow b zJ.toArray) (H':=H) (HV.le.refl H) k1 (fun c hc=>⟨hg.block c (ra k1 hc).1 (fun e=>by cases e;exact hnx hc),rfl⟩);refine k _ (lg dh (dc _<|aF ht) hg hm ⟨b,e,.inl rfl⟩ ⟨b,zJ.toArray,e,ju,hnb,hm,by simpa using Vi.1,by simpa using Vi.2.2 k2,by simpa using fun h=>hnx<|(Vi.2.1 b).1 h⟩ ?_);rintro c ⟨c',e',hc⟩;simp only[e] at e';cases e';rcases hc with hc|⟨cs2,hb2,hc⟩
 ·subst hc;exact .inl ⟨c,e,.inl rfl⟩
 ·rw[ju] at hb2;cases hb2;have hc:=(Vi.2.1 c).1 (by simpa using hc);rcases k3 c hc with h|h
  ·exact absurd h<|Bk _ _ c
  ·exact .inl ⟨b,e,.inr ⟨cs,hb,h.1⟩⟩
def ain{x:atq}{σ:Ty}(hp:nW Γ p t off)(ht:look Γ t=some (.vW T' gg ps))(hi:ps[i]? =some pp)(ho:eN ps i=off)(hx:Arg Γ x σ)(hn:σ.n=pp.n)(hT:fM P T σ.n σ.agg=true):
  Step P N ops ⟨none,.store T (.tmp p) x,ty,pos,af,none⟩ Γ ((t,.vW T' gg<|ps.set i<| .val σ)::da t Γ):=by
 intro w0 H0 a w H hs K Q k;simp only[Region.wanted,if_true];exact QO (fun _ h=>h) (q:= .val σ) hp ht hi ho hn hT (fun a w H hs=>⟨σ.shape<|hx.ok hs,hx.ok hs⟩) (fun _ _ _ h=>h) hs fun w' ui=>k a w' H ui
inductive R8(Γ:Ctx)(u:Nat):Prop where
 |buf {E:ato} {sz:Nat} {l:att Ty} (h:look Γ u=some (.buf E sz l))
 |Jl {K E Eb:ato} {sz:Nat} {l:att (Ty×si)} (h:look Γ u=some (.Jl K E Eb sz l))
 |vW {T:ato} {g:Bool} {l:att lE} (h:look Γ u=some (.vW T g l))
def R8.ok(h:R8 Γ u)(hs:Sat w0 H0 N Γ a w H):(bh a u).oneCell'=true:=by
 cases h with
 |buf h=>
  obtain⟨xs,⟨_,hr⟩,_,_⟩:=hs.holds _<|aF h
  rcases hr with⟨e,_⟩|⟨g,cap,cur,e,_⟩
  ·simp only at e;rw[e];rfl
  ·simp only at e;rw[e];rfl
 |Jl h=>
  obtain⟨r,es,e,_⟩:=hs.holds _<|aF h
  simp only at e;rw[e];rfl
 |vW h=>
  obtain⟨b,cs,e,_⟩:=hs.holds _<|aF h
  simp only at e;rw[e];rfl
def abd(hp:nW Γ p t off)(ht:look Γ t=some (.vW T' gg ps))(hi:ps[i]? =some pp)(ho:eN ps i=off)(hu:R8 Γ u)(hn:pp.n=1)(hT:fM P T 1 false=true):
  Step P N ops ⟨none,.store T (.tmp p)<| .tmp u,ty,pos,af,none⟩ Γ ((t,.vW T' gg<|ps.set i<| .sm u)::da t Γ):=by
 intro w0 H0 a w H hs K Q k;simp only[Region.wanted,if_true];exact QO (fun _ h=>h) (x:= .tmp u) (q:= .sm u) hp ht hi ho hn.symm hT (fun a w H hs=>⟨Shape.one<|hu.ok hs,rfl,hu.ok hs⟩) (fun _ _ _ h=>h) hs fun w' ui=>k a w' H ui
def QL(hp:nW Γ p t off)(ht:look Γ t=some (.vW T' gg ps))(hi:ps[i]? =some pp)(ho:eN ps i=off)(hu:R8 Γ u)(hn:pp.n=1)(hT:fM P T 1 false=true):
  O9 P N ops Γ ⟨none,.store T (.tmp p)<| .tmp u,ty,pos,af,none⟩ t (.vW T' gg<|ps.set i<| .sm u):=fun yM dc=>by
 intro w0 H0 a w H hs K Q k;simp only[Region.wanted,if_true];exact QO dc (x:= .tmp u) (q:= .sm u) hp ht hi ho hn.symm hT (fun a w H hs=>⟨Shape.one<|hu.ok hs,rfl,hu.ok hs⟩) (fun _ _ _ h=>h) hs fun w' ui=>k a w' H ui
def Ga{s':bO}{us:att Nat}{G:Ctx}(hs:Sat w0 H0 N Γ a w H)(ht:∀q∈G,q∈Γ/\q.1≠t)(hh:s'.holds w0 a w H (bh a t))
 (ho:∀b,s'.owns w (bh a t) b->∃p∈Γ,(p.1=t\/p.1∈us)/\p.2.owns w (bh a p.1) b)(hu:∀q∈G,q.1∉us):Sat w0 H0 N ((t,s')::G) a w H:=by
 have key:∀q∈G,∀b,s'.owns w (bh a t) b-> ¬q.2.owns w (bh a q.1) b:=fun q hq b hb Uh=>by
  obtain⟨p,hp,h1,h2⟩:=ho b hb;refine hs.sep p hp q (ht q hq).1 (fun e=>?_) b h2 Uh;rcases h1 with h1|h1
  ·exact(ht q hq).2 (by rw[<-e,h1])
  ·exact hu q hq<|e▸h1
 refine⟨hs.nd,hs.sz,hs.below,hs.Jm,hs.sub,?_,?_,hs.gl⟩
 ·intro q hq;rcases aY.1 hq with e|hq
  ·subst e;exact hh
  ·exact hs.holds q (ht q hq).1
 ·intro q hq r hr hn b hb ju;rcases aY.1 hq with e|hq<;>rcases aY.1 hr with e'|hr
  ·subst e;subst e';exact hn rfl
  ·subst e;exact key r hr b hb ju
  ·subst e';exact key q hq b ju hb
  ·exact hs.sep q (ht q hq).1 r (ht r hr).1 hn b hb ju
def agJ{w0:ar P}(pp:lE)(ht:look Γ t=some (.vW T' gg ps))(hi:ps[i]? =some (.sm u))(hu:look Γ u=some pp.sty)(hne:(u !=t)=true)(hpp:(pp.n,pp.agg)=(1,false))(hg: ¬pp.sty= .gone):
  ub w0 N Γ ((t,.vW T' gg<|ps.set i pp)::da t (da u Γ)):=fun H0 a w H hs=>by
 obtain⟨b,cs,e,hb,hnb,hm,ij,OV,hx⟩:=hs.holds _<|aF ht
 have hph:=hs.holds _<|aF hu
 simp only at e hph;have hut:u≠t:=by simpa using hne
 obtain⟨_,h3,h4,_⟩:=Cf ij hi;have hv:pv (.sm u) (eN ps i) cs.toList=bh a u:=h4.1;have h1:pp.n=1:=congrArg Prod.fst hpp;have h2:pp.agg=false:=congrArg Prod.snd hpp;have pt:Shape pp.n pp.agg (bh a u):=by rw[h1,h2,<-hv];exact h3
 have hq:pp.holds w0 a w H (bh a u):=by
  cases pp with
  |buf E sz l=>exact hph
  |map K E Eb sz mB=>exact hph
  |val τ=>exact absurd rfl hg
  |any n g=>exact absurd rfl hg
  |sm v=>exact absurd rfl hg
 have ajb:∀c,pp.owns w (bh a u) c-> ¬lX w c ps cs.toList:=fun c hc ho=>by
  refine hs.sep _ (aF hu) _ (aF ht) hut c (lE.Dz.2 hc) ⟨b,e,.inr ⟨cs,hb,ho⟩⟩
 have apt: ¬pp.owns w (bh a u) b:=fun hc=>hs.sep _ (aF hu) _ (aF ht) hut b (lE.Dz.2 hc) ⟨b,e,.inl rfl⟩
 obtain⟨zJ,hcs,k1,k2,k3⟩:=BC ij OV hi pt (by rw[h1];rfl) hq<|fun c hc=> .inr<|ajb c hc
 have hcc:zJ=cs.toList:=by rw[hcs,<-hv];exact K8 ij hi
 rw[hcc] at k1 k2 k3;refine⟨H,Ga (us:=[u]) hs (fun q hq=>⟨(bG q (bG q hq).1).1,(bG q hq).2⟩) ⟨b,cs,e,hb,hnb,hm,k1,k2,fun hc=>?_⟩ ?_ (fun q hq=>by simpa using(bG q (bG q hq).1).2)⟩
 ·rcases k3 b hc with h|h
  ·exact apt h
  ·exact hx h.1
 ·rintro c ⟨c',e',hc⟩;simp only[e] at e';cases e';rcases hc with hc|⟨cs2,hb2,hc⟩
  ·exact⟨_,aF ht,.inl rfl,b,e,.inl hc⟩
  ·rw[hb] at hb2;cases hb2;rcases k3 c hc with h|h
   ·exact⟨_,aF hu,.inr (by simp),lE.Dz.2 h⟩
   ·exact⟨_,aF ht,.inl rfl,b,e,.inr ⟨cs,hb,h.1⟩⟩
inductive Et:att Ty->att lE->Prop where
 |nil:Et [] []
 |val {τ:Ty} {l:att Ty} {ps:att lE} (r:Et l ps):Et (τ::l) (.val τ::ps)
 |buf {α:Type} {f:α->Ty} {x:att α} {E:ato} {sz:Nat} {l:att Ty} {ps:att lE} (hx:x=[]) (r:Et l ps):Et (TN f x::l) (.buf E sz []::ps)
def Pz:xX B w H E sz [] (.slice none 0 0):=
 ⟨[],⟨by simp,.inl ⟨rfl,rfl⟩⟩,rfl,fun b h=>by simp[Value.ownBlock] at h⟩
def Et.ok(h:Et l ps):∀{cs:att arH},vH H l cs->OS B a w H ps cs/\(∀b,¬lX w b ps cs)/\KB w ps cs:=by
 induction h with
 |nil=>exact fun e=>⟨e,fun _ h=>h,trivial⟩
 | @val τ l ps r ih=>
  rintro cs ⟨v,rest,e,hv,hr⟩;subst e;obtain⟨h1,h2,h3⟩:=ih hr;have hd:=(pA (p:= .val τ) (rest:=rest)<|τ.shape hv).2;refine⟨⟨v,rest,rfl,τ.shape hv,hv,h1⟩,fun b h=>?_,fun b h=>h.elim,?_⟩
  ·rcases h with h|h
   ·exact h
   ·rw[hd] at h;exact h2 b h
  ·rw[hd];exact h3
 | @buf α f x E sz l ps hx r ih=>
  rintro cs ⟨v,rest,e,hv,hr⟩;subst e;subst hx;obtain⟨h1,h2,h3⟩:=ih hr;have ev:=hv.2 rfl;subst ev;have pt:Shape (lE.buf E sz []).n (lE.buf E sz []).agg (.slice none 0 0):=Shape.one rfl;obtain⟨e1,hd⟩:=pA (p:= .buf E sz []) (rest:=rest) pt;refine⟨⟨_,rest,rfl,pt,Pz,h1⟩,fun b h=>?_,fun b h=>?_,?_⟩
  ·rcases h with h|h
   ·rw[e1] at h;simp[lE.owns,Value.ownBlock] at h
   ·rw[hd] at h;exact h2 b h
  ·rw[e1] at h;simp[lE.owns,Value.ownBlock] at h
  ·rw[hd];exact h3
def afu:∀H v,(ko l).ok H v->vH H l v.cells.toList:=fun _ _ ⟨cs,e,h⟩=>by subst e;exact h
def XC{τ:Ty}:∀H v,τ.ok H v->vH H [τ] v.cells.toList:=fun _ v h=>⟨v,[],by simp,h,rfl⟩
def si.pub:si->Ty
 | .val τ=>τ
 | .buf l=>Fj l
 | .any=>U7 ⟨#[]⟩
def si.isAny:si->Bool
 | .any=>true
 |_=>false
def ZA(p:Ty×si):Ty×Ty:=(p.1,p.2.pub)
def XF{B:ar P}{w:arG}{H H':HV}{Eb:ato}{sz:Nat}(hle:HV.le H H'):∀{i:Nat} {l:att (Ty×si)} {es:att MapEntry},Sg B w H Eb sz i l es->(∀p∈l,p.2.isAny=false)->(∀b,qx b l es->H' b=w.heap[b]?)->okM H' i (l.map ZA) es
 |_,[],[],_,_,_=>trivial
 |_,[],_::_,h,_,_=>h.elim
 |_,(_,_)::_,[],h,_,_=>h.elim
 |i,(k,e)::l,x::xs,⟨h1,h2,h3,h4⟩,hn,hw=>by
  refine⟨k.mono hle h1,?_,h3,XF hle h4 (fun p hp=>hn p (by simp[hp])) fun b hb=>hw b<| .inr hb⟩;cases e with
  |val τ=>exact τ.mono hle h2
  |any=>have:=hn (k,.any) (by simp);cases this
  |buf bl=>exact AK (a:=⟨#[],[]⟩) (B:=B) h2 hle fun b hb _ o ho=>by rw[hw b<| .inl hb];exact ho
def PS{mB:att (Ty×si)}{v:arH}(hle:HV.le H H')(h:HH B w H Eb sz mB v)(hn:∀p∈mB,p.2.isAny=false)(hw:∀b,wL w mB v b->H' b=w.heap[b]?):(ad6<|mB.map ZA).ok H' v:=by
 obtain⟨r,es,e,hr,_,_,ho,_⟩:=h;subst e;exact⟨r,es,rfl,by rw[hw r<| .inl rfl];exact hr,XF hle ho hn fun b hb=>hw b<| .inr ⟨r,es,rfl,hr,hb⟩⟩
inductive KT:att lE->att Ty->Prop where
 |nil:KT [] []
 |val {τ:Ty} {l:att Ty} {ps:att lE} (r:KT ps l):KT (.val τ::ps) (τ::l)
 |buf {E:ato} {sz:Nat} {bl l:att Ty} {ps:att lE} (r:KT ps l):KT (.buf E sz bl::ps) (Fj bl::l)
 |map {K E Eb:ato} {sz:Nat} {mB:att (Ty×si)} {M:att (Ty×Ty)} {l:att Ty} {ps:att lE} (hn:∀p∈mB,p.2.isAny=false) (hM:mB.map ZA=M) (r:KT ps l):KT (.map K E Eb sz mB::ps) (ad6 M::l)
def KT.ok(hle:HV.le H H')(h:KT ps l):∀{cs:att arH},OS B a w H ps cs->(∀b,lX w b ps cs->H' b=w.heap[b]?)->vH H' l cs:=by
 induction h with
 |nil=>exact fun e _=>e
 | @val τ l ps r ih=>
  rintro cs ⟨v,rest,e,pt,hv,hr⟩ hw;subst e;obtain⟨e1,hd⟩:=pA (p:= .val τ) (rest:=rest) pt;exact⟨v,rest,rfl,τ.mono hle hv,ih hr fun b hb=>hw b (.inr (by rw[hd];exact hb))⟩
 | @buf E sz bl l ps r ih=>
  rintro cs ⟨v,rest,e,pt,hv,hr⟩ hw;subst e;obtain⟨e1,hd⟩:=pA (p:= .buf E sz bl) (rest:=rest) pt;refine⟨v,rest,rfl,AK (a:=a) hv hle<|fun b hb _ o ho=>?_,ih hr fun b hb=>hw b (.inr (by rw[hd];exact hb))⟩;rw[hw b (.inl (by rw[e1];exact hb))];exact ho
 | @map K E Eb sz mB M l ps hn hM r ih=>
  rintro cs ⟨v,rest,e,pt,hv,hr⟩ hw;subst e;subst hM;obtain⟨e1,hd⟩:=pA (p:= .map K E Eb sz mB) (rest:=rest) pt;exact⟨v,rest,rfl,PS hle hv hn (fun b hb=>hw b (.inl (by rw[e1];exact hb))),ih hr fun b hb=>hw b (.inr (by rw[hd];exact hb))⟩
inductive O8:att lE->att Ty->Prop where
 |n:O8 [] []
 |c {τ:Ty} {l:att Ty} {ps:att lE} (r:O8 ps l):O8 (.val τ::ps) (τ::l)
def O8.ok(h:O8 ps l):∀{cs:att arH},OS B a w H ps cs->vH H l cs:=by
 induction h with
 |n=>exact fun e=>e
 |c r ih=>rintro cs ⟨v,rest,e,_,hv,hr⟩;exact⟨v,rest,e,hv,ih hr⟩
def afA(hp:nW Γ p t 0)(ht:look Γ t=some (.vW T true ps))(hl:O8 ps l)(hT:fM P T (cc l) true=true):
  bR P Γ ⟨d,.load T<| .tmp p,ty,pos,af,g⟩ (.val<|ko l):=
 bE fun _ _ _ a w _ hs=>by
  obtain⟨b,cs,e,ep,hb,_,_,ij,_⟩:=hp.ok ht hs;have h1:=hl.ok ij;have h2:cs.size=cc l:=by have:=rf h1;simpa using this
  have h3:=kv (off:=0) hT hb (by omega);rw[wU,eF (by simp[h2])] at h3;exact⟨.agg cs,by simp[execOp,ep,Instr.loadAt,Instr.sureAddr,h3,Jo],⟨cs,rfl,h1⟩,rfl⟩
open Classical in
def ac1{w0:ar P}(ht:look Γ t=some (.vW T gg ps))(hi:ps[i]? =some (.buf E sz l)):ub w0 N Γ ((t,.vW T gg<|ps.set i<| .val<|Fj l)::da t Γ):=fun H0 a w H hs=>by
 obtain⟨b,cs,e,hb,hnb,hm,ij,OV,hx⟩:=hs.holds _<|aF ht
 simp only at e;obtain⟨_,h3,h4,_⟩:=Cf ij hi;have X5:=K8 ij hi
 generalize hv:pv (.buf E sz l) (eN ps i) cs.toList=v at*
 obtain⟨S,hS⟩:∃S:Nat->Prop,∀c,S c↔v.ownBlock=some c:=⟨_,fun _=>Iff.rfl⟩;have hlt:=(kE.1 hi).1;have hown:∀c,v.ownBlock=some c->lX w c ps cs.toList:=fun c hc=>pJ.2 ⟨i,_,hi,by rw[hv];exact hc⟩
 obtain⟨zJ,hcs,k1,k2,k3⟩:=BC (q:= .any 1 false) (x:=v) ij OV hi h3 rfl h3<|fun c hc=>hc.elim
 rw[show zJ=cs.toList by rw[hcs];exact X5] at k1 k2 k3;have hle:HV.le H (fun r=>if S r then w.heap[r]? else H r):=by
  intro r o ho;by_cases e:S r
  ·rw[(ra ij<|hown r<|(hS r).1 e).2.2.1] at ho;cases ho
  ·simp[e,ho]
 have no:∀c,lX w c (ps.set i<| .any 1 false) cs.toList->lX w c ps cs.toList/\ ¬S c:=fun c hc=>by
  rcases k3 c hc with h|h
  ·exact h.elim
  ·exact⟨h.1,fun h'=>h.2 (by rw[hv];exact(hS c).1 h')⟩
 obtain⟨f1,f2,f3⟩:=Le (w':=w) hle k1 (fun c hc=>⟨rfl,by simp[(no c hc).2]⟩);have hi':(ps.set i<| .any 1 false)[i]? =some (.any 1 false):=Ih hlt;have ajh:eN (ps.set i<| .any 1 false) i=eN ps i:=(Rf (q:= .any 1 false) ij hi h3 rfl h3).2.1;have Da:(Fj l).ok (fun r=>if S r then w.heap[r]? else H r) v:=AK (a:=a) h4 hle (fun c hc _ o ho=>by have:S c:=(hS c).2 hc;simp[this,ho]);obtain⟨cs2,ajw,m1,m2,m3⟩:=BC (q:= .val<|Fj l) (x:=v) f1 (f3 k2) hi' ((Fj l).shape Da) rfl Da<|fun c hc=>hc.elim
 rw[show cs2=cs.toList by rw[ajw,ajh];exact X5,List.set_set] at m1 m2 m3;have nw:∀c,lX w c (ps.set i<| .val<|Fj l) cs.toList->lX w c ps cs.toList:=fun c hc=>by
  rcases m3 c hc with h|h
  ·exact h.elim
  ·exact(no c h.1).1
 have hSb: ¬S b:=fun h=>hx<|hown b<|(hS b).1 h
 refine⟨_,Hi hs (aF ht) S (fun c hc=>⟨⟨b,e,.inr ⟨cs,hb,hown c<|(hS c).1 hc⟩⟩,(ra ij<|hown c<|(hS c).1 hc).2.1⟩) ⟨b,cs,e,hb,by simp[hSb,hnb],hm,m1,m2,fun hc=>hx<|nw b hc⟩ ?_⟩;rintro c ⟨c',e',hc⟩;rw[e] at e';cases e';refine⟨b,e,?_⟩;rcases hc with hc|⟨cs3,hb3,hc⟩
 ·exact .inl hc
 ·rw[hb] at hb3;cases hb3;exact .inr ⟨cs,hb,nw c hc⟩
def Yl{w0:ar P}{α:Type}{f:α->Ty}{l:att α}(ht:look Γ t=some (.vW T gg ps))(hi:ps[i]? =some (.buf E sz<|lT f l)):ub w0 N Γ ((t,.vW T gg<|ps.set i<| .val<|TL f l)::da t Γ):=ac1 ht hi
def afq{w0:ar P}{K:ato}{mB:att (Ty×si)}{M:att (Ty×Ty)}(ht:look Γ t=some (.Jl K E Eb sz mB))(hn:∀p∈mB,p.2.isAny=false)(hM:mB.map ZA=M):ub w0 N Γ ((t,.val<|ad6 M)::da t Γ):=fun H0 a w H hs=>by
 subst hM;have ij:=hs.holds _<|aF ht
 obtain⟨S,hS⟩:∃S:Nat->Prop,∀c,S c↔wL w mB (bh a t) c:=⟨_,fun _=>Iff.rfl⟩;refine⟨_,DG hs (aF ht) S (fun c hc=>⟨(hS c).1 hc,(Ac ij<|(hS c).1 hc).2.1⟩) ?_⟩;refine PS ?_ ij hn fun b hb=>by have:S b:=(hS b).2 hb;simp[this]
 intro r o ho;by_cases e:S r
 ·rw[(Ac ij<|(hS r).1 e).2.2.1] at ho;cases ho
 ·simp[e,ho]
end
section
variable[D:DR]
variable{P:Program}{w0:ar P}{H0:HV}{N:Nat}{ops:Array Oper}{Q:Exit->Act->World->Prop}{Γ aA:Ctx}{d:Option Tmp}{ty:TypeId}{pos:String}{af:Array Edge}{g:Option (Nat×Bool)}
variable{α β:Type}[DecidableEq α]
def mix(x:α):att (α×β)->av8 Nat
 |[]=>none
 |p::l=>bif decide (x=p.1) then some 0 else(mix x l).map (· +1)
def ZO(l:att (α×β))(x:α)(v:β):att (α×β):=match mix x l with
 |none=>l++[(x,v)]
 |some j=>l.set j (x,v)
def Nf{x:α}:∀{l:att (α×β)} {j:Nat},mix x l=some j->∃v,l[j]? =some (x,v)
 |[],_,h=>by simp[mix] at h
 |p::l,j,h=>by
  simp only[mix] at h;by_cases e:x=p.1
  ·simp[e] at h;subst h;subst e;exact⟨p.2,rfl⟩
  ·simp[e] at h;obtain⟨k,hk,rfl⟩:=h;obtain⟨v,hv⟩:=Nf hk;exact⟨v,by simpa using hv⟩
end
section
variable[D:DR]
variable{P:Program}{w0:ar P}{H0:HV}{N:Nat}{ops:Array Oper}{Q:Exit->Act->World->Prop}{Γ aA:Ctx}{d:Option Tmp}{ty:TypeId}{pos:String}{af:Array Edge}{g:Option (Nat×Bool)}
variable{B:ar P}{w:arG}{H:HV}{Eb:ato}{sz:Nat}
@[reducible] def mM{α β:Type}(fK:α->Ty)(fV:β->si)(l:att (α×β)):att (Ty×si):=l.map fun p=>(fK p.1,fV p.2)
def TT(P:atp)(T K E:ato):Bool:=match P.underlying T with
 |some (.map k e)=>Nat.beq k K&&Nat.beq e E
 |_=>false
def DT{T K E:ato}(h:TT P T K E=true):P.underlying T=some (.map K E):=by
 unfold TT at h;split at h
 ·rename_i k e hu;simp only[bY] at h;rw[hu,fL h.1,fL h.2]
 ·cases h
structure AL{α:Type}[DecidableEq α](P:atp)(K:ato)(f:α->Ty):Prop where
 eq:∀(H:HV) (u v:arH) (x y:α),(f x).ok H u->(f y).ok H v->∀w:arG,(Op.equal K u v).run P w= .ok (decide<|x=y) w
 check:∀(H:HV) (u:arH) (x:α),(f x).ok H u->∀(e:Bool) (w:arG),(Instr.checkKey e 10000 K u).run P w= .ok () w
 kind:∃ud,P.underlying K=some ud/\∀u v,Instr.sameNow ud u v=none
 bits:∀(H:HV) (u v:arH) (x:α),(f x).ok H u->(f x).ok H v->Instr.sameBits 10000 u v=true
def M8{B:ar P}{w:arG}{H:HV}{Eb:ato}{sz:Nat}:∀{i:Nat} {l:att (Ty×si)} {es:att MapEntry} {j:Nat} {k:Ty} {e:si},Sg B w H Eb sz i l es->l[j]? =some (k,e)->
  ∃x,es[j]? =some x/\k.ok H x.key/\e.holds B w H Eb sz x.val/\x.born=i+j
 |_,[],_,_,_,_,_,h=>by simp at h
 |_,(_,_)::_,[],_,_,_,h,_=>h.elim
 |i,(k',e')::l,x::xs,0,k,e,⟨h1,h2,h3,h4⟩,h=>by
  simp at h;obtain⟨rfl,rfl⟩:=h;exact⟨x,rfl,h1,h2,by simpa using h3⟩
 |i,(k',e')::l,x::xs,j+1,k,e,⟨h1,h2,h3,h4⟩,h=>by
  obtain⟨y,g1,g2,g3,g4⟩:=M8 h4 (by simpa using h);exact⟨y,by simpa using g1,g2,g3,by omega⟩
def XG{B:ar P}{w:arG}{H:HV}{Eb:ato}{sz:Nat}:∀{i:Nat} {l:att (Ty×si)} {es:att MapEntry},Sg B w H Eb sz i l es->es.length=l.length
 |_,[],[],_=>rfl
 |_,[],_::_,h=>h.elim
 |_,(_,_)::_,[],h=>h.elim
 |_,(_,_)::_,_::_,⟨_,_,_,h⟩=>by simp[XG h]
def XE{B:ar P}{w:arG}{H:HV}{Eb:ato}{sz:Nat}:∀{i:Nat} {l:att (Ty×si)} {es:att MapEntry} {j:Nat} {k:Ty} {e:si} {x:MapEntry},Sg B w H Eb sz i l es->k.ok H x.key->e.holds B w H Eb sz x.val->x.born=i+j->
  Sg B w H Eb sz i (l.set j (k,e)) (es.set j x)
 |_,[],[],_,_,_,_,_,_,_,_=>trivial
 |_,[],_::_,_,_,_,_,h,_,_,_=>h.elim
 |_,(_,_)::_,[],_,_,_,_,h,_,_,_=>h.elim
 |i,(k',e')::l,x::xs,0,k,e,y,⟨h1,h2,h3,h4⟩,g1,g2,g3=>⟨g1,g2,g3,h4⟩
 |i,(k',e')::l,x::xs,j+1,k,e,y,⟨h1,h2,h3,h4⟩,g1,g2,g3=>⟨h1,h2,h3,XE h4 g1 g2 (by omega)⟩
def TF{B:ar P}{w:arG}{H:HV}{Eb:ato}{sz:Nat}:∀{i:Nat} {l:att (Ty×si)} {es:att MapEntry} {k:Ty} {e:si} {x:MapEntry},Sg B w H Eb sz i l es->k.ok H x.key->e.holds B w H Eb sz x.val->x.born=i+l.length->
  Sg B w H Eb sz i (l++[(k,e)]) (es++[x])
 |_,[],[],_,_,_,_,g1,g2,g3=>⟨g1,g2,by simpa using g3,trivial⟩
 |_,[],_::_,_,_,_,h,_,_,_=>h.elim
 |_,(_,_)::_,[],_,_,_,h,_,_,_=>h.elim
 |i,(k',e')::l,x::xs,k,e,y,⟨h1,h2,h3,h4⟩,g1,g2,g3=>⟨h1,h2,h3,TF h4 g1 g2 (by simp at g3;omega)⟩
def pK{b:Nat}:∀{l:att (Ty×si)} {es:att MapEntry},qx b l es↔∃(j:Nat) (k:Ty) (e:si) (x:MapEntry),l[j]? =some (k,e)/\es[j]? =some x/\e.owns x.val b
 |[],es=>by simp[qx]
 |(k,e)::l,[]=>by simp[qx]
 |(k,e)::l,x::xs=>by
  simp only[qx,pK (l:=l)];constructor
  ·rintro(h|⟨j,k',e',y,h1,h2,h3⟩)
   ·exact⟨0,k,e,x,rfl,rfl,h⟩
   ·exact⟨j+1,k',e',y,by simpa using h1,by simpa using h2,h3⟩
  ·rintro⟨j,k',e',y,h1,h2,h3⟩;cases j with
   |zero=>simp at h1 h2;obtain⟨rfl,rfl⟩:=h1;subst h2;exact .inl h3
   |succ j=>exact .inr ⟨j,k',e',y,by simpa using h1,by simpa using h2,h3⟩
def DF:∀{l:att (Ty×si)} {es:att MapEntry},l.length=es.length->(MK l es↔∀(i j:Nat) (k k':Ty) (e e':si) (x y:MapEntry),i<j->l[i]? =some (k,e)->l[j]? =some (k',e')->es[i]? =some x->es[j]? =some y->∀b,e.owns x.val b-> ¬e'.owns y.val b)
 |[],[],_=>by simp[MK]
 |[],_::_,h=>by simp at h
 |(_,_)::_,[],h=>by simp at h
 |(k,e)::l,x::xs,h=>by
  simp only[MK,DF (l:=l) (es:=xs) (by simpa using h)];constructor
  ·rintro⟨h1,h2⟩ i j k1 k2 e1 e2 y z Vh hi hj hx hy b hb ju;cases j with
   |zero=>omega
   |succ j=>
    cases i with
    |zero=>
     simp at hi hx;obtain⟨rfl,rfl⟩:=hi;subst hx;exact h1 b hb (pK.2 ⟨j,k2,e2,z,by simpa using hj,by simpa using hy,ju⟩)
    |succ i=>exact h2 i j k1 k2 e1 e2 y z (by omega) (by simpa using hi) (by simpa using hj) (by simpa using hx) (by simpa using hy) b hb ju
  ·intro hh;refine⟨fun b hb ho=>?_,fun i j k1 k2 e1 e2 y z Vh hi hj hx hy b hb ju=>?_⟩
   ·obtain⟨j,k',e',y,h1,h2,h3⟩:=pK.1 ho;exact hh 0 (j+1) k k' e e' x y (by omega) rfl (by simpa using h1) rfl (by simpa using h2) b hb h3
   ·exact hh (i+1) (j+1) k1 k2 e1 e2 y z (by omega) (by simpa using hi) (by simpa using hj) (by simpa using hx) (by simpa using hy) b hb ju
end
section
variable[D:DR]
variable{P:Program}{w0:ar P}{H0:HV}{N:Nat}{ops:Array Oper}{Q:Exit->Act->World->Prop}{Γ aA:Ctx}{d:Option Tmp}{ty:TypeId}{pos:String}{af:Array Edge}{g:Option (Nat×Bool)}
variable{α β:Type}[DecidableEq α]{K:TypeId}{fK:α->Ty}{fV:β->si}
def DH(hk:AL P K fK){H:HV}{u:arH}{x:α}(hu:(fK x).ok H u){w:arG}:∀{l:att (α×β)} {es:att MapEntry} (i:Nat),(∀(j:Nat) (p:α×β),l[j]? =some p->∃y,es[j]? =some y/\(fK p.1).ok H y.key)->es.length=l.length->
  (Instr.findAsking K u es i).run P w= .ok ((mix x l).map fun j=>(i+j,((es[j]?).map (·.val)).getD undef)) w
 |[],[],i,_,_=>by simp[Instr.findAsking,mix]
 |[],_::_,_,_,h=>by simp at h
 |_::_,[],_,_,h=>by simp at h
 |p::l,y::es,i,h,hl=>by
  obtain⟨y',h1,h2⟩:=h 0 p rfl;simp at h1;subst h1;have ih:=DH hk hu (l:=l) (es:=es) (w:=w) (i+1) (fun j q hq=>by simpa using h (j+1) q (by simpa using hq)) (by simpa using hl);have he:=hk.eq H u y.key x p.1 hu h2 w;simp only[Instr.findAsking,mix,fE,he,eS];by_cases e:x=p.1
  ·simp[e]
  ·simp only[e,decide_false,Cx,if_false,a8,ih];cases hm:mix x l with
   |none=>simp
   |some j=>simp;omega
def run_findKey(hk:AL P K fK){H:HV}{u:arH}{x:α}(hu:(fK x).ok H u){w:arG}{l:att (α×β)}{es:att MapEntry}(h:∀(j:Nat) (p:α×β),l[j]? =some p->∃y,es[j]? =some y/\(fK p.1).ok H y.key)(hl:es.length=l.length):
  (Instr.findKey K u es).run P w= .ok ((mix x l).map fun j=>(j,((es[j]?).map (·.val)).getD undef)) w:=by
 obtain⟨ud,hud,Bk⟩:=hk.kind;have hf:=DH hk hu (w:=w) 0 h hl;unfold Instr.findKey;simp only[fE,aV hud,eS];cases es with
 |nil=>
  cases l with
  |nil=>simp[Instr.findNow,mix]
  |cons p l=>simp at hl
 |cons y es=>
  simp only[Instr.findNow,Bk];simpa using hf
end
section
variable[D:DR]
variable{P:Program}{w0:ar P}{H0:HV}{N:Nat}{ops:Array Oper}{Q:Exit->Act->World->Prop}{Γ aA:Ctx}{d:Option Tmp}{ty:TypeId}{pos:String}{af:Array Edge}{g:Option (Nat×Bool)}
inductive IJ(Γ:Ctx):atq->Nat->Prop where
 |own {t:Nat}:IJ Γ (.tmp t) t
 |same {u t:Nat} (h:look Γ u=some (.same t)):IJ Γ (.tmp u) t
def IJ.ok{x:atq}{t:Nat}(h:IJ Γ x t){a:Act}{w:arG}{H:HV}(hs:Sat w0 H0 N Γ a w H):a.eval x=bh a t:=by
 cases h with
 |own=>rfl
 |same h=>exact hs.holds _<|aF h
def VS{T K E Eb:ato}{sz:Nat}:bR P Γ ⟨d,.makeMap T none,ty,pos,af,g⟩ (.Jl K E Eb sz []):=
 jB fun w0 _ _ a w H hs=>by
  refine⟨.map<|some w.heap.size,w.alloc<| .map #[] 0,H,?_,Ext.alloc hs.sub _,?_,?_⟩
  ·simp[execOp,Instr.makeMap,newObj];rfl
  ·refine⟨w.heap.size,#[],rfl,tF w _,?_,.inl hs.below.size,trivial,trivial⟩;cases hh:H w.heap.size with
   |none=>rfl
   |some o=>have:=xQ hs.sub hh;omega
  ·rintro b (h|⟨r,es,e,hr,hb⟩)
   ·cases h;exact bp _
   ·simp[qx] at hb
end
section
variable[D:DR]
variable{P:Program}{w0:ar P}{H0:HV}{N:Nat}{ops:Array Oper}{Q:Exit->Act->World->Prop}{Γ aA:Ctx}{d:Option Tmp}{ty:TypeId}{pos:String}{af:Array Edge}{g:Option (Nat×Bool)}
variable{α β:Type}[DecidableEq α]{K E Eb T:TypeId}{sz:Nat}{fK:α->Ty}
def XW{B:ar P}{w:arG}{H:HV}{fV:β->si}{l:att (α×β)}{es:att MapEntry}(h:Sg B w H Eb sz 0 (mM fK fV l) es):(∀(j:Nat) (p:α×β),l[j]? =some p->∃y,es[j]? =some y/\(fK p.1).ok H y.key)/\es.length=l.length:=
 ⟨fun j p hp=>by
  obtain⟨y,h1,h2,_⟩:=M8 h (j:=j) (k:=fK p.1) (e:=fV p.2) (by simp[hp]);exact⟨y,h1,h2⟩,by simpa using XG h⟩
def run_getObj_map{w:arG}{r:Nat}{es:awa MapEntry}{c:Nat}(h:w.heap[r]? =some (.map es c)):(getObj r).run P w= .ok (.map es c) w:=by
 simp[getObj,Sem.run,h]
end
section
variable[D:DR]
variable{P:Program}{w0:ar P}{H0:HV}{N:Nat}{ops:Array Oper}{Q:Exit->Act->World->Prop}{Γ aA:Ctx}{d:Option Tmp}{ty:TypeId}{pos:String}{af:Array Edge}{g:Option (Nat×Bool)}
variable{w:arG}{c:Nat}{es:awa MapEntry}{B:ar P}{H:HV}{sz:Nat}
def MO{r:Nat}{o:Obj}(h:w.heap[r]? =some (.map es c)):(setObj r o).run P w= .ok () (w.putObj r o):=by
 simp[setObj,Sem.run,h];rfl
def Th{E:ato}{l:att Ty}{v:arH}(h:xX B w H E sz l v){b:Nat}(hb:v.ownBlock=some b):w.heap[b]? ≠some (.map es c):=by
 obtain⟨xs,⟨_,hr⟩,_,_⟩:=h;rcases hr with⟨e,_⟩|⟨g,cap,cur,e,_,hc,_⟩
 ·subst e;simp[Value.ownBlock] at hb
 ·subst e;simp[Value.ownBlock] at hb;subst hb;rw[hc];intro e;cases e
def OR{Eb:ato}{l:att (Ty×si)}{es:att MapEntry}(h:Sg B w H Eb sz 0 l es){b:Nat}(hb:qx b l es){NL:awa MapEntry}:w.heap[b]? ≠some (.map NL c):=by
 obtain⟨j,k,e,x,h1,h2,h3⟩:=pK.1 hb;obtain⟨y,g1,_,g3,_⟩:=M8 h h1;rw[h2] at g1;cases g1;cases e with
 |val τ=>exact h3.elim
 |any=>exact h3.elim
 |buf bl=>exact Th g3 h3
def afK{Eb:ato}{r:Nat}{NL:awa MapEntry}{l':att (Ty×si)}(hr:w.heap[r]? =some (.map es c))(hn:H r=none)(hm:B.nX r)(ho:Sg B w H Eb sz 0 l' NL.toList)(hs:MK l' NL.toList):
  HH B (w.putObj r<| .map NL NL.size) H Eb sz l' (.map<|some r)/\∀b,wL (w.putObj r<| .map NL NL.size) l' (.map<|some r) b↔b=r\/qx b l' NL.toList:=by
 have Ug:(w.putObj r<| .map NL NL.size).heap[r]? =some (.map NL NL.size):=RC<|lt_of_heap hr
 refine⟨⟨r,NL,rfl,Ug,hn,hm,Ri (HV.le.refl H) ho<|fun b hb=>⟨Ik<|fun e=>?_,rfl⟩,hs⟩,fun b=>?_⟩
 ·subst e;exact OR ho hb hr
 ·constructor
  ·rintro(h|⟨r1,es1,e1,h1,h2⟩)
   ·cases h;exact .inl rfl
   ·cases e1;rw[Ug] at h1;cases h1;exact .inr h2
  ·rintro(h|h)
   ·subst h;exact .inl rfl
   ·exact .inr ⟨r,NL,rfl,Ug,h⟩
end
section
variable[D:DR]
variable{P:Program}{w0:ar P}{H0:HV}{N:Nat}{ops:Array Oper}{Q:Exit->Act->World->Prop}{Γ aA:Ctx}{d:Option Tmp}{ty:TypeId}{pos:String}{af:Array Edge}{g:Option (Nat×Bool)}
variable{α β:Type}[DecidableEq α]{K E Eb T:TypeId}{sz:Nat}{fK:α->Ty}{fV:β->si}
def S6{l:att (Ty×si)}{es:att MapEntry}{j:Nat}{k k0:Ty}{e e0:si}{x x0:MapEntry}(hlen:l.length=es.length)(hl:l[j]? =some (k0,e0))(hx:es[j]? =some x0)(h:MK l es)(hn:∀b,e.owns x.val b->e0.owns x0.val b\/ ¬qx b l es):
  MK (l.set j (k,e)) (es.set j x)/\∀b,qx b (l.set j (k,e)) (es.set j x)->e.owns x.val b\/(qx b l es/\ ¬e0.owns x0.val b):=by
 have hj:=(kE.1 hl).1;have hj':j<es.length:=hlen▸hj;have hs:=(DF hlen).1 h;have at':∀i k' e' y,(l.set j (k,e))[i]? =some (k',e')->(es.set j x)[i]? =some y->(i=j/\k'=k/\e'=e/\y=x)\/(i≠j/\l[i]? =some (k',e')/\es[i]? =some y):=fun i k' e' y h1 h2=>by
  by_cases ei:i=j
  ·subst ei;rw[Ih hj] at h1;rw[Ih hj'] at h2;cases h1;cases h2;exact .inl ⟨rfl,rfl,rfl,rfl⟩
  ·rw[List.getElem?_set_ne<|Ne.symm ei] at h1 h2;exact .inr ⟨ei,h1,h2⟩
 have one:∀i k' e' y,i≠j->l[i]? =some (k',e')->es[i]? =some y->∀b,e'.owns y.val b-> ¬e.owns x.val b/\ ¬e0.owns x0.val b:=fun i k' e' y hi h1 h2 b hb=>by
  have k2: ¬e0.owns x0.val b:=fun h0=>by
   rcases Nat.lt_or_gt_of_ne hi with hlt|hlt
   ·exact hs i j k' k0 e' e0 y x0 hlt h1 hl h2 hx b hb h0
   ·exact hs j i k0 k' e0 e' x0 y hlt hl h1 hx h2 b h0 hb
  refine⟨fun h3=>?_,k2⟩;rcases hn b h3 with h4|h4
  ·exact k2 h4
  ·exact h4<|pK.2 ⟨i,k',e',y,h1,h2,hb⟩
 refine⟨(DF (by simpa using hlen)).2 ?_,fun b hb=>?_⟩
 ·intro i i' k1 k2 e1 e2 y z Vh hi hi' hy hz b hb ju;rcases at' i k1 e1 y hi hy with⟨rfl,rfl,rfl,rfl⟩|⟨n1,g1,g2⟩<;>rcases at' i' k2 e2 z hi' hz with⟨rfl,rfl,rfl,rfl⟩|⟨n2,g3,g4⟩
  ·omega
  ·exact(one i' k2 e2 z n2 g3 g4 b ju).1 hb
  ·exact(one i k1 e1 y n1 g1 g2 b hb).1 ju
  ·exact hs i i' k1 k2 e1 e2 y z Vh g1 g3 g2 g4 b hb ju
 ·obtain⟨i,k1,e1,y,h1,h2,h3⟩:=pK.1 hb;rcases at' i k1 e1 y h1 h2 with⟨rfl,rfl,rfl,rfl⟩|⟨n1,g1,g2⟩
  ·exact .inl h3
  ·exact .inr ⟨pK.2 ⟨i,k1,e1,y,g1,g2,h3⟩,(one i k1 e1 y n1 g1 g2 b h3).2⟩
def Pv{l:att (Ty×si)}{es:att MapEntry}{k:Ty}{e:si}{x:MapEntry}(hlen:l.length=es.length)(h:MK l es)(hn:∀b,¬e.owns x.val b):
  MK (l++[(k,e)]) (es++[x])/\∀b,qx b (l++[(k,e)]) (es++[x])->qx b l es:=by
 have at':∀(i:Nat) (k':Ty) (e':si) (y:MapEntry) (b:Nat),(l++[(k,e)])[i]? =some (k',e')->(es++[x])[i]? =some y->e'.owns y.val b->l[i]? =some (k',e')/\es[i]? =some y:=fun i k' e' y b h1 h2 h3=>by
  by_cases hi:i<l.length
  ·rw[xK hi] at h1;rw[xK<|hlen▸hi] at h2;exact⟨h1,h2⟩
  ·have:i=l.length:=by
    have:=(kE.1 h1).1;simp at this;omega
   subst this;rw[A9<|bp _] at h1;rw[A9 (by omega)] at h2;simp[hlen] at h1 h2;obtain⟨rfl,rfl⟩:=h1;subst h2;exact absurd h3<|hn b
 refine⟨(DF (by simp[hlen])).2 fun i j k1 k2 e1 e2 y z Vh hi hj hy hz b hb ju=>?_,fun b hb=>?_⟩
 ·obtain⟨g1,g2⟩:=at' i k1 e1 y b hi hy hb;obtain⟨g3,g4⟩:=at' j k2 e2 z b hj hz ju;exact(DF hlen).1 h i j k1 k2 e1 e2 y z Vh g1 g3 g2 g4 b hb ju
 ·obtain⟨i,k1,e1,y,h1,h2,h3⟩:=pK.1 hb;obtain⟨g1,g2⟩:=at' i k1 e1 y b h1 h2 h3;exact pK.2 ⟨i,k1,e1,y,g1,g2,h3⟩
def run_keyThatStays(hk:AL P K fK){H:HV}{u v:arH}{x:α}(hu:(fK x).ok H u)(hv:(fK x).ok H v)(w:arG):(Instr.keyThatStays u v).run P w= .ok v w:=by
 simp[Instr.keyThatStays,hk.bits H u v x hu hv]
def OT{γ:Type}(es:awa γ)(j:Nat)(f:γ->γ):(es.modify j f).toList=es.toList.modify j f:=by simp
def PQ{γ:Type}:∀{l:att γ} {j:Nat} {f:γ->γ} {x:γ},l[j]? =some x->l.modify j f=l.set j (f x)
 |[],_,_,_,h=>by simp at h
 |y::l,0,f,x,h=>by simp at h;subst h;rfl
 |y::l,j+1,f,x,h=>by
  have:=PQ (l:=l) (j:=j) (f:=f) (x:=x) (by simpa using h);simpa using this
def Rt{F:β->Ty}{m k v:atq}{t:Nat}{l:att (α×β)}{x:α}{y:β}{eI:Ctx}(dc:∀q∈eI,q∈Γ)(hT:TT P T K E=true)(hk:AL P K fK)(hm:IJ eI m t)(ht:look eI t=some (.Jl K E Eb sz<|mM fK (fun v=> .val<|F v) l))(hx:Arg eI k (fK x))(hy:Arg eI v (F y)):
  Step P N ops ⟨none,.mapUpdate T m k v,ty,pos,af,none⟩ Γ ((t,.Jl K E Eb sz<|mM fK (fun v=> .val<|F v)<|ZO l x y)::da t Γ):=by
 intro w0 H0 a w H hs K' Q kk;simp only[Region.wanted,if_true];obtain⟨r,es,e,hr,hn,hmi,ho,OV⟩:=hs.holds _<|dc _<|aF ht
 simp only at e;have Z3:=hs.weaken dc;have em:a.eval m= .map (some r):=by rw[hm.ok Z3];exact e
 have Nt:=hx.ok Z3;have hyv:=hy.ok Z3;obtain⟨k1,k2⟩:=XW ho;have hf:=run_findKey hk Nt (w:=w) k1 k2;have hc:=hk.check H _ x Nt false w;have hlen:(mM fK (fun v=>si.val<|F v) l).length=es.toList.length:=by simp[k2,mM]
 have hown:∀b,¬qx b (mM fK (fun v=>si.val<|F v) l) es.toList:=fun b h=>by
  obtain⟨j,k',e',z,h1,_,h3⟩:=pK.1 h;simp only[mM,kD,Option.map_eq_some_iff] at h1;obtain⟨p,_,h1⟩:=h1;cases h1;exact h3
 have fin:∀(NL:awa MapEntry) (l':att (Ty×si)),l'=mM fK (fun v=>si.val<|F v) (ZO l x y)->Sg w0 w H Eb sz 0 l' NL.toList->MK l' NL.toList->(∀b,¬qx b l' NL.toList)->
   K' (a.put none undef) (w.putObj r<| .map NL NL.size):=fun NL l' el h1 h2 h3=>by
  subst el;obtain⟨g1,g2⟩:=afK hr hn hmi h1 h2;refine kk a _ H (lg hs (dc _<|aF ht) (CR.putObj w r _) hmi (by simp only[e];exact .inl rfl) (by simp only[e];exact g1) fun c hc=> .inl ?_);simp only[e] at hc⊢;rcases(g2 c).1 hc with h|h
  ·subst h;exact .inl rfl
  ·exact absurd h<|h3 c
 unfold Oper.wp;cases Z6:mix x l with
 |none=>
  rw[Z6] at hf;have er:(execOp a.eval ⟨none,.mapUpdate T m k v,ty,pos,af,none⟩).run P w= .ok .skip (w.putObj r<| .map (es.push {key:=a.eval k,val:=a.eval v,born:=es.size})<|es.size+1):=by
   simp[execOp,em,Instr.mapUpdate,aV<|DT hT,run_getObj_map hr,hc,hf,MO hr]
  rw[er,Ao];have:=fin (es.push {key:=a.eval k,val:=a.eval v,born:=es.size}) (mM fK (fun v=>si.val<|F v) l++[(fK x,.val<|F y)]) (by simp[mM,ZO,Z6])
   (by simpa using TF (k:=fK x) (e:= .val<|F y) (x:={key:=a.eval k,val:=a.eval v,born:=es.size}) ho Nt hyv (by simp[<-k2]))
   (by simpa using(Pv (k:=fK x) (e:= .val<|F y) hlen OV<|fun _ h=>h).1)
   (fun b hb=>hown b ((Pv (k:=fK x) (e:= .val<|F y) (x:={key:=a.eval k,val:=a.eval v,born:=es.size}) hlen OV<|fun _ h=>h).2 b (by simpa using hb)))
  simpa using this
 |some j=>
  rw[Z6] at hf;obtain⟨v0,Nu⟩:=Nf Z6;obtain⟨z,h1,h2,h3,h4⟩:=M8 ho (j:=j) (k:=fK x) (e:= .val<|F v0) (by simp[Nu]);have h1':es[j]? =some z:=by simpa using h1
  have C6:=run_keyThatStays hk h2 Nt w;have er:(execOp a.eval ⟨none,.mapUpdate T m k v,ty,pos,af,none⟩).run P w= .ok .skip (w.putObj r<| .map (es.modify j fun e=>{e with key:=a.eval k,val:=a.eval v}) es.size):=by
   simp[execOp,em,Instr.mapUpdate,aV<|DT hT,run_getObj_map hr,hc,hf,MO hr,h1',C6]
  rw[er,Ao];have hml:(es.modify j fun e=>{e with key:=a.eval k,val:=a.eval v}).toList=es.toList.set j {z with key:=a.eval k,val:=a.eval v}:=by rw[OT,PQ h1]
  have hl0:(mM fK (fun v=>si.val<|F v) l)[j]? =some (fK x,.val<|F v0):=by simp[Nu]
  have:=fin (es.modify j fun e=>{e with key:=a.eval k,val:=a.eval v}) ((mM fK (fun v=>si.val<|F v) l).set j (fK x,.val<|F y)) (by simp[mM,ZO,Z6,Ct])
   (by rw[hml];exact XE (k:=fK x) (e:= .val<|F y) (x:={z with key:=a.eval k,val:=a.eval v}) ho Nt hyv (by simpa using h4))
   (by rw[hml];exact(S6 (k:=fK x) (e:= .val<|F y) hlen hl0 h1 OV<|fun _ h=>h.elim).1)
   (fun b hb=>by
    rw[hml] at hb;rcases(S6 (k:=fK x) (e:= .val<|F y) hlen hl0 h1 OV<|fun _ h=>h.elim).2 b hb with h|h
    ·exact h
    ·exact hown b h.1)
  simpa using this
end
section
variable[D:DR]
variable{P:Program}{w0:ar P}{H0:HV}{N:Nat}{ops:Array Oper}{Q:Exit->Act->World->Prop}{Γ aA:Ctx}{d:Option Tmp}{ty:TypeId}{pos:String}{af:Array Edge}{g:Option (Nat×Bool)}
variable{H:HV}{w:arG}{L:att (Ty×Ty)}{α:Type}{t r m it:Nat}{seen:att Nat}{s s':bO}
def DI{n:Nat}(hn:0<n)(w:arG):∃(i:Nat) (k:Nat),w.drawn<=k/\i<n/\(choose<| .mapNext n).run P w= .ok i {w with drawn:=k}:=by
 by_cases h:n<=1
 ·refine⟨0,w.drawn,bp _,hn,?_⟩;simp[choose,Sem.run,Question.forced,h]
 ·refine⟨w.tape w.drawn (.mapNext n)%n,w.drawn+1,wR _,te _ hn,?_⟩;simp[choose,Sem.run,Question.forced,h,Question.cut]
def abL{T:ato}{K E:ato}{m:atq}(hT:TT P T K E=true)(hm:Arg Γ m (ad6 L)):bR P Γ ⟨d,.range T m,ty,pos,af,g⟩ (.tR L []):=
 jB fun w0 _ _ a w H hs=>by
  obtain⟨r,es,e,hr,ho⟩:=hm.ok hs;have Ug:=hs.sub _ _ hr;refine⟨.pointer<|some ⟨w.heap.size,0,none⟩,w.alloc<| .mapIter (some r) es.size #[] es.size,H,?_,Ext.alloc hs.sub _,?_,?_⟩
  ·simp[execOp,Instr.range,e,aV<|DT hT,run_getObj_map Ug,newObj];rfl
  ·refine⟨w.heap.size,r,es,#[],rfl,tF w _,?_,.inl hs.below.size,hr,ho,rfl⟩;cases hh:H w.heap.size with
   |none=>rfl
   |some o=>have:=xQ hs.sub hh;omega
  ·rintro b ⟨ad,e,hb⟩;cases e;simp at hb;omega
def Rg{H:HV}:∀{i:Nat} {l:att (Ty×Ty)} {es:att MapEntry},okM H i l es->es.length=l.length
 |_,[],[],_=>rfl
 |_,[],_::_,h=>h.elim
 |_,(_,_)::_,[],h=>h.elim
 |_,(_,_)::_,_::_,⟨_,_,_,h⟩=>by simp[Rg h]
def Rh{H:HV}:∀{i:Nat} {l:att (Ty×Ty)} {es:att MapEntry} {j:Nat} {x:MapEntry},okM H i l es->es[j]? =some x->∃k e,l[j]? =some (k,e)/\k.ok H x.key/\e.ok H x.val/\x.born=i+j
 |_,[],[],_,_,_,h=>by simp at h
 |_,[],_::_,_,_,h,_=>h.elim
 |_,(_,_)::_,[],_,_,h,_=>h.elim
 |i,(k,e)::l,x::xs,0,y,⟨h1,h2,h3,h4⟩,h=>by
  simp at h;subst h;exact⟨k,e,rfl,h1,h2,by simpa using h3⟩
 |i,(k,e)::l,x::xs,j+1,y,⟨h1,h2,h3,h4⟩,h=>by
  obtain⟨k',e',g1,g2,g3,g4⟩:=Rh h4 (by simpa using h);exact⟨k',e',by simpa using g1,g2,g3,by omega⟩
def CZ{since last:Nat}{seen:awa Nat}(h:w.heap[r]? =some (.mapIter (some m) since seen last)):(getObj r).run P w= .ok (.mapIter (some m) since seen last) w:=by
 simp[getObj,Sem.run,h]
def KE{o:Obj}{since last:Nat}{seen:awa Nat}(h:w.heap[r]? =some (.mapIter (some m) since seen last)):(setObj r o).run P w= .ok () (w.putObj r o):=by
 simp[setObj,Sem.run,h];rfl
def abY{es:awa MapEntry}{sn:awa Nat}{ty:ato}(hr:w.heap[r]? =some (.mapIter (some m) es.size sn es.size))(hm:w.heap[m]? =some (.map es es.size))(ho:okM H 0 L es.toList):
  ((∀j,j<L.length->j∈sn.toList)/\∃k,w.drawn<=k/\(Instr.next (.pointer<|some ⟨r,0,none⟩) false ty).run P w= .ok (.tuple #[.bool false]) {w with drawn:=k})\/
  ∃j x k,j<L.length/\j∉sn.toList/\es[j]? =some x/\w.drawn<=k/\(Instr.next (.pointer<|some ⟨r,0,none⟩) false ty).run P w= .ok (.tuple #[.bool true,x.key,x.val]) (World.putObj {w with drawn:=k} r<| .mapIter (some m) es.size (sn.push j) es.size):=by
 have hlen:=Rg ho;have P5:∀(j:Nat) (x:MapEntry),es[j]? =some x->x.born=j:=fun j x hx=>by
  obtain⟨_,_,_,_,_,h⟩:=Rh ho (j:=j) (x:=x) (by simpa using hx);simpa using h
 have hbl:∀e∈es,e.born<es.size:=fun e he=>by
  obtain⟨j,hj,e1⟩:=Array.getElem_of_mem he;have:=P5 j e (by simp[hj,e1]);omega
 have ahK:(!sn.isEmpty&& !es.isEmpty&&es.all (·.born>=es.size))=false:=by
  cases hes:es.isEmpty
  ·simp only[Lq,Ln];have hpos:0<es.size:=by
    cases h:es.size with
    |zero=>rw[Array.isEmpty_iff_size_eq_zero.2 h] at hes;cases hes
    |succ n=>omega
   have:es.all (·.born>=es.size)=false:=by
    rw[Array.all_eq_false'];refine⟨es[0],by simp,?_⟩;have:=hbl es[0] (by simp);simp;omega
   simp[this]
  ·simp
 generalize P3:es.filter (fun e=> !sn.contains e.born)=left
 have hlm:∀e∈left,e∈es/\sn.contains e.born=false:=fun e he=>by
  rw[<-P3] at he;simpa using Array.mem_filter.1 he
 have hold:left.filter (·.born<es.size)=left:=by
  rw[Array.filter_eq_self];exact fun e he=>by simpa using hbl e (hlm e he).1
 have Nx:left.filter (·.born>=es.size)= #[]:=by
  rw[Array.filter_eq_empty_iff];intro e he;have:=hbl e (hlm e he).1;simp;omega
 have vK:=CZ (P:=P) hr;have hg2:=run_getObj_map (P:=P) hm;by_cases ags:left= #[]
 ·left;refine⟨fun j hj=>?_,?_⟩
  ·have hj':j<es.size:=by rw[<-hlen] at hj;simpa using hj
   have hb:=P5 j es[j] (by simp[hj']);apply eK;intro hn;have:es[j]∈left:=by
    rw[<-P3];refine Array.mem_filter.2 ⟨by simp,?_⟩;rw[hb];simpa using hn
   rw[ags] at this;simp at this
  ·obtain⟨i,k,hk,hi,hc⟩:=DI (P:=P) (n:=1) (by omega) w;have:i=0:=by omega
   subst this;refine⟨k,hk,?_⟩;unfold Instr.next
   simp only[fE,vK,eS,hg2,ahK,Cx,if_false,P3,hold,Nx];rw[ags];simp only[Array.isEmpty_empty,if_true,Array.append_empty,Array.map_empty,E0,List.length_cons,Cu,vd,hc,eS]
   rfl
 ·right;have hpos:0<left.size:=by
   cases h:left.size with
   |zero=>exact absurd (Array.eq_empty_of_size_eq_zero h) ags
   |succ n=>omega
  obtain⟨i,k,hk,hi,hc⟩:=DI (P:=P) (n:=left.size) hpos w;have Bb:=hlm left[i] (by simp);obtain⟨j,hj,e1⟩:=Array.getElem_of_mem Bb.1;have hb:=P5 j left[i] (by simp[hj,e1]);have Ug:World.heap {w with drawn:=k}=w.heap:=rfl;refine⟨j,left[i],k,by rw[<-hlen];simpa using hj,?_,by simp[hj,e1],hk,?_⟩
  ·have:=Bb.2;rw[hb] at this;simpa using this
  ·have hne:left.isEmpty=false:=by
    cases h:left.isEmpty
    ·rfl
    ·rw[Array.isEmpty_iff] at h;exact absurd h ags
   have Is:=KE (P:=P) (w:={w with drawn:=k}) (o:= .mapIter (some m) es.size (sn.push left[i].born) es.size) hr;rw[hb] at Is;unfold Instr.next
   simp only[fE,vK,eS,hg2,ahK,Cx,if_false,P3,hold,Nx,hne,Array.append_empty,Array.empty_append,Array.size_map,hc,eS];have:(Array.map some left)[i]? =some (some left[i]):=by simp[hi]
   simp only[this,hb,fE,Is,eS]
   rfl
def ajS{dn de id:Nat}{ts:att Nat}{Fm:Ctx}{ty OH:ato}{pos pos':String}{af O7:awa Edge}(hit:look Γ it=some (.tR L seen))(Ee:ye Γ ts Fm)
 (hN:(Nat.blt dn N&&Nat.blt de N&&(dn !=it)&&(de !=it)&&(de !=dn))=true)(hf:(Fm.all fun p=>p.1 !=it&&p.1 !=dn&&p.1 !=de&&p.2.c6.all (fun t=>t !=dn&&t !=de&&t !=it))=true)
 (kt:∀j,j<L.length->j∉seen->oU w0 H0 N (Q .normal) ((de,.val<|bj true)::(it,.tR L<|seen++[j])::Fm))(kf:(∀j,j<L.length->j∈seen)->oU w0 H0 N (Q .normal) ((de,.val<|bj false)::Fm)):
  Goal P w0 H0 N (.region id #[⟨some dn,.next (.tmp it) false,ty,pos,af,none⟩,⟨some de,.extract (.tmp dn) 0,OH,pos',O7,none⟩] false) Q Γ:=by
 intro a w H hs;simp only[bY,pf,ne_eq] at hN;obtain⟨⟨⟨⟨h1,h2⟩,h3⟩,h4⟩,h5⟩:=hN;have hdn:=gk h1;have hde:=gk h2;obtain⟨r,m,es,sn,e,hr,hn,hmi,hm,ho,hsn⟩:=hs.holds _<|aF hit
 simp only at e;have fr:∀q∈Fm,q∈Γ/\q.1≠it/\q.1≠dn/\q.1≠de/\dn∉q.2.c6/\de∉q.2.c6/\it∉q.2.c6:=fun q hq=>by
  have:=dI.1 hf q hq;simp only[bY,pf,ne_eq,dI] at this;obtain⟨⟨⟨k1,k2⟩,k3⟩,k4⟩:=this;exact⟨Ee.sub q hq,k1,k2,k3,fun h=>(k4 _ h).1.1 rfl,fun h=>(k4 _ h).1.2 rfl,fun h=>(k4 _ h).2 rfl⟩
 have ei:a.eval (.tmp it)= .pointer (some ⟨r,0,none⟩):=e;refine wpIn_region_lit ?_;have fin:∀(vs:att arH) (b:Bool) (w':arG) (G:Ctx),(∀q∈G,q.1≠dn/\q.1≠de/\dn∉q.2.c6/\de∉q.2.c6)->Sat w0 H0 N G a w' H->vs.head?=some (.bool b)->oU w0 H0 N (Q .normal) ((de,.val<|bj b)::G)->
   wpListIn (jd w0.rd) 0 P #[⟨some dn,.next (.tmp it) false,ty,pos,af,none⟩,⟨some de,.extract (.tmp dn) 0,OH,pos',O7,none⟩] Q [⟨some de,.extract (.tmp dn) 0,OH,pos',O7,none⟩] (a.put (some dn)<| .tuple vs.toArray) w':=by
  intro vs b w' G hG hS hv kk;unfold wpListIn;have hw:Region.wanted (⟨some de,.extract (.tmp dn) 0,OH,pos',O7,none⟩:Oper) (yielded #[⟨some dn,.next (.tmp it) false,ty,pos,af,none⟩,⟨some de,.extract (.tmp dn) 0,OH,pos',O7,none⟩] (a.put (some dn)<| .tuple vs.toArray).tmps)=true:=rfl;rw[if_pos hw];refine Ht (fun c e=>by cases e) ?_;unfold Oper.wp;have ed:(a.put (some dn)<| .tuple vs.toArray).eval (.tmp dn)= .tuple vs.toArray:=ua (by rw[hs.sz];exact hdn);have Vf:vs[0]? =some (.bool b):=by rw[<-List.head?_eq_getElem?];exact hv
  have er:(execOp (a.put (some dn)<| .tuple vs.toArray).eval ⟨some de,.extract (.tmp dn) 0,OH,pos',O7,none⟩).run P w'= .ok (.value<| .bool b) w':=by
   simp[execOp,ed,Instr.extract,Vf]
  rw[er,ve];unfold wpListIn;have Sj:=uD (s:= .gone) (v:= .tuple vs.toArray) hS hdn (by
   simp only[pj,dI,bY,pf,ne_eq];exact fun q hq=>⟨(hG q hq).1,by simpa using(hG q hq).2.2.1⟩) (by simp[bO.c6]) trivial<|fun b h=>h.elim
  have hs3:=uD (s:= .val<|bj b) (v:= .bool b) (Sj.weaken (aA:=G) fun q hq=>cW _ hq) hde (by
   simp only[pj,dI,bY,pf,ne_eq];exact fun q hq=>⟨(hG q hq).2.1,by simpa using(hG q hq).2.2.2⟩) (by simp[bO.c6]) rfl<|fun b h=>h.elim
  exact kk _ w' H hs3
 unfold wpListIn;have hw:Region.wanted (⟨some dn,.next (.tmp it) false,ty,pos,af,none⟩:Oper) (yielded #[⟨some dn,.next (.tmp it) false,ty,pos,af,none⟩,⟨some de,.extract (.tmp dn) 0,OH,pos',O7,none⟩] a.tmps)=true:=rfl;rw[if_pos hw];refine Ht (fun c e=>by cases e) ?_;unfold Oper.wp;rcases abY (P:=P) (ty:=ty) hr (hs.sub _ _ hm) ho with⟨hall,k,hk,sO⟩|⟨j,x,k,hj,hjn,hx,hk,sO⟩
 ·have er:(execOp a.eval ⟨some dn,.next (.tmp it) false,ty,pos,af,none⟩).run P w= .ok (.value<| .tuple #[.bool false]) {w with drawn:=k}:=by
   simp only[execOp,ei,fE,sO,eS];rfl
  rw[er,ve];have he:Ext w H {w with drawn:=k} H:=⟨⟨⟨rfl,rfl,rfl,bp _,fun _ _=>rfl⟩,JQ.of hk⟩,HV.le.refl _,fun _ _=>rfl,hs.sub⟩;exact fin [.bool false] false _ Fm (fun q hq=>⟨(fr q hq).2.2.1,(fr q hq).2.2.2.1,(fr q hq).2.2.2.2.1,(fr q hq).2.2.2.2.2.1⟩) (Hf (hs.weaken Ee.sub) he) rfl (kf (by rw[<-hsn];exact hall))
 ·have er:(execOp a.eval ⟨some dn,.next (.tmp it) false,ty,pos,af,none⟩).run P w= .ok (.value<| .tuple #[.bool true,x.key,x.val]) (World.putObj {w with drawn:=k} r<| .mapIter (some m) es.size (sn.push j) es.size):=by
   simp only[execOp,ei,fE,sO,eS];rfl
  rw[er,ve];have hg:CR w (World.putObj {w with drawn:=k} r<| .mapIter (some m) es.size (sn.push j) es.size) (some r):=
   ⟨⟨rfl,rfl,rfl,by simp,fun i _ hi=>by rw[Ik (fun e=>hi (by rw[e]))]⟩,JQ.of hk⟩
  have Ug:(World.putObj {w with drawn:=k} r<| .mapIter (some m) es.size (sn.push j) es.size).heap[r]? =some (.mapIter (some m) es.size (sn.push j) es.size):=RC<|lt_of_heap hr
  have Sj:=lg (s':= .tR L<|seen++[j]) hs (aF hit) hg hmi ⟨_,e,rfl⟩ ⟨r,m,es,sn.push j,e,Ug,hn,hmi,hm,ho,by simp[hsn]⟩<|fun c hc=> .inl hc
  exact fin [.bool true,x.key,x.val] true _ ((it,.tR L<|seen++[j])::Fm) (fun q hq=>by
    rcases aY.1 hq with e|hq
    ·subst e;exact⟨fun e=>h3 e.symm,fun e=>h4 e.symm,by simp[bO.c6],by simp[bO.c6]⟩
    ·exact⟨(fr q hq).2.2.1,(fr q hq).2.2.2.1,(fr q hq).2.2.2.2.1,(fr q hq).2.2.2.2.2.1⟩)
   (Sj.weaken fun q hq=>by
    rcases aY.1 hq with e|hq
    ·subst e;simp
    ·exact cW _<|sB (fr q hq).1 (fr q hq).2.1) rfl (kt j hj (by rw[<-hsn];exact hjn))
def abQ{j:Nat}{k e:Ty}(hit:look Γ it=some (.tR L<|seen++[j]))(hj:L[j]? =some (k,e)):bR P Γ ⟨d,.entry<| .tmp it,ty,pos,af,g⟩ (.Vb [k,e]):=
 bE fun w0 _ _ a w H hs=>by
  obtain⟨r,m,es,sn,ev,hr,hn,hmi,hm,ho,hsn⟩:=hs.holds _<|aF hit
  simp only at ev;have ei:a.eval (.tmp it)= .pointer (some ⟨r,0,none⟩):=ev;have Z7:=hs.sub _ _ hm;have P5:∀(i:Nat) (x:MapEntry),es[i]? =some x->x.born=i:=fun i x hx=>by
   obtain⟨_,_,_,_,_,h⟩:=Rh ho (j:=i) (x:=x) (by simpa using hx);simpa using h
  have hlt:j<es.size:=by
   have:=(kE.1 hj).1;rw[<-Rg ho] at this;simpa using this
  obtain⟨k',e',h1,h2,h3,_⟩:=Rh ho (j:=j) (x:=es[j]) (by simp[hlt]);rw[hj] at h1;cases h1;have acK:sn.back?=some j:=by
   have:sn=(seen++[j]).toArray:=by rw[<-hsn]
   rw[this];simp
  have amr:es.find? (fun x=>x.born==j)=some es[j]:=by
   rw[Array.find?_eq_some_iff_getElem];refine⟨by simpa using P5 j es[j] (by simp[hlt]),j,hlt,rfl,fun i hi=>?_⟩;have:=P5 i es[i] (by simp[Nat.lt_trans hi hlt]);simp[this];omega
  refine⟨.tuple #[es[j].key,es[j].val],?_,⟨_,rfl,_,_,rfl,h2,_,[],rfl,h3,rfl⟩,rfl⟩;simp[execOp,ei,Instr.entry,CZ hr,run_getObj_map Z7,acK,amr]
def FT{α σ:Type}(f:α->σ->av8 σ):att α->σ->av8 σ
 |[],s=>some s
 |x::l,s=>bd (f x s)<|FT f l
def TK{α σ ρ:Type}(f:α->σ->av8 σ)(l:att α)(s:σ)(K:σ->av8 ρ):av8 ρ:=bd (FT f l s) K
def arK{P:atp}{α σ:Type}(w0:ar P)(H0:HV)(N it:Nat)(l:att α)(enc:α->Ty×Ty)(f:α->σ->av8 σ)(eI:σ->Ctx)(seen:att Nat)(s:σ)(a:Act)(w:arG):Prop:=
 ∃j x s',l[j]? =some x/\j∉seen/\f x s=some s'/\∃H,Sat w0 H0 N ((it,.tR (l.map enc)<|seen++[j])::eI s') a w H
def FV{α:Type}(l:att α)(seen:att Nat):att α:=((List.range l.length).filter fun j=> !seen.contains j).filterMap fun j=>l[j]?
def Gi{l:att α}{j:Nat}{x:α}(hj:l[j]? =some x)(hn:j∉seen):(x::FV l (seen++[j])).Perm (FV l seen):=by
 have hlt:=(kE.1 hj).1;have key:((List.range l.length).filter fun i=> !seen.contains i).Perm (j::(List.range l.length).filter fun i=> !(seen++[j]).contains i):=by
  have Sk:((List.range l.length).filter fun i=> !seen.contains i).Nodup:=List.nodup_range.filter _;have Bb:j∈(List.range l.length).filter fun i=> !seen.contains i:=by simp[hlt,hn]
  have h1:=List.perm_cons_erase Bb;refine h1.trans<|List.Perm.cons _ ?_
  rw[Sk.erase_eq_filter,List.filter_filter];refine List.Perm.of_eq<|List.filter_congr fun i _=>?_
  by_cases e:i=j
  ·subst e;simp
  ·simp[e]
 have h2:=(key.filterMap fun i=>l[i]?).symm;simpa[FV,hj] using h2
def PD{α:Type}:∀(l pre:att α),(List.range' pre.length l.length).filterMap (fun j=>(pre++l)[j]?)=l
 |[],_=>rfl
 |x::l,pre=>by
  have ih:=PD l<|pre++[x]
  simp only[List.length_append,List.length_singleton,nR,List.singleton_append] at ih;simp only[List.length_cons,List.range'_succ,List.filterMap_cons];rw[A9<|bp _,Nat.sub_self];simp only[List.getElem?_cons_zero,ih]
def ZT(l:att α):FV l []=l:=by
 have:=PD l [];simp only[Cu,qL] at this;unfold FV;have e:List.filter (fun j=> !([]:att Nat).contains j) (List.range l.length)=List.range l.length:=List.filter_eq_self.2<|fun j _=>rfl
 rw[e,List.range_eq_range'];exact this
def agM{σ ρ:Type}{l:att α}(enc:α->Ty×Ty){f:α->σ->av8 σ}{K:σ->av8 ρ}{s0:σ}{r:ρ}(eI:σ->Ctx){c:Code}{ts:att Nat}(hall:∀π,π.Perm l->TK f π s0 K=some r)(h0:ye Γ ts ((it,.tR (l.map enc) [])::eI s0))
 (round:∀(seen:att Nat) (s:σ),(∀j x,l[j]? =some x->j∉seen->∃s',f x s=some s')->((∀j,j<(l.map enc).length->j∈seen)->K s=some r)->
 Goal P w0 H0 N c (Exit.then (arK w0 H0 N it l enc f eI seen s) Q) ((it,.tR (l.map enc) seen)::eI s)):Goal P w0 H0 N (.loop c) Q Γ:=by
 intro a w H hs;refine wp_loop_ghost (fun(i:att Nat×σ) a w=>(∀π,π.Perm (FV l i.1)->TK f π i.2 K=some r)/\∃H,Sat w0 H0 N ((it,.tR (l.map enc) i.1)::eI i.2) a w H) (fun i=>(FV l i.1).length) ([],s0) ⟨fun π hπ=>hall π (hπ.trans (by rw[ZT])),H,hs.weaken h0.sub⟩ ?_
 ·rintro⟨seen,s⟩ a w ⟨hI,H,hs⟩;refine EK (round seen s (fun j x hj hn=>?_) (fun hd=>?_) a w H hs) fun e a' w' q=>?_
  ·have h1:=hI (x::FV l (seen++[j])) (Gi hj hn);unfold TK at h1;simp only[FT] at h1;obtain⟨s1,h2,_⟩:=aN h1;obtain⟨s2,h3,_⟩:=aN h2;exact⟨s2,h3⟩
  ·have:FV l seen=[]:=by
    unfold FV;have:((List.range l.length).filter fun j=> !seen.contains j)=[]:=List.filter_eq_nil_iff.2 fun j hj=>by
     have:=hd j (by simpa using hj);simp[this]
    rw[this];rfl
   have h1:=hI [] (by rw[this]);exact h1
  ·cases e with
   |normal=>
    obtain⟨j,x,s',hj,hn,hf,H',ui⟩:=q;refine⟨(seen++[j],s'),⟨fun π hπ=>?_,H',ui⟩,?_⟩
    ·have h1:=hI (x::π) ((hπ.cons x).trans<|Gi hj hn);unfold TK at h1⊢;simp only[FT] at h1;rw[hf] at h1;exact h1
    ·have:=(Gi hj hn).length_eq;simp at this;simp only;omega
   |_=>exact q
def ar.KK(P:atp)(w:arG)(X:Nat->Prop):ar P:=⟨w,X,none,false,[],0,iR _,fun _ _=>iR _⟩
def R7:Act:=⟨#[],[]⟩
structure kN(P:atp)(f:FuncId)(pre:att Ty)(s s':bO)(post:att Ty)(dU:att Ty):Prop where
 can:fR P f=true
 run:∀(w:arG) (H:HV) (v:arH) (ps qs:att arH),(∀r o,H r=some o->w.heap[r]? =some o)->qU P H->Ce H pre ps->Ce H post qs->s.holds (ar.KK P w fun b=>s.owns w v b) R7 w H v->
  Calls P f (ps++v::qs).toArray w fun e w'=>∃r,e= .returned r/\∃H',IG (fun b=>s.owns w v b) w H w' H'/\s'.holds (ar.KK P w fun b=>s.owns w v b) R7 w' H' v/\(∀b,s'.owns w' v b->s.owns w v b\/w.heap.size<=b)/\xi H' dU r
inductive gP(Γ:Ctx):atq->Nat->Prop where
 |own {t:Nat}:gP Γ (.tmp t) t
 |same {u t:Nat} (h:look Γ u=some (.same t)):gP Γ (.tmp u) t
 |ptr {u t:Nat} (h:look Γ u=some (.ptr t 0)):gP Γ (.tmp u) t
def gP.ok{x:atq}(h:gP Γ x t){a:Act}(hs:Sat w0 H0 N Γ a w H):a.eval x=bh a t:=by
 cases h with
 |own=>rfl
 |same h=>exact hs.holds _<|aF h
 |ptr h=>
  obtain⟨b,e1,e2⟩:=hs.holds _<|aF h
  simp only at e1 e2;rw[e1];exact e2
def S9{a:Act}{w':arG}{H':HV}(hs:Sat w0 H0 N Γ a w H)(ht:(t,s)∈Γ)(hi:s.kb=false)(hi':s'.kb=false)(Bk:∀q∈da t Γ,q.2.kb=true->∀b,s.owns w (bh a t) b->w0.lo<=b)
 (hy:IG (fun b=>s.owns w (bh a t) b) w H w' H')(ui:s'.holds w0 a w' H' (bh a t))(ho:∀b,s'.owns w' (bh a t) b->s.owns w (bh a t) b\/w.heap.size<=b):Sat w0 H0 N ((t,s')::da t Γ) a w' H':=by
 have C6:=hs.holds _ ht;have nX:∀b,s.owns w (bh a t) b->w0.nX b:=fun b hb=>bO.sw hi C6 hb
 have other:∀q∈da t Γ,∀b,q.2.owns w (bh a q.1) b-> ¬s.owns w (bh a t) b:=fun q hq b hb ju=>hs.sep _ ht q (bG q hq).1 (fun e=>(bG q hq).2 e.symm) b ju hb
 have key:∀q∈da t Γ,q.2.holds w0 a w' H' (bh a q.1)/\∀b,q.2.owns w' (bh a q.1) b↔q.2.owns w (bh a q.1) b:=fun q hq=>by
  refine bO.wm (n:=w0.lo) (hs.holds q (bG q hq).1) (fun _=>rfl) ?_;have kp:∀b,b<w.heap.size->(b<w0.lo\/q.2.owns w (bh a q.1) b)->w'.heap[b]? =w.heap[b]? /\H' b=H b:=fun b hb h=>hy.mH b hb (fun h2=>by
   rcases h with h|h
   ·have:=ar.yl (nX b h2);omega
   ·exact other q hq b h h2)
  exact⟨hy.size,hy.os,hy.tape,hy.output,hy.drawn,hy.le,fun b hb h=>(kp b hb h).1,fun b hb h=>(kp b hb h).2,hy.sub⟩
 refine⟨?_,hs.sz,?_,?_,hy.sub,?_,?_,hs.gl.mono hy.le⟩
 ·refine hs.nd.kept fun D _ h1 h2=>?_
  have hn: ¬s.owns w (bh a t) D:=fun hm=>by
   obtain⟨_,_,o,ho,Vg⟩:=bO.oq C6 hm;rw[h1] at ho;cases ho;exact Vg
  have:=hy.mH D (lt_of_heap h1) hn;exact⟨by rw[this.1];exact h1,by rw[this.2];exact h2⟩
 ·refine⟨hy.os.trans hs.below.os,hy.tape.trans hs.below.tape,hy.output.trans hs.below.output,df hs.below.drawn hy.drawn,df hs.below.size hy.size,fun hv k hk hx=>?_⟩;rw[(hy.mH k (nT hk hs.below.size) (fun h=>by
   rcases nX k h with h|h
   ·omega
   ·exact hx h)).1]
  exact hs.below.block hv k hk hx
 ·intro hv r hr hx;rw[(hy.mH r (nT hr hs.below.size) (fun h=>by
   rcases nX r h with h|h
   ·omega
   ·exact hx h)).2]
  exact hs.Jm hv r hr hx
 ·intro q hq;rcases aY.1 hq with e|hq
  ·subst e;exact ui
  ·exact(key q hq).1
 ·have low:∀q∈da t Γ,∀b,q.2.owns w' (bh a q.1) b-> ¬s'.owns w' (bh a t) b:=fun q hq b hb hm=>by
   have hb:=((key q hq).2 b).1 hb;rcases ho b hm with h|h
   ·exact other q hq b hb h
   ·have:=(bO.oq (hs.holds q (bG q hq).1) hb).1;omega
  intro q hq r hr hne b hb ju;rcases aY.1 hq with e|hq<;>rcases aY.1 hr with e'|hr
  ·subst e;subst e';exact hne rfl
  ·subst e;exact low r hr b ju hb
  ·subst e';exact low q hq b hb ju
  ·exact hs.sep q (bG q hq).1 r (bG r hr).1 hne b (((key q hq).2 b).1 hb)<|((key r hr).2 b).1 ju
def V8{o:Oper}{f:FuncId}{xs ys:att atq}{pre post dU:att Ty}{dd:Nat}{eI:Ctx}(dc:∀q∈eI,q∈Γ)(hf:kN P f pre s s' post dU)(hod:(o.dst,o.guard)=(some dd,none))(hoe:∀{w0:ar P} {H0:HV} {N:Nat} {a:Act} {w:arG} {H:HV},Sat w0 H0 N eI a w H->execOp a.eval o=callFunc f (xs.map a.eval++bh a t::ys.map a.eval).toArray)(ht:look eI t=some s)(hi:(s.kb||s'.kb)=false)(hl:s.c6=[])(Yf:s'.c6=[])
 (ha:aU eI xs pre)(hb:aU eI ys post)(vD:dd<N)(hne:dd≠t):
  Step P N ops o Γ ((dd,AV dU)::(t,s')::del dd (da t Γ)):=by
 intro w0 H0 a w H hs K Q k;have hg:o.guard=none:=congrArg Prod.snd hod;have hd:o.dst=some dd:=congrArg Prod.fst hod;simp only[Region.wanted,hg,if_true];simp only[se] at hi;have Z3:=hs.weaken dc;have C6:=hs.holds _<|dc _<|aF ht
 simp only at C6;unfold Oper.wp;rw[hoe Z3,ke hf.can,EX,hd];have ape:s.holds (ar.KK P w fun b=>s.owns w (bh a t) b) R7 w H (bh a t):=
  bO.pP (a:=a) (fun t h=>by rw[hl] at h;cases h) (bO.qN hi.1 C6 fun b hb=> .inr hb)
 refine(hf.run w H _ _ _ hs.sub hs.gl (ha.ok Z3) (hb.ok Z3) ape).mono ?_;rintro e w' ⟨r,rfl,H',hy,ui,ho,hr⟩;have apg:s'.holds w0 a w' H' (bh a t):=bO.pP (a:=R7) (fun t h=>by rw[Yf] at h;cases h) (bO.qN hi.2 ui fun b hb=>by
  rcases ho b hb with h|h
  ·exact bO.sw hi.1 C6 h
  ·exact .inl<|df hs.below.size h)
 have h1:=S9 hs (dc _<|aF ht) hi.1 hi.2 (fun q hq _ b hb=>ar.yl<|bO.sw hi.1 C6 hb) hy apg ho;have h2:=uD (h1.weaken (aA:=del dd ((t,s')::da t Γ)) rF) vD vr (s:=AV dU) (v:=r) (by
  match dU with
  |[]=>simp[AV,bO.c6]
  |[_]=>simp[AV,bO.c6]
  |_::_::_=>simp[AV,bO.c6]) (vT hr)<|fun b e=>absurd e<|bO.free_spec yH
 refine k _ w' H'<|h2.weaken fun q hq=>?_
 simp only[aY] at hq⊢;rcases hq with h|h|h
 ·exact .inl h
 ·subst h;exact .inr (ym (by simp) (fun e=>hne e.symm) (by simp only;rw[Yf];simp))
 ·have:=WJ h;exact .inr<|ym (cW _<|rF _ h) this.1 this.2
def PT{f:FuncId}{x:atq}{xs ys:att atq}{zP:awa ato}{pre post dU:att Ty}{dd:Nat}{eI:Ctx}(dc:∀q∈eI,q∈Γ)(hf:kN P f pre s s' post dU)(hx:gP eI x t)(ht:look eI t=some s)(hi:(s.kb||s'.kb)=false)(hl:s.c6=[])(Yf:s'.c6=[])
 (ha:aU eI xs pre)(hb:aU eI ys post)(vD:dd<N)(hne:dd≠t):
  Step P N ops ⟨some dd,.call ⟨.value<| .func f,(xs++x::ys).toArray,zP⟩,ty,pos,af,none⟩ Γ ((dd,AV dU)::(t,s')::del dd (da t Γ)):=by
 refine V8 dc hf rfl (fun{_ _ _ a _ _} Z3=>?_) ht hi hl Yf ha hb vD hne;have e:execOp a.eval ⟨some dd,.call ⟨.value<| .func f,(xs++x::ys).toArray,zP⟩,ty,pos,af,none⟩=callFunc f (#[]++(xs++x::ys).toArray.map a.eval++ #[]):=rfl;rw[e]
 congr 1
 simp[hx.ok Z3]
end
section
variable[D:DR]
variable{P:Program}{w0:ar P}{H0:HV}{N:Nat}{Q:Exit->Act->World->Prop}{Γ aA:Ctx}
variable{fn:Func}{dU:att Ty}{s s':bO}
def anz(P:atp)(w:arG)(H:HV)(v:arH)(s s':bO)(dU:att Ty)(e:Ending)(w':arG):Prop:=
 ∃r,e= .returned r/\∃H',IG (fun b=>s.owns w v b) w H w' H'/\s'.holds (ar.KK P w fun b=>s.owns w v b) R7 w' H' v/\(∀b,s'.owns w' v b->s.owns w v b\/w.heap.size<=b)/\xi H' dU r
def aef(P:atp)(fn:Func)(w:arG)(H:HV)(v:arH)(s s':bO)(dU:att Ty):Exit->Act->arG->Prop:=bodyPostM (jd none) 0 P fn<|anz P w H v s s' dU
def ZS{rs:att ResultVar}{w1:arG}{v:arH}{i:Nat}(hw0:w0=ar.KK P w1 fun b=>s.owns w1 v b)(Bk:∀b,s.owns w1 v b->H0 b=none)(hlt:∀r o,H0 r=some o->r<w1.heap.size)(hr:fn.results=rs.toArray)(h:bg P Γ rs dU)(ui:look Γ i=some s')(hp:look Γ N=some (.Sf i v))(hi:s'.kb=false)(hl:s'.c6=[])
 {a:Act}{w:arG}{H:HV}(hs:Sat w0 H0 N Γ a w H):LeavesInM (jd none) 0 P fn a.tmps (anz P w1 H0 v s s' dU) a.defers .returning w:=by
 subst hw0;refine tT rfl rfl (a:=a) (ds:=a.defers) hs fun w H hs=>?_
 obtain⟨vs,h1,h2⟩:=h.run hs;have hlen:=Aa h2;rw[y9 hr];simp only[fE,Sem.run_map,h1,eS,pT];have hv:bh a i=v:=hs.holds _<|aF hp
 have C6:=hs.holds _<|aF ui
 simp only at C6;have ea:bh {a with defers:=[]} i=v:=hv;rw[ea] at C6;refine⟨_,rfl,_,rfl,H,⟨hs.below.size,hs.below.os,hs.below.tape,hs.below.output,hs.below.drawn,?_,?_,hs.sub⟩,bO.pP (fun t h=>by rw[hl] at h;cases h) C6,?_,?_⟩
 ·intro r o ho;rw[hs.Jm rfl r (hlt r o ho) (fun hx=>by have:=Bk r hx;rw[this] at ho;cases ho)];exact ho
 ·exact fun b hb hx=>⟨hs.below.block rfl b hb hx,hs.Jm rfl b hb hx⟩
 ·intro b hb;rcases bO.sw hi C6 hb with h|h
  ·exact .inr h
  ·exact .inl h
 ·match dU,h2,hlen with
  |[],h2,hl=>
   have:vs=[]:=h2;subst this;exact⟨#[],rfl,rfl⟩
  |[τ],h2,hl=>
   obtain⟨v,rest,e,hv,hr⟩:=h2;have:rest=[]:=hr;subst this;subst e;exact hv
  |τ::Ey::l,h2,hl=>
   have: ¬vs.toArray.size=1:=by simp[hl]
   rw[dif_neg this];exact⟨vs.toArray,rfl,by simpa using h2⟩
structure R9(P:atp)(w0:ar P)(H0:HV)(w1:arG)(v:arH)(s:bO):Prop where
 eq:w0=ar.KK P w1 fun b=>s.owns w1 v b
 no:∀b,s.owns w1 v b->H0 b=none
 lt:∀r o,H0 r=some o->r<w1.heap.size
def adK{rs:att ResultVar}{w1:arG}{v:arH}{i:Nat}(hk:R9 P w0 H0 w1 v s)(hr:fn.results=rs.toArray)(h:bg P Γ rs dU)(ui:look Γ i=some s')(hp:look Γ N=some (.Sf i v))(hi:s'.kb=false)(hl:s'.c6=[]):
  oU w0 H0 N (fun a w=>aef P fn w1 H0 v s s' dU .ret a w) Γ:=fun _ _ _ hs=>ZS hk.eq hk.no hk.lt hr h ui hp hi hl hs
def Gw:∀{l:att Ty} {i:Nat},∀p∈lC i l,i<=p.1/\p.1<i+l.length/\p.2.free=true/\p.2.kb=false
 |[],_,p,hp=>by simp[lC] at hp
 |τ::l,i,p,hp=>by
  simp only[lC,aY] at hp;rcases hp with e|hp
  ·subst e;exact⟨bp _,by simp,rfl,rfl⟩
  ·have:=Gw p hp;refine⟨by omega,by simp;omega,this.2.2.1,this.2.2.2⟩
def Gh{f:FuncId}{c:Code}{pre post:att Ty}{N:Nat}(hf:P.funcs[f]? =some fn)(hb:fn.body=some c)(hN:fn.ntmps=N)(hn:pre.length+1+post.length<=N)(hc:fR P f=true)(hl:s.c6=[])(hi:s.kb=false)
 (h:∀(w1:arG) (v:arH) (w0:ar P) (H0:HV),R9 P w0 H0 w1 v s->Goal P w0 H0 N c (aef P fn w1 H0 v s s' dU) ((N,.Sf pre.length v)::(pre.length,s)::(lC 0 pre++lC (pre.length+1) post))):kN P f pre s s' post dU:=by
 subst hN;refine⟨hc,fun w H v ps qs sub gl hps hqs hs=>?_⟩;have ij:Ce H (pre++post) (ps++qs):=zf hps hqs;have RO:=Aa hps;have hql:=Aa hqs;have al7:R9 P (ar.KK P w fun b=>s.owns w v b) H w v s:=⟨rfl,fun b hb=>(bO.oq hs hb).2.1,fun r o ho=>xQ sub ho⟩;refine(callsIn_wide (n:=0)).1<|callsIn_of_wp_marks (F:=Fence.wide) hf hb trivial<|h w v _ H al7 _ w H ?_
 obtain⟨a,ha⟩:∃a:Act,a={tmps:=(ps++v::qs).toArray++Array.replicate (fn.ntmps-(ps++v::qs).toArray.size) undef,defers:=[]}:=⟨_,rfl⟩;rw[<-ha];have ajp:∀j x,(ps++v::qs)[j]? =some x->bh a j=x:=fun j x hj=>by
  have P4:=(kE.1 hj).1;have e:((ps++v::qs).toArray++Array.replicate (fn.ntmps-(ps++v::qs).toArray.size) undef)[j]? =some x:=by
   rw[Array.getElem?_append_left (by simpa using P4)];simpa using hj
  rw[ha];simp only[bh,CA,e,H9]
 have hvv:bh a pre.length=v:=ajp _ _ (by rw[<-RO];simp);have e1:∀p∈lC 0 pre,p.2.holds (ar.KK P w fun b=>s.owns w v b) a w H (bh a p.1):=AJ 0 hps fun j x hj=>ajp _ _ (by
  rw[vd,xK (kE.1 hj).1];exact hj)
 have e2:∀p∈lC (pre.length+1) post,p.2.holds (ar.KK P w fun b=>s.owns w v b) a w H (bh a p.1):=AJ (pre.length+1) hqs fun j x hj=>ajp _ _ (by
  rw[A9 (by omega),<-RO,show ps.length+1+j-ps.length=j+1 by omega];simpa using hj)
 have tV:∀p∈(fn.ntmps,bO.Sf pre.length v)::(pre.length,s)::(lC 0 pre++lC (pre.length+1) post),p.1≠pre.length->∀b,¬p.2.owns w (bh a p.1) b:=by
  intro p hp hne b hb;simp only[aY,bN] at hp;rcases hp with e|e|hp|hp
  ·subst e;exact hb
  ·subst e;exact hne rfl
  ·exact bO.free_spec (Gw p hp).2.2.1 hb
  ·exact bO.free_spec (Gw p hp).2.2.1 hb
 refine⟨by rw[ha];trivial,by rw[ha];simp;omega,⟨rfl,rfl,rfl,bp _,bp _,fun _ _ _ _=>rfl⟩,fun _ _ _ _=>rfl,sub,?_,?_,gl⟩
 ·intro p hp;simp only[aY,bN] at hp;rcases hp with e|e|hp|hp
  ·subst e;exact hvv
  ·subst e;simp only;rw[hvv];exact bO.pP (fun t h=>by rw[hl] at h;cases h) hs
  ·exact e1 p hp
  ·exact e2 p hp
 ·intro p hp q hq hne b hb ju;by_cases h1:p.1=pre.length
  ·exact tV q hq (fun e=>hne<|h1.trans e.symm) b ju
  ·exact tV p hp h1 b hb
end
@[reducible] def akr(_:Unit):Ty:=TEq .nilIface rfl
def G1:Int:=18446744073709551616
def xr(x:Int):Bool:=decide (0<=x)&&decide (x<18446744073709551616)
def o7(x y c:Int):av8 (Int×Int):=bif (xr x&&xr y)&&(decide (c=0)||decide (c=1)) then some ((x+y+c)%G1,(x+y+c)/G1) else none
def Ah(x y b:Int):av8 (Int×Int):=bif (xr x&&xr y)&&(decide (b=0)||decide (b=1)) then some ((x-y-b)%G1,bif decide (x<y+b) then 1 else 0) else none
def uC(z:Int):Bool:=Nat.blt (Nat.log2 z.natAbs) 1099511627776
def Bl{α:Type}(b:Bool)(x:α):av8 α:=bif b then some x else none
def UN(x y:Int):Int:=bif decide (x<y) then -1 else bif decide (y<x) then 1 else 0
def adZ(z:Int):av8 Int:=some z.sign
def anv(z:Int):av8 Int:=some<| -z
def akq(z:Int):av8 Int:=some (z.natAbs:Int)
def ad0(x y:Int):av8 Int:=Bl (uC x&&uC y)<|UN x y
def U6(x y:Int):av8 Int:=Bl (uC x&&uC y)<|x+y
def De(x y:Int):av8 Int:=Bl (uC x&&uC y)<|x*y
def anu(x y:Int):av8 Int:=Bl (uC x&&uC y&& !decide (y=0))<|x.fdiv y
def Oc(x y:Int):av8 Int:=Bl (uC x&&uC y) (Int.gcd x y:Int)
def aOf(x:Int):av8 Int:=aL x
def Bf(z:Int):av8 (Int×Bool):=Bl (!decide (z= -9223372036854775808))<|bif yA z then(z,true) else(z.sign,false)
def ad1(z:Int):av8 Int:=Bl (uC z)<|bif decide (z=0) then 0 else(Nat.log2 z.natAbs:Int)+1
def ady:Nat->Nat->att UInt8->att UInt8
 |0,_,acc=>acc
 |f+1,n,acc=>bif Nat.blt n 10 then UInt8.ofNat (48+n)::acc else ady f (n/10) (UInt8.ofNat (48+n%10)::acc)
def cz(n:Nat):att UInt8:=ady (n+1) n []
def eh(z:Int):att UInt8:=bif decide (z<0) then 45::cz z.natAbs else cz z.natAbs
def Nh(z:Int):av8 (att UInt8):=bif yA z then some (eh z) else none
def Rv(z b:Int):av8 (att UInt8):=Bl (xr z&&decide (b=10))<|cz z.toNat
def afi(l:att UInt8):Nat->att UInt8
 |0=>[]
 |c+1=>l++afi l c
def Ru(s:att UInt8)(c:Int):av8 (att UInt8):=Bl (decide (0<=c)&&decide (c<=64)&&decide (s=[48]))<|afi s c.toNat
def w6(z:Int):av8 (att UInt8):=Bl (uC z)<|eh z
def Dh(q:Rat):Bool:=Nat.blt (Nat.log2 q.num.natAbs) 68719476736&&Nat.blt (Nat.log2 q.den) 68719476736
def Er(x y:Int):av8 Rat:=Bl (uC x&&uC y&& !decide (y=0))<|(x:Rat)/(y:Rat)
def mj(q:Rat):av8 Bool:=some<|decide<|q.den=1
def JO(x:Int):av8 Rat:=some (x:Rat)
def Tn(q:Rat):av8 Rat:=some<| -q
def Gb(x y:Rat):av8 Rat:=Bl (Dh x&&Dh y)<|x+y
def KI(x y:Rat):av8 Rat:=Bl (Dh x&&Dh y)<|x-y
def uh(x y:Rat):av8 Rat:=Bl (Dh x&&Dh y)<|x*y
def To(x y:Rat):av8 Rat:=Bl (Dh x&&Dh y&& !decide (y=0))<|x/y
def abz(x:Rat):av8 Rat:=Bl (Dh x&& !decide (x=0)) x⁻¹
def MW(x y:Rat):av8 Int:=Bl (Dh x&&Dh y)<|bif decide (x<y) then -1 else bif decide (y<x) then 1 else 0
def J4(x y:Rat):av8 Bool:=Bl (Dh x&&Dh y)<|decide<|x=y
def tO(x:Rat):av8 Int:=some x.num.sign
def qF(x:Int):av8 Rat:=(aL x).map fun z=>(z:Rat)
def ZP(a b:Int):av8 Rat:=match b with
 | .ofNat (d+1)=>Bl (Nat.beq (Nat.gcd a.natAbs<|d+1) 1)<|mkRat a<|d+1
 |_=>none
def TM{a b:Int}{r:Rat}(h:ZP a b=some r):r.num=a/\(r.den:Int)=b:=by
 unfold ZP at h;split at h
 ·rename_i d;unfold Bl at h;cases hc:Nat.beq (Nat.gcd a.natAbs<|d+1) 1
  ·rw[hc] at h;cases h
  ·rw[hc] at h;have h:=(eQ h).symm;subst h;have hg:Nat.gcd a.natAbs (d+1)=1:=fL hc;rw[Rat.num_mkRat,Rat.den_mkRat];rw[Ak] at hg;simp[hg]
 ·cases h
def V4[D:DR]{a b:Int}{r:Rat}(h:ZP a b=some r):(bO.val<|ko [nY a,nY b])= .val (cd r):=by
 obtain⟨h1,h2⟩:=TM h;rw[<-h1,<-h2]
def iA(b:UInt8):Bool:=Nat.ble 48 b.toNat&&Nat.ble b.toNat 57
def dz(l:att UInt8):Nat:=l.foldl (fun n b=>10*n+(b.toNat-48)) 0
def Ni(s:att UInt8):av8 (Int×Unit):=Bl (!s.isEmpty&&Nat.ble s.length 18&&s.all iA) ((dz s:Int),())
def cutAt(sep:UInt8):att UInt8->att UInt8->att UInt8×att UInt8×Bool
 |pre,[]=>(pre.reverse,[],false)
 |pre,b::l=>bif b==sep then(pre.reverse,l,true) else cutAt sep (b::pre) l
def XP(s sep:att UInt8):av8 (att UInt8×att UInt8×Bool):=match sep with
 |[c]=>Bl (Nat.blt s.length 4294967281)<|cutAt c [] s
 |_=>none
def vB(s:att UInt8):av8 Int:=match s with
 |45::ds=>Bl (ds.all iA&&Nat.blt ds.length 1000000)<| -(dz ds:Int)
 |ds=>Bl (ds.all iA&&Nat.blt ds.length 1000000) (dz ds:Int)
abbrev V3:=Rat×Rat×Rat
abbrev bV:=(Int×Int×Int)×att UInt8
def z7{α:Type}:att α->att (α×α)
 |[]=>[]
 |a::l=>(a::l).zip<|l++[a]
def KM{α:Type}(c:α->α->av8 Int)(x:α):att α->av8 (att α)
 |[]=>some [x]
 |y::l=>bd (c x y) fun k=>cond (decide<|k<0) (bd (KM c x l) fun r=>some (y::r))<|some (x::y::l)
def RI{α:Type}(c:α->α->av8 Int)(l:att α):av8 (att α):=
 Oh l (fun next x s=>bd (KM c x s) next) [] fun s=>some s.reverse
def Qf{α:Type}(e:α->α->av8 Bool):α->att α->av8 (att α)
 |_,[]=>some []
 |x,y::l=>bd (e y x) fun b=>bd (Qf e y l) fun r=>some<|cond b r (y::r)
def adE{α:Type}(e:α->α->av8 Bool):att α->av8 (att α)
 |[]=>some []
 |x::l=>bd (Qf e x l) fun r=>some (x::r)
def aaC{α:Type}[DecidableEq α](c:α×α->av8 Int)(x:α):att α->Bool
 |[]=>true
 |y::l=>(bif decide (x=y) then true else match c (x,y),c (y,x) with
  |some i,some j=>decide (i<0)&&decide (0<=j)
  |_,_=>false)&&aaC c x l
def Ep{α:Type}[DecidableEq α](c:α×α->av8 Int):att α->Bool
 |[]=>true
 |x::l=>(match c (x,x) with
  |some i=>decide<|0<=i
  |none=>false)&&(aaC c x l&&Ep c l)
def totB{α:Type}(c:α×α->av8 Int)(l:att α):Bool:=l.all fun x=>l.all fun y=>(c (x,y)).isSome
def nC{α:Type}[DecidableEq α](l:att α)(c:α×α->av8 Int):av8 (att α):=
 bd (RI (fun a b=>c (a,b)) l) fun s=>Bl (Nat.blt l.length 4611686018427387904&&(totB c l&&Ep c s)) s
def BP{α:Type}(l:att α)(e:α×α->av8 Bool):av8 (att α):=adE (fun a b=>e (a,b)) l
def Bu(l:att V3):av8 (att<|V3×V3):=Bl (Nat.blt l.length 1000000000)<|z7 l
section
variable[D:DR]
variable{P:Program}{w0:ar P}{H0:HV}{N:Nat}{ops:Array Oper}{Q:Exit->Act->World->Prop}{Γ aA:Ctx}{d:Option Tmp}{ty:TypeId}{pos:String}{af:Array Edge}{g:Option (Nat×Bool)}
variable{T:ato}{ps:att lE}{τ:Ty}{t:Nat}
@[reducible] def TMp{α β:Type}(fK:α->Ty)(F:β->Ty)(l:att (α×β)):Ty:=ad6<|l.map fun p=>(fK p.1,F p.2)
def PM{l:att Ty}(gg:Bool)(h:fj P T τ)(hτ:∀H v,τ.ok H v->vH H l v.cells.toList)(ho:Et l ps):bR P Γ ⟨d,.alloc T,ty,pos,af,g⟩ (.vW T gg ps):=
 jB fun w0 _ _ a w H hs=>by
  obtain⟨z,hr,hz⟩:=h.run w;have he:=Ext.alloc hs.sub<| .cells z.cells T (0,0)
  obtain⟨h1,h2,h3⟩:=ho.ok (B:=w0) (a:=a) (w:=w.alloc<| .cells z.cells T (0,0))<|hτ H z<|hz H
  refine⟨.pointer<|some ⟨w.heap.size,0,none⟩,w.alloc<| .cells z.cells T,H,?_,he,?_,?_⟩
  ·simp[execOp,Instr.alloc,hr,newVar,newRow]
  ·refine⟨w.heap.size,z.cells,rfl,tF w _,?_,.inl hs.below.size,h1,h3,h2 _⟩;cases hh:H w.heap.size with
   |none=>rfl
   |some o=>have:=xQ hs.sub hh;omega
  ·rintro b ⟨c,e,hb⟩;cases e;rcases hb with hb|⟨cs,hc,hb⟩
   ·omega
   ·rw[tF] at hc;cases hc;exact absurd hb<|h2 b
def afB{x:atq}{l:att Ty}(gg:Bool)(hx:Arg Γ x τ)(hτ:∀H v,τ.ok H v->vH H l v.cells.toList)(ho:Et l ps):bR P Γ ⟨d,.box T x,ty,pos,af,g⟩ (.vW T gg ps):=
 jB fun w0 _ _ a w H hs=>by
  have he:=Ext.alloc hs.sub<| .cells (a.eval x).cells T (0,0)
  obtain⟨h1,h2,h3⟩:=ho.ok (B:=w0) (a:=a) (w:=w.alloc<| .cells (a.eval x).cells T (0,0))<|hτ H _<|hx.ok hs
  refine⟨.pointer<|some ⟨w.heap.size,0,none⟩,w.alloc<| .cells (a.eval x).cells T,H,?_,he,?_,?_⟩
  ·simp[execOp,Instr.box,newVar,newRow]
  ·refine⟨w.heap.size,(a.eval x).cells,rfl,tF w _,?_,.inl hs.below.size,h1,h3,h2 _⟩;cases hh:H w.heap.size with
   |none=>rfl
   |some o=>have:=xQ hs.sub hh;omega
  ·rintro b ⟨c,e,hb⟩;cases e;rcases hb with hb|⟨cs,hc,hb⟩
   ·omega
   ·rw[tF] at hc;cases hc;exact absurd hb<|h2 b
def alm{u:Nat}(hu:look Γ u=some (.same t))(ht:look Γ t=some (.val τ)):ub w0 N Γ ((u,.val τ)::da u Γ):=fun H0 a w H hs=>by
 have e:=hs.holds _<|aF hu
 have hv:=hs.holds _<|aF ht
 exact⟨H,Ga (us:=[]) hs (fun q hq=>bG q hq) (by rw[show bh a u=bh a t from e];exact hv) (fun b h=>h.elim) (fun _ _ h=>by cases h)⟩
def QP{p off i dd:Nat}{T':ato}{gg:Bool}{pp:lE}(sm:Bool)(hp:nW Γ p t off)(ht:look Γ t=some (.vW T' gg ps))(hi:ps[i]? =some pp)(ho:eN ps i=off)(h1:(pp.n,pp.agg)=(1,false))(hT:fM P T 1 false=true)(vD:dd<N)(hd:(dd !=t&& !(G5 ps).contains dd)=true):
  Step P N ops ⟨some dd,.load T<| .tmp p,ty,pos,af,none⟩ Γ ((dd,pp.sty)::(t,.vW T' gg<|ps.set i<|Ka dd sm)::del dd (da t Γ)):=by
 simp only[bY,pf,ne_eq,jl,RB,me] at hd;exact XT (fun _ h=>h) sm hp ht hi ho (congrArg Prod.fst h1) (congrArg Prod.snd h1) hT vD hd.1 hd.2
def aa5{p off i dd:Nat}{T':ato}{gg:Bool}{pp:lE}(sm:Bool)(hp:nW Γ p t off)(ht:look Γ t=some (.vW T' gg ps))(hi:ps[i]? =some pp)(ho:eN ps i=off)(h1:(pp.n,pp.agg)=(1,false))(hT:fM P T 1 false=true)(vD:dd<N)(hd:(dd !=t&& !(G5 ps).contains dd)=true):
  ag8 P N ops Γ ⟨some dd,.load T<| .tmp p,ty,pos,af,none⟩ t (.vW T' gg<|ps.set i<|Ka dd sm) dd pp.sty:=fun yM dc=>by
 simp only[bY,pf,ne_eq,jl,RB,me] at hd;exact XT dc sm hp ht hi ho (congrArg Prod.fst h1) (congrArg Prod.snd h1) hT vD hd.1 hd.2
end
section
variable[D:DR]
variable{P:Program}{w0:ar P}{H0:HV}{N:Nat}{ops:Array Oper}{Q:Exit->Act->World->Prop}{Γ aA:Ctx}{d:Option Tmp}{ty:TypeId}{pos:String}{af:Array Edge}{g:Option (Nat×Bool)}
variable{α β:Type}[DecidableEq α]{K E Eb T:TypeId}{sz:Nat}{fK:α->Ty}
def ae4{F:β->Ty}{m k v:atq}{t:Nat}{l:att (α×β)}{x:α}{y:β}(hT:TT P T K E=true)(hk:AL P K fK)(hm:IJ Γ m t)(ht:look Γ t=some (.Jl K E Eb sz<|mM fK (fun v=> .val<|F v) l))(hx:Arg Γ k (fK x))(hy:Arg Γ v (F y)):
  O9 P N ops Γ ⟨none,.mapUpdate T m k v,ty,pos,af,none⟩ t (.Jl K E Eb sz<|mM fK (fun v=> .val<|F v)<|ZO l x y):=fun _ dc=>Rt dc hT hk hm ht hx hy
def aiJ{K E Eb T:ato}{sz:Nat}{α β:Type}(fK:α->Ty)(fV:β->si):bR P Γ ⟨d,.makeMap T none,ty,pos,af,g⟩ (.Jl K E Eb sz<|mM fK fV ([]:att (α×β))):=VS
def abA{t:Nat}{F:β->Ty}{l:att (α×β)}(ht:look Γ t=some (.Jl K E Eb sz<|mM fK (fun v=> .val<|F v) l)):ub w0 N Γ ((t,.val<|TMp fK F l)::da t Γ):=
 afq ht (fun p hp=>by obtain⟨q,_,rfl⟩:=bT.1 hp;rfl) (by simp[mM,ZA,si.pub])
def KT.TT{γ:Type}{F:γ->Ty}{l:att (α×att γ)}{ls:att Ty}{ps:att lE}(r:KT ps ls):KT (.map K E Eb sz (mM fK (fun v=> .buf<|lT F v) l)::ps) (TMp fK (TL F) l::ls):=
 .map (fun p hp=>by obtain⟨q,_,rfl⟩:=bT.1 hp;rfl) (by simp[mM,ZA,si.pub]) r
end
section
variable[D:DR]
variable{P:Program}{w0:ar P}{H0:HV}{N:Nat}{ops:Array Oper}{Q:Exit->Act->World->Prop}{Γ aA:Ctx}{d:Option Tmp}{ty:TypeId}{pos:String}{af:Array Edge}{g:Option (Nat×Bool)}
variable{t:Nat}
def xf{f:FuncId}{x:atq}{xs ys:att atq}{zP:awa ato}{pre post dU:att Ty}{s s':bO}{dd:Nat}(hf:kN P f pre s s' post dU)(hx:gP Γ x t)(ht:look Γ t=some s)(hi:(s.kb||s'.kb)=false)(hl:(s.c6,s'.c6)=([],[]))
 (ha:aU Γ xs pre)(hb:aU Γ ys post)(vD:dd<N)(hne:(dd !=t)=true):
  Step P N ops ⟨some dd,.call ⟨.value<| .func f,(xs++x::ys).toArray,zP⟩,ty,pos,af,none⟩ Γ ((dd,AV dU)::(t,s')::del dd (da t Γ)):=PT (fun _ h=>h) hf hx ht hi (congrArg Prod.fst hl) (congrArg Prod.snd hl) ha hb vD (by simpa using hne)
def aa6{f:FuncId}{x:atq}{xs ys:att atq}{zP:awa ato}{pre post dU:att Ty}{s s':bO}{dd:Nat}(hf:kN P f pre s s' post dU)(hx:gP Γ x t)(ht:look Γ t=some s)(hi:(s.kb||s'.kb)=false)(hl:(s.c6,s'.c6)=([],[]))
 (ha:aU Γ xs pre)(hb:aU Γ ys post)(vD:dd<N)(hne:(dd !=t)=true):
  ag8 P N ops Γ ⟨some dd,.call ⟨.value<| .func f,(xs++x::ys).toArray,zP⟩,ty,pos,af,none⟩ t s' dd (AV dU):=fun _ dc=>PT dc hf hx ht hi (congrArg Prod.fst hl) (congrArg Prod.snd hl) ha hb vD (by simpa using hne)
def Ef{w0:ar P}{u i:Nat}{T':ato}{gg:Bool}{ps:att lE}{E:ato}{sz:Nat}{l:att Ty}(ht:look Γ t=some (.vW T' gg ps))(hi:ps[i]? =some (.sm u))(hu:look Γ u=some (.buf E sz l))(hne:(u !=t)=true):
  ub w0 N Γ ((t,.vW T' gg<|ps.set i<| .buf E sz l)::da t (da u Γ)):=agJ (.buf E sz l) ht hi hu hne rfl (fun e=>by cases e)
end
section
variable[D:DR]
variable{P:Program}{w0:ar P}{H0:HV}{N:Nat}{Q:Exit->Act->World->Prop}{Γ aA:Ctx}{d:Option Tmp}{ty:TypeId}{pos:String}{af:Array Edge}{g:Option (Nat×Bool)}
def arp{α β:Type}{f:α->β}{l:att α}{j:Nat}(h:j<(l.map f).length):∃x,l[j]? =some x:=⟨l[j]'(by simpa using h),by simp at h;simp[h]⟩
def ajR{t i k:Nat}{c:Code}{T:ato}{gg:Bool}{ps:att lE}{E:ato}{sz:Nat}{l:att Ty}(ht:look Γ t=some (.vW T gg ps))(hi:ps[i]? =some (.buf E sz l))(hk:Nat.ble N k=true)(h:∀x (hx:x.oneCell'=true),Goal P w0 H0 N c Q ((k,.KG x E sz l)::(t,.vW T gg<|ps.set i<| .val<|TEq x hx)::da k (da t Γ))):Goal P w0 H0 N c Q Γ:=fun a w H hs=>by
 obtain⟨b,cs,e,hb,hnb,hm,ij,OV,hx⟩:=hs.holds _<|aF ht
 simp only at e;obtain⟨_,h3,h4,_⟩:=Cf ij hi;have X5:=K8 ij hi;have hown:∀c,(pv (.buf E sz l) (eN ps i) cs.toList).ownBlock=some c->lX w c ps cs.toList:=fun c hc=>pJ.2 ⟨i,_,hi,hc⟩
 generalize hv:pv (.buf E sz l) (eN ps i) cs.toList=v at*
 have h1:v.oneCell'=true:=(DD h3).1;obtain⟨zJ,hcs,k1,k2,k3⟩:=BC (q:= .val<|TEq v h1) (x:=v) ij OV hi h3 rfl rfl<|fun c hc=>hc.elim
 rw[show zJ=cs.toList by rw[hcs];exact X5,hv] at*;have nw:∀c,lX w c (ps.set i<| .val<|TEq v h1) cs.toList->lX w c ps cs.toList/\ ¬v.ownBlock=some c:=fun c hc=>by
  rcases k3 c hc with h|h
  ·exact h.elim
  ·exact h
 have hb1:∀c,(bO.vW T gg<|ps.set i<| .val<|TEq v h1).owns w (bh a t) c->(bO.vW T gg ps).owns w (bh a t) c/\ ¬v.ownBlock=some c:=by
  rintro c ⟨c',e',hc⟩;rw[e] at e';cases e';rcases hc with hc|⟨cs3,hb3,hc⟩
  ·subst hc;exact⟨⟨c,e,.inl rfl⟩,fun h=>hx<|hown c h⟩
  ·rw[hb] at hb3;cases hb3;exact⟨⟨b,e,.inr ⟨cs,hb,(nw c hc).1⟩⟩,(nw c hc).2⟩
 have hb2:∀c,v.ownBlock=some c->(bO.vW T gg ps).owns w (bh a t) c:=fun c hc=>⟨b,e,.inr ⟨cs,hb,hown c hc⟩⟩
 have sub:∀q∈da k (da t Γ),q∈Γ/\q.1≠t/\q.1≠k:=fun q hq=>⟨(bG q (bG q hq).1).1,(bG q (bG q hq).1).2,(bG q hq).2⟩
 refine h v h1 a w H ⟨hs.nd,hs.sz,hs.below,hs.Jm,hs.sub,?_,?_,hs.gl⟩
 ·intro p hp;rcases aY.1 hp with e1|hp
  ·subst e1;exact h4
  rcases aY.1 hp with e1|hp
  ·subst e1;exact⟨b,cs,e,hb,hnb,hm,k1,k2,fun hc=>hx (nw b hc).1⟩
  ·exact hs.holds p (sub p hp).1
 ·intro p hp q hq hne c hc AF;rcases aY.1 hp with e1|hp
  ·subst e1;rcases aY.1 hq with e2|hq
   ·subst e2;exact hne rfl
   rcases aY.1 hq with e2|hq
   ·subst e2;exact(hb1 c AF).2 hc
   ·exact hs.sep _ (aF ht) q (sub q hq).1 (fun e=>(sub q hq).2.1 e.symm) c (hb2 c hc) AF
  rcases aY.1 hp with e1|hp
  ·subst e1;rcases aY.1 hq with e2|hq
   ·subst e2;exact(hb1 c hc).2 AF
   rcases aY.1 hq with e2|hq
   ·subst e2;exact hne rfl
   ·exact hs.sep _ (aF ht) q (sub q hq).1 (fun e=>(sub q hq).2.1 e.symm) c (hb1 c hc).1 AF
  ·rcases aY.1 hq with e2|hq
   ·subst e2;exact hs.sep p (sub p hp).1 _ (aF ht) (sub p hp).2.1 c hc<|hb2 c AF
   rcases aY.1 hq with e2|hq
   ·subst e2;exact hs.sep p (sub p hp).1 _ (aF ht) (sub p hp).2.1 c hc (hb1 c AF).1
   ·exact hs.sep p (sub p hp).1 q (sub q hq).1 hne c hc AF
def YB{fn:Func}{rs:att ResultVar}{dU:att Ty}{w1:arG}{v:arH}{s:bO}(hk:R9 P w0 H0 w1 v s)(hr:fn.results=rs.toArray)(h:bg P Γ rs dU):
  oU w0 H0 N (fun a w=>aef P fn w1 H0 v s .gone dU .ret a w) Γ:=fun a w H hs=>by
 obtain⟨e1,e2,e3⟩:=hk;subst e1;refine tT rfl rfl (a:=a) (ds:=a.defers) hs fun w H hs=>?_
 obtain⟨vs,h1,h2⟩:=h.run hs;have hlen:=Aa h2;rw[y9 hr];simp only[fE,Sem.run_map,h1,eS,pT];refine⟨_,rfl,_,rfl,H,⟨hs.below.size,hs.below.os,hs.below.tape,hs.below.output,hs.below.drawn,?_,?_,hs.sub⟩,trivial,(fun b hb=>hb.elim),?_⟩
 ·intro r o ho;rw[hs.Jm rfl r (e3 r o ho) (fun hx=>by have:=e2 r hx;rw[this] at ho;cases ho)];exact ho
 ·exact fun b hb hx=>⟨hs.below.block rfl b hb hx,hs.Jm rfl b hb hx⟩
 ·match dU,h2,hlen with
  |[],h2,hl=>
   have:vs=[]:=h2;subst this;exact⟨#[],rfl,rfl⟩
  |[τ],h2,hl=>
   obtain⟨v,rest,e,hv,hr⟩:=h2;have:rest=[]:=hr;subst this;subst e;exact hv
  |τ::Ey::l,h2,hl=>
   have: ¬vs.toArray.size=1:=by simp[hl]
   rw[dif_neg this];exact⟨vs.toArray,rfl,by simpa using h2⟩
end
section
variable[D:DR]
variable{P:Program}{N:Nat}{ops:Array Oper}{w0:ar P}{H0:HV}
variable{α β:Type}[DecidableEq α]{K E T:TypeId}{fK:α->Ty}{F:β->Ty}{l:List (α×β)}{x:α}{z y:β}{t dL dB dM dX:Nat}{Fm:Ctx}
structure atr(N t dL dB dM dX:Nat)(Fm:Ctx):Prop where
 lt:dL<N/\dB<N/\dM<N/\dX<N
 ne:dL≠t/\dB≠t/\dM≠t/\dX≠t/\dL≠dB/\dL≠dM/\dL≠dX/\dB≠dM/\dB≠dX/\dM≠dX
 fr:∀q∈Fm,q.1≠t/\∀d∈[dL,dB,dM,dX],q.1≠d/\d∉q.2.c6
end
section
variable{p:atp}
def Kz{w w':arG}{at_:Addr}{u:ato}{k:Addr}{v:arH}{b:Bool}{l:att Addr}(h:w.viewStore p at_ u k v b= .ok (w',l)):w'.drawn=w.drawn:=by
 unfold World.viewStore at h;simp only[bind,Except.bind,pure,Except.pure,MonadExcept.throw,throwThe,MonadExceptOf.throw] at h
 repeat' (split at h)
 all_goals first|(cases h;done)|skip
 all_goals (cases h;rfl)
def NK{w w':arG}{a:Addr}{v:arH}{b:Bool}{l:att Addr}(h:w.farStore p a v b= .ok (w',l)):w'.drawn=w.drawn:=by
 unfold World.farStore at h;split at h
 ·split at h
  ·cases h;rename_i h2;exact Kz h2
  ·cases h
 ·cases h
def JL{α:Type}:∀(q:Ask α) (w:arG),w.drawn<=(w.ask q).2.drawn
 | .done a,w=>by simp[World.ask]
 | .ask atx range k,w=>by
  unfold World.ask;simp only;split
  ·exact JL _ w
  ·exact df (wR w.drawn)<|JL _ {w with drawn:=w.drawn+1}
def Y8(w:arG)(c:Sys):w.drawn<=(w.sys c).2.drawn:=by
 unfold World.sys;split
 ·exact bp _
 ·rename_i h;have:=JL (Kernel.perform c w.os) w;rw[h] at this;exact this
def Zq{α:Type}:∀(s:Sem α) {w w':arG} {v:α},s.run p w= .ok v w'->w.drawn<=w'.drawn:=by
 intro s
 induction s with
 |pure a=>intro w w' v h;simp only[Sem.run] at h;cases h;exact bp _
 |load m a k ih=>
  intro w w' v h;simp only[Sem.run] at h;split at h
  ·exact ih _ h
  ·split at h
   ·exact ih _ h
   ·cases h
 |store m a u k ih=>
  intro w w' v h;have key:∀r:Result α,(match w.cell? a with
   |some _=>if w.frozen? a then Result.halt (.unsupported<| .unsafePointer "a write to bytes that a string shares") w else k.run p (w.setCell a u)
   |none=>match w.farStore p a u (m== .atomic) with
    | .ok (w,_)=>k.run p w
    | .error h=>Result.halt h w)=r->r= .ok v w'->w.drawn<=w'.drawn:=by
   intro r hr e;subst e;split at hr
   ·split at hr
    ·cases hr
    ·have:= @ih _ _ _ hr;exact this
   ·split at hr
    ·rename_i w2 l h2;have:=ih hr;rwa [NK h2] at this
    ·cases hr
  cases u<;>first|(unfold Sem.run at h;cases h;done)|(unfold Sem.run at h;exact key _ rfl h)
 |new o k ih=>intro w w' v h;simp only[Sem.run] at h;have:= @ih _ _ _ _ h;exact this
 |shape r k ih=>intro w w' v h;simp only[Sem.run] at h;exact ih _ h
 |freeze a n k ih=>
  intro w w' v h;simp only[Sem.run] at h;have:=ih h;have e:(w.freeze a n).drawn=w.drawn:=by unfold World.freeze;split<;>rfl
  rwa [e] at this
 |frozen a k ih=>intro w w' v h;simp only[Sem.run] at h;exact ih _ h
 |getObj r k ih=>
  intro w w' v h;simp only[Sem.run] at h;split at h<;>first|(cases h;done)|exact ih _ h
 |setObj r o k ih=>
  intro w w' v h;simp only[Sem.run] at h;split at h
  ·cases h
  ·have:= @ih _ _ _ h;exact this
  ·cases h
 |choose q k ih=>
  intro w w' v h;simp only[Sem.run] at h;split at h
  ·exact ih _ h
  ·have:= @ih _ _ _ _ h;exact df (wR _) this
 |sys c k ih=>
  intro w w' v h;simp only[Sem.run] at h;exact df (Y8 w c)<|ih _ h
 |program k ih=>intro w w' v h;simp only[Sem.run] at h;exact ih _ h
 |mark m k ih=>intro w w' v h;simp only[Sem.run] at h;exact ih h
 |halt h=>intro w w' v e;simp only[Sem.run] at e;cases e
end
section
variable[D:DR]
variable{P:Program}{w0:ar P}{H0:HV}{N:Nat}{ops:Array Oper}{Q:Exit->Act->World->Prop}{Γ aA:Ctx}{d:Option Tmp}{ty:TypeId}{pos:String}{af:Array Edge}{g:Option (Nat×Bool)}
def tW{f:FuncId}{args dU:att Ty}(hc:fR P f=true)
  (h:∀(w:arG) (H:HV) (vs:att arH),(∀r o,H r=some o->w.heap[r]? =some o)->qU P H->Ce H args vs->Calls P f vs.toArray w fun e w'=>∃v,e= .returned v/\Ex w.heap.size w w'/\xi H dU v):fN P f args (.vs dU):=
 ⟨hc,fun w H vs sub gl ha=>(h w H vs sub gl ha).mono fun e w' ⟨v,he,hb,hv⟩=>⟨v,he,hb,H,fun _ _=>rfl,fun r o hr=>by
  have:=sub r o hr;rw[hb.block r<|lt_of_heap this];exact this,hv⟩⟩
def lB(l:att UInt8):att Ty:=l.map fun b=>TI .u8 (b.toNat:Int)
def M7{H:HV}:∀{l:att UInt8} {xs:att arH},vH H (lB l) xs↔xs=Lib.byteCells l
 |[],xs=>Iff.rfl
 |b::l,xs=>by
  show vH H (TI .u8 (b.toNat:Int)::lB l) xs↔_;constructor
  ·rintro⟨v,rest,e,hv,hr⟩;have hv:v= .int .u8 b.toNat:=hv;subst hv;rw[M7] at hr;subst hr;exact e
  ·intro e;exact⟨.int .u8 b.toNat,Lib.byteCells l,e,rfl,M7.2 rfl⟩
def Jr(l:att UInt8):(lB l).length=l.length:=by simp[lB]
def TB{T E:ato}(h:(P.info? T).bind (·.zero)=some (.agg #[.pointer none,.slice none 0 0])):bR P Γ ⟨d,.alloc T,ty,pos,af,g⟩ (.N5 T E<|lB []):=
 jB fun w0 _ _ a w H hs=>by
  have hz:fj P T (Bg 2 true):=dF _ h<|fun _=>Dk rfl rfl
  have hr:(zeroValue T).run P w= .ok (.agg #[.pointer none,.slice none 0 0]) w:=by
   cases hi:P.info? T with
   |none=>rw[hi] at h;cases h
   |some i=>rw[hi] at h;exact FN hi h w
  refine⟨.pointer<|some ⟨w.heap.size,0,none⟩,w.alloc<| .cells #[.pointer none,.slice none 0 0] T,H,?_,Ext.alloc hs.sub _,?_,?_⟩
  ·simp[execOp,Instr.alloc,hr,newVar,newRow,Value.cells]
  ·refine⟨w.heap.size,_,_,rfl,tF w _,.inl rfl,?_,.inl hs.below.size,Pz,by simp[Value.ownBlock]⟩;cases hh:H w.heap.size with
   |none=>rfl
   |some o=>have:=xQ hs.sub hh;omega
  ·rintro b ⟨c,e,hb⟩;cases e;rcases hb with hb|⟨p,r,hc,hb⟩
   ·omega
   ·rw[tF] at hc;simp at hc;obtain⟨rfl,rfl⟩:=hc;simp[Value.ownBlock] at hb
def ag4{w:arG}{t u ty e:ato}{i:TypeInfo}(ht:P.underlying t=some (.slice e))(hu:P.underlying u=some .string)(hi:P.info? e=some i)(hz:i.zero=some (.int .u8 0))(Nv:i.size=1)(hby:i.bytes=1)
  {v:arH}{n:Nat}{xs:att arH}(hown:w.ownsRow 0 e 1 v n xs)(s:ByteArray)(hlen:n+s.size<=140737488355328):
  ∃v' w',(Builtin.append_ #[t,u] ty #[v,.string s]).run P w= .ok v' w'/\w'.ownsRow 0 e 1 v' (n+s.size) (xs++Lib.strCells s)/\CR w w' v.ownBlock/\
   ∀b,v'.ownBlock=some b->v.ownBlock=some b\/w.heap.size<=b:=by
 have KO:n+s.size<=maxLen:=by unfold maxLen;omega
 obtain⟨v',w',hr,h2,h3,h4⟩:=Lib.run_append_own_string (P:=P) w 0 t u ty e i ht hu hi hz Nv hby v n xs hown s KO hlen<|iR _
 refine⟨v',w',hr,h2,⟨h3,JQ.of<|Zq _ hr⟩,fun b hb=>?_⟩;have Ir:xs.length=n:=by simpa using hown.1
 rcases hown.2 with⟨rfl,rfl⟩|⟨g,cap,cur,rfl,hbg,hg,hnc,hcm,hcs,htake⟩
 ·by_cases hm:s.size=0
  ·rw[h4.2 ⟨rfl,hm⟩] at hb;simp[Value.ownBlock] at hb
  ·have LV:=run_append_nil_string (P:=P) w t u ty e i (.int .u8 0) ht hu hi hz s (by omega) (by omega) (by rw[hby];omega);rw[hr] at LV;cases LV;simp[Value.ownBlock] at hb;exact .inr (by omega)
 ·by_cases Ke:n+s.size<=cap
  ·have LV:=Lib.run_append_room_string (P:=P) w t u ty e i ht hu hi Nv g n cap cur hg s Ke (by omega);rw[hr] at LV;cases LV;exact .inl hb
  ·have holds:∀j u,xs[j]? =some u->w.cell? ((⟨g,0,none⟩:Addr).add j)=some u:=hown.cells (g:=g) rfl;have LV:=Lib.run_append_grow_string (P:=P) w t u ty e i (.int .u8 0) ht hu hi hz ⟨g,0,none⟩ n cap xs (by rw[Nv];simpa using Ir) holds s (by omega) (by omega) (by rw[hby];exact growslice_fits (by omega) (by omega));rw[hr] at LV;cases LV;simp[Value.ownBlock] at hb;exact .inr (by omega)
def aid{w:arG}{ops:awa Oper}{rest:att Oper}{o:Oper}{a:Act}{Q:Exit->Act->arG->Prop}(hgd:o.guard=none)(sl x:atq)(t u:ato)
  (ho:o.op= .call {callee:= .builtin .append,args:= #[sl,x],argTypes:= #[t,u]})
  (e:ato)(i:TypeInfo)(ht:P.underlying t=some (.slice e))(hu:P.underlying u=some .string)(hi:P.info? e=some i)(hz:i.zero=some (.int .u8 0))(Nv:i.size=1)(hby:i.bytes=1)
  (v:arH)(n:Nat)(xs:att arH)(hs:a.eval sl=v)(hown:w.ownsRow 0 e 1 v n xs)(s:ByteArray)(hx:a.eval x= .string s)(hlen:n+s.size<=140737488355328)
  (h:∀v' w',w'.ownsRow 0 e 1 v' (n+s.size) (xs++Lib.strCells s)->CR w w' v.ownBlock->(∀b,v'.ownBlock=some b->v.ownBlock=some b\/w.heap.size<=b)->wpList P ops Q rest (a.put o.dst v') w'):wpList P ops Q (o::rest) a w:=by
 refine wpList_plain hgd fun K hK=>?_
 obtain⟨v',w',hr,h2,h3,h4⟩:=ag4 (P:=P) (ty:=o.type) ht hu hi hz Nv hby hown s hlen;unfold Oper.wp execOp;simp only[ho,resolve,invoke,builtin,fE,pT,eS,List.map_toArray,qg,HR,hs,hx,hr];exact hK _ _<|h v' w' h2 h3 h4
end
section
open Go.Shelf
variable[D:DR]
variable{P:Program}{ρ:Ren}
variable{w:arG}{M:Nat->Prop}{b:Nat}{p v:arH}{w':arG}{H:HV}{T:ato}{l:att UInt8}{vs:att arH}
structure Tr(M:Nat->Prop)(w w':arG):Prop where
 size:w.heap.size<=w'.heap.size
 os:w'.os=w.os
 tape:w'.tape=w.tape
 output:w'.output=w.output
 drawn:JQ w w'
 mH:∀k,k<w.heap.size-> ¬M k->w'.heap[k]? =w.heap[k]?
def Tr.refl(M:Nat->Prop)(w:arG):Tr M w w:=⟨bp _,rfl,rfl,rfl,bp _,fun _ _ _=>rfl⟩
def Tr.trans{M:Nat->Prop}{w w' w'':arG}(h:Tr M w w')(k:Tr M w' w''):Tr M w w'':=
 ⟨df h.size k.size,k.os.trans h.os,k.tape.trans h.tape,k.output.trans h.output,df h.drawn k.drawn,fun i hi hm=>(k.mH i (nT hi h.size) hm).trans<|h.mH i hi hm⟩
def Tr.setCell{M:Nat->Prop}(w:arG)(a:Addr)(x:arH)(h:M a.block):Tr M w (w.setCell a x):=
 ⟨by simp[World.setCell],rfl,rfl,rfl,bp _,fun k _ hk=>Below.heap_setCell _ _ _ _<|fun e=>hk<|e▸h⟩
def Tr.grown{row:av8 Nat}(h:CR w w' row)(hr:∀k,row=some k->M k):Tr M w w':=
 ⟨h.size,h.os,h.tape,h.output,h.drawn,fun k hk hm=>h.block k hk<|fun e=>hm<|hr k e.symm⟩
def Tr.mono{M2:Nat->Prop}{w2:arG}(h:Tr M w w2)(k:∀b,M b->M2 b):Tr M2 w w2:=⟨h.size,h.os,h.tape,h.output,h.drawn,fun i hi hm=>h.mH i hi<|fun x=>hm<|k i x⟩
def Tr.drew{M:Nat->Prop}(w:arG):Tr M w w.drew:=⟨bp _,rfl,rfl,rfl,JQ.of<|wR _,fun _ _ _=>rfl⟩
def Tr.below(h:Ex w.heap.size w w'):Tr M w w':=⟨h.size,h.os,h.tape,h.output,h.drawn,fun k hk _=>h.block k hk⟩
def Tr.Fs(h:Tr M w w')(sub:∀r o,H r=some o->w.heap[r]? =some o)(hM:∀b,M b->H b=none):IG M w H w' H:=
 ⟨h.size,h.os,h.tape,h.output,h.drawn,HV.le.refl _,fun b hb hm=>⟨h.mH b hb hm,rfl⟩,fun r o hr=>by
  have hw:=sub r o hr;rw[h.mH r (lt_of_heap hw) (fun hm=>by rw[hM r hm] at hr;cases hr)];exact hw⟩
def Jg(hb:w.heap[b]? =some (.cells #[p,v] T (0,0))):w.cell? ⟨b,0,none⟩=some p/\w.cell? ⟨b,1,none⟩=some v/\w.shape? b=some (T,2)/\(∀j,w.frozen? ⟨b,j,none⟩=false):=
 ⟨by rw[H7 hb];rfl,by rw[H7 hb];rfl,by simp[World.shape?,hb],fun j=>Lib.frozen_of_heap hb j⟩
def aab{x:arH}(hb:w.heap[b]? =some (.cells #[p,v] T (0,0))):(w.setCell ⟨b,1,none⟩ x).heap[b]? =some (.cells #[p,x] T (0,0)):=by
 simp[World.setCell,Cz,hb]
def aac{x:arH}(hb:w.heap[b]? =some (.cells #[p,v] T (0,0))):(w.setCell ⟨b,0,none⟩ x).heap[b]? =some (.cells #[x,v] T (0,0)):=by
 simp[World.setCell,Cz,hb]
def aaA(L:Lays.n240 P ρ)(X:Builder.X72 P ρ)(hb:w.heap[b]? =some (.cells #[p,v] (ρ.t 72) (0,0)))(hp:p= .pointer none\/p= .pointer (some ⟨b,0,none⟩)):
  Calls P (ρ.f 240) #[.pointer<|some ⟨b,0,none⟩] w fun e w'=>e= .returned (.tuple #[])/\w'.heap[b]? =some (.cells #[.pointer<|some ⟨b,0,none⟩,v] (ρ.t 72) (0,0))/\Tr (fun k=>k=b) w w'/\w'.heap.size=w.heap.size:=by
 obtain⟨c0,c1,pt,hfz⟩:=Jg hb;rcases hp with rfl|rfl
 ·refine(Any.Builder_copyCheck_fresh L X b w c0 pt<|hfz 0).mono ?_;rintro e w' ⟨rfl,rfl⟩;exact⟨rfl,aac hb,Tr.setCell w _ _ rfl,by simp[World.setCell]⟩
 ·refine(Any.Builder_copyCheck_used L X b w c0).mono ?_;rintro e w' ⟨rfl,rfl⟩;exact⟨rfl,hb,Tr.refl _ _,rfl⟩
def Ti{e:ato}{n:Nat}{xs:att arH}(h:w.ownsRow 0 e 1 v n xs)(hk:∀g,v.ownBlock=some g->w'.heap[g]? =w.heap[g]?):w'.ownsRow 0 e 1 v n xs:=by
 refine⟨h.1,?_⟩;rcases h.2 with h|⟨g,cap,cur,e1,h1,hc,h2⟩
 ·exact .inl h
 ·exact .inr ⟨g,cap,cur,e1,h1,by rw[hk g (by rw[e1];rfl)];exact hc,h2⟩
set_option maxHeartbeats 2000000 in
set_option maxRecDepth 100000 in
def KS(L:Lays.n166 P ρ)(X:Builder.Extra P ρ){bs:att arH}(s:ByteArray)(hb:w.heap[b]? =some (.cells #[p,v] (ρ.t 72) (0,0)))(hp:p= .pointer none\/p= .pointer (some ⟨b,0,none⟩))
 (hown:w.ownsRow 0 (ρ.t 5) 1 v bs.length bs)(hne:v.ownBlock≠some b)(hlen:bs.length+s.size<=140737488355328):
  Calls P (ρ.f 166) #[.pointer<|some ⟨b,0,none⟩,.string s] w fun e w'=>e= .returned (.tuple #[.int .i64 s.size,.nilIface])/\∃v',w'.heap[b]? =some (.cells #[.pointer<|some ⟨b,0,none⟩,v'] (ρ.t 72) (0,0))/\w'.ownsRow 0 (ρ.t 5) 1 v' (bs.length+s.size) (bs++Lib.strCells s)/\v'.ownBlock≠some b/\
   (∀g,v'.ownBlock=some g->v.ownBlock=some g\/w.heap.size<=g)/\Tr (fun k=>k=b\/v.ownBlock=some k) w w':=by
 obtain⟨i0,hi,hz0,hz1,hz2⟩:=info_parts X.infoByte;have hblt:b<w.heap.size:=lt_of_heap hb;have mixed:=L.mixed;have t72:=L.t72;have a72:=L.a72;have z72:=L.z72;have v72:=L.v72;have u72:=qK L.t72;have t70:=L.t70;have a70:=L.a70;have z70:=L.z70;have v70:=L.v70;have u70:=qK L.t70;have t37:=L.t37;have a37:=L.a37;have z37:=L.z37;have v37:=L.v37;have u37:=qK L.t37;have t3:=L.t3;have a3:=L.a3;have z3:=L.z3;have v3:=L.v3;have u3:=qK L.t3;have t9:=L.t9;have a9:=L.a9;have z9:=L.z9;have v9:=L.v9;have u9:=qK L.t9;have t4:=L.t4;have a4:=L.a4;have z4:=L.z4;have v4:=L.v4;have u4:=qK L.t4;have t164:=L.t164;have a164:=L.a164;have z164:=L.z164;have v164:=L.v164;have u164:=qK L.t164;have t5:=X.t5;have a5:=X.a5;have z5:=X.z5;have v5:=X.v5;have u5:=qK X.t5;have e240:∀args w,(callFunc (ρ.f 240) args).run P w= .ok (.enter (ρ.f 240) args) w:=enters_of L.f240 aH rfl
 go_enter L.f166,Body.n166_ntmps ρ
 go_wp2_with (go_at_fn (ρ.f 240);refine(aaA {L with} X.toX72 hb hp).mono ?_)
 rintro e w1 ⟨rfl,hb1,ht1,hs1⟩;have hown1:w1.ownsRow 0 (ρ.t 5) 1 v bs.length bs:=Ti hown fun g hg=>ht1.mH g (hown.lt g hg).2 (fun e=>hne (by rw[hg,e]))
 obtain⟨c0,c1,_,_⟩:=Jg hb1
 go_wp2_with (at_builtin;refine aid rfl _ _ (ρ.t 37) (ρ.t 9) rfl (ρ.t 5) i0 L.t37 L.t9 hi hz0 hz1 hz2 _ _ _ rfl hown1 s rfl hlen ?_)
 intro v' w2 hown' hgrow hfr;have hb2:w2.heap[b]? =some (.cells #[.pointer<|some ⟨b,0,none⟩,v] (ρ.t 72) (0,0)):=by
  rw[hgrow.block b (by omega)<|fun e=>hne e.symm];exact hb1
 obtain⟨d0,d1,_,hf⟩:=Jg hb2;have f1:=hf 1;have hne':v'.ownBlock≠some b:=fun e=>by
  rcases hfr b e with h|h
  ·exact hne h
  ·omega
 obtain⟨ao,n',cap,rfl⟩:∃ao n' cap,v'= .slice ao n' cap:=by
  rcases hown'.2 with⟨hv,_⟩|⟨g,cap,cur,hv,_⟩
  ·exact⟨_,_,_,hv⟩
  ·exact⟨_,_,_,hv⟩
 go_wp2
 go_ret2
 refine⟨rfl,_,aab hb2,Ti hown' fun g hg=>?_,hne',fun g hg=>by have:=hfr g hg;omega,?_⟩
 ·exact Below.heap_setCell _ _ _ _ (fun e=>hne' (by rw[hg,e]))
 ·exact((ht1.mono<|fun k h=> .inl h).trans<|Tr.grown hgrow<|fun k h=> .inr h).trans<|Tr.setCell _ _ _<| .inl rfl
def Tr.freeze{M:Nat->Prop}(w:arG)(a:Addr)(n:Nat)(h:M a.block):Tr M w (w.freeze a n):=by
 unfold World.freeze;split
 ·exact Tr.refl _ _
 ·refine⟨by simp,rfl,rfl,rfl,bp _,fun k _ hk=>?_⟩;simp only[Cz];rw[if_neg (fun(e:a.block=k)=>hk (by rw[<-e];exact h))]
set_option maxHeartbeats 1000000 in
set_option maxRecDepth 100000 in
def JJ(L:Lays.n169 P ρ)(X:Builder.Extra P ρ)(hbk:w.heap[b]? =some (.cells #[p,v] (ρ.t 72) (0,0)))(hown:w.ownsRow 0 (ρ.t 5) 1 v l.length (Lib.byteCells l))(h0:l≠[]):
  Calls P (ρ.f 169) #[.pointer<|some ⟨b,0,none⟩] w fun e w'=>e= .returned (.string ⟨l.toArray⟩)/\Tr (fun k=>v.ownBlock=some k) w w':=by
 have hl0:l.length≠0:=by simpa using h0
 obtain⟨g,cap,cur,rfl,hg,hnc,hcm,hcs,htake⟩:∃g cap cur,v= .slice (some ⟨g,0,none⟩) l.length cap/\w.heap[g]? =some (.cells cur (ρ.t 5) (0,0))/\l.length<=cap/\cap<=maxLen/\cur.size=cap*1/\cur.toList.take (l.length*1)=Lib.byteCells l:=by
  rcases hown.2 with⟨_,hz⟩|⟨g,cap,cur,hv,_,r⟩
  ·exact absurd hz hl0
  ·exact⟨g,cap,cur,hv,r⟩
 have c1:w.drew.cell? ⟨b,1,none⟩=some (.slice (some ⟨g,0,none⟩) l.length cap):=by
  have:w.drew.heap[b]? =some (.cells #[p,.slice (some ⟨g,0,none⟩) l.length cap] (ρ.t 72) (0,0)):=hbk;rw[H7 this];rfl
 have hSD:(Builtin.unsafeSliceData_ #[(ρ.t 37)] (ρ.t 127) #[.slice (some ⟨g,0,none⟩) l.length cap]).run P w.drew= .ok (.pointer<|some ⟨g,0,none⟩) w.drew:=
  Lib.run_unsafeSliceData_row _ _ _ _ _ _ (by omega)
 have hUS:(Builtin.unsafeString_ #[(ρ.t 127),(ρ.t 3)] (ρ.t 9) #[.pointer<|some ⟨g,0,none⟩,.int .i64 l.length]).run P w.drew= .ok (.string ⟨l.toArray⟩) (w.drew.freeze ⟨g,0,none⟩ l.length):=by
  refine Lib.run_unsafeString_row w.drew (ρ.t 127) (ρ.t 3) (ρ.t 9) (ρ.t 5) L.t127 X.cellsByte g cur.size (by have hg':w.drew.heap[g]? =some (.cells cur (ρ.t 5) (0,0)):=hg;simp[World.shape?,hg']) l h0 (by omega) (by unfold maxLen at hcm;omega) ?_;intro j x hx;exact hown.cells (g:=g) rfl j (.int .u8 x.toNat) (by simp[Lib.byteCells,hx])
 have mixed:=L.mixed;have t72:=L.t72;have a72:=L.a72;have z72:=L.z72;have v72:=L.v72;have u72:=qK L.t72;have t70:=L.t70;have a70:=L.a70;have z70:=L.z70;have v70:=L.v70;have u70:=qK L.t70;have t37:=L.t37;have a37:=L.a37;have z37:=L.z37;have v37:=L.v37;have u37:=qK L.t37;have t127:=L.t127;have a127:=L.a127;have z127:=L.z127;have v127:=L.v127;have u127:=qK L.t127;have t3:=L.t3;have a3:=L.a3;have z3:=L.z3;have v3:=L.v3;have u3:=qK L.t3;have t9:=L.t9;have a9:=L.a9;have z9:=L.z9;have v9:=L.v9;have u9:=qK L.t9;have t5:=X.t5;have a5:=X.a5;have z5:=X.z5;have v5:=X.v5;have u5:=qK X.t5
 go_enter L.f169,Body.n169_ntmps ρ
 go_wp2
 go_region_o
 all_goals (go_wp2;go_ret;exact⟨rfl,(Tr.drew w).trans<|Tr.freeze _ _ _ rfl⟩)
def BI(l s:att UInt8):av8 (att UInt8×Int×Unit):=Bl (Nat.ble (l.length+s.length) 140737488355328) (l++s,(s.length:Int),())
def BJ(l:att UInt8):av8 (att UInt8):=Bl (!l.isEmpty) l
def jh{α:Type}{b:Bool}{x r:α}(h:Bl b x=some r):b=true/\x=r:=by
 unfold Bl at h;cases b
 ·cases h
 ·exact⟨rfl,eQ h⟩
def HB(h:Ce H [] vs):vs=[]:=h
def uK{τ:Ty}(h:Ce H [τ] vs):∃v,vs=[v]/\τ.ok H v:=by
 obtain⟨v,rest,e,hv,hr⟩:=h;have hr:rest=[]:=hr;subst hr;exact⟨v,e,hv⟩
def Cd{τ σ:Ty}(h:Ce H [τ,σ] vs):∃v u,vs=[v,u]/\τ.ok H v/\σ.ok H u:=by
 obtain⟨v,rest,e,hv,hr⟩:=h;obtain⟨u,e2,hu⟩:=uK hr;subst e2;exact⟨v,u,e,hv,hu⟩
def byteCells_append(l s:att UInt8):Lib.byteCells (l++s)=Lib.byteCells l++Lib.byteCells s:=by simp[Lib.byteCells]
def aaz(L:Lays.n166 P ρ)(X:Builder.Extra P ρ)(hc:fR P (ρ.f 166)=true){s:att UInt8}{r:att UInt8×Int×Unit}(hm:BI l s=some r):
  kN P (ρ.f 166) [] (.N5 (ρ.t 72) (ρ.t 5)<|lB l) (.N5 (ρ.t 72) (ρ.t 5)<|lB r.1) [TS s] [TI .i64 r.2.1,akr r.2.2]:=by
 obtain⟨hb,rfl⟩:=jh hm;have hb:=gK hb;refine⟨hc,fun w H v ps qs sub gl hp hq hs=>?_⟩;have hp:=HB hp;subst hp;obtain⟨x,rfl,hx⟩:=uK hq;have hx:x= .string ⟨s.toArray⟩:=hx;subst hx;obtain⟨b,p,row,rfl,hbk,hpp,hn,hB,⟨xs,hown,ij,hH⟩,hne⟩:=hs;rw[M7] at ij;subst ij;rw[Jr] at hown;refine(KS L X (bs:=Lib.byteCells l) ⟨s.toArray⟩ hbk hpp (by simpa[Lib.byteCells] using hown) hne (by simpa[Lib.byteCells,ByteArray.size] using hb)).mono ?_;rintro e w' ⟨rfl,v',ju,Vg,hne',hfr,ht⟩;have C6:Lib.strCells ⟨s.toArray⟩=Lib.byteCells s:=rfl;have hmo:∀k,k=b\/row.ownBlock=some k->(bO.N5 (ρ.t 72) (ρ.t 5)<|lB l).owns w (.pointer<|some ⟨b,0,none⟩) k:=fun k h=>⟨b,rfl,h.imp id fun h=>⟨p,row,hbk,h⟩⟩
 have hMn:∀k,(bO.N5 (ρ.t 72) (ρ.t 5)<|lB l).owns w (.pointer<|some ⟨b,0,none⟩) k->k=b\/row.ownBlock=some k:=by
  rintro k ⟨c,e,h⟩;cases e;rcases h with h|⟨p',r',AF,h⟩
  ·exact .inl h
  ·have e2:=hbk.symm.trans AF;simp at e2;obtain⟨rfl,rfl⟩:=e2;exact .inr h
 refine⟨_,rfl,H,(ht.mono hmo).Fs sub<|fun k hk=>?_,⟨b,_,v',rfl,ju,.inr rfl,hn,hB,⟨_,?_,M7.2 rfl,fun g hg=>?_⟩,hne'⟩,?_,⟨#[.int .i64 s.length,.nilIface],?_,_,_,rfl,rfl,_,_,rfl,rfl,rfl⟩⟩
 ·rcases hMn k hk with rfl|h
  ·exact hn
  ·exact(hH k h).1
 ·rw[Jr,byteCells_append,List.length_append];exact(by simpa[Lib.byteCells,ByteArray.size,C6] using Vg)
 ·rcases hfr g hg with h|h
  ·exact hH g h
  ·refine⟨?_,.inl h⟩;cases hh:H g with
   |none=>rfl
   |some o=>have:=xQ sub hh;omega
 ·rintro k ⟨c,e,h⟩;cases e;rcases h with h|⟨p',r',AF,h⟩
  ·exact .inl<|hmo k<| .inl h
  ·have e2:=ju.symm.trans AF;simp at e2;obtain⟨rfl,rfl⟩:=e2;exact(hfr k h).imp (fun h=>hmo k<| .inr h) id
 ·simp[ByteArray.size]
def UT{E:ato}{l:att Ty}{row:arH}(hbk:w.heap[b]? =some (.cells #[p,row] T (0,0)))(k:Nat):(bO.N5 T E l).owns w (.pointer<|some ⟨b,0,none⟩) k↔k=b\/row.ownBlock=some k:=by
 constructor
 ·rintro⟨c,e,h⟩;cases e;rcases h with h|⟨p',r',AF,h⟩
  ·exact .inl h
  ·have e2:=hbk.symm.trans AF;simp at e2;obtain⟨rfl,rfl⟩:=e2;exact .inr h
 ·exact fun h=>⟨b,rfl,h.imp id fun h=>⟨p,row,hbk,h⟩⟩
def W7(L:Lays.n169 P ρ)(X:Builder.Extra P ρ)(hc:fR P (ρ.f 169)=true){r:att UInt8}(hm:BJ l=some r):
  kN P (ρ.f 169) [] (.N5 (ρ.t 72) (ρ.t 5)<|lB l) .gone [] [TS r]:=by
 obtain⟨h0,rfl⟩:=jh hm;refine⟨hc,fun w H v ps qs sub gl hp hq hs=>?_⟩;have hp:=HB hp;subst hp;have hq:=HB hq;subst hq;obtain⟨b,p,row,rfl,hbk,hpp,hn,hB,⟨xs,hown,ij,hH⟩,hne⟩:=hs;rw[M7] at ij;subst ij;rw[Jr] at hown;refine(JJ L X hbk hown (by rintro rfl;simp at h0)).mono ?_;rintro e w' ⟨rfl,ht⟩;exact⟨_,rfl,H,(ht.mono fun k h=>(UT hbk k).2<| .inr h).Fs sub (fun k hk=>by
  rcases(UT hbk k).1 hk with rfl|h
  ·exact hn
  ·exact(hH k h).1),trivial,fun k hk=>hk.elim,rfl⟩
instance instDecAVec:DecidableEq (att UInt8×att UInt8×att UInt8):=inferInstance
end
section
open Go.Shelf
variable[D:DR]
variable{P:Program}{ρ:Ren}
variable{P:Program}{N:Nat}{ops:Array Oper}{Γ:Ctx}{ty:TypeId}{pos:String}{af:Array Edge}
def SV{u t dd:Nat}{s:bO}(hu:look Γ u=some (.same t))(ht:look Γ t=some s)(hl:s.c6=[])(vD:dd<N)(o:Op)(ho:o= .assign (.tmp u)\/o= .move (.tmp u)):
  Step P N ops ⟨some dd,o,ty,pos,af,none⟩ Γ ((dd,s)::del dd (da t Γ)):=by
 intro w0 H0 a w H dh K Q k;simp only[Region.wanted,if_true];have eu:bh a u=bh a t:=dh.holds _<|aF hu
 have er:(execOp a.eval ⟨some dd,o,ty,pos,af,none⟩).run P w= .ok (.value<|bh a t) w:=by
  rw[<-eu];rcases ho with rfl|rfl<;>rfl
 unfold Oper.wp;rw[er,ve];exact k _ w H (Bw dh (aF ht) (Gr w) (fun _ e=>by cases e) vD (by rw[hl];simp) (dh.holds _<|aF ht) fun _ h=> .inl h)
end
section
open Go.Shelf
variable[D:DR]
variable{P:Program}{ρ:Ren}
def yG{α:Type}(l:att α):av8 (att α):=Bl (Nat.blt l.length 4000000000) l
def yo(x y:Int):av8 (Int×Int):=bif xr x&&xr y then some (x*y/G1,x*y%G1) else none
def C4(n:Nat):Nat:=bif Nat.beq n 0 then 0 else Nat.log2 n+1
def HI(x:Int):av8 Int:=bif xr x then some (C4 x.toNat:Int) else none
def Jq(x:Int):av8 Int:=bif xr x then some (64-(C4 x.toNat:Int)) else none
end
section
variable[D:DR]
variable{P:Program}{w0:ar P}{H0:HV}{N:Nat}{ops:Array Oper}{Q:Exit->Act->World->Prop}{Γ aA:Ctx}{d:Option Tmp}{ty:TypeId}{pos:String}{af:Array Edge}{g:Option (Nat×Bool)}
variable{α:Type}{f:α->Ty}{l:att α}{t:Nat}{T E:ato}{sz:Nat}{pre post:att arH}{y:α}{p j:Nat}{x:atq}{z:α}
def vU{s ix:atq}{k:IntKind}{i:Int}(hT:G9 P T sz=true)(hs:gP Γ s t)(ht:look Γ t=some (.pR E pre post<|lT f l))(hi:Arg Γ ix (TI k i))(h:bo l i=some y):
  bR P Γ ⟨d,.indexAddr T s ix,ty,pos,af,g⟩ (.IX t i.toNat sz):=
 bE fun w0 _ _ a w H dh=>by
  obtain⟨h0,h1,h3⟩:=jY h;obtain⟨b,c,cur,xs,e,_⟩:=dh.holds _<|aF ht
  simp only at e;have e3:a.eval s= .slice (some ⟨b,pre.length,none⟩) l.length c:=by
   rw[hs.ok dh,e,c7]
  have ei:a.eval ix= .int k i:=hi.ok dh;have hr:=y7 (P:=P) hT b pre.length l.length c (k:=k) h0 h1 w;exact⟨.pointer<|some ⟨b,pre.length+i.toNat*sz,none⟩,by simp only[execOp,e3,ei,fE,hr,eS];rfl,⟨b,pre.length,_,c,e,rfl⟩,rfl⟩
def Cc(hf:∀z,(f z).n=sz)(hp:look Γ p=some (.IX t j sz))(ht:look Γ t=some (.pR E pre post<|lT f l))(h:l[j]? =some y)(hT:fM P T (f y).n (f y).agg=true):
  bR P Γ ⟨d,.load T<| .tmp p,ty,pos,af,g⟩ (.val<|f y):=
 bE fun w0 _ _ a w H dh=>by
  obtain⟨b,c,cur,xs,e,hb,Gm,ho,hH,hB⟩:=dh.holds _<|aF ht
  obtain⟨b',o,n',c',e1,e2⟩:=dh.holds _<|aF hp
  simp only at e e1 e2;rw[e] at e1;cases e1;have hj:(lT f l)[j]? =some (f y):=by rw[kD,h];rfl
  have P4:=(kE.1 hj).1;have hu:GG sz (lT f l):=ml hf l;have e3:a.eval (.tmp p)= .pointer (some ⟨b,pre.length+j*sz,none⟩):=e2;obtain⟨p1,p2⟩:=pz ho hj;have hc:cc ((lT f l).take j)=j*sz:=by rw[iB<|hu.take _,List.length_take,fW (by omega)]
  rw[hc] at p1 p2;have Gl:List.take (f y).n (List.drop (pre.length+j*sz) cur.toList)=List.take (f y).n (List.drop (j*sz) xs):=by
   rw[Gm,<-iS,ES,List.drop_append_of_le_length (by omega),List.take_append_of_le_length (by simp;omega)]
  have Nv:cur.size=pre.length+(xs.length+post.length):=by rw[<-gF,Gm];simp
  refine⟨_,?_,p2,rfl⟩;have hr:=kv (P:=P) hT hb (off:=pre.length+j*sz) (by omega);rw[Gl] at hr;simp[execOp,e3,Instr.loadAt,Instr.sureAddr,hr]
def Xo{eI:Ctx}(dc:∀q∈eI,q∈Γ)(hf:∀z,(f z).n=sz)(hp:look eI p=some (.IX t j sz))(ht:look eI t=some (.pR E pre post<|lT f l))(h:l[j]? =some z)(hx:Arg eI x (f y))(hT:fM P T (f y).n (f y).agg=true):
  Step P N ops ⟨none,.store T (.tmp p) x,ty,pos,af,none⟩ Γ ((t,.pR E pre post<|lT f<|l.set j y)::da t Γ):=by
 intro w0 H0 a w H dh K Q k;simp only[Region.wanted,if_true];obtain⟨b,c,cur,xs,e,hb,Gm,ho,hH,hB⟩:=dh.holds _ (dc _<|aF ht);obtain⟨b',o,n',c',e1,e2⟩:=dh.holds _ (dc _<|aF hp);simp only at e e1 e2;rw[e] at e1;cases e1;have hj:(lT f l)[j]? =some (f z):=by rw[kD,h];rfl
 have P4:=(kE.1 hj).1;have hu:GG sz (lT f l):=ml hf l;have ep:a.eval (.tmp p)= .pointer (some ⟨b,pre.length+j*sz,none⟩):=e2;have Nt:=hx.ok<|dh.weaken dc
 have pt:=(f y).shape Nt;have hc:cc ((lT f l).take j)=j*sz:=by rw[iB<|hu.take _,List.length_take,fW (by omega)]
 obtain⟨p1,_⟩:=pz ho hj;rw[hc,hf] at p1;have Is:=Ch ho hj ((hf y).trans (hf z).symm) Nt;rw[hc,hf] at Is;have Nv:cur.size=pre.length+(xs.length+post.length):=by rw[<-gF,Gm];simp
 have sO:=lP (P:=P) (off:=pre.length+j*sz) (BL hT) pt.size hb (by rw[hf];omega) pt.cell;rw[hf] at sO;unfold Oper.wp;have er:(execOp a.eval ⟨none,.store T (.tmp p) x,ty,pos,af,none⟩).run P w= .ok .skip (w.setRow b (cur.toList.take (pre.length+j*sz)++(a.eval x).cells.toList++cur.toList.drop (pre.length+j*sz+sz)).toArray):=by
  simp[execOp,ep,Instr.storeAt,Instr.sureAddr,sO]
 rw[er,Ao];have al6:cur.toList.take (pre.length+j*sz)++(a.eval x).cells.toList++cur.toList.drop (pre.length+j*sz+sz)=pre++((xs.take (j*sz)++(a.eval x).cells.toList++xs.drop (j*sz+sz))++post):=by
  have t1:(pre++(xs++post)).take (pre.length+j*sz)=pre++xs.take (j*sz):=by
   rw[Ia,eF (by omega)]
   congr 1
   rw[show pre.length+j*sz-pre.length=j*sz from by omega,List.take_append_of_le_length (by omega)]
  have t2:(pre++(xs++post)).drop (pre.length+j*sz+sz)=xs.drop (j*sz+sz)++post:=by
   rw[rR,<-iS,ES,List.drop_append_of_le_length (by omega)]
  rw[Gm,t1,t2];simp
 rw[al6];have hg:CR w (w.setRow b (pre++((xs.take (j*sz)++(a.eval x).cells.toList++xs.drop (j*sz+sz))++post)).toArray) (some b):=CR.setRow w b _;refine k a _ H (lg dh (dc _<|aF ht) hg hB (by simp[bO.owns,e,Value.ownBlock]) ?_ fun c hc=> .inl hc);refine⟨b,c,_,_,by rw[e];simp[lT],EL w b _ _ _ _ hb,rfl,?_,hH,hB⟩;rw[show lT f (l.set j y)=(lT f l).set j (f y) from by simp[lT,Ct]];exact Is
def Vw(hf:∀z,(f z).n=sz)(hp:look Γ p=some (.IX t j sz))(ht:look Γ t=some (.pR E pre post<|lT f l))(h:l[j]? =some z)(hx:Arg Γ x (f y))(hT:fM P T (f y).n (f y).agg=true):
  Step P N ops ⟨none,.store T (.tmp p) x,ty,pos,af,none⟩ Γ ((t,.pR E pre post<|lT f<|l.set j y)::da t Γ):=Xo (fun _ h=>h) hf hp ht h hx hT
def ae3(hf:∀z,(f z).n=sz)(hp:look Γ p=some (.IX t j sz))(ht:look Γ t=some (.pR E pre post<|lT f l))(h:l[j]? =some z)(hx:Arg Γ x (f y))(hT:fM P T (f y).n (f y).agg=true):
  O9 P N ops Γ ⟨none,.store T (.tmp p) x,ty,pos,af,none⟩ t (.pR E pre post<|lT f<|l.set j y):=fun _ dc=>Xo dc hf hp ht h hx hT
end
section
variable[D:DR]
variable{P:Program}{w0:ar P}{H0:HV}{N:Nat}{ops:Array Oper}{Γ aA:Ctx}{d:Option Tmp}{ty:TypeId}{pos:String}{af:Array Edge}{g:Option (Nat×Bool)}
variable{E:ato}{sz t:Nat}{α:Type}{f:α->Ty}{l:att α}{xs:att atq}{zP:awa ato}{dd:Nat}{x:atq}{i n u:Nat}{bl args:att Ty}
def PJ{T:ato}{lo hi:av8 atq}{i j:Int}(hT:G9 P T sz=true)(hs:gP Γ x t)(ht:look Γ t=some (.buf E sz<|lT f l))(FX:Lo Γ lo 0 i)(Ul:Lo Γ hi l.length j)(h:(decide (0<=i)&&decide (i<j)&&decide (j<=l.length))=true):
  bR P Γ ⟨d,.slice T x lo hi none,ty,pos,af,g⟩ (.win t i.toNat (j-i).toNat sz):=
 bE fun w0 _ _ a w H dh=>by
  rw[bY,bY,jc,jc,jc] at h;obtain⟨⟨h1,h2⟩,h3⟩:=h;obtain⟨b,cap,cs,xs,e,hb,hcap,_⟩:=BR (dh.holds _<|aF ht) (fun e=>by
   have:l=[]:=List.map_eq_nil_iff.1 e;rw[this] at h3;simp at h3;omega)
  simp only at e;rw[c7] at e hcap;obtain⟨el,ii,hue,hii,hsz⟩:=QS hT;have zN:∀w,(Go.sizeOf el).run P w= .ok sz w:=fun w=>by simp[Go.sizeOf,typeInfo,program,Sem.run,hii,hsz]
  have hbd:=CX (P:=P) (b:=true) (cap:=cap) (w:=w) FX Ul h1 (by omega) h3 hcap dh;have e3:a.eval x= .slice (some ⟨b,0,none⟩) l.length cap:=by rw[hs.ok dh];exact e
  refine⟨.slice (some ⟨b,i.toNat*sz,none⟩) (j-i).toNat<|cap-i.toNat,?_,⟨b,_,cap,cap-i.toNat,e,rfl⟩,rfl⟩;have hne: ¬cap=i.toNat:=by omega
  have hn:j.toNat-i.toNat=(j-i).toNat:=by omega
  simp[execOp,e3,Instr.sliceAt,aV hue,Instr.slice,hbd,zN,addr_add,hne,hn]
def afg{B:ar P}{w:arG}{H:HV}{v:arH}(hf:∀z,(f z).n=sz)(h:xX B w H E sz (lT f l) v)(hn:0<n)(hl:i+n<=l.length){b:Nat}{len cap:Nat}(hv:v= .slice (some ⟨b,0,none⟩) len cap)(c:Nat):
  ∃pre post:att arH,pre.length=i*sz/\(bO.pR E pre post<|lT f<|(l.drop i).take n).holds B R7 w H (.slice (some ⟨b,i*sz,none⟩) n c)/\
   ∀(w':arG) (H':HV) (r:att α),HV.le H H'->r.length=n->(bO.pR E pre post<|lT f r).holds B R7 w' H' (.slice (some ⟨b,i*sz,none⟩) n c)->xX B w' H' E sz (lT f<|l.take i++r++l.drop (i+n)) v:=by
 subst hv;obtain⟨xs,⟨Ir,hr⟩,ho,hH⟩:=h;rcases hr with⟨e,_⟩|⟨g',WX,cur,e,h0,hb,hcap,hm,hcs,htake⟩
 ·cases e
 cases e;have hu:GG sz (lT f l):=ml hf l;have Ir:xs.length=l.length*sz:=by simpa using Ir
 rw[c7] at htake hcap;have s1:i*sz+n*sz<=xs.length:=by rw[Ir,<-pb];exact mF _ hl
 have Gm:cur.toList=xs++cur.toList.drop (l.length*sz):=by
  conv=>lhs;rw[<-zz (l.length*sz) cur.toList,htake]
 have hx3:xs=xs.take (i*sz)++((xs.drop<|i*sz).take (n*sz)++xs.drop (i*sz+n*sz)):=by
  conv=>lhs;rw[<-zz (i*sz) xs]
  congr 1
  conv=>lhs;rw[<-zz (n*sz) (xs.drop<|i*sz),iS]
 have Wg:(xs.take<|i*sz).length=i*sz:=by rw[List.length_take];omega
 have VV:∀(lo hi:Nat),vH H ((lT f l).take hi|>.drop lo) ((xs.take<|hi*sz).drop<|lo*sz):=fun lo hi=>FR hu ho lo hi
 refine⟨xs.take<|i*sz,xs.drop (i*sz+n*sz)++cur.toList.drop (l.length*sz),Wg,?_,?_⟩
 ·refine⟨b,c,cur,(xs.drop<|i*sz).take<|n*sz,?_,hb,?_,?_,(hH b rfl).1,(hH b rfl).2⟩
  ·rw[Wg];simp;omega
  ·have e0:xs++cur.toList.drop (l.length*sz)=(xs.take (i*sz)++((xs.drop<|i*sz).take (n*sz)++xs.drop (i*sz+n*sz)))++cur.toList.drop (l.length*sz):=by rw[<-hx3]
   exact Gm.trans (e0.trans (by rw[nR,nR]))
  ·have:=VV i (i+n);rw[show((lT f l).take<|i+n).drop i=lT f ((l.drop i).take n) from by simp[lT,<-List.map_take,<-List.map_drop,uY]] at this;rw[pb,uY,show i*sz+n*sz-i*sz=n*sz from by omega] at this;exact this
 ·rintro w' H' r hle hrl ⟨g2,c2,aj3,xs2,e2,hb2,GF,Yb,P2,hB2⟩;have e3:g2=b:=by
   simp only[Value.slice.injEq,Option.some.injEq,Addr.mk.injEq] at e2;exact e2.1.1.symm
  subst e3;have LV:vH H' (lT f<|l.take i++r++l.drop (i+n)) (xs.take (i*sz)++xs2++xs.drop (i*sz+n*sz)):=by
   have p1:=VV 0 i;have p2:=VV (i+n) l.length;rw[Ll,wU,wU] at p1;rw[eF (by simp[lT]),eF (by omega),pb] at p2;have:=qz (qz (uL hle p1) Yb)<|uL hle p2
   rwa [show(lT f l).take i++lT f r++(lT f l).drop (i+n)=lT f (l.take i++r++l.drop (i+n)) from by simp[lT,List.map_take,List.map_drop]] at this
  have Ny:xs2.length=n*sz:=by
   have:=rf Yb;rw[iB<|ml hf r] at this;simpa[hrl] using this
  have hlen:(lT f<|l.take i++r++l.drop (i+n)).length=l.length:=by simp[hrl];omega
  have al0:(xs.take (i*sz)++xs2++xs.drop (i*sz+n*sz)).length=l.length*sz:=by
   rw[List.length_append,List.length_append,Wg,Ny,lr,Ir];omega
  have hc3:aj3.toList=(xs.take (i*sz)++xs2++xs.drop (i*sz+n*sz))++cur.toList.drop (l.length*sz):=by
   rw[GF];simp
  have htk:aj3.toList.take (l.length*sz)=xs.take (i*sz)++xs2++xs.drop (i*sz+n*sz):=by
   rw[hc3,List.take_append_of_le_length (by omega),eF (by omega)]
  refine⟨xs.take (i*sz)++xs2++xs.drop (i*sz+n*sz),⟨by rw[hlen];exact al0,.inr ⟨g2,cap,aj3,by rw[hlen];simp,iR _,hb2,by rw[hlen];exact hcap,hm,?_,by rw[hlen];exact htk⟩⟩,LV,fun b' ju=>?_⟩
  ·have q1:cur.toList.length=cap*sz:=by rw[gF];exact hcs
   have q2:l.length*sz<=cap*sz:=mF _ hcap;rw[<-gF,hc3,List.length_append,al0,lr,q1];omega
  ·have:g2=b':=by simpa[Value.ownBlock] using ju
   subst this;exact⟨P2,hB2⟩
def ab9{r:att α}{fn:FuncId}{ys:att atq}{pre post dU:att Ty}{eI:Ctx}(dc:∀q∈eI,q∈Γ)(hf:∀z,(f z).n=sz)
 (hS:∀(ps qs:att arH),ps.length=i*sz->kN P fn pre (.pR E ps qs<|lT f<|(l.drop i).take n) (.pR E ps qs<|lT f r) post dU)(hx:gP eI x u)(hu:look eI u=some (.win t i n sz))(ht:look eI t=some (.buf E sz<|lT f l))
 (hn:(Nat.blt 0 n&&Nat.ble (i+n) l.length&&Nat.beq r.length n)=true)(ha:aU eI xs pre)(hb:aU eI ys post)(vD:dd<N)(hne:dd≠t):
  Step P N ops ⟨some dd,.call ⟨.value<| .func fn,(xs++x::ys).toArray,zP⟩,ty,pos,af,none⟩ Γ ((dd,AV dU)::(t,.buf E sz<|lT f<|l.take i++r++l.drop (i+n))::del dd (da t Γ)):=by
 rw[bY,bY] at hn;obtain⟨⟨Wj,P2⟩,hn3⟩:=hn;have Wj:=gK Wj;have P2:=gK P2;have hn3:=fL hn3;intro w0 H0 a w H hs K Q k;simp only[Region.wanted,if_true];have Z3:=hs.weaken dc;have C6:=hs.holds _<|dc _<|aF ht
 simp only at C6;obtain⟨b,len,cap,c,ev,eu⟩:=hs.holds _<|dc _<|aF hu
 simp only at ev eu;obtain⟨ps,qs,hps,hw,acK⟩:=afg hf C6 Wj P2 ev c;have can:fR P fn=true:=(hS ps qs hps).can;have e:execOp a.eval ⟨some dd,.call ⟨.value<| .func fn,(xs++x::ys).toArray,zP⟩,ty,pos,af,none⟩=callFunc fn (xs.map a.eval++bh a u::ys.map a.eval).toArray:=by
  have e:execOp a.eval ⟨some dd,.call ⟨.value<| .func fn,(xs++x::ys).toArray,zP⟩,ty,pos,af,none⟩=callFunc fn (#[]++(xs++x::ys).toArray.map a.eval++ #[]):=rfl;rw[e]
  congr 1
  simp[hx.ok Z3]
 unfold Oper.wp;rw[e,ke can,EX,eu];have hw0:(bO.pR E ps qs<|lT f<|(l.drop i).take n).holds (ar.KK P w fun b'=>(bO.pR E ps qs<|lT f<|(l.drop i).take n).owns w (.slice (some ⟨b,i*sz,none⟩) n c) b') R7 w H (.slice (some ⟨b,i*sz,none⟩) n c):=
  bO.qN rfl hw fun b' ju=> .inr ju
 have hown:∀b',(bO.pR E ps qs<|lT f<|(l.drop i).take n).owns w (.slice (some ⟨b,i*sz,none⟩) n c) b'↔(bO.buf E sz<|lT f l).owns w (bh a t) b':=fun b'=>by
  rw[ev];exact Iff.rfl
 refine((hS ps qs hps).run w H _ _ _ hs.sub hs.gl (ha.ok Z3) (hb.ok Z3) hw0).mono ?_;rintro e w' ⟨rv,rfl,H',hy,ui,ho,hr⟩;have hy':IG (fun b'=>(bO.buf E sz<|lT f l).owns w (bh a t) b') w H w' H':=by
  have:(fun b'=>(bO.buf E sz<|lT f l).owns w (bh a t) b')=fun b'=>(bO.pR E ps qs<|lT f<|(l.drop i).take n).owns w (.slice (some ⟨b,i*sz,none⟩) n c) b':=funext fun b'=>propext (hown b').symm
  rw[this];exact hy
 have Sj:(bO.pR E ps qs<|lT f r).holds w0 R7 w' H' (.slice (some ⟨b,i*sz,none⟩) n c):=bO.qN rfl ui fun b' ju=>by
  have ju:(bO.buf E sz<|lT f l).owns w (bh a t) b':=by rw[ev];exact ju
  exact bO.sw rfl C6 ju
 have yB:(bO.buf E sz<|lT f<|l.take i++r++l.drop (i+n)).holds w0 a w' H' (bh a t):=acK w' H' r hy.le hn3 Sj;have h1:=S9 hs (dc _<|aF ht) rfl rfl (fun q hq _ b hb=>ar.yl<|bO.sw rfl C6 hb) hy' yB<|fun b' ju=> .inl ju
 have h2:=uD (h1.weaken (aA:=del dd ((t,.buf E sz<|lT f<|l.take i++r++l.drop (i+n))::da t Γ)) rF) vD vr (s:=AV dU) (v:=rv) (by
  match dU with
  |[]=>simp[AV,bO.c6]
  |[_]=>simp[AV,bO.c6]
  |_::_::_=>simp[AV,bO.c6]) (vT hr)<|fun b e=>absurd e<|bO.free_spec yH
 refine k _ w' H'<|h2.weaken fun q hq=>?_
 simp only[aY] at hq⊢;rcases hq with h|h|h
 ·exact .inl h
 ·subst h;exact .inr (ym (by simp) (fun e=>hne e.symm) (by simp[bO.c6]))
 ·have:=WJ h;exact .inr<|ym (cW _<|rF _ h) this.1 this.2
def SX{r:att α}{fn:FuncId}{ys:att atq}{pre post dU:att Ty}(hf:∀z,(f z).n=sz)
 (hS:∀(ps qs:att arH),ps.length=i*sz->kN P fn pre (.pR E ps qs<|lT f<|(l.drop i).take n) (.pR E ps qs<|lT f r) post dU)(hx:gP Γ x u)(hu:look Γ u=some (.win t i n sz))(ht:look Γ t=some (.buf E sz<|lT f l))
 (hn:(Nat.blt 0 n&&Nat.ble (i+n) l.length&&Nat.beq r.length n)=true)(ha:aU Γ xs pre)(hb:aU Γ ys post)(vD:dd<N)(hne:(dd !=t)=true):
  Step P N ops ⟨some dd,.call ⟨.value<| .func fn,(xs++x::ys).toArray,zP⟩,ty,pos,af,none⟩ Γ ((dd,AV dU)::(t,.buf E sz<|lT f<|l.take i++r++l.drop (i+n))::del dd (da t Γ)):=
 ab9 (fun _ h=>h) hf hS hx hu ht hn ha hb vD (by simpa using hne)
structure Fk(P:atp)(f:FuncId)(E:ato)(sz:Nat)(bl:att Ty)(args:att Ty)(l:att Ty):Prop where
 can:fR P f=true
 run:∀(w:arG) (H:HV) (v:arH) (xs:att arH) (vs:att arH),(∀r o,H r=some o->w.heap[r]? =some o)->qU P H->w.ownsRow 0 E sz v bl.length xs->vH H bl xs->(∀b,v.ownBlock=some b->H b=none)->Ce H args vs->
  Calls P f (v::vs).toArray w fun e w'=>∃r,e= .returned r/\CR w w' v.ownBlock/\∃xs',w'.ownsRow 0 E sz r l.length xs'/\vH H l xs'/\∀b,r.ownBlock=some b->v.ownBlock=some b
def Fk.pub{f:FuncId}{l:att Ty}(h:Fk P f E sz bl args l):aha P f E sz bl args [Fj l]:=
 ⟨h.can,fun w H v xs vs sub gl ho hx hb ha=>(h.run w H v xs vs sub gl ho hx hb ha).mono fun _ w' ⟨r,e,hg,xs',h3,h4,h5⟩=>by
  have hn:∀b,r.ownBlock=some b->H b=none:=fun b hbr=>hb b<|h5 b hbr
  have hle:HV.le H (fun c=>if r.ownBlock=some c then w'.heap[c]? else H c):=by
   intro c o hc;by_cases e:r.ownBlock=some c
   ·rw[hn c e] at hc;cases hc
   ·simp[e,hc]
  refine⟨r,e,hg,fun c=>if r.ownBlock=some c then w'.heap[c]? else H c,hle,?_,?_,?_⟩
  ·intro c _ hc;have:r.ownBlock≠some c:=fun e=>hc<|h5 c e
   simp[this]
  ·intro c o hc;by_cases e:r.ownBlock=some c
   ·simpa[e] using hc
   ·simp only[e,if_false] at hc;rw[hg.block c (lt_of_heap<|sub c o hc) (fun e2=>by rw[hb c e2.symm] at hc;cases hc)];exact sub c o hc
  ·exact AK (a:=⟨#[],[]⟩) (B:=ar.KK P w fun b=>v.ownBlock=some b) (w:=w') (H:=H) ⟨xs',h3,h4,fun b hb2=>⟨hn b hb2,.inr<|h5 b hb2⟩⟩ hle (fun b hb2 _ o hbo=>by simp[hb2,hbo])⟩
def aaj{s:atq}{f:FuncId}{l:att Ty}(P0:Fk P f E sz bl args l)(hs:s= .tmp t\/∃u,s= .tmp u/\look Γ u=some (.same t))(ht:look Γ t=some (.buf E sz bl))(ha:aU Γ xs args)(vD:dd<N):
  Sa P N ops Γ ⟨some dd,.call ⟨.value<| .func f,(s::xs).toArray,zP⟩,ty,pos,af,none⟩ t dd (.buf E sz l):=by
 intro yM dc w0 H0 a w H dh K Q k;simp only[Region.wanted,if_true];have hb:=dh.holds _<|dc _<|aF ht
 obtain⟨ys,hr,ho,hn⟩:=hb;have es:a.eval s=bh a t:=by
  rcases hs with rfl|⟨u,rfl,hu⟩
  ·rfl
  ·exact dh.holds _<|dc _<|aF hu
 have e0:execOp a.eval ⟨some dd,.call ⟨.value<| .func f,(s::xs).toArray,zP⟩,ty,pos,af,none⟩=callFunc f (#[]++(s::xs).toArray.map a.eval++ #[]):=rfl;unfold Oper.wp;rw[e0,ke P0.can,EX];have e2:(#[]++(s::xs).toArray.map a.eval++ #[])=(bh a t::xs.map a.eval).toArray:=by simp[es]
 rw[e2];refine(P0.run w H _ ys _ dh.sub dh.gl hr ho (fun b hb=>(hn b hb).1)<|ha.ok<|dh.weaken dc).mono ?_;rintro e w' ⟨r,rfl,hg,xs',h3,h4,h5⟩;have Yc:∀b,(bh a t).ownBlock=some b->w0.nX b/\H b=none/\∀l,w.heap[b]? ≠some (.deferred l):=fun b hb=>⟨(hn b hb).2,(hn b hb).1,fun l e=>by
  obtain⟨_,_,o,h3,h4⟩:=bO.oq (s:= .buf E sz bl) (B:=w0) (a:=a) ⟨ys,hr,ho,hn⟩ hb;rw[h3] at e;cases e;exact h4⟩
 have X2:∀b o,H b=some o->w'.heap[b]? =some o:=fun c o hc=>by
  rw[hg.block c (lt_of_heap<|dh.sub c o hc) (fun e2=>by rw[(hn c e2.symm).1] at hc;cases hc)];exact dh.sub c o hc
 have Vi:∀q∈del dd (da t yM),∀c,q.2.owns w (bh a q.1) c->(bh a t).ownBlock≠some c:=fun q hq c hc e=>
  dh.sep _ (dc _<|aF ht) q (bG q<|rF q hq).1 (fun e=>(bG q<|rF q hq).2 e.symm) c e hc
 have rH:Sat w0 H0 N (del dd<|da t yM) a w' H:=
  abl dh hg Yc (HV.le.refl _) (fun _ _ _=>rfl) X2 fun q hq=>⟨(bG q<|rF q hq).1,Vi q hq⟩
 refine k _ w' H (uD rH vD vr (by simp[bO.c6]) ⟨xs',h3,h4,fun b hb=>⟨(hn b<|h5 b hb).1,(hn b<|h5 b hb).2⟩⟩ ?_);intro b hb q hq hq2;have hb:r.ownBlock=some b:=hb;have Bb:=(bG q<|rF q hq).1;have F:Far w0.lo (fun b=>q.2.owns w (bh a q.1) b) w H w' H:=by
  have hk:∀c,c<w.heap.size->(c<w0.lo\/q.2.owns w (bh a q.1) c)->(bh a t).ownBlock≠some c:=fun c _ h e=>by
   rcases h with h|h
   ·have:=ar.yl (hn c e).2;omega
   ·exact Vi q hq c h e
  exact⟨hg.size,hg.os,hg.tape,hg.output,hg.drawn,HV.le.refl _,fun c hc h=>hg.block c hc<|fun e=>hk c hc h e.symm,fun _ _ _=>rfl,X2⟩
 exact Vi q hq b (((bO.BM (dh.holds q Bb) F).2 b).1 hq2)<|h5 b hb
def Zb{f:FuncId}{l:att Ty}(P0:Fk P f E sz bl args l)(hu:look Γ u=some (.same t))(ht:look Γ t=some (.buf E sz bl))(ha:aU Γ xs args)(vD:dd<N):
  Step P N ops ⟨some dd,.call ⟨.value<| .func f,(.tmp u::xs).toArray,zP⟩,ty,pos,af,none⟩ Γ ((dd,.buf E sz l)::del dd (da t Γ)):=aaj P0 (.inr ⟨u,rfl,hu⟩) ht ha vD Γ<|fun _ h=>h
end
section
variable[D:DR]
variable{P:Program}{w0:ar P}{H0:HV}{N:Nat}{Q:Exit->Act->World->Prop}{Γ aA:Ctx}{d:Option Tmp}{ty:TypeId}{pos:String}{af:Array Edge}{g:Option (Nat×Bool)}
def akU{T:ato}{τ:Ty}(h:fj P T τ):fj P T (Bg τ.n τ.agg):=⟨fun w=>by
 obtain⟨z,h1,h2⟩:=h.run w;exact⟨z,h1,fun H=>τ.shape<|h2 H⟩⟩
def oT{β:Type}(F:β->Ty)(n:Nat)(agg:Bool)(h:∀x,(F x).n=n/\(F x).agg=agg)(o:av8 β):Ty where
 n:=n
 agg:=agg
 ok:=fun H v=>match o with
  |some x=>(F x).ok H v
  |none=>Shape n agg v
 mono:=fun{H H' v} hl k=>by
  cases o with
  |none=>exact k
  |some x=>exact(F x).mono hl k
 shape:=fun{H v} k=>by
  cases o with
  |none=>exact k
  |some x=>have:=(F x).shape k;rwa [(h x).1,(h x).2] at this
def mlk{α β:Type}[DecidableEq α](l:att (α×β))(x:α):av8 β:=match mix x l with
 |none=>none
 |some j=>(l[j]?).map (·.2)
def ac2{w0:ar P}{β:Type}{F:β->Ty}{n:Nat}{agg:Bool}{h:∀x,(F x).n=n/\(F x).agg=agg}{o:av8 β}{t:Nat}{T:ato}{z:β}(ht:look Γ t=some (.own T<|oT F n agg h o))(hs:(!o.isSome)=false):ub w0 N Γ ((t,.own T<|F<|o.getD z)::da t Γ):=fun H0 a w H dh=>by
 obtain⟨b,x,e,hb,hx,hH,hB⟩:=dh.holds _<|aF ht
 refine⟨H,Ga (us:=[]) dh (fun q hq=>bG q hq) ⟨b,x,e,hb,?_,hH,hB⟩ (fun c hc=>⟨_,aF ht,.inl rfl,hc⟩) (fun _ _ h=>by cases h)⟩;cases o with
 |none=>cases hs
 |some y=>exact hx
end
section
variable[D:DR]
variable{P:Program}{w0:ar P}{H0:HV}{N:Nat}{Q:Exit->Act->World->Prop}{Γ aA:Ctx}{d:Option Tmp}{ty:TypeId}{pos:String}{af:Array Edge}{g:Option (Nat×Bool)}
variable{α β:Type}[DecidableEq α]{K E Eb T:TypeId}{sz:Nat}{fK:α->Ty}
def aiK{F:β->Ty}{n:Nat}{agg:Bool}{hF:∀x,(F x).n=n/\(F x).agg=agg}{t:Nat}{m k:atq}{l:att (α×β)}{x:α}(hT:TT P T K E=true)(hk:AL P K fK)(hz:fj P E (Bg n agg))(hm:IJ Γ m t)(ht:look Γ t=some (.Jl K E Eb sz<|mM fK (fun v=> .val<|F v) l))(hx:Arg Γ k (fK x)):
  bR P Γ ⟨d,.lookup T m k true,ty,pos,af,g⟩ (.Vb [oT F n agg hF<|mlk l x,bj (mlk l x).isSome]):=
 bE fun _ _ _ a w H hs=>by
  obtain⟨r,es,e,hr,hn,hmi,ho,OV⟩:=hs.holds _<|aF ht
  have em:a.eval m= .map (some r):=by rw[hm.ok hs];exact e
  have Nt:=hx.ok hs;obtain⟨k1,k2⟩:=XW ho;have hf:=run_findKey hk Nt (w:=w) k1 k2;have hc:=hk.check H _ x Nt es.isEmpty w;obtain⟨zv,X1,hzo⟩:=hz.run w;cases Z6:mix x l with
  |none=>
   rw[Z6] at hf;refine⟨.tuple #[zv,.bool false],?_,⟨#[zv,.bool false],rfl,?_⟩,rfl⟩
   ·simp[execOp,em,Instr.lookup,aV<|DT hT,run_getObj_map hr,hc,hf,X1]
   ·have:mlk l x=none:=by simp[mlk,Z6]
    rw[this];exact⟨_,_,rfl,hzo H,_,_,rfl,rfl,rfl⟩
  |some j=>
   rw[Z6] at hf;obtain⟨v,hv⟩:=Nf Z6;obtain⟨y,h1,_,h3,_⟩:=M8 ho (j:=j) (k:=fK x) (e:= .val<|F v) (by simp[hv]);simp only[Aq,h1,H9] at hf;refine⟨.tuple #[y.val,.bool true],?_,⟨#[y.val,.bool true],rfl,?_⟩,rfl⟩
   ·simp[execOp,em,Instr.lookup,aV<|DT hT,run_getObj_map hr,hc,hf]
   ·have:mlk l x=some v:=by simp[mlk,Z6,hv]
    rw[this];exact⟨_,_,rfl,h3,_,_,rfl,rfl,rfl⟩
end
section
variable[D:DR]
def ck(b:Bool)(p:Prop):Prop:=match b with
 |true=>p
 |false=>False
def ck_{b:Bool}{p:Prop}(h:ck b p):b=true/\p:=by
 cases b
 ·exact h.elim
 ·exact⟨rfl,h⟩
def lkV(o:av8 bO)(K:Ty->Prop):Prop:=match o with
 |some (.val τ)=>K τ
 |_=>False
def aiV{o:av8 bO}{K:Ty->Prop}(h:lkV o K):∃τ,o=some (.val τ)/\K τ:=by
 unfold lkV at h;split at h
 ·exact⟨_,rfl,h⟩
 ·exact h.elim
def S3(Γ:Ctx):att Nat->av8 Ctx
 |[]=>some []
 |t::ts=>match look Γ t,S3 Γ ts with
  |some s,some aA=>some ((t,s)::aA)
  |_,_=>none
def Jc{Γ:Ctx}:∀{ts:att Nat} {aA:Ctx},S3 Γ ts=some aA->ye Γ ts aA
 |[],_,h=>by cases h;exact .nil
 |t::ts,aA,h=>by
  unfold S3 at h;split at h
  ·rename_i h1 h2;cases h;exact .cons h1<|Jc h2
  ·cases h
end
section
variable[D:DR]
variable{P:Program}{w0:ar P}{H0:HV}{N:Nat}{ops:Array Oper}{Γ aA fy:Ctx}{l:List Oper}{d:Nat}{op:Op}{ty:TypeId}{pos:String}{af:Array Edge}{K:Ctx->Prop}{Q:Exit->Act->World->Prop}
variable{s:bO}
structure CK(P:atp)(w0:ar P)(N:Nat)(ops:awa Oper)(l:att Oper)(Γ:Ctx)(K:Ctx->Prop):Prop where
 w:∃aA,ue P w0 N ops l Γ aA/\K aA
def fr(N d:Nat)(s:bO)(Γ:Ctx):Bool:=Nat.blt d N&&(pj d Γ&& !s.vl d)
def fo(N d:Nat)(s:bO):Bool:=Nat.blt d N&& !s.vl d
def fr_{N d:Nat}{Γ:Ctx}(h:fr N d s Γ=true):d<N/\pj d Γ=true/\s.vl d=false:=by
 simp only[fr,bY,jl] at h;exact⟨gk h.1,h.2.1,h.2.2⟩
def fo_{N d:Nat}(h:fo N d s=true):d<N/\s.vl d=false:=by
 simp only[fo,bY,jl] at h;exact⟨gk h.1,h.2⟩
def cP(h:bR P Γ ⟨some d,op,ty,pos,af,none⟩ s)(r:ck (fr N d s Γ) (CK P w0 N ops l ((d,s)::Γ) K)):CK P w0 N ops (⟨some d,op,ty,pos,af,none⟩::l) Γ K:=by
 obtain⟨hb,aA,h1,h2⟩:=ck_ r;obtain⟨b1,b2,b3⟩:=fr_ hb;exact⟨aA,.cons (Step.pure h rfl rfl b1 b2 b3) h1,h2⟩
def cO(h:bR P Γ ⟨some d,op,ty,pos,af,none⟩ s)(r:ck (fo N d s) (CK P w0 N ops l ((d,s)::del d Γ) K)):CK P w0 N ops (⟨some d,op,ty,pos,af,none⟩::l) Γ K:=by
 obtain⟨hb,aA,h1,h2⟩:=ck_ r;obtain⟨b1,b3⟩:=fo_ hb;exact⟨aA,.cons (Step.over h rfl rfl b1 b3) h1,h2⟩
def cS{o:Oper}(h:Step P N ops o Γ fy)(r:CK P w0 N ops l fy K):CK P w0 N ops (o::l) Γ K:=by
 obtain⟨aA,h1,h2⟩:=r;exact⟨aA,.cons h h1,h2⟩
def cG(h:ub w0 N Γ fy)(r:CK P w0 N ops l fy K):CK P w0 N ops l Γ K:=by
 obtain⟨aA,h1,h2⟩:=r;exact⟨aA,.ghost h h1,h2⟩
def cF(ts:att Nat)(h:S3 Γ ts=some fy)(r:K fy):CK P w0 N ops [] Γ K:=⟨fy,.fin<|Jc h,r⟩
def cY{ts:att Nat}(h:ye Γ ts fy)(r:K fy):CK P w0 N ops [] Γ K:=⟨fy,.fin h,r⟩
def cPr(h:bR P Γ ⟨some d,op,ty,pos,af,none⟩ s)(hb:fr N d s Γ=true)(r:CK P w0 N ops l ((d,s)::Γ) K):CK P w0 N ops (⟨some d,op,ty,pos,af,none⟩::l) Γ K:=cP h (by rw[hb];exact r)
def arD(m t:Nat):Bool:=Nat.beq (Nat.mod (Nat.div m<|Nat.pow 2 t) 2) 1
def fm(m:Nat):Ctx->av8 Ctx
 |[]=>some []
 |(t,s)::Γ=>match arD m t with
  |true=>match fm m Γ with
   |some aA=>some ((t,s)::aA)
   |none=>none
  |false=>fm m Γ
def fm_{m:Nat}:∀{Γ aA:Ctx},fm m Γ=some aA->∀q∈aA,q∈Γ
 |[],_,h,q,hq=>by cases h;exact hq
 |(t,s)::Γ,aA,h,q,hq=>by
  unfold fm at h;split at h
  ·split at h
   ·rename_i h1;cases h;rcases aY.1 hq with e|hq
    ·rw[e];simp
    ·exact cW _<|fm_ h1 q hq
   ·cases h
  ·exact cW _<|fm_ h q hq
def gm{m:Nat}(h:fm m Γ=some fy):ub w0 N Γ fy:=fun _ _ _ H hs=>⟨H,hs.weaken<|fm_ h⟩
def U(m:Nat)(h:fm m Γ=some fy)(r:K fy):CK P w0 N ops [] Γ K:=cG (gm h) ⟨fy,.done,r⟩
def cWm(m:Nat)(h:fm m Γ=some fy)(r:CK P w0 N ops l fy K):CK P w0 N ops l Γ K:=cG (gm h) r
def cD(r:K Γ):CK P w0 N ops [] Γ K:=⟨Γ,.done,r⟩
end
section
variable[D:DR]
variable{P:Program}{w0:ar P}{H0:HV}{N:Nat}{ops:Array Oper}{Γ aA fy:Ctx}{l:List Oper}{d:Nat}{op:Op}{ty:TypeId}{pos:String}{af:Array Edge}{K:Ctx->Prop}{Q:Exit->Act->World->Prop}
variable{x y:Operand}{t t':Nat}{T T':TypeId}{τ σ:Ty}{k:IntKind}{m n:Int}{b e:Bool}
variable{off:Nat}{α:Type}{L:att Ty}{g:av8 (Nat×Bool)}
abbrev G(P:atp)(w0:ar P)(N:Nat)(ops:awa Oper)(l:att Oper)(Γ:Ctx)(K:Ctx->Prop)(d:Nat)(s:bO):Prop:=ck (fr N d s Γ)<|CK P w0 N ops l ((d,s)::Γ) K
def lkT(o:av8 bO)(K:att Ty->Prop):Prop:=match o with
 |some (.Vb l)=>K l
 |_=>False
def alz{o:av8 bO}{K:att Ty->Prop}(h:lkT o K):∃l,o=some (.Vb l)/\K l:=by
 unfold lkT at h;split at h
 ·exact⟨_,rfl,h⟩
 ·exact h.elim
def lkO{α:Type}(o:av8 α)(K:α->Prop):Prop:=match o with
 |some x=>K x
 |_=>False
def aou{o:av8 α}{K:α->Prop}(h:lkO o K):∃x,o=some x/\K x:=by
 unfold lkO at h;split at h
 ·exact⟨_,rfl,h⟩
 ·exact h.elim
def cM(r:lkV (look Γ t) fun τ=>G P w0 N ops l Γ K d<| .val τ):CK P w0 N ops (⟨some d,.move<| .tmp t,ty,pos,af,none⟩::l) Γ K:=by
 obtain⟨τ,h1,h2⟩:=aiV r;exact cP (Q7<| .t h1) h2
def cA(r:lkV (look Γ t) fun τ=>G P w0 N ops l Γ K d<| .val τ):CK P w0 N ops (⟨some d,.assign<| .tmp t,ty,pos,af,none⟩::l) Γ K:=by
 obtain⟨τ,h1,h2⟩:=aiV r;exact cP (aC<| .t h1) h2
def cI(r:G P w0 N ops l Γ K d (.val<|TI k n)):CK P w0 N ops (⟨some d,.assign<| .const<| .int k n,ty,pos,af,none⟩::l) Γ K:=cP (aC .int) r
def cB(r:G P w0 N ops l Γ K d (.val<|bj b)):CK P w0 N ops (⟨some d,.assign<| .const<| .bool b,ty,pos,af,none⟩::l) Γ K:=cP (aC .bool) r
def cN(r:G P w0 N ops l Γ K d (.val<|TI k n)):CK P w0 N ops (⟨some d,.move<| .const<| .int k n,ty,pos,af,none⟩::l) Γ K:=cP (Q7 .int) r
def cX(r:lkV (look Γ t) fun τ=>G P w0 N ops l Γ K d<| .own T τ):CK P w0 N ops (⟨some d,.box T<| .tmp t,ty,pos,af,none⟩::l) Γ K:=by
 obtain⟨τ,h1,h2⟩:=aiV r;exact cP (aiO<| .t h1) h2
def cE{i:Nat}(r:lkT (look Γ t) fun L=>lkO L[i]? fun τ=>G P w0 N ops l Γ K d<| .val τ):CK P w0 N ops (⟨some d,.extract (.tmp t) i,ty,pos,af,none⟩::l) Γ K:=by
 obtain⟨L,h1,h2⟩:=alz r;obtain⟨τ,h3,h4⟩:=aou h2;exact cP (fO h1 h3) h4
def cZ(r:lkT (look Γ t) fun L=>G P w0 N ops l Γ K d<| .Vb L):CK P w0 N ops (⟨some d,.move<| .tmp t,ty,pos,af,none⟩::l) Γ K:=by
 obtain⟨L,h1,h2⟩:=alz r;exact cP (uI h1) h2
def cQ(r:G P w0 N ops l Γ K d (.same t)):CK P w0 N ops (⟨some d,.move<| .tmp t,ty,pos,af,none⟩::l) Γ K:=cP eX r
def cU(h:look Γ t=some (.own T' τ))(hT:fM P T τ.n τ.agg=true)(r:G P w0 N ops l Γ K d (.val τ)):CK P w0 N ops (⟨some d,.load T<| .tmp t,ty,pos,af,none⟩::l) Γ K:=cP (ak h hT) r
def cR(h:look Γ t=some (.val<|Df τ))(hT:fM P T τ.n τ.agg=true)(r:G P w0 N ops l Γ K d (.val τ)):CK P w0 N ops (⟨some d,.load T<| .tmp t,ty,pos,af,none⟩::l) Γ K:=cP (aK (.t h) hT) r
def lk2(Γ:Ctx)(t:Nat):av8 (Nat×Ty):=match look Γ t with
 |some (.ptr t' off)=>match look Γ t' with
  |some (.own _ τ)=>some (off,τ)
  |_=>none
 |_=>none
def aow{Γ:Ctx}{t:Nat}{τ:Ty}(h:lk2 Γ t=some (off,τ)):∃t' T,look Γ t=some (.ptr t' off)/\look Γ t'=some (.own T τ):=by
 unfold lk2 at h;split at h
 ·rename_i h1;split at h
  ·rename_i h2;cases h;exact⟨_,_,h1,h2⟩
  ·cases h
 ·cases h
def pick(L:att Ty)(i off:Nat):av8 Ty:=match Nat.beq (cc<|L.take i) off with
 |true=>L[i]?
 |false=>none
def abB{i:Nat}{σ:Ty}(h:pick L i off=some σ):ba (ko L) off σ:=by
 unfold pick at h;split at h
 ·rename_i e;exact .agg h<|fL e
 ·cases h
def oP{d:av8 Tmp}(i:Nat)(h:lk2 Γ t=some (off,ko L))(h1:pick L i off=some σ)(hT:fM P T σ.n σ.agg=true):bR P Γ ⟨d,.load T<| .tmp t,ty,pos,af,g⟩ (.val σ):=by
 obtain⟨t',T',k1,k2⟩:=aow h;exact cq k1 k2 (abB h1) hT
def cV(i:Nat)(h:lk2 Γ t=some (off,ko L))(h1:pick L i off=some σ)(hT:fM P T σ.n σ.agg=true)(r:G P w0 N ops l Γ K d (.val σ)):CK P w0 N ops (⟨some d,.load T<| .tmp t,ty,pos,af,none⟩::l) Γ K:=cP (oP i h h1 hT) r
def cK{k':Nat}(h:look Γ t=some (.own T' τ))(hf:vF P T k' off=true)(r:G P w0 N ops l Γ K d (.ptr t off)):CK P w0 N ops (⟨some d,.fieldAddr T (.tmp t) k',ty,pos,af,none⟩::l) Γ K:=cP (bM h hf) r
def cJ{f:α->Ty}{L:att α}(hT:mI P T=true)(h:look Γ t=some (.val<|TL f L))(r:G P w0 N ops l Γ K d (.val<|TI .i64 L.length)):CK P w0 N ops (⟨some d,.call ⟨.builtin .len,#[.tmp t],#[T]⟩,ty,pos,af,none⟩::l) Γ K:=cP (mS hT<| .t h) r
def cT(h:fj P T τ)(r:G P w0 N ops l Γ K d (.own T τ)):CK P w0 N ops (⟨some d,.alloc T,ty,pos,af,none⟩::l) Γ K:=cP (mT h) r
def cH{r':Int}(h:look Γ t=some (.val<|TI .i64 m))(h1:aL (m+n)=some r')(r:G P w0 N ops l Γ K d (.val<|TI .i64 r')):CK P w0 N ops (⟨some d,.binOp .add T (.tmp t) (.const<| .int .i64 n) T',ty,pos,af,none⟩::l) Γ K:=cP (bH (.t h) .int h1) r
def cL(h:look Γ t=some (.val<|TI k m))(h':look Γ t'=some (.val<|TI k n))(r:G P w0 N ops l Γ K d (.val<|bj<|decide<|m<n)):CK P w0 N ops (⟨some d,.binOp .lss T (.tmp t) (.tmp t') T',ty,pos,af,none⟩::l) Γ K:=cP (dJ (.t h)<| .t h') r
def oX{f:α->Ty}{L:att α}{d:av8 Tmp}{i:Int}{sz:Nat}{y:α}(hT:G9 P T sz=true)(hf:∀z,(f z).n=sz)(hx:look Γ t=some (.val<|TL f L))(hi:look Γ t'=some (.val<|TI k i))(h:bo L i=some y):bR P Γ ⟨d,.indexAddr T (.tmp t)<| .tmp t',ty,pos,af,g⟩ (.val<|Df<|f y):=iQ hT hf (.t hx) (.t hi) h
def O6(Γ:Ctx):att atq->av8 (att Ty)
 |[]=>some []
 | .tmp t::xs=>match look Γ t,O6 Γ xs with
  |some (.val τ),some l=>some (τ::l)
  |_,_=>none
 | .const (.int k n)::xs=>match O6 Γ xs with
  |some l=>some (TI k n::l)
  |_=>none
 | .const (.bool b)::xs=>match O6 Γ xs with
  |some l=>some (bj b::l)
  |_=>none
 |_=>none
def UZ{Γ:Ctx}:∀{xs:att atq} {l:att Ty},O6 Γ xs=some l->aU Γ xs l
 |[],_,h=>by cases h;exact .nil
 | .tmp t::xs,l,h=>by
  unfold O6 at h;split at h
  ·rename_i h1 h2;cases h;exact .cons (.t h1)<|UZ h2
  ·cases h
 | .const (.int k n)::xs,l,h=>by
  unfold O6 at h;split at h
  ·rename_i h2;cases h;exact .cons .int<|UZ h2
  ·cases h
 | .const (.bool b)::xs,l,h=>by
  unfold O6 at h;split at h
  ·rename_i h2;cases h;exact .cons .bool<|UZ h2
  ·cases h
def oC{f:FuncId}{xs:att atq}{zP:awa ato}{args:att Ty}{dU:Res}{d:av8 Tmp}(hf:fN P f args dU)(ha:O6 Γ xs=some args):bR P Γ ⟨d,.call ⟨.value<| .func f,xs.toArray,zP⟩,ty,pos,af,g⟩ (aiB dU):=gZ hf<|UZ ha
def cC{f:FuncId}{xs:att atq}{zP:awa ato}{args:att Ty}{dU:Res}(hf:fN P f args dU)(ha:O6 Γ xs=some args)(r:G P w0 N ops l Γ K d (aiB dU)):CK P w0 N ops (⟨some d,.call ⟨.value<| .func f,xs.toArray,zP⟩,ty,pos,af,none⟩::l) Γ K:=cP (oC hf ha) r
def gV{j dj:Nat}{want:Bool}{eI:Ctx}{s:bO}(hj:(ops[j]?).bind (·.dst)=some dj)(hl:look Γ dj=some (.val<|bj b))(ho:Dg Γ (gd b want) eI)(h:gd b want=true->bR P eI ⟨some d,op,ty,pos,af,some (j,want)⟩ s)(r:ck (Nat.blt dj N&&fr N d s Γ) (CK P w0 N ops l ((d,.opt (gd b want) s)::Γ) K)):CK P w0 N ops (⟨some d,op,ty,pos,af,some (j,want)⟩::l) Γ K:=by
 obtain⟨hb,aA,h1,h2⟩:=ck_ r;rw[bY] at hb;obtain⟨b1,b2,b3⟩:=fr_ hb.2;exact⟨aA,.cons (Step.guarded (.v rfl hj hl<|gk hb.1) (opO ho h) rfl b1 b2 b3) h1,h2⟩
def gO{j dj:Nat}{want:Bool}{eI:Ctx}{s:bO}(hj:(ops[j]?).bind (·.dst)=some dj)(hl:look Γ dj=some (.opt e<| .val<|bj b))(ho:Dg Γ (e&&gd b want) eI)(h:(e&&gd b want)=true->bR P eI ⟨some d,op,ty,pos,af,some (j,want)⟩ s)(r:ck (Nat.blt dj N&&fr N d s Γ) (CK P w0 N ops l ((d,.opt (e&&gd b want) s)::Γ) K)):CK P w0 N ops (⟨some d,op,ty,pos,af,some (j,want)⟩::l) Γ K:=by
 obtain⟨hb,aA,h1,h2⟩:=ck_ r;rw[bY] at hb;obtain⟨b1,b2,b3⟩:=fr_ hb.2;exact⟨aA,.cons (Step.guarded (.o rfl hj hl<|gk hb.1) (opO ho h) rfl b1 b2 b3) h1,h2⟩
end
section
variable[D:DR]
variable{P:Program}{w0:ar P}{H0:HV}{N:Nat}{ops:Array Oper}{Γ aA fy:Ctx}{l:List Oper}{d:Nat}{op:Op}{ty:TypeId}{pos:String}{af:Array Edge}{K:Ctx->Prop}{Q:Exit->Act->World->Prop}
def rS{id:Nat}{y:Code}(r:ck (uG l) (CK P w0 N l.toArray l Γ fun aA=>Goal P w0 H0 N y Q aA)):Goal P w0 H0 N (.seq (.region id l.toArray false) y) Q Γ:=by
 obtain⟨ij,aA,h1,h2⟩:=ck_ r;exact ae<|Uw ij h1<|ax h2
def rK{id:Nat}(r:ck (uG l) (CK P w0 N l.toArray l Γ fun aA=>oU w0 H0 N (Q .normal) aA)):Goal P w0 H0 N (.region id l.toArray false) Q Γ:=by
 obtain⟨ij,aA,h1,h2⟩:=ck_ r;exact Uw ij h1 h2
structure PK(P:atp)(N:Nat)(ops:awa Oper)(Γ:Ctx)(acc:att Ctx)(l:att Oper)(K:att (att Nat)->att Bool->att Ctx->Prop):Prop where
 w:∃jP jO S,jr P N ops Γ acc l jP jO S/\K jP jO S
end
section
variable[D:DR]
variable{P:Program}{w0:ar P}{H0:HV}{N:Nat}{ops:Array Oper}{Γ aA fy:Ctx}{l:List Oper}{d:Nat}{op:Op}{ty:TypeId}{pos:String}{af:Array Edge}{K:Ctx->Prop}{Q:Exit->Act->World->Prop}
variable{acc:List Ctx}{ts:List Nat}{eI:Ctx}{s s' su:bO}{t u:Nat}{o:Oper}{R:List (List Nat)->List Bool->List Ctx->Prop}
def dN(r:R [] [] acc):PK P N ops Γ acc [] R:=⟨_,_,_,.nil,r⟩
def dP(ts:att Nat)(hs:S3 (acc.flatten++Γ) ts=some eI)(h:bR P eI ⟨some d,op,ty,pos,af,none⟩ s)(r:ck (Nat.blt d N) (PK P N ops Γ ([(d,s)]::acc) l fun n p S=>R (ts::n) (true::p) S)):PK P N ops Γ acc (⟨some d,op,ty,pos,af,none⟩::l) R:=by
 obtain⟨hb,n,p,S,h1,h2⟩:=ck_ r;exact⟨_,_,S,.cons (Jc hs) h rfl rfl (gk hb) h1,h2⟩
def dV{j dj:Nat}{want b:Bool}{Γj:Ctx}(ts:att Nat)(hs:S3 (acc.flatten++Γ) ts=some eI)(hj:(ops[j]?).bind (·.dst)=some dj)(hl:look eI dj=some (.val<|bj b))(ho:Dg eI (gd b want) Γj)(h:gd b want=true->bR P Γj ⟨some d,op,ty,pos,af,some (j,want)⟩ s)(r:ck (Nat.blt dj N&&Nat.blt d N) (PK P N ops Γ ([(d,.opt (gd b want) s)]::acc) l fun n p S=>R (ts::n) (true::p) S)):PK P N ops Γ acc (⟨some d,op,ty,pos,af,some (j,want)⟩::l) R:=by
 obtain⟨hb,n,p,S,h1,h2⟩:=ck_ r;rw[bY] at hb;exact⟨_,_,S,.guarded (Jc hs) (.v rfl hj hl<|gk hb.1) (opO ho h) rfl (gk hb.2) h1,h2⟩
def dS(ts:att Nat)(hs:S3 (acc.flatten++Γ) ts=some eI)(h:O9 P N ops eI o t s)(r:PK P N ops Γ ([(t,s)]::acc) l fun n p S=>R (ts::n) (false::p) S):PK P N ops Γ acc (o::l) R:=by
 obtain⟨n,p,S,h1,h2⟩:=r;exact⟨_,_,S,.store (Jc hs) h h1,h2⟩
def dG(gs ts:att Nat)(hs:S3 (acc.flatten++Γ) ts=some eI)(h:Sa P N ops eI o t d s)(r:PK P N ops Γ (((d,s)::(t,.gone)::gs.map fun u=>(u,.gone))::acc) l fun n p S=>R (ts::n) (true::p) S):PK P N ops Γ acc (o::l) R:=by
 obtain⟨n,p,S,h1,h2⟩:=r;exact⟨_,_,S,.aro gs (Jc hs) h h1,h2⟩
def dT(ts:att Nat)(hs:S3 (acc.flatten++Γ) ts=some eI)(h:ag8 P N ops eI o t s' d s)(r:PK P N ops Γ ([(d,s),(t,s')]::acc) l fun n p S=>R (ts::n) (true::p) S):PK P N ops Γ acc (o::l) R:=by
 obtain⟨n,p,S,h1,h2⟩:=r;exact⟨_,_,S,.two (Jc hs) h h1,h2⟩
end
section
variable[D:DR]
variable{P:Program}{w0:ar P}{H0:HV}{N:Nat}{ops:Array Oper}{Γ aA fy:Ctx}{l:List Oper}{d:Nat}{op:Op}{ty:TypeId}{pos:String}{af:Array Edge}{K:Ctx->Prop}{Q:Exit->Act->World->Prop}
def aaB(ops:att Oper):att (att Nat):=ops.foldl (fun av o=>av++[(List.range av.length).filter fun j=>(CH o).any fun e=>e.on==j||(av.getD e.on []).contains j]) []
def DE(P:atp)(w0:ar P)(N:Nat)(ops:att Oper)(k:Nat)(Γ:Ctx)(K:Ctx->Prop)(jP:att (att Nat))(jO:att Bool)(S:att Ctx):Prop:=
 ∃ts Fl,(El ops.toArray (aaB ops)&&UP k (S.reverse.map Gj) jP jO (vk Γ) (aaB ops)&&yC ops.toArray k (aaB ops))=true/\S3 (S.flatten++Γ) ts=some Fl/\CK P w0 N ops.toArray (ops.drop k) Fl K
def dE{jP:att (att Nat)}{jO:att Bool}{S:att Ctx}{k:Nat}{Fl:Ctx}(ts:att Nat)(hs:S3 (S.flatten++Γ) ts=some Fl)(hc:(El l.toArray (aaB l)&&UP k (S.reverse.map Gj) jP jO (vk Γ) (aaB l)&&yC l.toArray k (aaB l))=true)(r:CK P w0 N l.toArray (l.drop k) Fl K):DE P w0 N l k Γ K jP jO S:=⟨ts,Fl,hc,hs,r⟩
def gD{id:Nat}(k:Nat)(hm:P.follows .mixedOrders=true)(r:ck (uG l) (PK P N l.toArray Γ [] (l.take k)<|DE P w0 N l k Γ fun aA=>oU w0 H0 N (Q .normal) aA)):Goal P w0 H0 N (.region id l.toArray true) Q Γ:=by
 obtain⟨ij,n,p,S,h1,ts,Fl,hc,hs,aA,h2,h3⟩:=ck_ r;exact ajT (k:=k) ij _ _ _ _ _ hm hc h1 rfl rfl (Jc hs) h2 h3
def gE{id:Nat}{y:Code}(k:Nat)(hm:P.follows .mixedOrders=true)(r:ck (uG l) (PK P N l.toArray Γ [] (l.take k)<|DE P w0 N l k Γ fun aA=>Goal P w0 H0 N y Q aA)):Goal P w0 H0 N (.seq (.region id l.toArray true) y) Q Γ:=
 ae (gD k hm (by
  obtain⟨ij,r⟩:=ck_ r;rw[ij];obtain⟨n,p,S,h1,ts,Fl,hc,hs,aA,h2,h3⟩:=r;exact⟨n,p,S,h1,ts,Fl,hc,hs,aA,h2,ax h3⟩))
end
section
variable[D:DR]
variable{P:Program}{w0:ar P}{H0:HV}{N:Nat}{ops:Array Oper}{Γ aA fy:Ctx}{l:List Oper}{d:Nat}{op:Op}{ty:TypeId}{pos:String}{af:Array Edge}{K:Ctx->Prop}{Q:Exit->Act->World->Prop}
variable{x y:Operand}{t t':Nat}{T T':TypeId}{τ σ:Ty}{k:IntKind}{m n:Int}{b e:Bool}{g:Option (Nat×Bool)}{dd:Option Tmp}
variable{sz:Nat}{ps:att (Nat×atq)}{l':att Ty}
def aT(h:look Γ t=some (.val τ)):Arg Γ (.tmp t) τ:= .t h
def aI:Arg Γ (.const<| .int k n) (TI k n):= .int
def aB:Arg Γ (.const<| .bool b) (bj b):= .bool
def sS(ts:att Nat)(h:S3 Γ ts=some aA):ye Γ ts aA:=Jc h
def oM(h:look Γ t=some (.val τ)):bR P Γ ⟨dd,.move<| .tmp t,ty,pos,af,g⟩ (.val τ):=Q7<| .t h
def oA(h:look Γ t=some (.val τ)):bR P Γ ⟨dd,.assign<| .tmp t,ty,pos,af,g⟩ (.val τ):=aC<| .t h
def iO{i:Int}{len:Nat}(h:look Γ t=some (.own T' τ))(hT:Fw P T len sz=true)(hc:(decide (0<=i)&&decide (i<(len:Int)))=true):bR P Γ ⟨dd,.indexAddr T (.tmp t)<| .const<| .int k i,ty,pos,af,g⟩ (.ptr t<|i.toNat*sz):=by
 rw[bY,vj,vj] at hc;exact Hv h hT .int hc.1 hc.2
def PG(Γ:Ctx):att (Nat×atq)->att Ty->av8 (att Ty)
 |[],l=>some l
 |(i,x)::ps,l=>match O6 Γ [x],l[i]? with
  |some [σ],some τ=>match Nat.beq σ.n τ.n with
   |true=>PG Γ ps<|l.set i σ
   |false=>none
  |_,_=>none
def pV{Γ:Ctx}:∀{ps:att (Nat×atq)} {l l':att Ty},PG Γ ps l=some l'->jv P Γ ps l l'
 |[],_,_,h=>by cases h;exact .nil
 |(i,x)::ps,l,l',h=>by
  unfold PG at h;split at h
  ·rename_i σ τ h1 h2;split at h
   ·rename_i h3;cases UZ h1 with
    |cons ha _=>exact .cons ha h2 (fL h3)<|pV h
   ·cases h
  ·cases h
def bB{l:att Ty}(hz:fj P T (ko l))(hT:sV P T (rj l)=true)(hp:PG Γ ps l=some l'):bR P Γ ⟨dd,.build T ps.toArray,ty,pos,af,g⟩ (.val<|ko l'):=M4 hz hT<|pV hp
def bA{n:Nat}{l:att Ty}(hz:fj P T (ko l))(hT:Fw P T n sz=true)(hu:(l.all fun τ=>Nat.beq τ.n sz)=true)(hp:PG Γ ps l=some l'):bR P Γ ⟨dd,.build T ps.toArray,ty,pos,af,g⟩ (.val<|ko l'):=
 xl hz hT (fun τ h=>fL<|dI.1 hu τ h) (pV hp)
def bS{E:ato}{n:Nat}(hz:fj P E τ)(hT:xM P T E sz=true)(hp:PG Γ ps (List.replicate n τ)=some l')(hc:(Nat.beq τ.n sz&&(Nat.blt 0 (n*sz)&&(Nat.ble (n*sz) 16777216&&Nat.beq l'.length n)))=true):bR P Γ ⟨dd,.buildSlice T n ps.toArray,ty,pos,af,g⟩ (.val<|Fj l'):=by
 simp only[bY] at hc;exact FQ hz hT (fL hc.1) hc.2.1 hc.2.2.1 (pV hp)<|fL hc.2.2.2
def cs(ht:look Γ t=some (.own T' τ))(hx:look Γ t'=some (.val σ))(hn:σ.n=τ.n)(hT:fM P T σ.n σ.agg=true)(r:CK P w0 N ops l ((t,.own T' σ)::da t Γ) K):CK P w0 N ops (⟨none,.store T (.tmp t)<| .tmp t',ty,pos,af,none⟩::l) Γ K:=cS (QN ht (.t hx) hn hT) r
def ds(ht:look Γ t=some (.own T' τ))(hx:look Γ t'=some (.val σ))(hn:σ.n=τ.n)(hT:fM P T σ.n σ.agg=true):O9 P N ops Γ ⟨none,.store T (.tmp t)<| .tmp t',ty,pos,af,none⟩ t (.own T' σ):=OI ht (.t hx) hn hT
def ov(t:Nat){s:bO}(h:look Γ t=some s)(r:Dg Γ e aA):Dg Γ e ((t,s)::aA):= .v h r
def oo(t:Nat){s:bO}{c:Bool}(h:look Γ t=some (.opt c s))(k:e=true->c=true)(r:Dg Γ e aA):Dg Γ e ((t,s)::aA):= .o h k r
def on:Dg Γ e []:= .nil
end
section
variable[D:DR]
variable{P:Program}{w0:ar P}{H0:HV}{N:Nat}{ops:Array Oper}{Γ aA fy:Ctx}{l:List Oper}{d:Nat}{op:Op}{ty:TypeId}{pos:String}{af:Array Edge}{K:Ctx->Prop}{Q:Exit->Act->World->Prop}
variable{α β γ δ ε ζ ρ:Type}{r:ρ}{e:Option α}{f:α->Option β}{g:α->β->Option γ}{h:α->β->γ->Option δ}{i:α->β->γ->δ->Option ε}{j:α->β->γ->δ->ε->Option ζ}
def b2{K:α->β->av8 ρ}(q:(bd e fun x=>bd (f x)<|K x)=some r):∃x,e=some x/\∃y,f x=some y/\K x y=some r:=by
 obtain⟨x,h1,q⟩:=aN q;obtain⟨y,h2,q⟩:=aN q;exact⟨x,h1,y,h2,q⟩
def b3{K:α->β->γ->av8 ρ}(q:(bd e fun x=>bd (f x) fun y=>bd (g x y)<|K x y)=some r):∃x,e=some x/\∃y,f x=some y/\∃z,g x y=some z/\K x y z=some r:=by
 obtain⟨x,h1,y,h2,q⟩:=b2 q;obtain⟨z,h3,q⟩:=aN q;exact⟨x,h1,y,h2,z,h3,q⟩
def b4{K:α->β->γ->δ->av8 ρ}(q:(bd e fun x=>bd (f x) fun y=>bd (g x y) fun z=>bd (h x y z)<|K x y z)=some r):∃x,e=some x/\∃y,f x=some y/\∃z,g x y=some z/\∃u,h x y z=some u/\K x y z u=some r:=by
 obtain⟨x,h1,y,h2,z,h3,q⟩:=b3 q;obtain⟨u,h4,q⟩:=aN q;exact⟨x,h1,y,h2,z,h3,u,h4,q⟩
def b5{K:α->β->γ->δ->ε->av8 ρ}(q:(bd e fun x=>bd (f x) fun y=>bd (g x y) fun z=>bd (h x y z) fun u=>bd (i x y z u)<|K x y z u)=some r):∃x,e=some x/\∃y,f x=some y/\∃z,g x y=some z/\∃u,h x y z=some u/\∃v,i x y z u=some v/\K x y z u v=some r:=by
 obtain⟨x,h1,y,h2,z,h3,u,h4,q⟩:=b4 q;obtain⟨v,h5,q⟩:=aN q;exact⟨x,h1,y,h2,z,h3,u,h4,v,h5,q⟩
def b6{K:α->β->γ->δ->ε->ζ->av8 ρ}(q:(bd e fun x=>bd (f x) fun y=>bd (g x y) fun z=>bd (h x y z) fun u=>bd (i x y z u) fun v=>bd (j x y z u v)<|K x y z u v)=some r):∃x,e=some x/\∃y,f x=some y/\∃z,g x y=some z/\∃u,h x y z=some u/\∃v,i x y z u=some v/\∃w,j x y z u v=some w/\K x y z u v w=some r:=by
 obtain⟨x,h1,y,h2,z,h3,u,h4,v,h5,q⟩:=b5 q;obtain⟨w,h6,q⟩:=aN q;exact⟨x,h1,y,h2,z,h3,u,h4,v,h5,w,h6,q⟩
end
section
variable[D:DR]
variable{P:Program}{w0:ar P}{H0:HV}{N:Nat}{ops:Array Oper}{Γ aA fy:Ctx}{l:List Oper}{d:Nat}{op:Op}{ty:TypeId}{pos:String}{af:Array Edge}{K:Ctx->Prop}{Q:Exit->Act->World->Prop}
variable{α β γ δ ε ζ ρ:Type}{r:ρ}{e:Option α}{f:α->Option β}{g:α->β->Option γ}{h:α->β->γ->Option δ}{i:α->β->γ->δ->Option ε}{j:α->β->γ->δ->ε->Option ζ}
variable{P:Program}{w0:ar P}{H0:HV}{N:Nat}{c:Code}{Q:Exit->Act->World->Prop}{Γ:Ctx}
def bn{e:av8 α}{K:α->av8 ρ}(q:bd e K=some r)(k:∀x,e=some x->K x=some r->Goal P w0 H0 N c Q Γ):Goal P w0 H0 N c Q Γ:=by
 obtain⟨x,h,q⟩:=aN q;exact k x h q
def kT{b:Bool}{d:α}{e:av8 α}{K:α->av8 ρ}(q:iJ b d e K=some r)(k:∀x,(b=true->e=some x)->K x=some r->Goal P w0 H0 N c Q Γ):Goal P w0 H0 N c Q Γ:=by
 obtain⟨x,h,q⟩:=Hy q;exact k x h q
def gcI{b:Bool}{K:av8 ρ}(q:gC b K=some r)(k:b=true->K=some r->Goal P w0 H0 N c Q Γ):Goal P w0 H0 N c Q Γ:=k (Fa q).1 (Fa q).2
def kM{K:α->β->av8 ρ}(q:(bd e fun x=>bd (f x)<|K x)=some r)(k:∀x,e=some x->∀y,f x=some y->K x y=some r->Goal P w0 H0 N c Q Γ):Goal P w0 H0 N c Q Γ:=
 bn q fun x h1 q=>bn q fun y h2 q=>k x h1 y h2 q
def wZ{K:α->β->γ->av8 ρ}(q:(bd e fun x=>bd (f x) fun y=>bd (g x y)<|K x y)=some r)(k:∀x,e=some x->∀y,f x=some y->∀z,g x y=some z->K x y z=some r->Goal P w0 H0 N c Q Γ):Goal P w0 H0 N c Q Γ:=
 kM q fun x h1 y h2 q=>bn q fun z h3 q=>k x h1 y h2 z h3 q
def Ql{K:α->β->γ->δ->av8 ρ}(q:(bd e fun x=>bd (f x) fun y=>bd (g x y) fun z=>bd (h x y z)<|K x y z)=some r)(k:∀x,e=some x->∀y,f x=some y->∀z,g x y=some z->∀u,h x y z=some u->K x y z u=some r->Goal P w0 H0 N c Q Γ):Goal P w0 H0 N c Q Γ:=
 wZ q fun x h1 y h2 z h3 q=>bn q fun u h4 q=>k x h1 y h2 z h3 u h4 q
def UX{K:α->β->γ->δ->ε->av8 ρ}(q:(bd e fun x=>bd (f x) fun y=>bd (g x y) fun z=>bd (h x y z) fun u=>bd (i x y z u)<|K x y z u)=some r)(k:∀x,e=some x->∀y,f x=some y->∀z,g x y=some z->∀u,h x y z=some u->∀v,i x y z u=some v->K x y z u v=some r->Goal P w0 H0 N c Q Γ):Goal P w0 H0 N c Q Γ:=
 Ql q fun x h1 y h2 z h3 u h4 q=>bn q fun v h5 q=>k x h1 y h2 z h3 u h4 v h5 q
def Qk{K:α->β->γ->δ->ε->ζ->av8 ρ}(q:(bd e fun x=>bd (f x) fun y=>bd (g x y) fun z=>bd (h x y z) fun u=>bd (i x y z u) fun v=>bd (j x y z u v)<|K x y z u v)=some r)(k:∀x,e=some x->∀y,f x=some y->∀z,g x y=some z->∀u,h x y z=some u->∀v,i x y z u=some v->∀w,j x y z u v=some w->K x y z u v w=some r->Goal P w0 H0 N c Q Γ):Goal P w0 H0 N c Q Γ:=
 UX q fun x h1 y h2 z h3 u h4 v h5 q=>bn q fun w h6 q=>k x h1 y h2 z h3 u h4 v h5 w h6 q
end
section
variable[D:DR]
variable{P:Program}{w0:ar P}{H0:HV}{N:Nat}{ops:Array Oper}{Γ aA fy:Ctx}{l:List Oper}{d:Nat}{op:Op}{ty:TypeId}{pos:String}{af:Array Edge}{K:Ctx->Prop}{Q:Exit->Act->World->Prop}
variable{t:Nat}{x y:Code}{b:Bool}{ρ α:Type}{r:ρ}
def gc{X Y:av8 ρ}(hl:look Γ t=some (.val<|bj b))(hm:cond b X Y=some r)(hx:b=true->X=some r->Goal P w0 H0 N x Q Γ)(hy:b=false->Y=some r->Goal P w0 H0 N y Q Γ):Goal P w0 H0 N (.cond (.tmp t) x y) Q Γ:=
 Gt hl (fun h=>hx h<|aj8 hm h) (fun h=>hy h<|aj9 hm h)
def cm{Pa:α->Ctx}{k:α->av8 ρ}{i:α}(hm:k i=some r)(h:S3 Γ ((Pa i).map (·.1))=some (Pa i)):oU w0 H0 N (fun a w=>Mid w0 H0 N Pa k r a w) Γ:=ani hm<|Jc h
def gl{σ:Type}(eI:σ->Ctx){n:Nat}{B:(σ->av8 ρ)->σ->av8 ρ}{s0:σ}{c:Code}(hm:lp n B s0=some r)(h0:S3 Γ ((eI s0).map (·.1))=some (eI s0))
  (round:∀(k:σ->av8 ρ) (s:σ),B k s=some r->Goal P w0 H0 N c (Exit.then (Mid w0 H0 N eI k r) Q) (eI s)):Goal P w0 H0 N (.loop c) Q Γ:=ac4 eI hm (Jc h0) round
end
section
variable[D:DR]
variable{P:Program}{w0:ar P}{H0:HV}{N:Nat}{ops:Array Oper}{Γ aA fy:Ctx}{l:List Oper}{d:Nat}{op:Op}{ty:TypeId}{pos:String}{af:Array Edge}{K:Ctx->Prop}{Q:Exit->Act->World->Prop}
variable{f:FuncId}{fn:Func}{t t' T:Nat}{T':TypeId}{τ Ey σ σ':Ty}{Q:Exit->Act->World->Prop}
def dR{c:Code}{args:att Ty}{dU:Res}{N:Nat}(hf:P.funcs[f]? =some fn)(hb:(fn.body,fn.ntmps)=(some c,N))(hc:(fR P f&&Nat.ble args.length N)=true)
  (h:∀{w0 H0},Goal P (ar.call P w0) H0 N c (CQ P fn (ar.call P w0) H0 dU)<|lC 0 args):fN P f args dU:=by
 rw[bY] at hc;rw[pg] at hb;exact Vz hf hb.1 hb.2 (gK hc.2) hc.1 fun _ _=>h
def r1(h:(((w0.X,w0.OG,w0.ds,w0.rd),fn.results),look Γ t)=(((Sh,false,[],none),[.tmp t].toArray),some<| .val τ)):oU w0 H0 N (fun a w=>CQ P fn w0 H0 (.vs [τ]) .ret a w) Γ:=by
 simp only[pg] at h;exact eM (by simp only[h]) h.1.2<| .tmp h.2 rfl .nil
def fz{ρ:Type}{r x:ρ}{F:ρ->Ty}(q:some x=some r)(h:(((w0.X,w0.OG,w0.ds,w0.rd),fn.results),look Γ t)=(((Sh,false,[],none),[.tmp t].toArray),some<| .val<|F x)):oU w0 H0 N (fun a w=>CQ P fn w0 H0 (.vs [F r]) .ret a w) Γ:=by
 cases q;exact r1 h
def r2(h:(((w0.X,w0.OG,w0.ds,w0.rd),fn.results),look Γ t,look Γ t')=(((Sh,false,[],none),[.tmp t,.tmp t'].toArray),some<| .val τ,some<| .val σ)):oU w0 H0 N (fun a w=>CQ P fn w0 H0 (.vs [τ,σ]) .ret a w) Γ:=by
 simp only[pg] at h;exact eM (by simp only[h]) h.1.2<| .tmp h.2.1 rfl<| .tmp h.2.2 rfl .nil
def q1(h:(((w0.X,w0.OG,w0.ds,w0.rd),fn.results),look Γ t)=(((Sh,false,[],none),[.cell t T].toArray),some<| .own T' τ))(hT:fM P T τ.n τ.agg=true):oU w0 H0 N (fun a w=>CQ P fn w0 H0 (.vs [τ]) .ret a w) Γ:=by
 simp only[pg] at h;exact eM (by simp only[h]) h.1.2<| .cell h.2 (nm hT) rfl .nil
def qV{ρ:Type}{r x:ρ}{F:ρ->Ty}(q:some x=some r)(h:(((w0.X,w0.OG,w0.ds,w0.rd),fn.results),look Γ t)=(((Sh,false,[],none),[.cell t T].toArray),some<| .own T'<|F x))(hT:fM P T (F x).n (F x).agg=true):oU w0 H0 N (fun a w=>CQ P fn w0 H0 (.vs [F r]) .ret a w) Γ:=by
 cases q;exact q1 h hT
end
section
variable[D:DR]
variable{P:Program}{w0:ar P}{H0:HV}{N:Nat}{ops:Array Oper}{Γ aA fy:Ctx}{l:List Oper}{d:Nat}{op:Op}{ty:TypeId}{pos:String}{af:Array Edge}{K:Ctx->Prop}{Q:Exit->Act->World->Prop}
variable{t d' k' off:Nat}{T T' T2 OH:TypeId}{σ:Ty}{L:List Ty}{pos':String}{O7:Array Edge}{acc:List Ctx}{R:List (List Nat)->List Bool->List Ctx->Prop}
def HK{Γ:Ctx}{t:Nat}{s:bO}:look ((t,s)::Γ) t=some s:=by simp[look]
def Ry{Γ:Ctx}{d t:Nat}{s s':bO}(h:Nat.beq d t=false)(k:look Γ t=some s'):look ((d,s)::Γ) t=some s':=by
 unfold look;rw[h];exact k
def o0(i:Nat)(h:look Γ t=some (.own T'<|ko L))(hf:vF P T k' off=true)(h1:pick L i off=some σ)(hT:fM P T2 σ.n σ.agg=true)(r:ck (fr N d (.ptr t off) Γ&&(!Nat.beq d t&&fr N d' (.val σ) ((d,.ptr t off)::Γ))) (CK P w0 N ops l ((d',.val σ)::(d,.ptr t off)::Γ) K)):
  CK P w0 N ops (⟨some d,.fieldAddr T (.tmp t) k',ty,pos,af,none⟩::⟨some d',.load T2<| .tmp d,OH,pos',O7,none⟩::l) Γ K:=by
 obtain⟨hb,hk⟩:=ck_ r;simp only[bY,jl] at hb;refine cP (bM h hf) ?_;rw[hb.1];refine cP (cq HK (Ry hb.2.1 h) (abB h1) hT) ?_;rw[hb.2.2];exact hk
def dQ(i:Nat)(h:look (acc.flatten++Γ) t=some (.own T'<|ko L))(hf:vF P T k' off=true)(h1:pick L i off=some σ)(hT:fM P T2 σ.n σ.agg=true)(r:ck (Nat.blt d N&&(Nat.blt d' N&& !Nat.beq d t)) (PK P N ops Γ ([(d',.val σ)]::[(d,.ptr t off)]::acc) l fun n p S=>R ([t]::[d,t]::n) (true::true::p) S)):
  PK P N ops Γ acc (⟨some d,.fieldAddr T (.tmp t) k',ty,pos,af,none⟩::⟨some d',.load T2<| .tmp d,OH,pos',O7,none⟩::l) R:=by
 obtain⟨hb,n,p,S,k1,k2⟩:=ck_ r;simp only[bY,jl] at hb;have e:look (([(d,bO.ptr t off)]::acc).flatten++Γ) d=some (.ptr t off):=by simpa using HK
 have e':look (([(d,bO.ptr t off)]::acc).flatten++Γ) t=some (.own T'<|ko L):=by simpa using Ry hb.2.2 h
 exact⟨_,_,S,.cons (.cons h .nil) (bM HK hf) rfl rfl (gk hb.1)<| .cons (.cons e<| .cons e' .nil) (cq HK (Ry hb.2.2 HK) (abB h1) hT) rfl rfl (gk hb.2.1) k1,k2⟩
end
section
variable[D:DR]
variable{P:Program}{w0:ar P}{H0:HV}{N:Nat}{ops:Array Oper}{Γ aA fy:Ctx}{l:List Oper}{d:Nat}{op:Op}{ty:TypeId}{pos:String}{af:Array Edge}{K:Ctx->Prop}{Q:Exit->Act->World->Prop}
variable{ρ:Type}{r:ρ}
def ae8{A B:Ctx}{ts us:att Nat}(h:ye Γ ts A)(k:ye Γ us B):ye Γ (ts++us) (A++B):=by
 induction h with
 |nil=>exact k
 |cons h _ ih=>exact .cons h ih
def jT{σ:Type}(ks:att Nat){Γ0:Ctx}(hk:S3 Γ ks=some Γ0)(eI:σ->Ctx){n:Nat}{B:(σ->av8 ρ)->σ->av8 ρ}{s0:σ}{c:Code}(hm:lp n B s0=some r)(h0:S3 Γ ((eI s0).map (·.1))=some (eI s0))
  (round:∀(k:σ->av8 ρ) (s:σ),B k s=some r->Goal P w0 H0 N c (Exit.then (Mid w0 H0 N (fun s=>eI s++Γ0) k r) Q) (eI s++Γ0)):Goal P w0 H0 N (.loop c) Q Γ:=ac4 (fun s=>eI s++Γ0) hm (ae8 (Jc h0)<|Jc hk) round
def xu{α:Type}(ks:att Nat){Γ0:Ctx}(hk:S3 Γ ks=some Γ0)(Pa:α->Ctx){K:α->av8 ρ}{E:(α->av8 ρ)->av8 ρ}{x:Code}(hm:jn K E=some r)
  (h:∀k,E k=some r->Goal P w0 H0 N x (Exit.then (Mid w0 H0 N (fun s=>Pa s++Γ0) k r) Q) Γ)(kk:∀i,K i=some r->oU w0 H0 N (Q .normal) (Pa i++Γ0)):Goal P w0 H0 N x Q Γ:=Eg (fun s=>Pa s++Γ0) hm h kk
end
section
variable{α:Type}{c:α->α->Option Int}
def xN{α ρ:Type}{e:av8 α}{K:α->av8 ρ}{r:ρ}(h:bd e K=some r):∃x,e=some x/\K x=some r:=by
 cases e with
 |none=>cases h
 |some x=>exact⟨x,rfl,h⟩
def E9:∀{l r:att α} {x:α},KM c x l=some r->r.Perm (x::l)
 |[],r,x,h=>by cases h;exact .refl _
 |y::l,r,x,h=>by
  obtain⟨k,_,h⟩:=xN h;cases hb:decide (k<0) with
  |true=>
   rw[hb] at h;obtain⟨r',hr,h⟩:=xN (K:=fun r=>some (y::r)) h;cases h;exact((E9 hr).cons y).trans<| .swap x y l
  |false=>
   rw[hb] at h;have h:some (x::y::l)=some r:=h;cases h;exact .refl _
def PY:∀(l:att α) (s r:att α),Oh l (fun next x s=>bd (KM c x s) next) s (fun s=>some s.reverse)=some r->r.Perm (s++l)
 |[],s,r,h=>by
  have h:some s.reverse=some r:=h;cases h;simpa using s.reverse_perm
 |x::l,s,r,h=>by
  obtain⟨s',hs,h⟩:=xN h;refine(PY l s' r h).trans ?_;refine((E9 hs).append_right l).trans ?_;exact List.perm_middle.symm
def Kc{l r:att α}(h:RI c l=some r):r.Perm l:=by
 simpa using PY l [] r h
end
section
variable{α:Type}[DecidableEq α]{c:α×α->Option Int}
variable{s:att α}
def Qp:∀{l:att α} {x:α},aaC c x l=true->∀y∈l,x=y\/∃i j,c (x,y)=some i/\c (y,x)=some j/\i<0/\0<=j
 |[],_,_,y,hy=>by cases hy
 |z::l,x,h,y,hy=>by
  unfold aaC at h;rw[bY] at h;rcases aY.1 hy with e|hy
  ·subst e;cases hd:decide (x=y) with
   |true=>exact .inl<|aZ hd
   |false=>
    rw[hd] at h;refine .inr ?_;have h:=h.1;simp only[a8] at h;split at h
    ·rename_i i j e1 e2;rw[bY,jc,jc] at h;exact⟨i,j,e1,e2,h.1,h.2⟩
    ·cases h
  ·exact Qp h.2 y hy
def GB:∀{s:att α},Ep c s=true->(∀x∈s,∃i,c (x,x)=some i/\0<=i)/\s.Pairwise fun x y=>x=y\/∃i j,c (x,y)=some i/\c (y,x)=some j/\i<0/\0<=j
 |[],_=>⟨fun x h=>(by cases h),.nil⟩
 |x::s,h=>by
  unfold Ep at h;rw[bY,bY] at h;obtain⟨h1,h2,h3⟩:=h;obtain⟨k1,k2⟩:=GB h3;refine⟨fun y hy=>?_,.cons (Qp h2) k2⟩;rcases aY.1 hy with e|hy
  ·subst e;split at h1
   ·rename_i i e;exact⟨i,e,aZ h1⟩
   ·cases h1
  ·exact k1 y hy
def RL{x:α}(h:x∈s):∃hl:s.idxOf x<s.length,s[s.idxOf x]=x:=
 ⟨List.idxOf_lt_length_iff.2 h,List.getElem_idxOf _⟩
def Hl(h:Ep c s=true){x y:α}(hx:x∈s)(hy:y∈s){v:Int}(hv:c (x,y)=some v):v<0↔s.idxOf x<s.idxOf y:=by
 obtain⟨k1,k2⟩:=GB h;obtain⟨lx,ex⟩:=RL hx;obtain⟨ly,ey⟩:=RL hy;have pw:=LP.1 k2;rcases Nat.lt_trichotomy (s.idxOf x) (s.idxOf y) with hlt|heq|hgt
 ·have:=pw _ _ lx ly hlt;rw[ex,ey] at this;rcases this with e|⟨i,j,e1,e2,h1,h2⟩
  ·subst e;omega
  ·rw[hv] at e1;cases e1;exact⟨fun _=>hlt,fun _=>h1⟩
 ·have:x=y:=by rw[<-ex,<-ey];congr 1
  subst this;obtain⟨i,e,hi⟩:=k1 x hx;rw[hv] at e;cases e;omega
 ·have:=pw _ _ ly lx hgt;rw[ex,ey] at this;rcases this with e|⟨i,j,e1,e2,h1,h2⟩
  ·subst e;omega
  ·rw[hv] at e2;cases e2;omega
def SZ(h:Ep c s=true):s.Pairwise fun x y=>s.idxOf x<=s.idxOf y:=by
 obtain⟨k1,k2⟩:=GB h;refine LP.2 fun i j hi hj Vh=>?_
 rcases LP.1 k2 i j hi hj Vh with e|⟨a,b,e1,e2,h1,h2⟩
 ·rw[e];exact bp _
 ·have:=(Hl h (rY hi) (rY hj) e1).1 h1;omega
def Pr{r:att α}(h:Ep c s=true)(hp:r.Perm s)(hr:r.Pairwise fun x y=>s.idxOf x<=s.idxOf y):r=s:=by
 refine List.Perm.eq_of_pairwise (le:=fun x y=>s.idxOf x<=s.idxOf y) ?_ hr (SZ h) hp;intro a b ha hb h1 h2;obtain⟨la,ea⟩:=RL<|hp.mem_iff.1 ha
 obtain⟨lb,eb⟩:=RL hb;have e:s.idxOf a=s.idxOf b:=by omega
 rw[<-ea,<-eb]
 congr 1
def xg{l:att α}(h:nC l c=some s):s.Perm l/\Ep c s=true/\(∀x∈l,∀y∈l,∃v,c (x,y)=some v)/\l.length<4611686018427387904:=by
 obtain⟨s',hs,h⟩:=xN h;unfold Bl at h;cases hb:Nat.blt l.length 4611686018427387904&&(totB c l&&Ep c s') with
 |false=>rw[hb] at h;cases h
 |true=>
  rw[hb] at h;cases h;rw[bY,bY] at hb;refine⟨Kc hs,hb.2.2,fun x hx y hy=>?_,gK hb.1⟩;have:=dI.1 hb.2.1 x hx;have:=dI.1 this y hy;exact Option.isSome_iff_exists.1 this
end
def O{α:Sort _}{a:α}:a=a:=rfl
def dY{α:Type}{f:α->Ty}{sz:Nat}(h:(fun z=>(f z).n)=fun _=>sz):∀z,(f z).n=sz:=congrFun h
abbrev TiZ(n:Int):Ty:=TI .i64 n
abbrev ad3:=List UInt8
abbrev av5:=ad3×ad3×ad3
end Trn
