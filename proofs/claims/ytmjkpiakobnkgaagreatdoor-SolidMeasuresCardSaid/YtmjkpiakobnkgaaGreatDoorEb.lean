/- Part of SolidMeasures. -/
import Derived.Test.YtmjkpiakobnkgaaGreatDoorEa
set_option maxRecDepth 100000
set_option maxHeartbeats 20000000
set_option linter.all false
open Go Go.RowKit Go.Proofs
namespace Trn
section
variable[D:DR]
variable{P:Program}{w0:Ah P}{H0:HV}{N:Nat}{ops:Array Oper}{Q:Exit->Act->World->Prop}{Γ Aq:Ctx}{d:Option Tmp}{ty:TypeId}{pos:String}{af:Array Edge}{g:Option (Nat×Bool)}
variable{t:Nat}{ps:A3 Bu}{T:Ap}{w:AR}{H:HV}{p i:Nat}{gg:Bool}{l:A3 Ty}{T':Ap}{a:Act}{sz off:Nat}{pp:Bu}{B:Ah P}{x:CR}{u:Nat}{E:Ap}{Ai:Ctx}{Eb:Ap}
theorem aaZ(BI:∀q∈Ai,q∈Γ){dd:Nat}(sm:Bool)(hp:FZ Ai p t off)(ht:look Ai t=some (.DA T' gg ps))(hi:ps[i]? =some pp)(ho:Bt ps i=off)(h1:pp.n=1)(hg:pp.agg=false)(hT:Bv P T 1 false=true)
 (DN:dd<N)(hne:dd≠t)(hd:dd∉RD ps):Step P N ops ⟨some dd,.load T<| .tmp p,ty,pos,af,none⟩ Γ ((dd,pp.sty)::(t,.DA T' gg<|ps.set i<|Su dd sm)::del dd (BL t Γ)):=by
 intro w0 H0 a w H BJ K Q k;simp[Region.wanted,if_true];let⟨b,cs,e,ep,hb,hn,hm,Az,IU,hx⟩:=hp.ok ht<|BJ.weaken BI
 subst ho;let⟨h2,h3,h4,h5⟩:=R2 Az hi;have FC:=y5 (p:=pp) (by rw[h1,hg];exact hT) hb Az hi
 generalize hv:pv pp (Bt ps i) cs.toList=v at*
 unfold Oper.wp;have er:(execOp a.eval ⟨some dd,.load T<| .tmp p,ty,pos,af,none⟩).run P w= .ok (.value v) w:=by simp[execOp,ep,Instr.loadAt,Instr.sureAddr,FC]
 rw[er,OW];have hv1:v.oneCell'=true:=by rw[h1,hg] at h3;exact(nG h3).1
 have HR:(Su dd sm).n=pp.n:=by rw[h1];cases sm<;>rfl
 have CW:Shape (Su dd sm).n (Su dd sm).agg v:=by rw[h1,hg] at h3;cases sm<;>exact h3
 have tJ:Iz w0 (a.put (some dd) v) w H ps cs.toList:=U9 (λu hu=>PL<|λe=>hd<|e▸hu) Az;have hq:(Su dd sm).holds w0 (a.put (some dd) v) w H v:=by
  cases sm
  .exact Shape.one hv1
  .exact⟨(Vf (by rw[BJ.sz];exact DN)).symm,hv1⟩
 have FJ:∀c,¬(Su dd sm).owns w v c:=λc h=>by cases sm<;>exact h
 let⟨ED,hcs,k1,k2,k3⟩:=W0 tJ IU hi CW HR hq<|λc hc=>absurd hc<|FJ c
 have hcc:ED=cs.toList:=by rw[hcs,<-hv];exact gZ Az hi
 rw[hcc] at k1 k2 k3;refine k _ _ H (aiv BJ (BI _<|BD ht) DN hne (by rw[Bu.aij];simp) ?_ (Bu.aim h4) ?_ ?_ ?_)
 .refine⟨b,cs,e,hb,hn,hm,k1,k2,λhc=>?_⟩;rcases k3 b hc with h|h
  .exact FJ b h
  .exact hx h.1
 .rintro c ⟨c',e',hc⟩;simp[e] at e';cases e';refine⟨b,e,?_⟩;rcases hc with hc|⟨cs2,hb2,hc⟩
  .exact .inl hc
  .grind
 .intro c hc;exact⟨b,e,.inr ⟨cs,hb,PO.2 ⟨i,pp,hi,by rw[hv];exact Bu.Yr.1 hc⟩⟩⟩
 .rintro c hc ⟨c',e',FR⟩;simp[e] at e';cases e';have hc:=Bu.Yr.1 hc;rcases FR with FR|⟨cs2,hb2,FR⟩
  .subst FR;exact hx (PO.2 ⟨i,pp,hi,by rw[hv];exact hc⟩)
  .grind
theorem po(BI:∀q∈Ai,q∈Γ){q:Bu}(hp:FZ Ai p t off)(ht:look Ai t=some (.DA T' gg ps))(hi:ps[i]? =some pp)(ho:Bt ps i=off)(hn:q.n=pp.n)
 (hT:Bv P T q.n q.agg=true)(hq:∀(a:Act) (w:AR) (H:HV),Sat w0 H0 N Ai a w H->Shape q.n q.agg (a.eval x)/\q.holds w0 a w H (a.eval x))(FJ:∀w v b,¬q.owns w v b)
 (BJ:Sat w0 H0 N Γ a w H){K:Act->AR->Prop}(k:∀w',Sat w0 H0 N ((t,.DA T' gg<|ps.set i q)::BL t Γ) a w' H->K a w'):(⟨none,.store T (.tmp p) x,ty,pos,af,none⟩:Oper).wp P a w K Q:=by
 let⟨b,cs,e,ep,hb,KU,hm,Az,IU,hx⟩:=hp.ok ht<|BJ.weaken BI
 subst ho;let⟨CW,hqh⟩:=hq a w H<|BJ.weaken BI
 let⟨h2,_,_,_⟩:=R2 Az hi;let⟨ED,hcs,k1,k2,k3⟩:=W0 Az IU hi CW hn hqh<|λc hc=>absurd hc<|FJ _ _ c
 have FC:=TT (P:=P) (x:=a.eval x) (off:=Bt ps i) (U4 hT) CW.size hb (by rw[hn];simpa using h2) CW.cell;rw[hn,<-hcs] at FC;unfold Oper.wp;have er:(execOp a.eval ⟨none,.store T (.tmp p) x,ty,pos,af,none⟩).run P w= .ok .skip (w.setRow b ED.toArray):=by simp[execOp,ep,Instr.storeAt,Instr.sureAddr,FC]
 rw[er,Qk];have hg:Ef w (w.setRow b ED.toArray) (some b):=Ef.setRow w b _;have Bg:(w.setRow b ED.toArray).heap[b]? =some (.cells ED.toArray T' (0,0)):=UC w b _ _ _ _ hb;have hnx: ¬GN w b (ps.set i q) ED:=λhc=>by
  rcases k3 b hc with h|h
  .grind
  .exact hx h.1
 have far:=gw (w':=w.setRow b ED.toArray) (H':=H) (HV.le.refl H) k1 (λc hc=>⟨hg.block c (QR k1 hc).1 (λe=>by cases e;exact hnx hc),rfl⟩);refine k _ (PB BJ (BI _<|BD ht) hg hm ⟨b,e,.inl rfl⟩ ⟨b,ED.toArray,e,Bg,KU,hm,by simpa using far.1,by simpa using far.2.2 k2,by simpa using λh=>hnx<|(far.2.1 b).1 h⟩ ?_);rintro c ⟨c',e',hc⟩;simp[e] at e';cases e';rcases hc with hc|⟨cs2,hb2,hc⟩
 .subst hc;exact .inl ⟨c,e,.inl rfl⟩
 .rw[Bg] at hb2;cases hb2;have hc:=(far.2.1 c).1 (by simpa using hc);rcases k3 c hc with h|h
  .grind
  .exact .inl ⟨b,e,.inr ⟨cs,hb,h.1⟩⟩
def aoc{σ:Ty}(hp:FZ Γ p t off)(ht:look Γ t=some (.DA T' gg ps))(hi:ps[i]? =some pp)(ho:Bt ps i=off)(hx:Arg Γ x σ)(hn:σ.n=pp.n)(hT:Bv P T σ.n σ.agg=true):Step P N ops ⟨none,.store T (.tmp p) x,ty,pos,af,none⟩ Γ ((t,.DA T' gg<|ps.set i<| .val σ)::BL t Γ):=by intro w0 H0 a w H hs K Q k;simp[Region.wanted,if_true];exact po (λ_ h=>h) (q:= .val σ) hp ht hi ho hn hT (λa w H hs=>⟨σ.shape<|hx.ok hs,hx.ok hs⟩) (λ_ _ _ h=>h) hs λw' DQ=>k a w' H DQ
inductive Q9(Γ:Ctx)(u:Nat):Prop where
 |buf {E:Ap} {sz:Nat} {l:A3 Ty} (h:look Γ u=some (.buf E sz l))|H4 {K E Eb:Ap} {sz:Nat} {l:A3 (Ty×DI)} (h:look Γ u=some (.H4 K E Eb sz l))|DA {T:Ap} {g:Bool} {l:A3 Bu} (h:look Γ u=some (.DA T g l))
def Q9.ok(h:Q9 Γ u)(hs:Sat w0 H0 N Γ a w H):(Ae a u).oneCell'=true:=by
 cases h with
 |buf h=>
  let⟨xs,⟨_,hr⟩,_,_⟩:=hs.holds _<|BD h
  rcases hr with⟨e,_⟩|⟨g,cap,cur,e,_⟩
  .simp only at e;rw[e];rfl
  .simp only at e;rw[e];rfl
 |H4 h=>
  let⟨r,es,e,_⟩:=hs.holds _<|BD h
  simp only at e;rw[e];rfl
 |DA h=>
  let⟨b,cs,e,_⟩:=hs.holds _<|BD h
  simp only at e;rw[e];rfl
def qy(hp:FZ Γ p t off)(ht:look Γ t=some (.DA T' gg ps))(hi:ps[i]? =some pp)(ho:Bt ps i=off)(hu:Q9 Γ u)(hn:pp.n=1)(hT:Bv P T 1 false=true):Step P N ops ⟨none,.store T (.tmp p)<| .tmp u,ty,pos,af,none⟩ Γ ((t,.DA T' gg<|ps.set i<| .sm u)::BL t Γ):=by intro w0 H0 a w H hs K Q k;simp[Region.wanted,if_true];exact po (λ_ h=>h) (x:= .tmp u) (q:= .sm u) hp ht hi ho hn.symm hT (λa w H hs=>⟨Shape.one<|hu.ok hs,rfl,hu.ok hs⟩) (λ_ _ _ h=>h) hs λw' DQ=>k a w' H DQ
def pj(hp:FZ Γ p t off)(ht:look Γ t=some (.DA T' gg ps))(hi:ps[i]? =some pp)(ho:Bt ps i=off)(hu:Q9 Γ u)(hn:pp.n=1)(hT:Bv P T 1 false=true):P3 P N ops Γ ⟨none,.store T (.tmp p)<| .tmp u,ty,pos,af,none⟩ t (.DA T' gg<|ps.set i<| .sm u):=λEP BI=>by intro w0 H0 a w H hs K Q k;simp[Region.wanted,if_true];exact po BI (x:= .tmp u) (q:= .sm u) hp ht hi ho hn.symm hT (λa w H hs=>⟨Shape.one<|hu.ok hs,rfl,hu.ok hs⟩) (λ_ _ _ h=>h) hs λw' DQ=>k a w' H DQ
theorem na{s':AS}{us:A3 Nat}{G:Ctx}(hs:Sat w0 H0 N Γ a w H)(ht:∀q∈G,q∈Γ/\q.1≠t)(hh:s'.holds w0 a w H (Ae a t))
 (ho:∀b,s'.owns w (Ae a t) b->∃p∈Γ,(p.1=t\/p.1∈us)/\p.2.owns w (Ae a p.1) b)(hu:∀q∈G,q.1∉us):Sat w0 H0 N ((t,s')::G) a w H:=by
 have key:∀q∈G,∀b,s'.owns w (Ae a t) b-> ¬q.2.owns w (Ae a q.1) b:=λq hq b hb hqb=>by
  let⟨p,hp,h1,h2⟩:=ho b hb;refine hs.sep p hp q (ht q hq).1 (λe=>?_) b h2 hqb;rcases h1 with h1|h1
  .grind
  .grind
 refine⟨hs.nd,hs.sz,hs.below,hs.Fj,hs.sub,?_,?_,hs.gl⟩
 .intro q hq;rcases Am.1 hq with e|hq
  .subst e;exact hh
  .exact hs.holds q (ht q hq).1
 .intro q hq r hr hn b hb Bg;rcases Am.1 hq with e|hq<;>rcases Am.1 hr with e'|hr
  .grind
  .grind
  .grind
  .exact hs.sep q (ht q hq).1 r (ht r hr).1 hn b hb Bg
theorem ao9{w0:Ah P}(pp:Bu)(ht:look Γ t=some (.DA T' gg ps))(hi:ps[i]? =some (.sm u))(hu:look Γ u=some pp.sty)(hne:(u !=t)=true)(hpp:(pp.n,pp.agg)=(1,false))(hg: ¬pp.sty= .gone):IH w0 N Γ ((t,.DA T' gg<|ps.set i pp)::BL t (BL u Γ)):=λH0 a w H hs=>by
 let⟨b,cs,e,hb,KU,hm,Az,IU,hx⟩:=hs.holds _<|BD ht
 have hph:=hs.holds _<|BD hu
 simp only at e hph;have hut:u≠t:=by simpa using hne
 let⟨_,h3,h4,_⟩:=R2 Az hi;have hv:pv (.sm u) (Bt ps i) cs.toList=Ae a u:=h4.1;have h1:pp.n=1:=congrArg Prod.fst hpp;have h2:pp.agg=false:=congrArg Prod.snd hpp;have CW:Shape pp.n pp.agg (Ae a u):=by rw[h1,h2,<-hv];exact h3
 have hq:pp.holds w0 a w H (Ae a u):=by cases pp with|buf E sz l=>exact hph|map K E Eb sz Ec=>exact hph|val τ=>exact absurd rfl hg|any n g=>exact absurd rfl hg|sm v=>exact absurd rfl hg
 have tG:∀c,pp.owns w (Ae a u) c-> ¬GN w c ps cs.toList:=λc hc ho=>by refine hs.sep _ (BD hu) _ (BD ht) hut c (Bu.Yr.2 hc) ⟨b,e,.inr ⟨cs,hb,ho⟩⟩
 have awO: ¬pp.owns w (Ae a u) b:=λhc=>hs.sep _ (BD hu) _ (BD ht) hut b (Bu.Yr.2 hc) ⟨b,e,.inl rfl⟩
 let⟨ED,hcs,k1,k2,k3⟩:=W0 Az IU hi CW (by rw[h1];rfl) hq<|λc hc=> .inr<|tG c hc
 have hcc:ED=cs.toList:=by rw[hcs,<-hv];exact gZ Az hi
 rw[hcc] at k1 k2 k3;refine⟨H,na (us:=[u]) hs (λq hq=>⟨(DO q (DO q hq).1).1,(DO q hq).2⟩) ⟨b,cs,e,hb,KU,hm,k1,k2,λhc=>?_⟩ ?_ (λq hq=>by simpa using(DO q (DO q hq).1).2)⟩
 .grind
 .rintro c ⟨c',e',hc⟩;simp[e] at e';cases e';rcases hc with hc|⟨cs2,hb2,hc⟩
  .exact⟨_,BD ht,.inl rfl,b,e,.inl hc⟩
  .rw[hb] at hb2;cases hb2;rcases k3 c hc with h|h
   .exact⟨_,BD hu,.inr (by simp),Bu.Yr.2 h⟩
   .exact⟨_,BD ht,.inl rfl,b,e,.inr ⟨cs,hb,h.1⟩⟩
inductive Gw:A3 Ty->A3 Bu->Prop where
 |nil:Gw [] []|val {τ:Ty} {l:A3 Ty} {ps:A3 Bu} (r:Gw l ps):Gw (τ::l) (.val τ::ps)|buf {α:Type} {f:α->Ty} {x:A3 α} {E:Ap} {sz:Nat} {l:A3 Ty} {ps:A3 Bu} (hx:x=[]) (r:Gw l ps):Gw (TN f x::l) (.buf E sz []::ps)
def y7:Kk B w H E sz [] (.slice none 0 0):=⟨[],⟨by simp,.inl ⟨rfl,rfl⟩⟩,rfl,λb h=>by simp[Value.ownBlock] at h⟩
theorem Gw.ok(h:Gw l ps):∀{cs:A3 AV},Db H l cs->Iz B a w H ps cs/\(∀b,¬GN w b ps cs)/\O4 w ps cs:=by
 induction h with
 |nil=>exact λe=>⟨e,λ_ h=>h,trivial⟩
 | @val τ l ps r ih=>
  rintro cs ⟨v,rest,e,hv,hr⟩;subst e;let⟨h1,h2,h3⟩:=ih hr;have hd:=(QX (p:= .val τ) (rest:=rest)<|τ.shape hv).2;refine⟨⟨v,rest,rfl,τ.shape hv,hv,h1⟩,λb h=>?_,λb h=>h.elim,?_⟩
  .rcases h with h|h
   .exact h
   .grind
  .rw[hd];exact h3
 | @buf α f x E sz l ps hx r ih=>
  rintro cs ⟨v,rest,e,hv,hr⟩;subst e;subst hx;let⟨h1,h2,h3⟩:=ih hr;have ev:=hv.2 rfl;subst ev;have CW:Shape (Bu.buf E sz []).n (Bu.buf E sz []).agg (.slice none 0 0):=Shape.one rfl;let⟨e1,hd⟩:=QX (p:= .buf E sz []) (rest:=rest) CW;refine⟨⟨_,rest,rfl,CW,y7,h1⟩,λb h=>?_,λb h=>?_,?_⟩
  .rcases h with h|h
   .rw[e1] at h;simp[Bu.owns,Value.ownBlock] at h
   .grind
  .grind
  .rw[hd];exact h3
def aa3:∀H v,(DH l).ok H v->Db H l v.cells.toList:=λ_ _ ⟨cs,e,h⟩=>by subst e;exact h
def aa2{τ:Ty}:∀H v,τ.ok H v->Db H [τ] v.cells.toList:=λ_ v h=>⟨v,[],by simp,h,rfl⟩
def DI.pub:DI->Ty
 | .val τ=>τ| .buf l=>GJ l| .any=>TM ⟨#[]⟩
def DI.isAny:DI->Bool
 | .any=>true|_=>false
def kM(p:Ty×DI):Ty×Ty:=(p.1,p.2.pub)
def aa9{B:Ah P}{w:AR}{H H':HV}{Eb:Ap}{sz:Nat}(hle:HV.le H H'):∀{i:Nat} {l:A3 (Ty×DI)} {es:A3 MapEntry},KQ B w H Eb sz i l es->(∀p∈l,p.2.isAny=false)->(∀b,Hq b l es->H' b=w.heap[b]?)->okM H' i (l.map kM) es
 |_,[],[],_,_,_=>trivial|_,[],_::_,h,_,_=>h.elim|_,(_,_)::_,[],h,_,_=>h.elim
 |i,(k,e)::l,x::xs,⟨h1,h2,h3,h4⟩,hn,hw=>by refine⟨k.mono hle h1,?_,h3,aa9 hle h4 (λp hp=>hn p (by simp[hp])) λb hb=>hw b<| .inr hb⟩;cases e with|val τ=>exact τ.mono hle h2|any=>have:=hn (k,.any) (by simp);cases this|buf bl=>exact Wh (a:=⟨#[],[]⟩) (B:=B) h2 hle λb hb _ o ho=>by rw[hw b<| .inl hb];exact ho
def ajS{H':HV}{Ec:A3 (Ty×DI)}{v:AV}(hle:HV.le H H')(h:RG B w H Eb sz Ec v)(hn:∀p∈Ec,p.2.isAny=false)(hw:∀b,PZ w Ec v b->H' b=w.heap[b]?):(kW<|Ec.map kM).ok H' v:=by let⟨r,es,e,hr,_,_,ho,_⟩:=h;subst e;exact⟨r,es,rfl,by rw[hw r<| .inl rfl];exact hr,aa9 hle ho hn λb hb=>hw b<| .inr ⟨r,es,rfl,hr,hb⟩⟩
theorem akA(BI:∀q∈Ai,q∈Γ){ps':A3 Bu}(hp:FZ Ai p t 0)(ht:look Ai t=some (.DA T true ps))(hx:Arg Ai x (DH l))(hl:Gw l ps')(hn:(ps.map Bu.n).sum=CS l)(hT:Bv P T (CS l) true=true)
 (BJ:Sat w0 H0 N Γ a w H){K:Act->AR->Prop}(k:∀w',Sat w0 H0 N ((t,.DA T true ps')::BL t Γ) a w' H->K a w'):(⟨none,.store T (.tmp p) x,ty,pos,af,none⟩:Oper).wp P a w K Q:=by
 let⟨b,cs,e,ep,hb,KU,hm,Az,IU,hx'⟩:=hp.ok ht<|BJ.weaken BI
 have hxo:=hx.ok<|BJ.weaken BI
 have CW:=(DH l).shape hxo;let⟨ys,ey,hy⟩:=hxo;have hcs:cs.size=CS l:=by have:=aa7 Az;simpa[hn] using this
 have hsz:(a.eval x).cells.size=CS l:=CW.size;have FC:=TT (P:=P) (x:=a.eval x) (off:=0) (U4 hT) hsz hb (by omega) CW.cell;rw[List.take_zero,NG (by simp[hcs]),Ie,K9,Array.toArray_toList] at FC;rw[ey] at FC;unfold Oper.wp;have er:(execOp a.eval ⟨none,.store T (.tmp p) x,ty,pos,af,none⟩).run P w= .ok .skip (w.setRow b ys):=by simp[execOp,ep,Instr.storeAt,Instr.sureAddr,ey,FC,Value.cells]
 rw[er,Qk];have hg:Ef w (w.setRow b ys) (some b):=Ef.setRow w b _;have Bg:(w.setRow b ys).heap[b]? =some (.cells ys T (0,0)):=UC w b _ _ _ _ hb;let⟨k1,k2,k3⟩:=hl.ok (B:=w0) (a:=a) (w:=w.setRow b ys) hy;refine k _<|PB BJ (BI _<|BD ht) hg hm ⟨b,e,.inl rfl⟩ ⟨b,ys,e,Bg,KU,hm,k1,k3,k2 _⟩ ?_
 rintro c ⟨c',e',hc⟩;simp[e] at e';cases e';rcases hc with hc|⟨cs2,hb2,hc⟩
 .subst hc;exact .inl ⟨c,e,.inl rfl⟩
 .grind
def amS(ps':A3 Bu)(hp:FZ Γ p t 0)(ht:look Γ t=some (.DA T true ps))(hx:Arg Γ x (DH l))(hl:Gw l ps')(hn:(ps.map Bu.n).sum=CS l)(hT:Bv P T (CS l) true=true):Step P N ops ⟨none,.store T (.tmp p) x,ty,pos,af,none⟩ Γ ((t,.DA T true ps')::BL t Γ):=by intro w0 H0 a w H hs K Q k;simp[Region.wanted,if_true];exact akA (λ_ h=>h) hp ht hx hl hn hT hs λw' DQ=>k a w' H DQ
inductive Mr:A3 Bu->A3 Ty->Prop where
 |n:Mr [] []|c {τ:Ty} {l:A3 Ty} {ps:A3 Bu} (r:Mr ps l):Mr (.val τ::ps) (τ::l)
def Mr.ok(h:Mr ps l):∀{cs:A3 AV},Iz B a w H ps cs->Db H l cs:=by induction h with|n=>exact λe=>e|c r ih=>rintro cs ⟨v,rest,e,_,hv,hr⟩;exact⟨v,rest,e,hv,ih hr⟩
def aa6(hp:FZ Γ p t 0)(ht:look Γ t=some (.DA T true ps))(hl:Mr ps l)(hT:Bv P T (CS l) true=true):B0 P Γ ⟨d,.load T<| .tmp p,ty,pos,af,g⟩ (.val<|DH l):=
 Dp λ_ _ _ a w _ hs=>by
  let⟨b,cs,e,ep,hb,_,_,Az,_⟩:=hp.ok ht hs;have h1:=hl.ok Az;have h2:cs.size=CS l:=by have:=N6 h1;simpa using this
  have h3:=Rp (off:=0) hT hb (by omega);rw[Pg,D6 (by simp[h2])] at h3;exact⟨.agg cs,by simp[execOp,ep,Instr.loadAt,Instr.sureAddr,h3,H6],⟨cs,rfl,h1⟩,rfl⟩
open Classical in
theorem alN{w0:Ah P}(ht:look Γ t=some (.DA T gg ps))(hi:ps[i]? =some (.buf E sz l)):IH w0 N Γ ((t,.DA T gg<|ps.set i<| .val<|GJ l)::BL t Γ):=λH0 a w H hs=>by
 let⟨b,cs,e,hb,KU,hm,Az,IU,hx⟩:=hs.holds _<|BD ht
 simp only at e;let⟨_,h3,h4,_⟩:=R2 Az hi;have jr:=gZ Az hi
 generalize hv:pv (.buf E sz l) (Bt ps i) cs.toList=v at*
 obtain⟨S,hS⟩:∃S:Nat->Prop,∀c,S c↔v.ownBlock=some c:=⟨_,λ_=>Iff.rfl⟩;have hlt:=(FX.1 hi).1;have hown:∀c,v.ownBlock=some c->GN w c ps cs.toList:=λc hc=>PO.2 ⟨i,_,hi,by rw[hv];exact hc⟩
 let⟨ED,hcs,k1,k2,k3⟩:=W0 (q:= .any 1 false) (x:=v) Az IU hi h3 rfl h3<|λc hc=>hc.elim
 rw[show ED=cs.toList by rw[hcs];exact jr] at k1 k2 k3;have hle:HV.le H (λr=>if S r then w.heap[r]? else H r):=by
  intro r o ho;by_cases e:S r
  .rw[(QR Az<|hown r<|(hS r).1 e).2.2.1] at ho;cases ho
  .simp[e,ho]
 have no:∀c,GN w c (ps.set i<| .any 1 false) cs.toList->GN w c ps cs.toList/\ ¬S c:=λc hc=>by
  rcases k3 c hc with h|h
  .exact h.elim
  .exact⟨h.1,λh'=>h.2 (by rw[hv];exact(hS c).1 h')⟩
 let⟨f1,f2,f3⟩:=gw (w':=w) hle k1 (λc hc=>⟨rfl,by simp[(no c hc).2]⟩);have hi':(ps.set i<| .any 1 false)[i]? =some (.any 1 false):=Wb hlt;have tK:Bt (ps.set i<| .any 1 false) i=Bt ps i:=(qL (q:= .any 1 false) Az hi h3 rfl h3).2.1;have Kq:(GJ l).ok (λr=>if S r then w.heap[r]? else H r) v:=Wh (a:=a) h4 hle (λc hc _ o ho=>by have:S c:=(hS c).2 hc;simp[this,ho]);let⟨cs2,tP,m1,m2,m3⟩:=W0 (q:= .val<|GJ l) (x:=v) f1 (f3 k2) hi' ((GJ l).shape Kq) rfl Kq<|λc hc=>hc.elim
 rw[show cs2=cs.toList by rw[tP,tK];exact jr,List.set_set] at m1 m2 m3;have nw:∀c,GN w c (ps.set i<| .val<|GJ l) cs.toList->GN w c ps cs.toList:=λc hc=>by
  rcases m3 c hc with h|h
  .exact h.elim
  .grind
 have hSb: ¬S b:=λh=>hx<|hown b<|(hS b).1 h
 refine⟨_,vn hs (BD ht) S (λc hc=>⟨⟨b,e,.inr ⟨cs,hb,hown c<|(hS c).1 hc⟩⟩,(QR Az<|hown c<|(hS c).1 hc).2.1⟩) ⟨b,cs,e,hb,by simp[hSb,KU],hm,m1,m2,λhc=>hx<|nw b hc⟩ ?_⟩;rintro c ⟨c',e',hc⟩;rw[e] at e';cases e';refine⟨b,e,?_⟩;rcases hc with hc|⟨cs3,hb3,hc⟩
 .exact .inl hc
 .grind
def qh{w0:Ah P}{α:Type}{f:α->Ty}{l:A3 α}(ht:look Γ t=some (.DA T gg ps))(hi:ps[i]? =some (.buf E sz<|lT f l)):IH w0 N Γ ((t,.DA T gg<|ps.set i<| .val<|TL f l)::BL t Γ):=alN ht hi
def amz{w0:Ah P}{K:Ap}{Ec:A3 (Ty×DI)}{M:A3 (Ty×Ty)}(ht:look Γ t=some (.H4 K E Eb sz Ec))(hn:∀p∈Ec,p.2.isAny=false)(hM:Ec.map kM=M):IH w0 N Γ ((t,.val<|kW M)::BL t Γ):=λH0 a w H hs=>by
 subst hM;have Az:=hs.holds _<|BD ht
 obtain⟨S,hS⟩:∃S:Nat->Prop,∀c,S c↔PZ w Ec (Ae a t) c:=⟨_,λ_=>Iff.rfl⟩;refine⟨_,eN hs (BD ht) S (λc hc=>⟨(hS c).1 hc,(SS Az<|(hS c).1 hc).2.1⟩) ?_⟩;refine ajS ?_ Az hn λb hb=>by have:S b:=(hS b).2 hb;simp[this]
 intro r o ho;by_cases e:S r
 .rw[(SS Az<|(hS r).1 e).2.2.1] at ho;cases ho
 .simp[e,ho]
end
section
variable[D:DR]
variable{P:Program}{w0:Ah P}{H0:HV}{N:Nat}{ops:Array Oper}{Q:Exit->Act->World->Prop}{Γ Aq:Ctx}{d:Option Tmp}{ty:TypeId}{pos:String}{af:Array Edge}{g:Option (Nat×Bool)}
variable{α β:Type}[DecidableEq α]
def mix(x:α):A3 (α×β)->A9 Nat
 |[]=>none|p::l=>bif decide (x=p.1) then some 0 else(mix x l).map (· +1)
def XF(l:A3 (α×β))(x:α)(v:β):A3 (α×β):=match mix x l with|none=>l++[(x,v)]|some j=>l.set j (x,v)
def pF{x:α}:∀{l:A3 (α×β)} {j:Nat},mix x l=some j->∃v,l[j]? =some (x,v)
 |[],_,h=>by simp[mix] at h
 |p::l,j,h=>by
  simp[mix] at h;by_cases e:x=p.1
  .simp[e] at h;subst h;subst e;exact⟨p.2,rfl⟩
  .simp[e] at h;obtain⟨k,hk,rfl⟩:=h;let⟨v,hv⟩:=pF hk;exact⟨v,by simpa using hv⟩
end
section
variable[D:DR]
variable{P:Program}{w0:Ah P}{H0:HV}{N:Nat}{ops:Array Oper}{Q:Exit->Act->World->Prop}{Γ Aq:Ctx}{d:Option Tmp}{ty:TypeId}{pos:String}{af:Array Edge}{g:Option (Nat×Bool)}
variable{B:Ah P}{w:AR}{H:HV}{Eb:Ap}{sz:Nat}
@[reducible] def mM{α β:Type}(fK:α->Ty)(fV:β->DI)(l:A3 (α×β)):A3 (Ty×DI):=l.map λp=>(fK p.1,fV p.2)
def Ut(P:CP)(T K E:Ap):Bool:=match P.underlying T with|some (.map k e)=>Nat.beq k K&&Nat.beq e E|_=>false
def Z0{T K E:Ap}(h:Ut P T K E=true):P.underlying T=some (.map K E):=by
 unfold Ut at h;split at h
 .rename_i k e hu;simp only[C9] at h;rw[hu,EF h.1,EF h.2]
 .cases h
structure Sj{α:Type}[DecidableEq α](P:CP)(K:Ap)(f:α->Ty):Prop where
 eq:∀(H:HV) (u v:AV) (x y:α),(f x).ok H u->(f y).ok H v->∀w:AR,(Op.equal K u v).run P w= .ok (decide<|x=y) w
 check:∀(H:HV) (u:AV) (x:α),(f x).ok H u->∀(e:Bool) (w:AR),(Instr.checkKey e 10000 K u).run P w= .ok () w
 kind:∃ud,P.underlying K=some ud/\∀u v,Instr.sameNow ud u v=none
 bits:∀(H:HV) (u v:AV) (x:α),(f x).ok H u->(f x).ok H v->Instr.sameBits 10000 u v=true
def aM{B:Ah P}{w:AR}{H:HV}{Eb:Ap}{sz:Nat}:∀{i:Nat} {l:A3 (Ty×DI)} {es:A3 MapEntry} {j:Nat} {k:Ty} {e:DI},KQ B w H Eb sz i l es->l[j]? =some (k,e)->∃x,es[j]? =some x/\k.ok H x.key/\e.holds B w H Eb sz x.val/\x.born=i+j
 |_,[],_,_,_,_,_,h=>by simp at h|_,(_,_)::_,[],_,_,_,h,_=>h.elim
 |i,(k',e')::l,x::xs,0,k,e,⟨h1,h2,h3,h4⟩,h=>by simp at h;obtain⟨rfl,rfl⟩:=h;exact⟨x,rfl,h1,h2,by simpa using h3⟩
 |i,(k',e')::l,x::xs,j+1,k,e,⟨h1,h2,h3,h4⟩,h=>by obtain⟨y,g1,g2,g3,g4⟩:=aM h4 (by simpa using h);exact⟨y,by simpa using g1,g2,g3,by omega⟩
def aaH{B:Ah P}{w:AR}{H:HV}{Eb:Ap}{sz:Nat}:∀{i:Nat} {l:A3 (Ty×DI)} {es:A3 MapEntry},KQ B w H Eb sz i l es->es.length=l.length
 |_,[],[],_=>rfl|_,[],_::_,h=>h.elim|_,(_,_)::_,[],h=>h.elim|_,(_,_)::_,_::_,⟨_,_,_,h⟩=>by simp[aaH h]
def aa8{B:Ah P}{w:AR}{H:HV}{Eb:Ap}{sz:Nat}:∀{i:Nat} {l:A3 (Ty×DI)} {es:A3 MapEntry} {j:Nat} {k:Ty} {e:DI} {x:MapEntry},KQ B w H Eb sz i l es->k.ok H x.key->e.holds B w H Eb sz x.val->x.born=i+j->KQ B w H Eb sz i (l.set j (k,e)) (es.set j x)
 |_,[],[],_,_,_,_,_,_,_,_=>trivial|_,[],_::_,_,_,_,_,h,_,_,_=>h.elim|_,(_,_)::_,[],_,_,_,_,h,_,_,_=>h.elim|i,(k',e')::l,x::xs,0,k,e,y,⟨h1,h2,h3,h4⟩,g1,g2,g3=>⟨g1,g2,g3,h4⟩|i,(k',e')::l,x::xs,j+1,k,e,y,⟨h1,h2,h3,h4⟩,g1,g2,g3=>⟨h1,h2,h3,aa8 h4 g1 g2 (by omega)⟩
def zJ{B:Ah P}{w:AR}{H:HV}{Eb:Ap}{sz:Nat}:∀{i:Nat} {l:A3 (Ty×DI)} {es:A3 MapEntry} {k:Ty} {e:DI} {x:MapEntry},KQ B w H Eb sz i l es->k.ok H x.key->e.holds B w H Eb sz x.val->x.born=i+l.length->KQ B w H Eb sz i (l++[(k,e)]) (es++[x])
 |_,[],[],_,_,_,_,g1,g2,g3=>⟨g1,g2,by simpa using g3,trivial⟩|_,[],_::_,_,_,_,h,_,_,_=>h.elim|_,(_,_)::_,[],_,_,_,h,_,_,_=>h.elim|i,(k',e')::l,x::xs,k,e,y,⟨h1,h2,h3,h4⟩,g1,g2,g3=>⟨h1,h2,h3,zJ h4 g1 g2 (by simp at g3;omega)⟩
def PQ{b:Nat}:∀{l:A3 (Ty×DI)} {es:A3 MapEntry},Hq b l es↔∃(j:Nat) (k:Ty) (e:DI) (x:MapEntry),l[j]? =some (k,e)/\es[j]? =some x/\e.owns x.val b
 |[],es=>by simp[Hq]|(k,e)::l,[]=>by simp[Hq]
 |(k,e)::l,x::xs=>by
  simp only[Hq,PQ (l:=l)];constructor
  .rintro(h|⟨j,k',e',y,h1,h2,h3⟩)
   .exact⟨0,k,e,x,rfl,rfl,h⟩
   .exact⟨j+1,k',e',y,by simpa using h1,by simpa using h2,h3⟩
  .rintro⟨j,k',e',y,h1,h2,h3⟩;cases j with|zero=>simp at h1 h2;obtain⟨rfl,rfl⟩:=h1;subst h2;exact .inl h3|succ j=>exact .inr ⟨j,k',e',y,by simpa using h1,by simpa using h2,h3⟩
def Yu:∀{l:A3 (Ty×DI)} {es:A3 MapEntry},l.length=es.length->(Ox l es↔∀(i j:Nat) (k k':Ty) (e e':DI) (x y:MapEntry),i<j->l[i]? =some (k,e)->l[j]? =some (k',e')->es[i]? =some x->es[j]? =some y->∀b,e.owns x.val b-> ¬e'.owns y.val b)
 |[],[],_=>by simp[Ox]|[],_::_,h=>by simp at h|(_,_)::_,[],h=>by simp at h
 |(k,e)::l,x::xs,h=>by
  simp[Ox,Yu (l:=l) (es:=xs) (by simpa using h)];constructor
  .rintro⟨h1,h2⟩ i j k1 k2 e1 e2 y z KW hi hj hx hy b hb Bg;cases j with
   |zero=>omega
   |succ j=>
    cases i with
    |zero=>simp at hi hx;obtain⟨rfl,rfl⟩:=hi;subst hx;exact h1 b hb (PQ.2 ⟨j,k2,e2,z,by simpa using hj,by simpa using hy,Bg⟩)
    |succ i=>exact h2 i j k1 k2 e1 e2 y z (by omega) (by simpa using hi) (by simpa using hj) (by simpa using hx) (by simpa using hy) b hb Bg
  .intro hh;refine⟨λb hb ho=>?_,λi j k1 k2 e1 e2 y z KW hi hj hx hy b hb Bg=>?_⟩
   .let⟨j,k',e',y,h1,h2,h3⟩:=PQ.1 ho;exact hh 0 (j+1) k k' e e' x y (by omega) rfl (by simpa using h1) rfl (by simpa using h2) b hb h3
   .exact hh (i+1) (j+1) k1 k2 e1 e2 y z (by omega) (by simpa using hi) (by simpa using hj) (by simpa using hx) (by simpa using hy) b hb Bg
end
section
variable[D:DR]
variable{P:Program}{w0:Ah P}{H0:HV}{N:Nat}{ops:Array Oper}{Q:Exit->Act->World->Prop}{Γ Aq:Ctx}{d:Option Tmp}{ty:TypeId}{pos:String}{af:Array Edge}{g:Option (Nat×Bool)}
variable{α β:Type}[DecidableEq α]{K:TypeId}{fK:α->Ty}{fV:β->DI}
def uw(hk:Sj P K fK){H:HV}{u:AV}{x:α}(hu:(fK x).ok H u){w:AR}:∀{l:A3 (α×β)} {es:A3 MapEntry} (i:Nat),(∀(j:Nat) (p:α×β),l[j]? =some p->∃y,es[j]? =some y/\(fK p.1).ok H y.key)->es.length=l.length->(Instr.findAsking K u es i).run P w= .ok ((mix x l).map λj=>(i+j,((es[j]?).map (·.val)).getD undef)) w
 |[],[],i,_,_=>by simp[Instr.findAsking,mix]|[],_::_,_,_,h=>by simp at h|_::_,[],_,_,h=>by simp at h
 |p::l,y::es,i,h,hl=>by
  let⟨y',h1,h2⟩:=h 0 p rfl;simp at h1;subst h1;have ih:=uw hk hu (l:=l) (es:=es) (w:=w) (i+1) (λj q hq=>by simpa using h (j+1) q (by simpa using hq)) (by simpa using hl);have he:=hk.eq H u y.key x p.1 hu h2 w;simp[Instr.findAsking,mix,E6,he,Dt];by_cases e:x=p.1
  .simp[e]
  .simp[e,decide_false,UM,if_false,B8,ih];cases hm:mix x l with|none=>simp|some j=>simp;omega
def run_findKey(hk:Sj P K fK){H:HV}{u:AV}{x:α}(hu:(fK x).ok H u){w:AR}{l:A3 (α×β)}{es:A3 MapEntry}(h:∀(j:Nat) (p:α×β),l[j]? =some p->∃y,es[j]? =some y/\(fK p.1).ok H y.key)(hl:es.length=l.length):(Instr.findKey K u es).run P w= .ok ((mix x l).map λj=>(j,((es[j]?).map (·.val)).getD undef)) w:=by
 let⟨ud,hud,FJ⟩:=hk.kind;have hf:=uw hk hu (w:=w) 0 h hl;unfold Instr.findKey;simp[E6,Ey hud,Dt];cases es with
 |nil=>cases l with|nil=>simp[Instr.findNow,mix]|cons p l=>simp at hl
 |cons y es=>simp[Instr.findNow,FJ];simpa using hf
end
section
variable[D:DR]
variable{P:Program}{w0:Ah P}{H0:HV}{N:Nat}{ops:Array Oper}{Q:Exit->Act->World->Prop}{Γ Aq:Ctx}{d:Option Tmp}{ty:TypeId}{pos:String}{af:Array Edge}{g:Option (Nat×Bool)}
inductive RP(Γ:Ctx):CR->Nat->Prop where
 |own {t:Nat}:RP Γ (.tmp t) t|same {u t:Nat} (h:look Γ u=some (.same t)):RP Γ (.tmp u) t
def RP.ok{x:CR}{t:Nat}(h:RP Γ x t){a:Act}{w:AR}{H:HV}(hs:Sat w0 H0 N Γ a w H):a.eval x=Ae a t:=by cases h with|own=>rfl|same h=>exact hs.holds _<|BD h
def ahq{T K E Eb:Ap}{sz:Nat}:B0 P Γ ⟨d,.makeMap T none,ty,pos,af,g⟩ (.H4 K E Eb sz []):=
 MM λw0 _ _ a w H hs=>by
  refine⟨.map<|some w.heap.size,w.alloc<| .map #[] 0,H,?_,Ext.alloc hs.sub _,?_,?_⟩
  .simp[execOp,Instr.makeMap,newObj];rfl
  .refine⟨w.heap.size,#[],rfl,Lx w _,?_,.inl hs.below.size,trivial,trivial⟩;cases hh:H w.heap.size with|none=>rfl|some o=>have:=HN hs.sub hh;omega
  .rintro b (h|⟨r,es,e,hr,hb⟩)
   .cases h;exact BQ _
   .simp[Hq] at hb
end
section
variable[D:DR]
variable{P:Program}{w0:Ah P}{H0:HV}{N:Nat}{ops:Array Oper}{Q:Exit->Act->World->Prop}{Γ Aq:Ctx}{d:Option Tmp}{ty:TypeId}{pos:String}{af:Array Edge}{g:Option (Nat×Bool)}
variable{α β:Type}[DecidableEq α]{K E Eb T:TypeId}{sz:Nat}{fK:α->Ty}
def aac{B:Ah P}{w:AR}{H:HV}{fV:β->DI}{l:A3 (α×β)}{es:A3 MapEntry}(h:KQ B w H Eb sz 0 (mM fK fV l) es):(∀(j:Nat) (p:α×β),l[j]? =some p->∃y,es[j]? =some y/\(fK p.1).ok H y.key)/\es.length=l.length:=
 ⟨λj p hp=>by let⟨y,h1,h2,_⟩:=aM h (j:=j) (k:=fK p.1) (e:=fV p.2) (by simp[hp]);exact⟨y,h1,h2⟩,by simpa using aaH h⟩
def run_getObj_map{w:AR}{r:Nat}{es:BG MapEntry}{c:Nat}(h:w.heap[r]? =some (.map es c)):(getObj r).run P w= .ok (.map es c) w:=by simp[getObj,Sem.run,h]
end
section
variable[D:DR]
variable{P:Program}{w0:Ah P}{H0:HV}{N:Nat}{ops:Array Oper}{Q:Exit->Act->World->Prop}{Γ Aq:Ctx}{d:Option Tmp}{ty:TypeId}{pos:String}{af:Array Edge}{g:Option (Nat×Bool)}
variable{w:AR}{c:Nat}{es:BG MapEntry}{B:Ah P}{H:HV}{sz:Nat}
def xH{r:Nat}{o:Obj}(h:w.heap[r]? =some (.map es c)):(setObj r o).run P w= .ok () (w.putObj r o):=by simp[setObj,Sem.run,h];rfl
def agl{E:Ap}{l:A3 Ty}{v:AV}(h:Kk B w H E sz l v){b:Nat}(hb:v.ownBlock=some b):w.heap[b]? ≠some (.map es c):=by
 let⟨xs,⟨_,hr⟩,_,_⟩:=h;rcases hr with⟨e,_⟩|⟨g,cap,cur,e,_,hc,_⟩
 .subst e;simp[Value.ownBlock] at hb
 .subst e;simp[Value.ownBlock] at hb;subst hb;rw[hc];intro e;cases e
def afg{Eb:Ap}{l:A3 (Ty×DI)}{es:A3 MapEntry}(h:KQ B w H Eb sz 0 l es){b:Nat}(hb:Hq b l es){I3:BG MapEntry}:w.heap[b]? ≠some (.map I3 c):=by let⟨j,k,e,x,h1,h2,h3⟩:=PQ.1 hb;let⟨y,g1,_,g3,_⟩:=aM h h1;rw[h2] at g1;cases g1;cases e with|val τ=>exact h3.elim|any=>exact h3.elim|buf bl=>exact agl g3 h3
def anN{Eb:Ap}{r:Nat}{I3:BG MapEntry}{l':A3 (Ty×DI)}(hr:w.heap[r]? =some (.map es c))(hn:H r=none)(hm:B.EH r)(ho:KQ B w H Eb sz 0 l' I3.toList)(hs:Ox l' I3.toList):RG B (w.putObj r<| .map I3 I3.size) H Eb sz l' (.map<|some r)/\∀b,PZ (w.putObj r<| .map I3 I3.size) l' (.map<|some r) b↔b=r\/Hq b l' I3.toList:=by
 have L0:(w.putObj r<| .map I3 I3.size).heap[r]? =some (.map I3 I3.size):=qc<|lt_of_heap hr
 refine⟨⟨r,I3,rfl,L0,hn,hm,qN (HV.le.refl H) ho<|λb hb=>⟨Zr<|λe=>?_,rfl⟩,hs⟩,λb=>?_⟩
 .subst e;exact afg ho hb hr
 .constructor
  .rintro(h|⟨r1,es1,e1,h1,h2⟩)
   .cases h;exact .inl rfl
   .cases e1;rw[L0] at h1;cases h1;exact .inr h2
  .rintro(h|h)
   .subst h;exact .inl rfl
   .exact .inr ⟨r,I3,rfl,L0,h⟩
end
section
variable[D:DR]
variable{P:Program}{w0:Ah P}{H0:HV}{N:Nat}{ops:Array Oper}{Q:Exit->Act->World->Prop}{Γ Aq:Ctx}{d:Option Tmp}{ty:TypeId}{pos:String}{af:Array Edge}{g:Option (Nat×Bool)}
variable{α β:Type}[DecidableEq α]{K E Eb T:TypeId}{sz:Nat}{fK:α->Ty}{fV:β->DI}
def yq{l:A3 (Ty×DI)}{es:A3 MapEntry}{j:Nat}{k k0:Ty}{e e0:DI}{x x0:MapEntry}(hlen:l.length=es.length)(hl:l[j]? =some (k0,e0))(hx:es[j]? =some x0)(h:Ox l es)(hn:∀b,e.owns x.val b->e0.owns x0.val b\/ ¬Hq b l es):Ox (l.set j (k,e)) (es.set j x)/\∀b,Hq b (l.set j (k,e)) (es.set j x)->e.owns x.val b\/(Hq b l es/\ ¬e0.owns x0.val b):=by
 have hj:=(FX.1 hl).1;have hj':j<es.length:=hlen▸hj;have hs:=(Yu hlen).1 h;have at':∀i k' e' y,(l.set j (k,e))[i]? =some (k',e')->(es.set j x)[i]? =some y->(i=j/\k'=k/\e'=e/\y=x)\/(i≠j/\l[i]? =some (k',e')/\es[i]? =some y):=λi k' e' y h1 h2=>by
  by_cases ei:i=j
  .subst ei;rw[Wb hj] at h1;rw[Wb hj'] at h2;cases h1;cases h2;exact .inl ⟨rfl,rfl,rfl,rfl⟩
  .rw[qa<|Ne.symm ei] at h1 h2;exact .inr ⟨ei,h1,h2⟩
 have one:∀i k' e' y,i≠j->l[i]? =some (k',e')->es[i]? =some y->∀b,e'.owns y.val b-> ¬e.owns x.val b/\ ¬e0.owns x0.val b:=λi k' e' y hi h1 h2 b hb=>by
  have k2: ¬e0.owns x0.val b:=λh0=>by
   rcases Nat.lt_or_gt_of_ne hi with hlt|hlt
   .exact hs i j k' k0 e' e0 y x0 hlt h1 hl h2 hx b hb h0
   .exact hs j i k0 k' e0 e' x0 y hlt hl h1 hx h2 b h0 hb
  refine⟨λh3=>?_,k2⟩;rcases hn b h3 with h4|h4
  .exact k2 h4
  .exact h4<|PQ.2 ⟨i,k',e',y,h1,h2,hb⟩
 refine⟨(Yu (by simpa using hlen)).2 ?_,λb hb=>?_⟩
 .intro i i' k1 k2 e1 e2 y z KW hi hi' hy hz b hb Bg;rcases at' i k1 e1 y hi hy with⟨rfl,rfl,rfl,rfl⟩|⟨n1,g1,g2⟩<;>rcases at' i' k2 e2 z hi' hz with⟨rfl,rfl,rfl,rfl⟩|⟨n2,g3,g4⟩
  .omega
  .exact(one i' k2 e2 z n2 g3 g4 b Bg).1 hb
  .exact(one i k1 e1 y n1 g1 g2 b hb).1 Bg
  .exact hs i i' k1 k2 e1 e2 y z KW g1 g3 g2 g4 b hb Bg
 .let⟨i,k1,e1,y,h1,h2,h3⟩:=PQ.1 hb;rcases at' i k1 e1 y h1 h2 with⟨rfl,rfl,rfl,rfl⟩|⟨n1,g1,g2⟩
  .exact .inl h3
  .exact .inr ⟨PQ.2 ⟨i,k1,e1,y,g1,g2,h3⟩,(one i k1 e1 y n1 g1 g2 b h3).2⟩
def y4{l:A3 (Ty×DI)}{es:A3 MapEntry}{k:Ty}{e:DI}{x:MapEntry}(hlen:l.length=es.length)(h:Ox l es)(hn:∀b,¬e.owns x.val b):Ox (l++[(k,e)]) (es++[x])/\∀b,Hq b (l++[(k,e)]) (es++[x])->Hq b l es:=by
 have at':∀(i:Nat) (k':Ty) (e':DI) (y:MapEntry) (b:Nat),(l++[(k,e)])[i]? =some (k',e')->(es++[x])[i]? =some y->e'.owns y.val b->l[i]? =some (k',e')/\es[i]? =some y:=λi k' e' y b h1 h2 h3=>by
  by_cases hi:i<l.length
  .rw[Mh hi] at h1;rw[Mh<|hlen▸hi] at h2;exact⟨h1,h2⟩
  .have:i=l.length:=by have:=(FX.1 h1).1;simp at this;omega
   subst this;rw[Mi<|BQ _] at h1;rw[Mi (by omega)] at h2;simp[hlen] at h1 h2;obtain⟨rfl,rfl⟩:=h1;subst h2;exact absurd h3<|hn b
 refine⟨(Yu (by simp[hlen])).2 λi j k1 k2 e1 e2 y z KW hi hj hy hz b hb Bg=>?_,λb hb=>?_⟩
 .let⟨g1,g2⟩:=at' i k1 e1 y b hi hy hb;let⟨g3,g4⟩:=at' j k2 e2 z b hj hz Bg;exact(Yu hlen).1 h i j k1 k2 e1 e2 y z KW g1 g3 g2 g4 b hb Bg
 .let⟨i,k1,e1,y,h1,h2,h3⟩:=PQ.1 hb;let⟨g1,g2⟩:=at' i k1 e1 y b h1 h2 h3;exact PQ.2 ⟨i,k1,e1,y,g1,g2,h3⟩
def run_keyThatStays(hk:Sj P K fK){H:HV}{u v:AV}{x:α}(hu:(fK x).ok H u)(hv:(fK x).ok H v)(w:AR):(Instr.keyThatStays u v).run P w= .ok v w:=by simp[Instr.keyThatStays,hk.bits H u v x hu hv]
def afh{γ:Type}(es:BG γ)(j:Nat)(f:γ->γ):(es.modify j f).toList=es.toList.modify j f:=by simp
def yL{γ:Type}:∀{l:A3 γ} {j:Nat} {f:γ->γ} {x:γ},l[j]? =some x->l.modify j f=l.set j (f x)
 |[],_,_,_,h=>by simp at h|y::l,0,f,x,h=>by simp at h;subst h;rfl
 |y::l,j+1,f,x,h=>by have:=yL (l:=l) (j:=j) (f:=f) (x:=x) (by simpa using h);simpa using this
def ag3{F:β->Ty}{m k v:CR}{t:Nat}{l:A3 (α×β)}{x:α}{y:β}{Ai:Ctx}(BI:∀q∈Ai,q∈Γ)(hT:Ut P T K E=true)(hk:Sj P K fK)(hm:RP Ai m t)(ht:look Ai t=some (.H4 K E Eb sz<|mM fK (λv=> .val<|F v) l))(hx:Arg Ai k (fK x))(hy:Arg Ai v (F y)):Step P N ops ⟨none,.mapUpdate T m k v,ty,pos,af,none⟩ Γ ((t,.H4 K E Eb sz<|mM fK (λv=> .val<|F v)<|XF l x y)::BL t Γ):=by
 intro w0 H0 a w H hs K' Q kk;simp[Region.wanted,if_true];let⟨r,es,e,hr,hn,hmi,ho,IU⟩:=hs.holds _<|BI _<|BD ht
 simp only at e;have hsi:=hs.weaken BI;have em:a.eval m= .map (some r):=by rw[hm.ok hsi];exact e
 have Hx:=hx.ok hsi;have hyv:=hy.ok hsi;let⟨k1,k2⟩:=aac ho;have hf:=run_findKey hk Hx (w:=w) k1 k2;have hc:=hk.check H _ x Hx false w;have hlen:(mM fK (λv=>DI.val<|F v) l).length=es.toList.length:=by simp[k2,mM]
 have hown:∀b,¬Hq b (mM fK (λv=>DI.val<|F v) l) es.toList:=λb h=>by let⟨j,k',e',z,h1,_,h3⟩:=PQ.1 h;simp only[mM,HL,Option.map_eq_some_iff] at h1;let⟨p,_,h1⟩:=h1;cases h1;exact h3
 have fin:∀(I3:BG MapEntry) (l':A3 (Ty×DI)),l'=mM fK (λv=>DI.val<|F v) (XF l x y)->KQ w0 w H Eb sz 0 l' I3.toList->Ox l' I3.toList->(∀b,¬Hq b l' I3.toList)->K' (a.put none undef) (w.putObj r<| .map I3 I3.size):=λI3 l' el h1 h2 h3=>by
  subst el;let⟨g1,g2⟩:=anN hr hn hmi h1 h2;refine kk a _ H (PB hs (BI _<|BD ht) (Ef.putObj w r _) hmi (by simp[e];exact .inl rfl) (by simp[e];exact g1) λc hc=> .inl ?_);simp[e] at hc⊢;rcases(g2 c).1 hc with h|h
  .subst h;exact .inl rfl
  .exact absurd h<|h3 c
 unfold Oper.wp;cases hmx:mix x l with
 |none=>
  rw[hmx] at hf;have er:(execOp a.eval ⟨none,.mapUpdate T m k v,ty,pos,af,none⟩).run P w= .ok .skip (w.putObj r<| .map (es.push {key:=a.eval k,val:=a.eval v,born:=es.size})<|es.size+1):=by simp[execOp,em,Instr.mapUpdate,Ey<|Z0 hT,run_getObj_map hr,hc,hf,xH hr]
  rw[er,Qk];have:=fin (es.push {key:=a.eval k,val:=a.eval v,born:=es.size}) (mM fK (λv=>DI.val<|F v) l++[(fK x,.val<|F y)]) (by simp[mM,XF,hmx])
   (by simpa using zJ (k:=fK x) (e:= .val<|F y) (x:={key:=a.eval k,val:=a.eval v,born:=es.size}) ho Hx hyv (by simp[<-k2]))
   (by simpa using(y4 (k:=fK x) (e:= .val<|F y) hlen IU<|λ_ h=>h).1)
   (λb hb=>hown b ((y4 (k:=fK x) (e:= .val<|F y) (x:={key:=a.eval k,val:=a.eval v,born:=es.size}) hlen IU<|λ_ h=>h).2 b (by simpa using hb)))
  simpa using this
 |some j=>
  rw[hmx] at hf;let⟨v0,Hy⟩:=pF hmx;let⟨z,h1,h2,h3,h4⟩:=aM ho (j:=j) (k:=fK x) (e:= .val<|F v0) (by simp[Hy]);have h1':es[j]? =some z:=by simpa using h1
  have Ex:=run_keyThatStays hk h2 Hx w;have er:(execOp a.eval ⟨none,.mapUpdate T m k v,ty,pos,af,none⟩).run P w= .ok .skip (w.putObj r<| .map (es.modify j λe=>{e with key:=a.eval k,val:=a.eval v}) es.size):=by simp[execOp,em,Instr.mapUpdate,Ey<|Z0 hT,run_getObj_map hr,hc,hf,xH hr,h1',Ex]
  rw[er,Qk];have hml:(es.modify j λe=>{e with key:=a.eval k,val:=a.eval v}).toList=es.toList.set j {z with key:=a.eval k,val:=a.eval v}:=by rw[afh,yL h1]
  have hl0:(mM fK (λv=>DI.val<|F v) l)[j]? =some (fK x,.val<|F v0):=by simp[Hy]
  have:=fin (es.modify j λe=>{e with key:=a.eval k,val:=a.eval v}) ((mM fK (λv=>DI.val<|F v) l).set j (fK x,.val<|F y)) (by simp[mM,XF,hmx,UE])
   (by rw[hml];exact aa8 (k:=fK x) (e:= .val<|F y) (x:={z with key:=a.eval k,val:=a.eval v}) ho Hx hyv (by simpa using h4))
   (by rw[hml];exact(yq (k:=fK x) (e:= .val<|F y) hlen hl0 h1 IU<|λ_ h=>h.elim).1)
   (λb hb=>by
    rw[hml] at hb;rcases(yq (k:=fK x) (e:= .val<|F y) hlen hl0 h1 IU<|λ_ h=>h.elim).2 b hb with h|h
    .exact h
    .exact hown b h.1)
  simpa using this
end
section
variable[D:DR]
variable{P:Program}{w0:Ah P}{H0:HV}{N:Nat}{ops:Array Oper}{Q:Exit->Act->World->Prop}{Γ Aq:Ctx}{d:Option Tmp}{ty:TypeId}{pos:String}{af:Array Edge}{g:Option (Nat×Bool)}
variable{H:HV}{w:AR}{L:A3 (Ty×Ty)}{α:Type}{t r m it:Nat}{seen:A3 Nat}{s s':AS}
def ux{n:Nat}(hn:0<n)(w:AR):∃(i:Nat) (k:Nat),w.drawn<=k/\i<n/\(choose<| .mapNext n).run P w= .ok i {w with drawn:=k}:=by
 by_cases h:n<=1
 .refine⟨0,w.drawn,BQ _,hn,?_⟩;simp[choose,Sem.run,Question.forced,h]
 .refine⟨w.tape w.drawn (.mapNext n)%n,w.drawn+1,Qj _,OS _ hn,?_⟩;simp[choose,Sem.run,Question.forced,h,Question.cut]
def al1{T:Ap}{K E:Ap}{m:CR}(hT:Ut P T K E=true)(hm:Arg Γ m (kW L)):B0 P Γ ⟨d,.range T m,ty,pos,af,g⟩ (.JF L []):=
 MM λw0 _ _ a w H hs=>by
  let⟨r,es,e,hr,ho⟩:=hm.ok hs;have L0:=hs.sub _ _ hr;refine⟨.pointer<|some ⟨w.heap.size,0,none⟩,w.alloc<| .mapIter (some r) es.size #[] es.size,H,?_,Ext.alloc hs.sub _,?_,?_⟩
  .simp[execOp,Instr.range,e,Ey<|Z0 hT,run_getObj_map L0,newObj];rfl
  .refine⟨w.heap.size,r,es,#[],rfl,Lx w _,?_,.inl hs.below.size,hr,ho,rfl⟩;cases hh:H w.heap.size with|none=>rfl|some o=>have:=HN hs.sub hh;omega
  .rintro b ⟨ad,e,hb⟩;cases e;simp at hb;omega
def qM{H:HV}:∀{i:Nat} {l:A3 (Ty×Ty)} {es:A3 MapEntry},okM H i l es->es.length=l.length
 |_,[],[],_=>rfl|_,[],_::_,h=>h.elim|_,(_,_)::_,[],h=>h.elim|_,(_,_)::_,_::_,⟨_,_,_,h⟩=>by simp[qM h]
def jO{H:HV}:∀{i:Nat} {l:A3 (Ty×Ty)} {es:A3 MapEntry} {j:Nat} {x:MapEntry},okM H i l es->es[j]? =some x->∃k e,l[j]? =some (k,e)/\k.ok H x.key/\e.ok H x.val/\x.born=i+j
 |_,[],[],_,_,_,h=>by simp at h|_,[],_::_,_,_,h,_=>h.elim|_,(_,_)::_,[],_,_,h,_=>h.elim
 |i,(k,e)::l,x::xs,0,y,⟨h1,h2,h3,h4⟩,h=>by simp at h;subst h;exact⟨k,e,rfl,h1,h2,by simpa using h3⟩
 |i,(k,e)::l,x::xs,j+1,y,⟨h1,h2,h3,h4⟩,h=>by obtain⟨k',e',g1,g2,g3,g4⟩:=jO h4 (by simpa using h);exact⟨k',e',by simpa using g1,g2,g3,by omega⟩
def ue{since last:Nat}{seen:BG Nat}(h:w.heap[r]? =some (.mapIter (some m) since seen last)):(getObj r).run P w= .ok (.mapIter (some m) since seen last) w:=by simp[getObj,Sem.run,h]
def aeW{o:Obj}{since last:Nat}{seen:BG Nat}(h:w.heap[r]? =some (.mapIter (some m) since seen last)):(setObj r o).run P w= .ok () (w.putObj r o):=by simp[setObj,Sem.run,h];rfl
theorem alA{es:BG MapEntry}{sn:BG Nat}{ty:Ap}(hr:w.heap[r]? =some (.mapIter (some m) es.size sn es.size))(hm:w.heap[m]? =some (.map es es.size))(ho:okM H 0 L es.toList):((∀j,j<L.length->j∈sn.toList)/\∃k,w.drawn<=k/\(Instr.next (.pointer<|some ⟨r,0,none⟩) false ty).run P w= .ok (.tuple #[.bool false]) {w with drawn:=k})\/
  ∃j x k,j<L.length/\j∉sn.toList/\es[j]? =some x/\w.drawn<=k/\(Instr.next (.pointer<|some ⟨r,0,none⟩) false ty).run P w= .ok (.tuple #[.bool true,x.key,x.val]) (World.putObj {w with drawn:=k} r<| .mapIter (some m) es.size (sn.push j) es.size):=by
 have hlen:=qM ho;have X3:∀(j:Nat) (x:MapEntry),es[j]? =some x->x.born=j:=λj x hx=>by let⟨_,_,_,_,_,h⟩:=jO ho (j:=j) (x:=x) (by simpa using hx);simpa using h
 have hbl:∀e∈es,e.born<es.size:=λe he=>by let⟨j,hj,e1⟩:=Array.getElem_of_mem he;have:=X3 j e (by simp[hj,e1]);omega
 have acR:(!sn.isEmpty&& !es.isEmpty&&es.all (·.born>=es.size))=false:=by
  cases hes:es.isEmpty
  .simp only[Bool.not_false,iE];have hpos:0<es.size:=by grind
   have:es.all (·.born>=es.size)=false:=by grind
   simp[this]
  .simp
 generalize ju:es.filter (λe=> !sn.contains e.born)=left
 have hlm:∀e∈left,e∈es/\sn.contains e.born=false:=λe he=>by rw[<-ju] at he;simpa using Array.mem_filter.1 he
 have hold:left.filter (·.born<es.size)=left:=by rw[Array.filter_eq_self];exact λe he=>by simpa using hbl e (hlm e he).1
 have OD:left.filter (·.born>=es.size)= #[]:=by rw[Array.filter_eq_empty_iff];intro e he;have:=hbl e (hlm e he).1;simp;omega
 have ko:=ue (P:=P) hr;have hg2:=run_getObj_map (P:=P) hm;by_cases ad5:left= #[]
 .left;refine⟨λj hj=>?_,?_⟩
  .have hj':j<es.size:=by rw[<-hlen] at hj;simpa using hj
   have hb:=X3 j es[j] (by simp[hj']);apply Ck;intro hn;have:es[j]∈left:=by grind
   rw[ad5] at this;simp at this
  .let⟨i,k,hk,hi,hc⟩:=ux (P:=P) (n:=1) (by omega) w;have:i=0:=by omega
   subst this;refine⟨k,hk,?_⟩;unfold Instr.next
   simp only[E6,ko,Dt,hg2,acR,UM,if_false,ju,hold,OD];rw[ad5];simp only[Array.isEmpty_empty,if_true,Array.append_empty,Array.map_empty,iS,E2,UH,Pd,hc,Dt]
   rfl
 .right;have hpos:0<left.size:=by grind
  let⟨i,k,hk,hi,hc⟩:=ux (P:=P) (n:=left.size) hpos w;have IN:=hlm left[i] (by simp);let⟨j,hj,e1⟩:=Array.getElem_of_mem IN.1;have hb:=X3 j left[i] (by simp[hj,e1]);have L0:World.heap {w with drawn:=k}=w.heap:=rfl;refine⟨j,left[i],k,by rw[<-hlen];simpa using hj,?_,by simp[hj,e1],hk,?_⟩
  .grind
  .have hne:left.isEmpty=false:=by
    cases h:left.isEmpty
    .rfl
    .grind
   have Mp:=aeW (P:=P) (w:={w with drawn:=k}) (o:= .mapIter (some m) es.size (sn.push left[i].born) es.size) hr;rw[hb] at Mp;unfold Instr.next
   simp only[E6,ko,Dt,hg2,acR,UM,if_false,ju,hold,OD,hne,Array.append_empty,Array.empty_append,Array.size_map,hc,Dt];have:(Array.map some left)[i]? =some (some left[i]):=by simp[hi]
   simp only[this,hb,E6,Mp,Dt]
   rfl
def aph{dn de id:Nat}{ts:A3 Nat}{Gk:Ctx}{ty KK:Ap}{pos pos':String}{af Lg:BG Edge}(hit:look Γ it=some (.JF L seen))(Kr:EU Γ ts Gk)
 (hN:(Nat.blt dn N&&Nat.blt de N&&(dn !=it)&&(de !=it)&&(de !=dn))=true)(hf:(Gk.all λp=>p.1 !=it&&p.1 !=dn&&p.1 !=de&&p.2.CD.all (λt=>t !=dn&&t !=de&&t !=it))=true)
 (kt:∀j,j<L.length->j∉seen->EN w0 H0 N (Q .normal) ((de,.val<|Ay true)::(it,.JF L<|seen++[j])::Gk))(kf:(∀j,j<L.length->j∈seen)->EN w0 H0 N (Q .normal) ((de,.val<|Ay false)::Gk)):Goal P w0 H0 N (.region id #[⟨some dn,.next (.tmp it) false,ty,pos,af,none⟩,⟨some de,.extract (.tmp dn) 0,KK,pos',Lg,none⟩] false) Q Γ:=by
 intro a w H hs;simp only[C9,MU,ne_eq] at hN;let⟨⟨⟨⟨h1,h2⟩,h3⟩,h4⟩,h5⟩:=hN;have hdn:=Ad h1;have hde:=Ad h2;let⟨r,m,es,sn,e,hr,hn,hmi,hm,ho,hsn⟩:=hs.holds _<|BD hit
 simp only at e;have fr:∀q∈Gk,q∈Γ/\q.1≠it/\q.1≠dn/\q.1≠de/\dn∉q.2.CD/\de∉q.2.CD/\it∉q.2.CD:=λq hq=>by have:=Dr.1 hf q hq;simp[C9,MU,ne_eq,Dr] at this;let⟨⟨⟨k1,k2⟩,k3⟩,k4⟩:=this;exact⟨Kr.sub q hq,k1,k2,k3,λh=>(k4 _ h).1.1 rfl,λh=>(k4 _ h).1.2 rfl,λh=>(k4 _ h).2 rfl⟩
 have ei:a.eval (.tmp it)= .pointer (some ⟨r,0,none⟩):=e;refine wpIn_region_lit ?_;have fin:∀(vs:A3 AV) (b:Bool) (w':AR) (G:Ctx),(∀q∈G,q.1≠dn/\q.1≠de/\dn∉q.2.CD/\de∉q.2.CD)->Sat w0 H0 N G a w' H->vs.head?=some (.bool b)->EN w0 H0 N (Q .normal) ((de,.val<|Ay b)::G)->wpListIn (Fx w0.rd) 0 P #[⟨some dn,.next (.tmp it) false,ty,pos,af,none⟩,⟨some de,.extract (.tmp dn) 0,KK,pos',Lg,none⟩] Q [⟨some de,.extract (.tmp dn) 0,KK,pos',Lg,none⟩] (a.put (some dn)<| .tuple vs.toArray) w':=by
  intro vs b w' G hG hS hv kk;unfold wpListIn;have hw:Region.wanted (⟨some de,.extract (.tmp dn) 0,KK,pos',Lg,none⟩:Oper) (yielded #[⟨some dn,.next (.tmp it) false,ty,pos,af,none⟩,⟨some de,.extract (.tmp dn) 0,KK,pos',Lg,none⟩] (a.put (some dn)<| .tuple vs.toArray).tmps)=true:=rfl;rw[if_pos hw];refine ZI (λc e=>by cases e) ?_;unfold Oper.wp;have ed:(a.put (some dn)<| .tuple vs.toArray).eval (.tmp dn)= .tuple vs.toArray:=Vf (by rw[hs.sz];exact hdn);have JT:vs[0]? =some (.bool b):=by rw[<-List.head?_eq_getElem?];exact hv
  have er:(execOp (a.put (some dn)<| .tuple vs.toArray).eval ⟨some de,.extract (.tmp dn) 0,KK,pos',Lg,none⟩).run P w'= .ok (.value<| .bool b) w':=by simp[execOp,ed,Instr.extract,JT]
  rw[er,OW];unfold wpListIn;have KT:=QV (s:= .gone) (v:= .tuple vs.toArray) hS hdn (by simp only[Jc,Dr,C9,MU,ne_eq];exact λq hq=>⟨(hG q hq).1,by simpa using(hG q hq).2.2.1⟩) (by simp[AS.CD]) trivial<|λb h=>h.elim
  have hs3:=QV (s:= .val<|Ay b) (v:= .bool b) (KT.weaken (Aq:=G) λq hq=>Br _ hq) hde (by simp only[Jc,Dr,C9,MU,ne_eq];exact λq hq=>⟨(hG q hq).2.1,by simpa using(hG q hq).2.2.2⟩) (by simp[AS.CD]) rfl<|λb h=>h.elim
  exact kk _ w' H hs3
 unfold wpListIn;have hw:Region.wanted (⟨some dn,.next (.tmp it) false,ty,pos,af,none⟩:Oper) (yielded #[⟨some dn,.next (.tmp it) false,ty,pos,af,none⟩,⟨some de,.extract (.tmp dn) 0,KK,pos',Lg,none⟩] a.tmps)=true:=rfl;rw[if_pos hw];refine ZI (λc e=>by cases e) ?_;unfold Oper.wp;rcases alA (P:=P) (ty:=ty) hr (hs.sub _ _ hm) ho with⟨hall,k,hk,FC⟩|⟨j,x,k,hj,hjn,hx,hk,FC⟩
 .have er:(execOp a.eval ⟨some dn,.next (.tmp it) false,ty,pos,af,none⟩).run P w= .ok (.value<| .tuple #[.bool false]) {w with drawn:=k}:=by simp only[execOp,ei,E6,FC,Dt];rfl
  rw[er,OW];have he:Ext w H {w with drawn:=k} H:=⟨⟨⟨rfl,rfl,rfl,BQ _,λ_ _=>rfl⟩,H9.of hk⟩,HV.le.refl _,λ_ _=>rfl,hs.sub⟩;exact fin [.bool false] false _ Gk (λq hq=>⟨(fr q hq).2.2.1,(fr q hq).2.2.2.1,(fr q hq).2.2.2.2.1,(fr q hq).2.2.2.2.2.1⟩) (fi (hs.weaken Kr.sub) he) rfl (kf (by rw[<-hsn];exact hall))
 .have er:(execOp a.eval ⟨some dn,.next (.tmp it) false,ty,pos,af,none⟩).run P w= .ok (.value<| .tuple #[.bool true,x.key,x.val]) (World.putObj {w with drawn:=k} r<| .mapIter (some m) es.size (sn.push j) es.size):=by simp only[execOp,ei,E6,FC,Dt];rfl
  rw[er,OW];have hg:Ef w (World.putObj {w with drawn:=k} r<| .mapIter (some m) es.size (sn.push j) es.size) (some r):=⟨⟨rfl,rfl,rfl,by simp,λi _ hi=>by rw[Zr (λe=>hi (by rw[e]))]⟩,H9.of hk⟩
  have L0:(World.putObj {w with drawn:=k} r<| .mapIter (some m) es.size (sn.push j) es.size).heap[r]? =some (.mapIter (some m) es.size (sn.push j) es.size):=qc<|lt_of_heap hr
  have KT:=PB (s':= .JF L<|seen++[j]) hs (BD hit) hg hmi ⟨_,e,rfl⟩ ⟨r,m,es,sn.push j,e,L0,hn,hmi,hm,ho,by simp[hsn]⟩<|λc hc=> .inl hc
  exact fin [.bool true,x.key,x.val] true _ ((it,.JF L<|seen++[j])::Gk) (λq hq=>by
    rcases Am.1 hq with e|hq
    .subst e;exact⟨λe=>h3 e.symm,λe=>h4 e.symm,by simp[AS.CD],by simp[AS.CD]⟩
    .exact⟨(fr q hq).2.2.1,(fr q hq).2.2.2.1,(fr q hq).2.2.2.2.1,(fr q hq).2.2.2.2.2.1⟩)
   (KT.weaken λq hq=>by
    rcases Am.1 hq with e|hq
    .subst e;simp
    .exact Br _<|PW (fr q hq).1 (fr q hq).2.1) rfl (kt j hj (by rw[<-hsn];exact hjn))
def al2{j:Nat}{k e:Ty}(hit:look Γ it=some (.JF L<|seen++[j]))(hj:L[j]? =some (k,e)):B0 P Γ ⟨d,.entry<| .tmp it,ty,pos,af,g⟩ (.tup [k,e]):=
 Dp λw0 _ _ a w H hs=>by
  let⟨r,m,es,sn,ev,hr,hn,hmi,hm,ho,hsn⟩:=hs.holds _<|BD hit
  simp only at ev;have ei:a.eval (.tmp it)= .pointer (some ⟨r,0,none⟩):=ev;have KV:=hs.sub _ _ hm;have X3:∀(i:Nat) (x:MapEntry),es[i]? =some x->x.born=i:=λi x hx=>by let⟨_,_,_,_,_,h⟩:=jO ho (j:=i) (x:=x) (by simpa using hx);simpa using h
  have hlt:j<es.size:=by have:=(FX.1 hj).1;rw[<-qM ho] at this;simpa using this
  let⟨k',e',h1,h2,h3,_⟩:=jO ho (j:=j) (x:=es[j]) (by simp[hlt]);rw[hj] at h1;cases h1;have sG:sn.back?=some j:=by
   have:sn=(seen++[j]).toArray:=by rw[<-hsn]
   rw[this];simp
  have arh:es.find? (λx=>x.born==j)=some es[j]:=by rw[Array.find?_eq_some_iff_getElem];refine⟨by simpa using X3 j es[j] (by simp[hlt]),j,hlt,rfl,λi hi=>?_⟩;have:=X3 i es[i] (by simp[Nat.lt_trans hi hlt]);simp[this];omega
  refine⟨.tuple #[es[j].key,es[j].val],?_,⟨_,rfl,_,_,rfl,h2,_,[],rfl,h3,rfl⟩,rfl⟩;simp[execOp,ei,Instr.entry,ue hr,run_getObj_map KV,sG,arh]
def Pz{α σ:Type}(f:α->σ->A9 σ):A3 α->σ->A9 σ
 |[],s=>some s|x::l,s=>bd (f x s)<|Pz f l
def TE{α σ ρ:Type}(f:α->σ->A9 σ)(l:A3 α)(s:σ)(K:σ->A9 ρ):A9 ρ:=bd (Pz f l s) K
def avp{P:CP}{α σ:Type}(w0:Ah P)(H0:HV)(N it:Nat)(l:A3 α)(enc:α->Ty×Ty)(f:α->σ->A9 σ)(Ai:σ->Ctx)(seen:A3 Nat)(s:σ)(a:Act)(w:AR):Prop:=∃j x s',l[j]? =some x/\j∉seen/\f x s=some s'/\∃H,Sat w0 H0 N ((it,.JF (l.map enc)<|seen++[j])::Ai s') a w H
def Q0{α:Type}(l:A3 α)(seen:A3 Nat):A3 α:=((List.range l.length).filter λj=> !seen.contains j).filterMap λj=>l[j]?
def nt{l:A3 α}{j:Nat}{x:α}(hj:l[j]? =some x)(hn:j∉seen):(x::Q0 l (seen++[j])).Perm (Q0 l seen):=by
 have hlt:=(FX.1 hj).1;have key:((List.range l.length).filter λi=> !seen.contains i).Perm (j::(List.range l.length).filter λi=> !(seen++[j]).contains i):=by
  have IV:((List.range l.length).filter λi=> !seen.contains i).Nodup:=List.nodup_range.filter _;have IN:j∈(List.range l.length).filter λi=> !seen.contains i:=by simp[hlt,hn]
  have h1:=List.perm_cons_erase IN;refine h1.trans<|List.Perm.cons _ ?_
  rw[IV.erase_eq_filter,List.filter_filter];refine List.Perm.of_eq<|List.filter_congr λi _=>?_
  by_cases e:i=j
  .subst e;simp
  .simp[e]
 have h2:=(key.filterMap λi=>l[i]?).symm;simpa[Q0,hj] using h2
def yD{α:Type}:∀(l pre:A3 α),(List.range' pre.length l.length).filterMap (λj=>(pre++l)[j]?)=l
 |[],_=>rfl
 |x::l,pre=>by
  have ih:=yD l<|pre++[x]
  simp[DS,Fw,ID,List.singleton_append] at ih;simp only[E2,List.range'_succ,List.filterMap_cons];rw[Mi<|BQ _,qV];simp[List.getElem?_cons_zero,ih]
def ajV(l:A3 α):Q0 l []=l:=by
 have:=yD l [];simp[UH,Ie] at this;unfold Q0;have e:List.filter (λj=> !([]:A3 Nat).contains j) (List.range l.length)=List.range l.length:=List.filter_eq_self.2<|λj _=>rfl
 rw[e,List.range_eq_range'];exact this
def aoC{σ ρ:Type}{l:A3 α}(enc:α->Ty×Ty){f:α->σ->A9 σ}{K:σ->A9 ρ}{s0:σ}{r:ρ}(Ai:σ->Ctx){c:Code}{ts:A3 Nat}(hall:∀π,π.Perm l->TE f π s0 K=some r)(h0:EU Γ ts ((it,.JF (l.map enc) [])::Ai s0))
 (round:∀(seen:A3 Nat) (s:σ),(∀j x,l[j]? =some x->j∉seen->∃s',f x s=some s')->((∀j,j<(l.map enc).length->j∈seen)->K s=some r)->Goal P w0 H0 N c (Exit.then (avp w0 H0 N it l enc f Ai seen s) Q) ((it,.JF (l.map enc) seen)::Ai s)):Goal P w0 H0 N (.loop c) Q Γ:=by
 intro a w H hs;refine wp_loop_ghost (λ(i:A3 Nat×σ) a w=>(∀π,π.Perm (Q0 l i.1)->TE f π i.2 K=some r)/\∃H,Sat w0 H0 N ((it,.JF (l.map enc) i.1)::Ai i.2) a w H) (λi=>(Q0 l i.1).length) ([],s0) ⟨λπ hπ=>hall π (hπ.trans (by rw[ajV])),H,hs.weaken h0.sub⟩ ?_
 .rintro⟨seen,s⟩ a w ⟨hI,H,hs⟩;refine WE (round seen s (λj x hj hn=>?_) (λhd=>?_) a w H hs) λe a' w' q=>?_
  .have h1:=hI (x::Q0 l (seen++[j])) (nt hj hn);unfold TE at h1;simp[Pz] at h1;let⟨s1,h2,_⟩:=Aw h1;let⟨s2,h3,_⟩:=Aw h2;exact⟨s2,h3⟩
  .have:Q0 l seen=[]:=by
    unfold Q0;have:((List.range l.length).filter λj=> !seen.contains j)=[]:=List.filter_eq_nil_iff.2 λj hj=>by have:=hd j (by simpa using hj);simp[this]
    rw[this];rfl
   have h1:=hI [] (by rw[this]);exact h1
  .cases e with
   |normal=>
    let⟨j,x,s',hj,hn,hf,H',DQ⟩:=q;refine⟨(seen++[j],s'),⟨λπ hπ=>?_,H',DQ⟩,?_⟩
    .have h1:=hI (x::π) ((hπ.cons x).trans<|nt hj hn);unfold TE at h1⊢;simp[Pz] at h1;rw[hf] at h1;exact h1
    .have:=(nt hj hn).length_eq;simp at this;simp only;omega
   |_=>exact q
def Ah.Oy(P:CP)(w:AR)(X:Nat->Prop):Ah P:=⟨w,X,none,false,[],0,FV _,λ_ _=>FV _⟩
def Rf:Act:=⟨#[],[]⟩
structure J8(P:CP)(f:FuncId)(pre:A3 Ty)(s s':AS)(post:A3 Ty)(Bs:A3 Ty):Prop where
 can:Gq P f=true
 run:∀(w:AR) (H:HV) (v:AV) (ps qs:A3 AV),(∀r o,H r=some o->w.heap[r]? =some o)->LY P H->Ee H pre ps->Ee H post qs->s.holds (Ah.Oy P w λb=>s.owns w v b) Rf w H v->Calls P f (ps++v::qs).toArray w λe w'=>∃r,e= .returned r/\∃H',RN (λb=>s.owns w v b) w H w' H'/\s'.holds (Ah.Oy P w λb=>s.owns w v b) Rf w' H' v/\(∀b,s'.owns w' v b->s.owns w v b\/w.heap.size<=b)/\LZ H' Bs r
inductive Et(Γ:Ctx):CR->Nat->Prop where
 |own {t:Nat}:Et Γ (.tmp t) t|same {u t:Nat} (h:look Γ u=some (.same t)):Et Γ (.tmp u) t|ptr {u t:Nat} (h:look Γ u=some (.ptr t 0)):Et Γ (.tmp u) t
def Et.ok{x:CR}(h:Et Γ x t){a:Act}(hs:Sat w0 H0 N Γ a w H):a.eval x=Ae a t:=by
 cases h with
 |own=>rfl|same h=>exact hs.holds _<|BD h
 |ptr h=>
  let⟨b,e1,e2⟩:=hs.holds _<|BD h
  simp only at e1 e2;rw[e1];exact e2
theorem yt{a:Act}{w':AR}{H':HV}(hs:Sat w0 H0 N Γ a w H)(ht:(t,s)∈Γ)(hi:s.F1=false)(hi':s'.F1=false)(FJ:∀q∈BL t Γ,q.2.F1=true->∀b,s.owns w (Ae a t) b->w0.lo<=b)
 (hy:RN (λb=>s.owns w (Ae a t) b) w H w' H')(DQ:s'.holds w0 a w' H' (Ae a t))(ho:∀b,s'.owns w' (Ae a t) b->s.owns w (Ae a t) b\/w.heap.size<=b):Sat w0 H0 N ((t,s')::BL t Γ) a w' H':=by
 have Ex:=hs.holds _ ht;have EH:∀b,s.owns w (Ae a t) b->w0.EH b:=λb hb=>AS.PT hi Ex hb
 have other:∀q∈BL t Γ,∀b,q.2.owns w (Ae a q.1) b-> ¬s.owns w (Ae a t) b:=λq hq b hb Bg=>hs.sep _ ht q (DO q hq).1 (λe=>(DO q hq).2 e.symm) b Bg hb
 have key:∀q∈BL t Γ,q.2.holds w0 a w' H' (Ae a q.1)/\∀b,q.2.owns w' (Ae a q.1) b↔q.2.owns w (Ae a q.1) b:=λq hq=>by
  refine AS.Vl (n:=w0.lo) (hs.holds q (DO q hq).1) (λ_=>rfl) ?_;have kp:∀b,b<w.heap.size->(b<w0.lo\/q.2.owns w (Ae a q.1) b)->w'.heap[b]? =w.heap[b]? /\H' b=H b:=λb hb h=>hy.E9 b hb (λh2=>by
   rcases h with h|h
   .have:=Ah.Qe (EH b h2);omega
   .exact other q hq b h h2)
  exact⟨hy.size,hy.os,hy.tape,hy.output,hy.drawn,hy.le,λb hb h=>(kp b hb h).1,λb hb h=>(kp b hb h).2,hy.sub⟩
 refine⟨?_,hs.sz,?_,?_,hy.sub,?_,?_,hs.gl.mono hy.le⟩
 .refine hs.nd.kept λD _ h1 h2=>?_
  have hn: ¬s.owns w (Ae a t) D:=λhm=>by let⟨_,_,o,ho,Jt⟩:=AS.J9 Ex hm;rw[h1] at ho;cases ho;exact Jt
  have:=hy.E9 D (lt_of_heap h1) hn;exact⟨by rw[this.1];exact h1,by rw[this.2];exact h2⟩
 .refine⟨hy.os.trans hs.below.os,hy.tape.trans hs.below.tape,hy.output.trans hs.below.output,Ch hs.below.drawn hy.drawn,Ch hs.below.size hy.size,λhv k hk hx=>?_⟩;rw[(hy.E9 k (KA hk hs.below.size) (λh=>by
   rcases EH k h with h|h
   .omega
   .exact hx h)).1]
  exact hs.below.block hv k hk hx
 .intro hv r hr hx;rw[(hy.E9 r (KA hr hs.below.size) (λh=>by
   rcases EH r h with h|h
   .omega
   .exact hx h)).2]
  exact hs.Fj hv r hr hx
 .grind
 .have low:∀q∈BL t Γ,∀b,q.2.owns w' (Ae a q.1) b-> ¬s'.owns w' (Ae a t) b:=λq hq b hb hm=>by
   have hb:=((key q hq).2 b).1 hb;rcases ho b hm with h|h
   .grind
   .have:=(AS.J9 (hs.holds q (DO q hq).1) hb).1;omega
  intro q hq r hr hne b hb Bg;rcases Am.1 hq with e|hq<;>rcases Am.1 hr with e'|hr
  .grind
  .grind
  .grind
  .exact hs.sep q (DO q hq).1 r (DO r hr).1 hne b (((key q hq).2 b).1 hb)<|((key r hr).2 b).1 Bg
def ahw{o:Oper}{f:FuncId}{xs ys:A3 CR}{pre post Bs:A3 Ty}{dd:Nat}{Ai:Ctx}(BI:∀q∈Ai,q∈Γ)(hf:J8 P f pre s s' post Bs)(hod:(o.dst,o.guard)=(some dd,none))(hoe:∀{w0:Ah P} {H0:HV} {N:Nat} {a:Act} {w:AR} {H:HV},Sat w0 H0 N Ai a w H->execOp a.eval o=callFunc f (xs.map a.eval++Ae a t::ys.map a.eval).toArray)(ht:look Ai t=some s)(hi:(s.F1||s'.F1)=false)(hl:s.CD=[])(hl':s'.CD=[])
 (ha:AP Ai xs pre)(hb:AP Ai ys post)(DN:dd<N)(hne:dd≠t):Step P N ops o Γ ((dd,Im Bs)::(t,s')::del dd (BL t Γ)):=by
 intro w0 H0 a w H hs K Q k;have hg:o.guard=none:=congrArg Prod.snd hod;have hd:o.dst=some dd:=congrArg Prod.fst hod;simp[Region.wanted,hg,if_true];simp[Ki] at hi;have hsi:=hs.weaken BI;have Ex:=hs.holds _<|BI _<|BD ht
 simp only at Ex;unfold Oper.wp;rw[hoe hsi,PC hf.can,WO,hd];have atO:s.holds (Ah.Oy P w λb=>s.owns w (Ae a t) b) Rf w H (Ae a t):=AS.PR (a:=a) (λt h=>by rw[hl] at h;cases h) (AS.S5 hi.1 Ex λb hb=> .inr hb)
 refine(hf.run w H _ _ _ hs.sub hs.gl (ha.ok hsi) (hb.ok hsi) atO).mono ?_;rintro e w' ⟨r,rfl,H',hy,DQ,ho,hr⟩;have atP:s'.holds w0 a w' H' (Ae a t):=AS.PR (a:=Rf) (λt h=>by rw[hl'] at h;cases h) (AS.S5 hi.2 DQ λb hb=>by
  rcases ho b hb with h|h
  .exact AS.PT hi.1 Ex h
  .exact .inl<|Ch hs.below.size h)
 have h1:=yt hs (BI _<|BD ht) hi.1 hi.2 (λq hq _ b hb=>Ah.Qe<|AS.PT hi.1 Ex hb) hy atP ho;have h2:=QV (h1.weaken (Aq:=del dd ((t,s')::BL t Γ)) Mb) DN PX (s:=Im Bs) (v:=r) (by match Bs with|[]=>simp[Im,AS.CD]|[_]=>simp[Im,AS.CD]|_::_::_=>simp[Im,AS.CD]) (Vh hr)<|λb e=>absurd e<|AS.free_spec Vq
 refine k _ w' H'<|h2.weaken λq hq=>?_
 simp[Am] at hq⊢;rcases hq with h|h|h
 .exact .inl h
 .subst h;exact .inr (SR (by simp) (λe=>hne e.symm) (by simp only;rw[hl'];simp))
 .have:=rX h;exact .inr<|SR (Br _<|Mb _ h) this.1 this.2
def yN{f:FuncId}{x:CR}{xs ys:A3 CR}{F5:BG Ap}{pre post Bs:A3 Ty}{dd:Nat}{Ai:Ctx}(BI:∀q∈Ai,q∈Γ)(hf:J8 P f pre s s' post Bs)(hx:Et Ai x t)(ht:look Ai t=some s)(hi:(s.F1||s'.F1)=false)(hl:s.CD=[])(hl':s'.CD=[])
 (ha:AP Ai xs pre)(hb:AP Ai ys post)(DN:dd<N)(hne:dd≠t):Step P N ops ⟨some dd,.call ⟨.value<| .func f,(xs++x::ys).toArray,F5⟩,ty,pos,af,none⟩ Γ ((dd,Im Bs)::(t,s')::del dd (BL t Γ)):=by
 refine ahw BI hf rfl (λ{_ _ _ a _ _} hsi=>?_) ht hi hl hl' ha hb DN hne;have e:execOp a.eval ⟨some dd,.call ⟨.value<| .func f,(xs++x::ys).toArray,F5⟩,ty,pos,af,none⟩=callFunc f (#[]++(xs++x::ys).toArray.map a.eval++ #[]):=rfl;rw[e]
 congr 1
 simp[hx.ok hsi]
end
section
variable[D:DR]
variable{P:Program}{w0:Ah P}{H0:HV}{N:Nat}{Q:Exit->Act->World->Prop}{Γ Aq:Ctx}
variable{fn:Func}{Bs:A3 Ty}{s s':AS}
def adI(P:CP)(w:AR)(H:HV)(v:AV)(s s':AS)(Bs:A3 Ty)(e:Ending)(w':AR):Prop:=∃r,e= .returned r/\∃H',RN (λb=>s.owns w v b) w H w' H'/\s'.holds (Ah.Oy P w λb=>s.owns w v b) Rf w' H' v/\(∀b,s'.owns w' v b->s.owns w v b\/w.heap.size<=b)/\LZ H' Bs r
def sW(P:CP)(fn:Func)(w:AR)(H:HV)(v:AV)(s s':AS)(Bs:A3 Ty):Exit->Act->AR->Prop:=bodyPostM (Fx none) 0 P fn<|adI P w H v s s' Bs
def ajU{rs:A3 ResultVar}{w1:AR}{v:AV}{i:Nat}(hw0:w0=Ah.Oy P w1 λb=>s.owns w1 v b)(FJ:∀b,s.owns w1 v b->H0 b=none)(hlt:∀r o,H0 r=some o->r<w1.heap.size)(hr:fn.results=rs.toArray)(h:AZ P Γ rs Bs)(DQ:look Γ i=some s')(hp:look Γ N=some (.KP i v))(hi:s'.F1=false)(hl:s'.CD=[])
 {a:Act}{w:AR}{H:HV}(hs:Sat w0 H0 N Γ a w H):LeavesInM (Fx none) 0 P fn a.tmps (adI P w1 H0 v s s' Bs) a.defers .returning w:=by
 subst hw0;refine Vd rfl rfl (a:=a) (ds:=a.defers) hs λw H hs=>?_
 let⟨vs,h1,h2⟩:=h.run hs;have hlen:=SO h2;rw[YZ hr];simp only[E6,Sem.run_map,h1,Dt,K7];have hv:Ae a i=v:=hs.holds _<|BD hp
 have Ex:=hs.holds _<|BD DQ
 simp only at Ex;have ea:Ae {a with defers:=[]} i=v:=hv;rw[ea] at Ex;refine⟨_,rfl,_,rfl,H,⟨hs.below.size,hs.below.os,hs.below.tape,hs.below.output,hs.below.drawn,?_,?_,hs.sub⟩,AS.PR (λt h=>by rw[hl] at h;cases h) Ex,?_,?_⟩
 .intro r o ho;rw[hs.Fj rfl r (hlt r o ho) (λhx=>by have:=FJ r hx;rw[this] at ho;cases ho)];exact ho
 .exact λb hb hx=>⟨hs.below.block rfl b hb hx,hs.Fj rfl b hb hx⟩
 .intro b hb;rcases AS.PT hi Ex hb with h|h
  .exact .inr h
  .exact .inl h
 .match Bs,h2,hlen with
  |[],h2,hl=>have:vs=[]:=h2;subst this;exact⟨#[],rfl,rfl⟩
  |[τ],h2,hl=>let⟨v,rest,e,hv,hr⟩:=h2;have:rest=[]:=hr;subst this;subst e;exact hv
  |τ::Gx::l,h2,hl=>
   have: ¬vs.toArray.size=1:=by simp[hl]
   rw[dif_neg this];exact⟨vs.toArray,rfl,by simpa using h2⟩
structure je(P:CP)(w0:Ah P)(H0:HV)(w1:AR)(v:AV)(s:AS):Prop where
 eq:w0=Ah.Oy P w1 λb=>s.owns w1 v b
 no:∀b,s.owns w1 v b->H0 b=none
 lt:∀r o,H0 r=some o->r<w1.heap.size
def abu{rs:A3 ResultVar}{w1:AR}{v:AV}{i:Nat}(hk:je P w0 H0 w1 v s)(hr:fn.results=rs.toArray)(h:AZ P Γ rs Bs)(DQ:look Γ i=some s')(hp:look Γ N=some (.KP i v))(hi:s'.F1=false)(hl:s'.CD=[]):EN w0 H0 N (λa w=>sW P fn w1 H0 v s s' Bs .ret a w) Γ:=λ_ _ _ hs=>ajU hk.eq hk.no hk.lt hr h DQ hp hi hl hs
def o6:∀{l:A3 Ty} {i:Nat},∀p∈Hd i l,i<=p.1/\p.1<i+l.length/\p.2.free=true/\p.2.F1=false
 |[],_,p,hp=>by simp[Hd] at hp
 |τ::l,i,p,hp=>by
  simp only[Hd,Am] at hp;rcases hp with e|hp
  .subst e;exact⟨BQ _,by simp,rfl,rfl⟩
  .have:=o6 p hp;refine⟨by omega,by simp;omega,this.2.2.1,this.2.2.2⟩
def nr{f:FuncId}{c:Code}{pre post:A3 Ty}{N:Nat}(hf:P.funcs[f]? =some fn)(hb:fn.body=some c)(hN:fn.ntmps=N)(hn:pre.length+1+post.length<=N)(hc:Gq P f=true)(hl:s.CD=[])(hi:s.F1=false)
 (h:∀(w1:AR) (v:AV) (w0:Ah P) (H0:HV),je P w0 H0 w1 v s->Goal P w0 H0 N c (sW P fn w1 H0 v s s' Bs) ((N,.KP pre.length v)::(pre.length,s)::(Hd 0 pre++Hd (pre.length+1) post))):J8 P f pre s s' post Bs:=by
 subst hN;refine⟨hc,λw H v ps qs sub gl hps hqs hs=>?_⟩;have Az:Ee H (pre++post) (ps++qs):=Ya hps hqs;have Js:=SO hps;have hql:=SO hqs;have arO:je P (Ah.Oy P w λb=>s.owns w v b) H w v s:=⟨rfl,λb hb=>(AS.J9 hs hb).2.1,λr o ho=>HN sub ho⟩;refine(callsIn_wide (n:=0)).1<|callsIn_of_wp_marks (F:=Fence.wide) hf hb trivial<|h w v _ H arO _ w H ?_
 obtain⟨a,ha⟩:∃a:Act,a={tmps:=(ps++v::qs).toArray++Array.replicate (fn.ntmps-(ps++v::qs).toArray.size) undef,defers:=[]}:=⟨_,rfl⟩;rw[<-ha];have tL:∀j x,(ps++v::qs)[j]? =some x->Ae a j=x:=λj x hj=>by
  have Jv:=(FX.1 hj).1;have e:((ps++v::qs).toArray++Array.replicate (fn.ntmps-(ps++v::qs).toArray.size) undef)[j]? =some x:=by rw[Array.getElem?_append_left (by simpa using Jv)];simpa using hj
  rw[ha];simp only[Ae,UT,e,Zd]
 have hvv:Ae a pre.length=v:=tL _ _ (by rw[<-Js];simp);have e1:∀p∈Hd 0 pre,p.2.holds (Ah.Oy P w λb=>s.owns w v b) a w H (Ae a p.1):=eT 0 hps λj x hj=>tL _ _ (by rw[Pd,Mh (FX.1 hj).1];exact hj)
 have e2:∀p∈Hd (pre.length+1) post,p.2.holds (Ah.Oy P w λb=>s.owns w v b) a w H (Ae a p.1):=eT (pre.length+1) hqs λj x hj=>tL _ _ (by rw[Mi (by omega),<-Js,show ps.length+1+j-ps.length=j+1 by omega];simpa using hj)
 have KE:∀p∈(fn.ntmps,AS.KP pre.length v)::(pre.length,s)::(Hd 0 pre++Hd (pre.length+1) post),p.1≠pre.length->∀b,¬p.2.owns w (Ae a p.1) b:=by
  intro p hp hne b hb;simp only[Am,CJ] at hp;rcases hp with e|e|hp|hp
  .subst e;exact hb
  .subst e;exact hne rfl
  .exact AS.free_spec (o6 p hp).2.2.1 hb
  .exact AS.free_spec (o6 p hp).2.2.1 hb
 refine⟨by rw[ha];trivial,by rw[ha];simp;omega,⟨rfl,rfl,rfl,BQ _,BQ _,λ_ _ _ _=>rfl⟩,λ_ _ _ _=>rfl,sub,?_,?_,gl⟩
 .intro p hp;simp only[Am,CJ] at hp;rcases hp with e|e|hp|hp
  .subst e;exact hvv
  .subst e;simp only;rw[hvv];exact AS.PR (λt h=>by rw[hl] at h;cases h) hs
  .exact e1 p hp
  .exact e2 p hp
 .intro p hp q hq hne b hb Bg;by_cases h1:p.1=pre.length
  .exact KE q hq (λe=>hne<|h1.trans e.symm) b Bg
  .exact KE p hp h1 b hb
end
@[reducible] def tj(_:Unit):Ty:=TEq .nilIface rfl
def GX:Int:=18446744073709551616
def HD(x:Int):Bool:=decide (0<=x)&&decide (x<18446744073709551616)
def Lr(x y c:Int):A9 (Int×Int):=bif (HD x&&HD y)&&(decide (c=0)||decide (c=1)) then some ((x+y+c)%GX,(x+y+c)/GX) else none
def SU(x y b:Int):A9 (Int×Int):=bif (HD x&&HD y)&&(decide (b=0)||decide (b=1)) then some ((x-y-b)%GX,bif decide (x<y+b) then 1 else 0) else none
def D4(z:Int):Bool:=Nat.blt (Nat.log2 z.natAbs) 1099511627776
def ES{α:Type}(b:Bool)(x:α):A9 α:=bif b then some x else none
def V5(x y:Int):Int:=bif decide (x<y) then -1 else bif decide (y<x) then 1 else 0
def sP(z:Int):A9 Int:=some z.sign
def adE(z:Int):A9 Int:=some<| -z
def ti(z:Int):A9 Int:=some (z.natAbs:Int)
def bL(x y:Int):A9 Int:=ES (D4 x&&D4 y)<|V5 x y
def TK(x y:Int):A9 Int:=ES (D4 x&&D4 y)<|x+y
def KI(x y:Int):A9 Int:=ES (D4 x&&D4 y)<|x*y
def adD(x y:Int):A9 Int:=ES (D4 x&&D4 y&& !decide (y=0))<|x.fdiv y
def Q8(x y:Int):A9 Int:=ES (D4 x&&D4 y) (Int.gcd x y:Int)
def aOf(x:Int):A9 Int:=AG x
def R9(z:Int):A9 (Int×Bool):=ES (!decide (z= -9223372036854775808))<|bif IL z then(z,true) else(z.sign,false)
def sQ(z:Int):A9 Int:=ES (D4 z)<|bif decide (z=0) then 0 else(Nat.log2 z.natAbs:Int)+1
def bH:Nat->Nat->A3 UInt8->A3 UInt8
 |0,_,acc=>acc|f+1,n,acc=>bif Nat.blt n 10 then UInt8.ofNat (48+n)::acc else bH f (n/10) (UInt8.ofNat (48+n%10)::acc)
def B5(n:Nat):A3 UInt8:=bH (n+1) n []
def C8(z:Int):A3 UInt8:=bif decide (z<0) then 45::B5 z.natAbs else B5 z.natAbs
def aO(z:Int):A9 (A3 UInt8):=bif IL z then some (C8 z) else none
def jS(z b:Int):A9 (A3 UInt8):=ES (HD z&&decide (b=10))<|B5 z.toNat
def kK(l:A3 UInt8):Nat->A3 UInt8
 |0=>[]|c+1=>l++kK l c
def jR(s:A3 UInt8)(c:Int):A9 (A3 UInt8):=ES (decide (0<=c)&&decide (c<=64)&&decide (s=[48]))<|kK s c.toNat
def Pk(z:Int):A9 (A3 UInt8):=ES (D4 z)<|C8 z
def FH(q:Rat):Bool:=Nat.blt (Nat.log2 q.num.natAbs) 68719476736&&Nat.blt (Nat.log2 q.den) 68719476736
def Ou(x y:Int):A9 Rat:=ES (D4 x&&D4 y&& !decide (y=0))<|(x:Rat)/(y:Rat)
def Lm(q:Rat):A9 Bool:=some<|decide<|q.den=1
def Wv(x:Int):A9 Rat:=some (x:Rat)
def TB(q:Rat):A9 Rat:=some<| -q
def M8(x y:Rat):A9 Rat:=ES (FH x&&FH y)<|x+y
def O7(x y:Rat):A9 Rat:=ES (FH x&&FH y)<|x-y
def GS(x y:Rat):A9 Rat:=ES (FH x&&FH y)<|x*y
def TC(x y:Rat):A9 Rat:=ES (FH x&&FH y&& !decide (y=0))<|x/y
def Us(x:Rat):A9 Rat:=ES (FH x&& !decide (x=0)) x⁻¹
def O8(x y:Rat):A9 Int:=ES (FH x&&FH y)<|bif decide (x<y) then -1 else bif decide (y<x) then 1 else 0
def Ss(x y:Rat):A9 Bool:=ES (FH x&&FH y)<|decide<|x=y
def JE(x:Rat):A9 Int:=some x.num.sign
def qF(x:Int):A9 Rat:=(AG x).map λz=>(z:Rat)
def mkq(a b:Int):A9 Rat:=match b with| .ofNat (d+1)=>ES (Nat.beq (Nat.gcd a.natAbs<|d+1) 1)<|mkRat a<|d+1|_=>none
def zT{a b:Int}{r:Rat}(h:mkq a b=some r):r.num=a/\(r.den:Int)=b:=by
 unfold mkq at h;split at h
 .rename_i d;unfold ES at h;cases hc:Nat.beq (Nat.gcd a.natAbs<|d+1) 1
  .rw[hc] at h;cases h
  .rw[hc] at h;have h:=(Ez h).symm;subst h;have hg:Nat.gcd a.natAbs (d+1)=1:=EF hc;rw[Rat.num_mkRat,Rat.den_mkRat];rw[SX] at hg;simp[hg]
 .cases h
def rJ[D:DR]{a b:Int}{r:Rat}(h:mkq a b=some r):(AS.val<|DH [EM a,EM b])= .val (C3 r):=by let⟨h1,h2⟩:=zT h;rw[<-h1,<-h2]
def Dz(b:UInt8):Bool:=Nat.ble 48 b.toNat&&Nat.ble b.toNat 57
def BU(l:A3 UInt8):Nat:=l.foldl (λn b=>10*n+(b.toNat-48)) 0
def aP(s:A3 UInt8):A9 (Int×Unit):=ES (!s.isEmpty&&Nat.ble s.length 18&&s.all Dz) ((BU s:Int),())
def cutAt(sep:UInt8):A3 UInt8->A3 UInt8->A3 UInt8×A3 UInt8×Bool
 |pre,[]=>(pre.reverse,[],false)|pre,b::l=>bif b==sep then(pre.reverse,l,true) else cutAt sep (b::pre) l
def jj(s sep:A3 UInt8):A9 (A3 UInt8×A3 UInt8×Bool):=match sep with|[c]=>ES (Nat.blt s.length 4294967281)<|cutAt c [] s|_=>none
def Jg(s:A3 UInt8):A9 Int:=match s with|45::ds=>ES (ds.all Dz&&Nat.blt ds.length 1000000)<| -(BU ds:Int)|ds=>ES (ds.all Dz&&Nat.blt ds.length 1000000) (BU ds:Int)
abbrev V3:=Rat×Rat×Rat
abbrev C1:=(Int×Int×Int)×A3 UInt8
def SN{α:Type}:A3 α->A3 (α×α)
 |[]=>[]|a::l=>(a::l).zip<|l++[a]
def OB{α:Type}(c:α->α->A9 Int)(x:α):A3 α->A9 (A3 α)
 |[]=>some [x]|y::l=>bd (c x y) λk=>cond (decide<|k<0) (bd (OB c x l) λr=>some (y::r))<|some (x::y::l)
def jW{α:Type}(c:α->α->A9 Int)(l:A3 α):A9 (A3 α):=JS l (λnext x s=>bd (OB c x s) next) [] λs=>some s.reverse
def X5{α:Type}(e:α->α->A9 Bool):α->A3 α->A9 (A3 α)
 |_,[]=>some []|x,y::l=>bd (e y x) λb=>bd (X5 e y l) λr=>some<|cond b r (y::r)
def alu{α:Type}(e:α->α->A9 Bool):A3 α->A9 (A3 α)
 |[]=>some []|x::l=>bd (X5 e x l) λr=>some (x::r)
def XO{α:Type}[DecidableEq α](c:α×α->A9 Int)(x:α):A3 α->Bool
 |[]=>true
 |y::l=>(bif decide (x=y) then true else match c (x,y),c (y,x) with|some i,some j=>decide (i<0)&&decide (0<=j)|_,_=>false)&&XO c x l
def Ot{α:Type}[DecidableEq α](c:α×α->A9 Int):A3 α->Bool
 |[]=>true
 |x::l=>(match c (x,x) with|some i=>decide<|0<=i|none=>false)&&(XO c x l&&Ot c l)
def totB{α:Type}(c:α×α->A9 Int)(l:A3 α):Bool:=l.all λx=>l.all λy=>(c (x,y)).isSome
def Ia{α:Type}[DecidableEq α](l:A3 α)(c:α×α->A9 Int):A9 (A3 α):=bd (jW (λa b=>c (a,b)) l) λs=>ES (Nat.blt l.length 4611686018427387904&&(totB c l&&Ot c s)) s
def Yn{α:Type}(l:A3 α)(e:α×α->A9 Bool):A9 (A3 α):=alu (λa b=>e (a,b)) l
def Vv(l:A3 V3):A9 (A3<|V3×V3):=ES (Nat.blt l.length 1000000000)<|SN l
section
variable[D:DR]
variable{P:Program}{w0:Ah P}{H0:HV}{N:Nat}{ops:Array Oper}{Q:Exit->Act->World->Prop}{Γ Aq:Ctx}{d:Option Tmp}{ty:TypeId}{pos:String}{af:Array Edge}{g:Option (Nat×Bool)}
variable{T:Ap}{ps:A3 Bu}{τ:Ty}{t:Nat}
@[reducible] def TMp{α β:Type}(fK:α->Ty)(F:β->Ty)(l:A3 (α×β)):Ty:=kW<|l.map λp=>(fK p.1,F p.2)
def oU{l:A3 Ty}(gg:Bool)(h:Du P T τ)(hτ:∀H v,τ.ok H v->Db H l v.cells.toList)(ho:Gw l ps):B0 P Γ ⟨d,.alloc T,ty,pos,af,g⟩ (.DA T gg ps):=
 MM λw0 _ _ a w H hs=>by
  let⟨z,hr,hz⟩:=h.run w;have he:=Ext.alloc hs.sub<| .cells z.cells T (0,0)
  let⟨h1,h2,h3⟩:=ho.ok (B:=w0) (a:=a) (w:=w.alloc<| .cells z.cells T (0,0))<|hτ H z<|hz H
  refine⟨.pointer<|some ⟨w.heap.size,0,none⟩,w.alloc<| .cells z.cells T,H,?_,he,?_,?_⟩
  .simp[execOp,Instr.alloc,hr,newVar,newRow]
  .refine⟨w.heap.size,z.cells,rfl,Lx w _,?_,.inl hs.below.size,h1,h3,h2 _⟩;cases hh:H w.heap.size with|none=>rfl|some o=>have:=HN hs.sub hh;omega
  .rintro b ⟨c,e,hb⟩;cases e;rcases hb with hb|⟨cs,hc,hb⟩
   .omega
   .rw[Lx] at hc;cases hc;exact absurd hb<|h2 b
def an8{x:CR}{l:A3 Ty}(gg:Bool)(hx:Arg Γ x τ)(hτ:∀H v,τ.ok H v->Db H l v.cells.toList)(ho:Gw l ps):B0 P Γ ⟨d,.box T x,ty,pos,af,g⟩ (.DA T gg ps):=
 MM λw0 _ _ a w H hs=>by
  have he:=Ext.alloc hs.sub<| .cells (a.eval x).cells T (0,0)
  let⟨h1,h2,h3⟩:=ho.ok (B:=w0) (a:=a) (w:=w.alloc<| .cells (a.eval x).cells T (0,0))<|hτ H _<|hx.ok hs
  refine⟨.pointer<|some ⟨w.heap.size,0,none⟩,w.alloc<| .cells (a.eval x).cells T,H,?_,he,?_,?_⟩
  .simp[execOp,Instr.box,newVar,newRow]
  .refine⟨w.heap.size,(a.eval x).cells,rfl,Lx w _,?_,.inl hs.below.size,h1,h3,h2 _⟩;cases hh:H w.heap.size with|none=>rfl|some o=>have:=HN hs.sub hh;omega
  .rintro b ⟨c,e,hb⟩;cases e;rcases hb with hb|⟨cs,hc,hb⟩
   .omega
   .rw[Lx] at hc;cases hc;exact absurd hb<|h2 b
def aqt{u:Nat}(hu:look Γ u=some (.same t))(ht:look Γ t=some (.val τ)):IH w0 N Γ ((u,.val τ)::BL u Γ):=λH0 a w H hs=>by
 have e:=hs.holds _<|BD hu
 have hv:=hs.holds _<|BD ht
 exact⟨H,na (us:=[]) hs (λq hq=>DO q hq) (by rw[show Ae a u=Ae a t from e];exact hv) (λb h=>h.elim) (λ_ _ h=>by cases h)⟩
def aC{p off i dd:Nat}{T':Ap}{gg:Bool}{pp:Bu}(sm:Bool)(hp:FZ Γ p t off)(ht:look Γ t=some (.DA T' gg ps))(hi:ps[i]? =some pp)(ho:Bt ps i=off)(h1:(pp.n,pp.agg)=(1,false))(hT:Bv P T 1 false=true)(DN:dd<N)(hd:(dd !=t&& !(RD ps).contains dd)=true):Step P N ops ⟨some dd,.load T<| .tmp p,ty,pos,af,none⟩ Γ ((dd,pp.sty)::(t,.DA T' gg<|ps.set i<|Su dd sm)::del dd (BL t Γ)):=by simp[C9,MU,ne_eq,GM,qb,Ih] at hd;exact aaZ (λ_ h=>h) sm hp ht hi ho (congrArg Prod.fst h1) (congrArg Prod.snd h1) hT DN hd.1 hd.2
def abK{p off i dd:Nat}{T':Ap}{gg:Bool}{pp:Bu}(sm:Bool)(hp:FZ Γ p t off)(ht:look Γ t=some (.DA T' gg ps))(hi:ps[i]? =some pp)(ho:Bt ps i=off)(h1:(pp.n,pp.agg)=(1,false))(hT:Bv P T 1 false=true)(DN:dd<N)(hd:(dd !=t&& !(RD ps).contains dd)=true):kV P N ops Γ ⟨some dd,.load T<| .tmp p,ty,pos,af,none⟩ t (.DA T' gg<|ps.set i<|Su dd sm) dd pp.sty:=λEP BI=>by simp[C9,MU,ne_eq,GM,qb,Ih] at hd;exact aaZ BI sm hp ht hi ho (congrArg Prod.fst h1) (congrArg Prod.snd h1) hT DN hd.1 hd.2
end
section
variable[D:DR]
variable{P:Program}{w0:Ah P}{H0:HV}{N:Nat}{ops:Array Oper}{Q:Exit->Act->World->Prop}{Γ Aq:Ctx}{d:Option Tmp}{ty:TypeId}{pos:String}{af:Array Edge}{g:Option (Nat×Bool)}
variable{α β:Type}[DecidableEq α]{K E Eb T:TypeId}{sz:Nat}{fK:α->Ty}
def amR{F:β->Ty}{m k v:CR}{t:Nat}{l:A3 (α×β)}{x:α}{y:β}(hT:Ut P T K E=true)(hk:Sj P K fK)(hm:RP Γ m t)(ht:look Γ t=some (.H4 K E Eb sz<|mM fK (λv=> .val<|F v) l))(hx:Arg Γ k (fK x))(hy:Arg Γ v (F y)):P3 P N ops Γ ⟨none,.mapUpdate T m k v,ty,pos,af,none⟩ t (.H4 K E Eb sz<|mM fK (λv=> .val<|F v)<|XF l x y):=λ_ BI=>ag3 BI hT hk hm ht hx hy
def aow{K E Eb T:Ap}{sz:Nat}{α β:Type}(fK:α->Ty)(fV:β->DI):B0 P Γ ⟨d,.makeMap T none,ty,pos,af,g⟩ (.H4 K E Eb sz<|mM fK fV ([]:A3 (α×β))):=ahq
def akT{t:Nat}{F:β->Ty}{l:A3 (α×β)}(ht:look Γ t=some (.H4 K E Eb sz<|mM fK (λv=> .val<|F v) l)):IH w0 N Γ ((t,.val<|TMp fK F l)::BL t Γ):=amz ht (λp hp=>by obtain⟨q,_,rfl⟩:=BM.1 hp;rfl) (by simp[mM,kM,DI.pub])
end
section
variable[D:DR]
variable{P:Program}{w0:Ah P}{H0:HV}{N:Nat}{ops:Array Oper}{Q:Exit->Act->World->Prop}{Γ Aq:Ctx}{d:Option Tmp}{ty:TypeId}{pos:String}{af:Array Edge}{g:Option (Nat×Bool)}
variable{t:Nat}
def SC{f:FuncId}{x:CR}{xs ys:A3 CR}{F5:BG Ap}{pre post Bs:A3 Ty}{s s':AS}{dd:Nat}(hf:J8 P f pre s s' post Bs)(hx:Et Γ x t)(ht:look Γ t=some s)(hi:(s.F1||s'.F1)=false)(hl:(s.CD,s'.CD)=([],[]))
 (ha:AP Γ xs pre)(hb:AP Γ ys post)(DN:dd<N)(hne:(dd !=t)=true):Step P N ops ⟨some dd,.call ⟨.value<| .func f,(xs++x::ys).toArray,F5⟩,ty,pos,af,none⟩ Γ ((dd,Im Bs)::(t,s')::del dd (BL t Γ)):=yN (λ_ h=>h) hf hx ht hi (congrArg Prod.fst hl) (congrArg Prod.snd hl) ha hb DN (by simpa using hne)
def ak4{f:FuncId}{x:CR}{xs ys:A3 CR}{F5:BG Ap}{pre post Bs:A3 Ty}{s s':AS}{dd:Nat}(hf:J8 P f pre s s' post Bs)(hx:Et Γ x t)(ht:look Γ t=some s)(hi:(s.F1||s'.F1)=false)(hl:(s.CD,s'.CD)=([],[]))
 (ha:AP Γ xs pre)(hb:AP Γ ys post)(DN:dd<N)(hne:(dd !=t)=true):kV P N ops Γ ⟨some dd,.call ⟨.value<| .func f,(xs++x::ys).toArray,F5⟩,ty,pos,af,none⟩ t s' dd (Im Bs):=λ_ BI=>yN BI hf hx ht hi (congrArg Prod.fst hl) (congrArg Prod.snd hl) ha hb DN (by simpa using hne)
def W9{w0:Ah P}{u i:Nat}{T':Ap}{gg:Bool}{ps:A3 Bu}{E:Ap}{sz:Nat}{l:A3 Ty}(ht:look Γ t=some (.DA T' gg ps))(hi:ps[i]? =some (.sm u))(hu:look Γ u=some (.buf E sz l))(hne:(u !=t)=true):IH w0 N Γ ((t,.DA T' gg<|ps.set i<| .buf E sz l)::BL t (BL u Γ)):=ao9 (.buf E sz l) ht hi hu hne rfl (λe=>by cases e)
end
section
variable[D:DR]
variable{P:Program}{w0:Ah P}{H0:HV}{N:Nat}{Q:Exit->Act->World->Prop}{Γ Aq:Ctx}{d:Option Tmp}{ty:TypeId}{pos:String}{af:Array Edge}{g:Option (Nat×Bool)}
theorem avj{α β:Type}{f:α->β}{l:A3 α}{j:Nat}(h:j<(l.map f).length):∃x,l[j]? =some x:=by simp_all
def ape{t i k:Nat}{c:Code}{T:Ap}{gg:Bool}{ps:A3 Bu}{E:Ap}{sz:Nat}{l:A3 Ty}(ht:look Γ t=some (.DA T gg ps))(hi:ps[i]? =some (.buf E sz l))(hk:Nat.ble N k=true)(h:∀x (hx:x.oneCell'=true),Goal P w0 H0 N c Q ((k,.O5 x E sz l)::(t,.DA T gg<|ps.set i<| .val<|TEq x hx)::BL k (BL t Γ))):Goal P w0 H0 N c Q Γ:=λa w H hs=>by
 let⟨b,cs,e,hb,KU,hm,Az,IU,hx⟩:=hs.holds _<|BD ht
 simp only at e;let⟨_,h3,h4,_⟩:=R2 Az hi;have jr:=gZ Az hi;have hown:∀c,(pv (.buf E sz l) (Bt ps i) cs.toList).ownBlock=some c->GN w c ps cs.toList:=λc hc=>PO.2 ⟨i,_,hi,hc⟩
 generalize hv:pv (.buf E sz l) (Bt ps i) cs.toList=v at*
 have h1:v.oneCell'=true:=(nG h3).1;let⟨ED,hcs,k1,k2,k3⟩:=W0 (q:= .val<|TEq v h1) (x:=v) Az IU hi h3 rfl rfl<|λc hc=>hc.elim
 rw[show ED=cs.toList by rw[hcs];exact jr,hv] at*;have nw:∀c,GN w c (ps.set i<| .val<|TEq v h1) cs.toList->GN w c ps cs.toList/\ ¬v.ownBlock=some c:=λc hc=>by
  rcases k3 c hc with h|h
  .exact h.elim
  .exact h
 have hb1:∀c,(AS.DA T gg<|ps.set i<| .val<|TEq v h1).owns w (Ae a t) c->(AS.DA T gg ps).owns w (Ae a t) c/\ ¬v.ownBlock=some c:=by
  rintro c ⟨c',e',hc⟩;rw[e] at e';cases e';rcases hc with hc|⟨cs3,hb3,hc⟩
  .subst hc;exact⟨⟨c,e,.inl rfl⟩,λh=>hx<|hown c h⟩
  .rw[hb] at hb3;cases hb3;exact⟨⟨b,e,.inr ⟨cs,hb,(nw c hc).1⟩⟩,(nw c hc).2⟩
 have hb2:∀c,v.ownBlock=some c->(AS.DA T gg ps).owns w (Ae a t) c:=λc hc=>⟨b,e,.inr ⟨cs,hb,hown c hc⟩⟩
 have sub:∀q∈BL k (BL t Γ),q∈Γ/\q.1≠t/\q.1≠k:=λq hq=>⟨(DO q (DO q hq).1).1,(DO q (DO q hq).1).2,(DO q hq).2⟩
 refine h v h1 a w H ⟨hs.nd,hs.sz,hs.below,hs.Fj,hs.sub,?_,?_,hs.gl⟩
 .intro p hp;rcases Am.1 hp with e1|hp
  .subst e1;exact h4
  rcases Am.1 hp with e1|hp
  .subst e1;exact⟨b,cs,e,hb,KU,hm,k1,k2,λhc=>hx (nw b hc).1⟩
  .exact hs.holds p (sub p hp).1
 .intro p hp q hq hne c hc FR;rcases Am.1 hp with e1|hp
  .subst e1;rcases Am.1 hq with e2|hq
   .subst e2;exact hne rfl
   rcases Am.1 hq with e2|hq
   .subst e2;exact(hb1 c FR).2 hc
   .exact hs.sep _ (BD ht) q (sub q hq).1 (λe=>(sub q hq).2.1 e.symm) c (hb2 c hc) FR
  rcases Am.1 hp with e1|hp
  .subst e1;rcases Am.1 hq with e2|hq
   .subst e2;exact(hb1 c hc).2 FR
   rcases Am.1 hq with e2|hq
   .subst e2;exact hne rfl
   .exact hs.sep _ (BD ht) q (sub q hq).1 (λe=>(sub q hq).2.1 e.symm) c (hb1 c hc).1 FR
  .rcases Am.1 hq with e2|hq
   .subst e2;exact hs.sep p (sub p hp).1 _ (BD ht) (sub p hp).2.1 c hc<|hb2 c FR
   rcases Am.1 hq with e2|hq
   .subst e2;exact hs.sep p (sub p hp).1 _ (BD ht) (sub p hp).2.1 c hc (hb1 c FR).1
   .exact hs.sep p (sub p hp).1 q (sub q hq).1 hne c hc FR
def ab3{fn:Func}{rs:A3 ResultVar}{Bs:A3 Ty}{w1:AR}{v:AV}{s:AS}(hk:je P w0 H0 w1 v s)(hr:fn.results=rs.toArray)(h:AZ P Γ rs Bs):EN w0 H0 N (λa w=>sW P fn w1 H0 v s .gone Bs .ret a w) Γ:=λa w H hs=>by
 let⟨e1,e2,e3⟩:=hk;subst e1;refine Vd rfl rfl (a:=a) (ds:=a.defers) hs λw H hs=>?_
 let⟨vs,h1,h2⟩:=h.run hs;have hlen:=SO h2;rw[YZ hr];simp only[E6,Sem.run_map,h1,Dt,K7];refine⟨_,rfl,_,rfl,H,⟨hs.below.size,hs.below.os,hs.below.tape,hs.below.output,hs.below.drawn,?_,?_,hs.sub⟩,trivial,(λb hb=>hb.elim),?_⟩
 .intro r o ho;rw[hs.Fj rfl r (e3 r o ho) (λhx=>by have:=e2 r hx;rw[this] at ho;cases ho)];exact ho
 .exact λb hb hx=>⟨hs.below.block rfl b hb hx,hs.Fj rfl b hb hx⟩
 .match Bs,h2,hlen with
  |[],h2,hl=>have:vs=[]:=h2;subst this;exact⟨#[],rfl,rfl⟩
  |[τ],h2,hl=>let⟨v,rest,e,hv,hr⟩:=h2;have:rest=[]:=hr;subst this;subst e;exact hv
  |τ::Gx::l,h2,hl=>
   have: ¬vs.toArray.size=1:=by simp[hl]
   rw[dif_neg this];exact⟨vs.toArray,rfl,by simpa using h2⟩
end
section
variable{p:CP}
def aeU{w w':AR}{at_:Addr}{u:Ap}{k:Addr}{v:AV}{b:Bool}{l:A3 Addr}(h:w.viewStore p at_ u k v b= .ok (w',l)):w'.drawn=w.drawn:=by
 unfold World.viewStore at h;simp only[bind,Except.bind,pure,Except.pure,MonadExcept.throw,throwThe,MonadExceptOf.throw] at h
 repeat' (split at h)
 all_goals first|(cases h;done)|skip
 all_goals (cases h;rfl)
def af2{w w':AR}{a:Addr}{v:AV}{b:Bool}{l:A3 Addr}(h:w.farStore p a v b= .ok (w',l)):w'.drawn=w.drawn:=by
 unfold World.farStore at h;split at h
 .split at h
  .cases h;rename_i h2;exact aeU h2
  .cases h
 .cases h
def og{α:Type}:∀(q:Ask α) (w:AR),w.drawn<=(w.ask q).2.drawn
 | .done a,w=>by simp[World.ask]
 | .ask awD range k,w=>by
  unfold World.ask;simp only;split
  .exact og _ w
  .exact Ch (Qj w.drawn)<|og _ {w with drawn:=w.drawn+1}
def aih(w:AR)(c:Sys):w.drawn<=(w.sys c).2.drawn:=by
 unfold World.sys;split
 .exact BQ _
 .rename_i h;have:=og (Kernel.perform c w.os) w;rw[h] at this;exact this
def aj7{α:Type}:∀(s:Sem α) {w w':AR} {v:α},s.run p w= .ok v w'->w.drawn<=w'.drawn:=by
 intro s
 induction s with
 |pure a=>intro w w' v h;simp only[Sem.run] at h;cases h;exact BQ _
 |load m a k ih=>
  intro w w' v h;simp only[Sem.run] at h;split at h
  .exact ih _ h
  .split at h
   .exact ih _ h
   .cases h
 |store m a u k ih=>
  intro w w' v h;have key:∀r:Result α,(match w.cell? a with
   |some _=>if w.frozen? a then Result.halt (.unsupported<| .unsafePointer "a write to bytes that a string shares") w else k.run p (w.setCell a u)
   |none=>match w.farStore p a u (m== .atomic) with
    | .ok (w,_)=>k.run p w
    | .error h=>Result.halt h w)=r->r= .ok v w'->w.drawn<=w'.drawn:=by
   intro r hr e;subst e;split at hr
   .split at hr
    .cases hr
    .have:= @ih _ _ _ hr;exact this
   .split at hr
    .rename_i w2 l h2;have:=ih hr;rwa [af2 h2] at this
    .cases hr
  cases u<;>first|(unfold Sem.run at h;cases h;done)|(unfold Sem.run at h;exact key _ rfl h)
 |new o k ih=>intro w w' v h;simp only[Sem.run] at h;have:= @ih _ _ _ _ h;exact this|shape r k ih=>intro w w' v h;simp only[Sem.run] at h;exact ih _ h
 |freeze a n k ih=>
  intro w w' v h;simp only[Sem.run] at h;have:=ih h;have e:(w.freeze a n).drawn=w.drawn:=by unfold World.freeze;split<;>rfl
  rwa [e] at this
 |frozen a k ih=>intro w w' v h;simp only[Sem.run] at h;exact ih _ h
 |getObj r k ih=>intro w w' v h;simp only[Sem.run] at h;split at h<;>first|(cases h;done)|exact ih _ h
 |setObj r o k ih=>
  intro w w' v h;simp only[Sem.run] at h;split at h
  .cases h
  .have:= @ih _ _ _ h;exact this
  .cases h
 |choose q k ih=>
  intro w w' v h;simp only[Sem.run] at h;split at h
  .exact ih _ h
  .have:= @ih _ _ _ _ h;exact Ch (Qj _) this
 |sys c k ih=>intro w w' v h;simp only[Sem.run] at h;exact Ch (aih w c)<|ih _ h
 |program k ih=>intro w w' v h;simp only[Sem.run] at h;exact ih _ h|mark m k ih=>intro w w' v h;simp only[Sem.run] at h;exact ih h|halt h=>intro w w' v e;simp only[Sem.run] at e;cases e
end
section
variable[D:DR]
variable{P:Program}{w0:Ah P}{H0:HV}{N:Nat}{ops:Array Oper}{Q:Exit->Act->World->Prop}{Γ Aq:Ctx}{d:Option Tmp}{ty:TypeId}{pos:String}{af:Array Edge}{g:Option (Nat×Bool)}
def S8{f:FuncId}{args Bs:A3 Ty}(hc:Gq P f=true)
  (h:∀(w:AR) (H:HV) (vs:A3 AV),(∀r o,H r=some o->w.heap[r]? =some o)->LY P H->Ee H args vs->Calls P f vs.toArray w λe w'=>∃v,e= .returned v/\Fc w.heap.size w w'/\LZ H Bs v):Eg P f args (.vs Bs):=
 ⟨hc,λw H vs sub gl ha=>(h w H vs sub gl ha).mono λe w' ⟨v,he,hb,hv⟩=>⟨v,he,hb,H,λ_ _=>rfl,λr o hr=>by have:=sub r o hr;rw[hb.block r<|lt_of_heap this];exact this,hv⟩⟩
def lB(l:A3 UInt8):A3 Ty:=l.map λb=>TI .u8 (b.toNat:Int)
def aL{H:HV}:∀{l:A3 UInt8} {xs:A3 AV},Db H (lB l) xs↔xs=Lib.byteCells l
 |[],xs=>Iff.rfl
 |b::l,xs=>by
  show Db H (TI .u8 (b.toNat:Int)::lB l) xs↔_;constructor
  .rintro⟨v,rest,e,hv,hr⟩;have hv:v= .int .u8 b.toNat:=hv;subst hv;rw[aL] at hr;subst hr;exact e
  .intro e;exact⟨.int .u8 b.toNat,Lib.byteCells l,e,rfl,aL.2 rfl⟩
def oY(l:A3 UInt8):(lB l).length=l.length:=by simp[lB]
def ah5{T E:Ap}(h:(P.info? T).bind (·.zero)=some (.agg #[.pointer none,.slice none 0 0])):B0 P Γ ⟨d,.alloc T,ty,pos,af,g⟩ (.I4 T E<|lB []):=
 MM λw0 _ _ a w H hs=>by
  have hz:Du P T (Ip 2 true):=Fp _ h<|λ_=>Ko rfl rfl
  have hr:(zeroValue T).run P w= .ok (.agg #[.pointer none,.slice none 0 0]) w:=by cases hi:P.info? T with|none=>rw[hi] at h;cases h|some i=>rw[hi] at h;exact vP hi h w
  refine⟨.pointer<|some ⟨w.heap.size,0,none⟩,w.alloc<| .cells #[.pointer none,.slice none 0 0] T,H,?_,Ext.alloc hs.sub _,?_,?_⟩
  .simp[execOp,Instr.alloc,hr,newVar,newRow,Value.cells]
  .refine⟨w.heap.size,_,_,rfl,Lx w _,.inl rfl,?_,.inl hs.below.size,y7,by simp[Value.ownBlock]⟩;cases hh:H w.heap.size with|none=>rfl|some o=>have:=HN hs.sub hh;omega
  .rintro b ⟨c,e,hb⟩;cases e;rcases hb with hb|⟨p,r,hc,hb⟩
   .omega
   .rw[Lx] at hc;simp at hc;obtain⟨rfl,rfl⟩:=hc;simp[Value.ownBlock] at hb
def aoM{w:AR}{t u ty e:Ap}{i:TypeInfo}(ht:P.underlying t=some (.slice e))(hu:P.underlying u=some .string)(hi:P.info? e=some i)(hz:i.zero=some (.int .u8 0))(Ul:i.size=1)(hby:i.bytes=1)
  {v:AV}{n:Nat}{xs:A3 AV}(hown:w.ownsRow 0 e 1 v n xs)(s:ByteArray)(hlen:n+s.size<=140737488355328):∃v' w',(Builtin.append_ #[t,u] ty #[v,.string s]).run P w= .ok v' w'/\w'.ownsRow 0 e 1 v' (n+s.size) (xs++Lib.strCells s)/\Ef w w' v.ownBlock/\
   ∀b,v'.ownBlock=some b->v.ownBlock=some b\/w.heap.size<=b:=by
 have H7:n+s.size<=maxLen:=by unfold maxLen;omega
 let⟨v',w',hr,h2,h3,h4⟩:=Lib.run_append_own_string (P:=P) w 0 t u ty e i ht hu hi hz Ul hby v n xs hown s H7 hlen<|FV _
 refine⟨v',w',hr,h2,⟨h3,H9.of<|aj7 _ hr⟩,λb hb=>?_⟩;have GZ:xs.length=n:=by simpa using hown.1
 rcases hown.2 with⟨rfl,rfl⟩|⟨g,cap,cur,rfl,hbg,hg,hnc,hcm,hcs,htake⟩
 .by_cases hm:s.size=0
  .rw[h4.2 ⟨rfl,hm⟩] at hb;simp[Value.ownBlock] at hb
  .have Hi:=run_append_nil_string (P:=P) w t u ty e i (.int .u8 0) ht hu hi hz s (by omega) (by omega) (by rw[hby];omega);rw[hr] at Hi;cases Hi;simp[Value.ownBlock] at hb;exact .inr (by omega)
 .by_cases Sw:n+s.size<=cap
  .have Hi:=Lib.run_append_room_string (P:=P) w t u ty e i ht hu hi Ul g n cap cur hg s Sw (by omega);rw[hr] at Hi;cases Hi;exact .inl hb
  .have holds:∀j u,xs[j]? =some u->w.cell? ((⟨g,0,none⟩:Addr).add j)=some u:=hown.cells (g:=g) rfl;have Hi:=Lib.run_append_grow_string (P:=P) w t u ty e i (.int .u8 0) ht hu hi hz ⟨g,0,none⟩ n cap xs (by rw[Ul];simpa using GZ) holds s (by omega) (by omega) (by rw[hby];exact growslice_fits (by omega) (by omega));rw[hr] at Hi;cases Hi;simp[Value.ownBlock] at hb;exact .inr (by omega)
def aoR{w:AR}{ops:BG Oper}{rest:A3 Oper}{o:Oper}{a:Act}{Q:Exit->Act->AR->Prop}(hgd:o.guard=none)(sl x:CR)(t u:Ap)
  (ho:o.op= .call {callee:= .builtin .append,args:= #[sl,x],argTypes:= #[t,u]})
  (e:Ap)(i:TypeInfo)(ht:P.underlying t=some (.slice e))(hu:P.underlying u=some .string)(hi:P.info? e=some i)(hz:i.zero=some (.int .u8 0))(Ul:i.size=1)(hby:i.bytes=1)
  (v:AV)(n:Nat)(xs:A3 AV)(hs:a.eval sl=v)(hown:w.ownsRow 0 e 1 v n xs)(s:ByteArray)(hx:a.eval x= .string s)(hlen:n+s.size<=140737488355328)
  (h:∀v' w',w'.ownsRow 0 e 1 v' (n+s.size) (xs++Lib.strCells s)->Ef w w' v.ownBlock->(∀b,v'.ownBlock=some b->v.ownBlock=some b\/w.heap.size<=b)->wpList P ops Q rest (a.put o.dst v') w'):wpList P ops Q (o::rest) a w:=by
 refine wpList_plain hgd λK hK=>?_
 let⟨v',w',hr,h2,h3,h4⟩:=aoM (P:=P) (ty:=o.type) ht hu hi hz Ul hby hown s hlen;unfold Oper.wp execOp;simp only[ho,resolve,invoke,builtin,E6,K7,Dt,List.map_toArray,MW,ZV,hs,hx,hr];exact hK _ _<|h v' w' h2 h3 h4
end
section
open Go.Shelf
variable[D:DR]
variable{P:Program}{ρ:Ren}
variable{w:AR}{M:Nat->Prop}{b:Nat}{p v:AV}{w':AR}{H:HV}{T:Ap}{l:A3 UInt8}{vs:A3 AV}
structure Tr(M:Nat->Prop)(w w':AR):Prop where
 size:w.heap.size<=w'.heap.size
 os:w'.os=w.os
 tape:w'.tape=w.tape
 output:w'.output=w.output
 drawn:H9 w w'
 E9:∀k,k<w.heap.size-> ¬M k->w'.heap[k]? =w.heap[k]?
def Tr.refl(M:Nat->Prop)(w:AR):Tr M w w:=⟨BQ _,rfl,rfl,rfl,BQ _,λ_ _ _=>rfl⟩
def Tr.trans{M:Nat->Prop}{w w' w'':AR}(h:Tr M w w')(k:Tr M w' w''):Tr M w w'':=⟨Ch h.size k.size,k.os.trans h.os,k.tape.trans h.tape,k.output.trans h.output,Ch h.drawn k.drawn,λi hi hm=>(k.E9 i (KA hi h.size) hm).trans<|h.E9 i hi hm⟩
def Tr.setCell{M:Nat->Prop}(w:AR)(a:Addr)(x:AV)(h:M a.block):Tr M w (w.setCell a x):=⟨by simp[World.setCell],rfl,rfl,rfl,BQ _,λk _ hk=>Below.heap_setCell _ _ _ _<|λe=>hk<|e▸h⟩
def Tr.grown{row:A9 Nat}(h:Ef w w' row)(hr:∀k,row=some k->M k):Tr M w w':=⟨h.size,h.os,h.tape,h.output,h.drawn,λk hk hm=>h.block k hk<|λe=>hm<|hr k e.symm⟩
def Tr.mono{M2:Nat->Prop}{w2:AR}(h:Tr M w w2)(k:∀b,M b->M2 b):Tr M2 w w2:=⟨h.size,h.os,h.tape,h.output,h.drawn,λi hi hm=>h.E9 i hi<|λx=>hm<|k i x⟩
def Tr.drew{M:Nat->Prop}(w:AR):Tr M w w.drew:=⟨BQ _,rfl,rfl,rfl,H9.of<|Qj _,λ_ _ _=>rfl⟩
def Tr.Lb(h:Tr M w w')(sub:∀r o,H r=some o->w.heap[r]? =some o)(hM:∀b,M b->H b=none):RN M w H w' H:=
 ⟨h.size,h.os,h.tape,h.output,h.drawn,HV.le.refl _,λb hb hm=>⟨h.E9 b hb hm,rfl⟩,λr o hr=>by have hw:=sub r o hr;rw[h.E9 r (lt_of_heap hw) (λhm=>by rw[hM r hm] at hr;cases hr)];exact hw⟩
def oO(hb:w.heap[b]? =some (.cells #[p,v] T (0,0))):w.cell? ⟨b,0,none⟩=some p/\w.cell? ⟨b,1,none⟩=some v/\w.shape? b=some (T,2)/\(∀j,w.frozen? ⟨b,j,none⟩=false):=⟨by rw[Zb hb];rfl,by rw[Zb hb];rfl,by simp[World.shape?,hb],λj=>Lib.frozen_of_heap hb j⟩
def ajb{x:AV}(hb:w.heap[b]? =some (.cells #[p,v] T (0,0))):(w.setCell ⟨b,1,none⟩ x).heap[b]? =some (.cells #[p,x] T (0,0)):=by simp[World.setCell,UP,hb]
def ajd{x:AV}(hb:w.heap[b]? =some (.cells #[p,v] T (0,0))):(w.setCell ⟨b,0,none⟩ x).heap[b]? =some (.cells #[x,v] T (0,0)):=by simp[World.setCell,UP,hb]
def ajt(L:Lays.n240 P ρ)(X:Builder.X72 P ρ)(hb:w.heap[b]? =some (.cells #[p,v] (ρ.t 72) (0,0)))(hp:p= .pointer none\/p= .pointer (some ⟨b,0,none⟩)):Calls P (ρ.f 240) #[.pointer<|some ⟨b,0,none⟩] w λe w'=>e= .returned (.tuple #[])/\w'.heap[b]? =some (.cells #[.pointer<|some ⟨b,0,none⟩,v] (ρ.t 72) (0,0))/\Tr (λk=>k=b) w w'/\w'.heap.size=w.heap.size:=by
 let⟨c0,c1,CW,hfz⟩:=oO hb;rcases hp with rfl|rfl
 .refine(Any.Builder_copyCheck_fresh L X b w c0 CW<|hfz 0).mono ?_;rintro e w' ⟨rfl,rfl⟩;exact⟨rfl,ajd hb,Tr.setCell w _ _ rfl,by simp[World.setCell]⟩
 .refine(Any.Builder_copyCheck_used L X b w c0).mono ?_;rintro e w' ⟨rfl,rfl⟩;exact⟨rfl,hb,Tr.refl _ _,rfl⟩
def yw{e:Ap}{n:Nat}{xs:A3 AV}(h:w.ownsRow 0 e 1 v n xs)(hk:∀g,v.ownBlock=some g->w'.heap[g]? =w.heap[g]?):w'.ownsRow 0 e 1 v n xs:=by
 refine⟨h.1,?_⟩;rcases h.2 with h|⟨g,cap,cur,e1,h1,hc,h2⟩
 .exact .inl h
 .exact .inr ⟨g,cap,cur,e1,h1,by rw[hk g (by rw[e1];rfl)];exact hc,h2⟩
set_option maxHeartbeats 2000000 in
set_option maxRecDepth 100000 in
def aeZ(L:Lays.n166 P ρ)(X:Builder.Extra P ρ){bs:A3 AV}(s:ByteArray)(hb:w.heap[b]? =some (.cells #[p,v] (ρ.t 72) (0,0)))(hp:p= .pointer none\/p= .pointer (some ⟨b,0,none⟩))
 (hown:w.ownsRow 0 (ρ.t 5) 1 v bs.length bs)(hne:v.ownBlock≠some b)(hlen:bs.length+s.size<=140737488355328):Calls P (ρ.f 166) #[.pointer<|some ⟨b,0,none⟩,.string s] w λe w'=>e= .returned (.tuple #[.int .i64 s.size,.nilIface])/\∃v',w'.heap[b]? =some (.cells #[.pointer<|some ⟨b,0,none⟩,v'] (ρ.t 72) (0,0))/\w'.ownsRow 0 (ρ.t 5) 1 v' (bs.length+s.size) (bs++Lib.strCells s)/\v'.ownBlock≠some b/\
   (∀g,v'.ownBlock=some g->v.ownBlock=some g\/w.heap.size<=g)/\Tr (λk=>k=b\/v.ownBlock=some k) w w':=by
 let⟨i0,hi,hz0,hz1,hz2⟩:=info_parts X.infoByte;have hblt:b<w.heap.size:=lt_of_heap hb;have mixed:=L.mixed;have t72:=L.t72;have a72:=L.a72;have z72:=L.z72;have v72:=L.v72;have u72:=Kh L.t72;have t70:=L.t70;have a70:=L.a70;have z70:=L.z70;have v70:=L.v70;have u70:=Kh L.t70;have t37:=L.t37;have a37:=L.a37;have z37:=L.z37;have v37:=L.v37;have u37:=Kh L.t37;have t3:=L.t3;have a3:=L.a3;have z3:=L.z3;have v3:=L.v3;have u3:=Kh L.t3;have t9:=L.t9;have a9:=L.a9;have z9:=L.z9;have v9:=L.v9;have u9:=Kh L.t9;have t4:=L.t4;have a4:=L.a4;have z4:=L.z4;have v4:=L.v4;have u4:=Kh L.t4;have t164:=L.t164;have a164:=L.a164;have z164:=L.z164;have v164:=L.v164;have u164:=Kh L.t164;have t5:=X.t5;have a5:=X.a5;have z5:=X.z5;have v5:=X.v5;have u5:=Kh X.t5;have e240:∀args w,(callFunc (ρ.f 240) args).run P w= .ok (.enter (ρ.f 240) args) w:=enters_of L.f240 A6 rfl
 go_enter L.f166,Body.n166_ntmps ρ
 go_wp2_with (go_at_fn (ρ.f 240);refine(ajt {L with} X.toX72 hb hp).mono ?_)
 rintro e w1 ⟨rfl,hb1,ht1,hs1⟩;have hown1:w1.ownsRow 0 (ρ.t 5) 1 v bs.length bs:=yw hown λg hg=>ht1.E9 g (hown.lt g hg).2 (λe=>hne (by rw[hg,e]))
 let⟨c0,c1,_,_⟩:=oO hb1
 go_wp2_with (at_builtin;refine aoR rfl _ _ (ρ.t 37) (ρ.t 9) rfl (ρ.t 5) i0 L.t37 L.t9 hi hz0 hz1 hz2 _ _ _ rfl hown1 s rfl hlen ?_)
 intro v' w2 hown' hgrow hfr;have hb2:w2.heap[b]? =some (.cells #[.pointer<|some ⟨b,0,none⟩,v] (ρ.t 72) (0,0)):=by rw[hgrow.block b (by omega)<|λe=>hne e.symm];exact hb1
 let⟨d0,d1,_,hf⟩:=oO hb2;have f1:=hf 1;have hne':v'.ownBlock≠some b:=λe=>by
  rcases hfr b e with h|h
  .exact hne h
  .omega
 obtain⟨ao,n',cap,rfl⟩:∃ao n' cap,v'= .slice ao n' cap:=by
  rcases hown'.2 with⟨hv,_⟩|⟨g,cap,cur,hv,_⟩
  .exact⟨_,_,_,hv⟩
  .exact⟨_,_,_,hv⟩
 go_wp2
 go_ret2
 refine⟨rfl,_,ajb hb2,yw hown' λg hg=>?_,hne',λg hg=>by have:=hfr g hg;omega,?_⟩
 .exact Below.heap_setCell _ _ _ _ (λe=>hne' (by rw[hg,e]))
 .exact((ht1.mono<|λk h=> .inl h).trans<|Tr.grown hgrow<|λk h=> .inr h).trans<|Tr.setCell _ _ _<| .inl rfl
def Tr.freeze{M:Nat->Prop}(w:AR)(a:Addr)(n:Nat)(h:M a.block):Tr M w (w.freeze a n):=by
 unfold World.freeze;split
 .exact Tr.refl _ _
 .refine⟨by simp,rfl,rfl,rfl,BQ _,λk _ hk=>?_⟩;simp only[UP];rw[if_neg (λ(e:a.block=k)=>hk (by rw[<-e];exact h))]
set_option maxHeartbeats 1000000 in
set_option maxRecDepth 100000 in
def aeG(L:Lays.n169 P ρ)(X:Builder.Extra P ρ)(hbk:w.heap[b]? =some (.cells #[p,v] (ρ.t 72) (0,0)))(hown:w.ownsRow 0 (ρ.t 5) 1 v l.length (Lib.byteCells l))(h0:l≠[]):Calls P (ρ.f 169) #[.pointer<|some ⟨b,0,none⟩] w λe w'=>e= .returned (.string ⟨l.toArray⟩)/\Tr (λk=>v.ownBlock=some k) w w':=by
 have hl0:l.length≠0:=by simpa using h0
 obtain⟨g,cap,cur,rfl,hg,hnc,hcm,hcs,htake⟩:∃g cap cur,v= .slice (some ⟨g,0,none⟩) l.length cap/\w.heap[g]? =some (.cells cur (ρ.t 5) (0,0))/\l.length<=cap/\cap<=maxLen/\cur.size=cap*1/\cur.toList.take (l.length*1)=Lib.byteCells l:=by
  rcases hown.2 with⟨_,hz⟩|⟨g,cap,cur,hv,_,r⟩
  .exact absurd hz hl0
  .exact⟨g,cap,cur,hv,r⟩
 have c1:w.drew.cell? ⟨b,1,none⟩=some (.slice (some ⟨g,0,none⟩) l.length cap):=by have:w.drew.heap[b]? =some (.cells #[p,.slice (some ⟨g,0,none⟩) l.length cap] (ρ.t 72) (0,0)):=hbk;rw[Zb this];rfl
 have hSD:(Builtin.unsafeSliceData_ #[(ρ.t 37)] (ρ.t 127) #[.slice (some ⟨g,0,none⟩) l.length cap]).run P w.drew= .ok (.pointer<|some ⟨g,0,none⟩) w.drew:=Lib.run_unsafeSliceData_row _ _ _ _ _ _ (by omega)
 have hUS:(Builtin.unsafeString_ #[(ρ.t 127),(ρ.t 3)] (ρ.t 9) #[.pointer<|some ⟨g,0,none⟩,.int .i64 l.length]).run P w.drew= .ok (.string ⟨l.toArray⟩) (w.drew.freeze ⟨g,0,none⟩ l.length):=by refine Lib.run_unsafeString_row w.drew (ρ.t 127) (ρ.t 3) (ρ.t 9) (ρ.t 5) L.t127 X.cellsByte g cur.size (by have hg':w.drew.heap[g]? =some (.cells cur (ρ.t 5) (0,0)):=hg;simp[World.shape?,hg']) l h0 (by omega) (by unfold maxLen at hcm;omega) ?_;intro j x hx;exact hown.cells (g:=g) rfl j (.int .u8 x.toNat) (by simp[Lib.byteCells,hx])
 have mixed:=L.mixed;have t72:=L.t72;have a72:=L.a72;have z72:=L.z72;have v72:=L.v72;have u72:=Kh L.t72;have t70:=L.t70;have a70:=L.a70;have z70:=L.z70;have v70:=L.v70;have u70:=Kh L.t70;have t37:=L.t37;have a37:=L.a37;have z37:=L.z37;have v37:=L.v37;have u37:=Kh L.t37;have t127:=L.t127;have a127:=L.a127;have z127:=L.z127;have v127:=L.v127;have u127:=Kh L.t127;have t3:=L.t3;have a3:=L.a3;have z3:=L.z3;have v3:=L.v3;have u3:=Kh L.t3;have t9:=L.t9;have a9:=L.a9;have z9:=L.z9;have v9:=L.v9;have u9:=Kh L.t9;have t5:=X.t5;have a5:=X.a5;have z5:=X.z5;have v5:=X.v5;have u5:=Kh X.t5
 go_enter L.f169,Body.n169_ntmps ρ
 go_wp2
 go_region_o
 all_goals (go_wp2;go_ret;exact⟨rfl,(Tr.drew w).trans<|Tr.freeze _ _ _ rfl⟩)
def W7(l s:A3 UInt8):A9 (A3 UInt8×Int×Unit):=ES (Nat.ble (l.length+s.length) 140737488355328) (l++s,(s.length:Int),())
def Yj(l:A3 UInt8):A9 (A3 UInt8):=ES (!l.isEmpty) l
theorem HK{α:Type}{b:Bool}{x r:α}(h:ES b x=some r):b=true/\x=r:=by grind [ES]
def ZM(h:Ee H [] vs):vs=[]:=h
theorem PY{τ:Ty}(h:Ee H [τ] vs):∃v,vs=[v]/\τ.ok H v:=by simp_all [Ee,Ty.ok]
theorem U8{τ σ:Ty}(h:Ee H [τ,σ] vs):∃v u,vs=[v,u]/\τ.ok H v/\σ.ok H u:=by(simp_all [Ee,Ty.ok]<;>grind)
def byteCells_append(l s:A3 UInt8):Lib.byteCells (l++s)=Lib.byteCells l++Lib.byteCells s:=by simp[Lib.byteCells]
def ajs(L:Lays.n166 P ρ)(X:Builder.Extra P ρ)(hc:Gq P (ρ.f 166)=true){s:A3 UInt8}{r:A3 UInt8×Int×Unit}(hm:W7 l s=some r):J8 P (ρ.f 166) [] (.I4 (ρ.t 72) (ρ.t 5)<|lB l) (.I4 (ρ.t 72) (ρ.t 5)<|lB r.1) [TS s] [TI .i64 r.2.1,tj r.2.2]:=by
 obtain⟨hb,rfl⟩:=HK hm;have hb:=Dx hb;refine⟨hc,λw H v ps qs sub gl hp hq hs=>?_⟩;have hp:=ZM hp;subst hp;obtain⟨x,rfl,hx⟩:=PY hq;have hx:x= .string ⟨s.toArray⟩:=hx;subst hx;obtain⟨b,p,row,rfl,hbk,hpp,hn,hB,⟨xs,hown,Az,hH⟩,hne⟩:=hs;rw[aL] at Az;subst Az;rw[oY] at hown;refine(aeZ L X (bs:=Lib.byteCells l) ⟨s.toArray⟩ hbk hpp (by simpa[Lib.byteCells] using hown) hne (by simpa[Lib.byteCells,ByteArray.size] using hb)).mono ?_;rintro e w' ⟨rfl,v',Bg,Jt,hne',hfr,ht⟩;have Ex:Lib.strCells ⟨s.toArray⟩=Lib.byteCells s:=rfl;have hmo:∀k,k=b\/row.ownBlock=some k->(AS.I4 (ρ.t 72) (ρ.t 5)<|lB l).owns w (.pointer<|some ⟨b,0,none⟩) k:=λk h=>⟨b,rfl,h.imp id λh=>⟨p,row,hbk,h⟩⟩
 have hMn:∀k,(AS.I4 (ρ.t 72) (ρ.t 5)<|lB l).owns w (.pointer<|some ⟨b,0,none⟩) k->k=b\/row.ownBlock=some k:=by
  rintro k ⟨c,e,h⟩;cases e;rcases h with h|⟨p',r',FR,h⟩
  .exact .inl h
  .have e2:=hbk.symm.trans FR;simp at e2;obtain⟨rfl,rfl⟩:=e2;exact .inr h
 refine⟨_,rfl,H,(ht.mono hmo).Lb sub<|λk hk=>?_,⟨b,_,v',rfl,Bg,.inr rfl,hn,hB,⟨_,?_,aL.2 rfl,λg hg=>?_⟩,hne'⟩,?_,⟨#[.int .i64 s.length,.nilIface],?_,_,_,rfl,rfl,_,_,rfl,rfl,rfl⟩⟩
 .rcases hMn k hk with rfl|h
  .exact hn
  .exact(hH k h).1
 .rw[oY,byteCells_append,DS];exact(by simpa[Lib.byteCells,ByteArray.size,Ex] using Jt)
 .rcases hfr g hg with h|h
  .exact hH g h
  .refine⟨?_,.inl h⟩;cases hh:H g with|none=>rfl|some o=>have:=HN sub hh;omega
 .rintro k ⟨c,e,h⟩;cases e;rcases h with h|⟨p',r',FR,h⟩
  .exact .inl<|hmo k<| .inl h
  .have e2:=Bg.symm.trans FR;simp at e2;obtain⟨rfl,rfl⟩:=e2;exact(hfr k h).imp (λh=>hmo k<| .inr h) id
 .simp[ByteArray.size]
theorem aAn{E:Ap}{l:A3 Ty}{row:AV}(hbk:w.heap[b]? =some (.cells #[p,row] T (0,0)))(k:Nat):(AS.I4 T E l).owns w (.pointer<|some ⟨b,0,none⟩) k↔k=b\/row.ownBlock=some k:=by grind [AS.owns]
def aiQ(L:Lays.n169 P ρ)(X:Builder.Extra P ρ)(hc:Gq P (ρ.f 169)=true){r:A3 UInt8}(hm:Yj l=some r):J8 P (ρ.f 169) [] (.I4 (ρ.t 72) (ρ.t 5)<|lB l) .gone [] [TS r]:=by
 obtain⟨h0,rfl⟩:=HK hm;refine⟨hc,λw H v ps qs sub gl hp hq hs=>?_⟩;have hp:=ZM hp;subst hp;have hq:=ZM hq;subst hq;obtain⟨b,p,row,rfl,hbk,hpp,hn,hB,⟨xs,hown,Az,hH⟩,hne⟩:=hs;rw[aL] at Az;subst Az;rw[oY] at hown;refine(aeG L X hbk hown (by rintro rfl;simp at h0)).mono ?_;rintro e w' ⟨rfl,ht⟩;exact⟨_,rfl,H,(ht.mono λk h=>(aAn hbk k).2<| .inr h).Lb sub (λk hk=>by
  rcases(aAn hbk k).1 hk with rfl|h
  .exact hn
  .exact(hH k h).1),trivial,λk hk=>hk.elim,rfl⟩
instance instDecAVec:DecidableEq (A3 UInt8×A3 UInt8×A3 UInt8):=inferInstance
end
section
open Go.Shelf
variable[D:DR]
variable{P:Program}{ρ:Ren}
variable{P:Program}{N:Nat}{ops:Array Oper}{Γ:Ctx}{ty:TypeId}{pos:String}{af:Array Edge}
def ou{u t dd:Nat}{s:AS}(hu:look Γ u=some (.same t))(ht:look Γ t=some s)(hl:s.CD=[])(DN:dd<N)(o:Op)(ho:o= .assign (.tmp u)\/o= .move (.tmp u)):Step P N ops ⟨some dd,o,ty,pos,af,none⟩ Γ ((dd,s)::del dd (BL t Γ)):=by
 intro w0 H0 a w H BJ K Q k;simp[Region.wanted,if_true];have eu:Ae a u=Ae a t:=BJ.holds _<|BD hu
 have er:(execOp a.eval ⟨some dd,o,ty,pos,af,none⟩).run P w= .ok (.value<|Ae a t) w:=by rw[<-eu];rcases ho with rfl|rfl<;>rfl
 unfold Oper.wp;rw[er,OW];exact k _ w H (Vx BJ (BD ht) (nv w) (λ_ e=>by cases e) DN (by rw[hl];simp) (BJ.holds _<|BD ht) λ_ h=> .inl h)
end
section
open Go.Shelf
variable[D:DR]
variable{P:Program}{ρ:Ren}
def Vo{α:Type}(l:A3 α):A9 (A3 α):=ES (Nat.blt l.length 4000000000) l
def Qf(x y:Int):A9 (Int×Int):=bif HD x&&HD y then some (x*y/GX,x*y%GX) else none
def O0(n:Nat):Nat:=bif Nat.beq n 0 then 0 else Nat.log2 n+1
def ZO(x:Int):A9 Int:=bif HD x then some (O0 x.toNat:Int) else none
def Wo(x:Int):A9 Int:=bif HD x then some (64-(O0 x.toNat:Int)) else none
end
section
variable[D:DR]
variable{P:Program}{w0:Ah P}{H0:HV}{N:Nat}{ops:Array Oper}{Q:Exit->Act->World->Prop}{Γ Aq:Ctx}{d:Option Tmp}{ty:TypeId}{pos:String}{af:Array Edge}{g:Option (Nat×Bool)}
variable{α:Type}{f:α->Ty}{l:A3 α}{t:Nat}{T E:Ap}{sz:Nat}{pre post:A3 AV}{y:α}{p j:Nat}{x:CR}{z:α}
def NC{s ix:CR}{k:IntKind}{i:Int}(hT:GP P T sz=true)(hs:Et Γ s t)(ht:look Γ t=some (.F2 E pre post<|lT f l))(hi:Arg Γ ix (TI k i))(h:AB l i=some y):B0 P Γ ⟨d,.indexAddr T s ix,ty,pos,af,g⟩ (.NQ t i.toNat sz):=
 Dp λw0 _ _ a w H BJ=>by
  let⟨h0,h1,h3⟩:=HX h;let⟨b,c,cur,xs,e,_⟩:=BJ.holds _<|BD ht
  simp only at e;have e3:a.eval s= .slice (some ⟨b,pre.length,none⟩) l.length c:=by rw[hs.ok BJ,e,C2]
  have ei:a.eval ix= .int k i:=hi.ok BJ;have hr:=lZ (P:=P) hT b pre.length l.length c (k:=k) h0 h1 w;exact⟨.pointer<|some ⟨b,pre.length+i.toNat*sz,none⟩,by simp only[execOp,e3,ei,E6,hr,Dt];rfl,⟨b,pre.length,_,c,e,rfl⟩,rfl⟩
def R0(hf:∀z,(f z).n=sz)(hp:look Γ p=some (.NQ t j sz))(ht:look Γ t=some (.F2 E pre post<|lT f l))(h:l[j]? =some y)(hT:Bv P T (f y).n (f y).agg=true):B0 P Γ ⟨d,.load T<| .tmp p,ty,pos,af,g⟩ (.val<|f y):=
 Dp λw0 _ _ a w H BJ=>by
  let⟨b,c,cur,xs,e,hb,MA,ho,hH,hB⟩:=BJ.holds _<|BD ht
  let⟨b',o,n',c',e1,e2⟩:=BJ.holds _<|BD hp
  simp only at e e1 e2;rw[e] at e1;cases e1;have hj:(lT f l)[j]? =some (f y):=by rw[HL,h];rfl
  have Jv:=(FX.1 hj).1;have hu:G1 sz (lT f l):=K4 hf l;have e3:a.eval (.tmp p)= .pointer (some ⟨b,pre.length+j*sz,none⟩):=e2;let⟨p1,p2⟩:=Nb ho hj;have hc:CS ((lT f l).take j)=j*sz:=by rw[Ka<|hu.take _,EK,EZ (by omega)]
  rw[hc] at p1 p2;have OC:List.take (f y).n (List.drop (pre.length+j*sz) cur.toList)=List.take (f y).n (List.drop (j*sz) xs):=by rw[MA,<-Fe,WK,List.drop_append_of_le_length (by omega),List.take_append_of_le_length (by simp;omega)]
  have Ul:cur.size=pre.length+(xs.length+post.length):=by rw[<-Fv,MA];simp
  refine⟨_,?_,p2,rfl⟩;have hr:=Rp (P:=P) hT hb (off:=pre.length+j*sz) (by omega);rw[OC] at hr;simp[execOp,e3,Instr.loadAt,Instr.sureAddr,hr]
def aBm{Ai:Ctx}(BI:∀q∈Ai,q∈Γ)(hf:∀z,(f z).n=sz)(hp:look Ai p=some (.NQ t j sz))(ht:look Ai t=some (.F2 E pre post<|lT f l))(h:l[j]? =some z)(hx:Arg Ai x (f y))(hT:Bv P T (f y).n (f y).agg=true):Step P N ops ⟨none,.store T (.tmp p) x,ty,pos,af,none⟩ Γ ((t,.F2 E pre post<|lT f<|l.set j y)::BL t Γ):=by
 intro w0 H0 a w H BJ K Q k;simp[Region.wanted,if_true];let⟨b,c,cur,xs,e,hb,MA,ho,hH,hB⟩:=BJ.holds _ (BI _<|BD ht);let⟨b',o,n',c',e1,e2⟩:=BJ.holds _ (BI _<|BD hp);simp only at e e1 e2;rw[e] at e1;cases e1;have hj:(lT f l)[j]? =some (f z):=by rw[HL,h];rfl
 have Jv:=(FX.1 hj).1;have hu:G1 sz (lT f l):=K4 hf l;have ep:a.eval (.tmp p)= .pointer (some ⟨b,pre.length+j*sz,none⟩):=e2;have Hx:=hx.ok<|BJ.weaken BI
 have CW:=(f y).shape Hx;have hc:CS ((lT f l).take j)=j*sz:=by rw[Ka<|hu.take _,EK,EZ (by omega)]
 let⟨p1,_⟩:=Nb ho hj;rw[hc,hf] at p1;have Mp:=UA ho hj ((hf y).trans (hf z).symm) Hx;rw[hc,hf] at Mp;have Ul:cur.size=pre.length+(xs.length+post.length):=by rw[<-Fv,MA];simp
 have FC:=TT (P:=P) (off:=pre.length+j*sz) (U4 hT) CW.size hb (by rw[hf];omega) CW.cell;rw[hf] at FC;unfold Oper.wp;have er:(execOp a.eval ⟨none,.store T (.tmp p) x,ty,pos,af,none⟩).run P w= .ok .skip (w.setRow b (cur.toList.take (pre.length+j*sz)++(a.eval x).cells.toList++cur.toList.drop (pre.length+j*sz+sz)).toArray):=by simp[execOp,ep,Instr.storeAt,Instr.sureAddr,FC]
 rw[er,Qk];have arN:cur.toList.take (pre.length+j*sz)++(a.eval x).cells.toList++cur.toList.drop (pre.length+j*sz+sz)=pre++((xs.take (j*sz)++(a.eval x).cells.toList++xs.drop (j*sz+sz))++post):=by
  have t1:(pre++(xs++post)).take (pre.length+j*sz)=pre++xs.take (j*sz):=by
   rw[WR,D6 (by omega)]
   congr 1
   rw[show pre.length+j*sz-pre.length=j*sz from by omega,List.take_append_of_le_length (by omega)]
  have t2:(pre++(xs++post)).drop (pre.length+j*sz+sz)=xs.drop (j*sz+sz)++post:=by rw[LM,<-Fe,WK,List.drop_append_of_le_length (by omega)]
  rw[MA,t1,t2];simp
 rw[arN];have hg:Ef w (w.setRow b (pre++((xs.take (j*sz)++(a.eval x).cells.toList++xs.drop (j*sz+sz))++post)).toArray) (some b):=Ef.setRow w b _;refine k a _ H (PB BJ (BI _<|BD ht) hg hB (by simp[AS.owns,e,Value.ownBlock]) ?_ λc hc=> .inl hc);refine⟨b,c,_,_,by rw[e];simp[lT],UC w b _ _ _ _ hb,rfl,?_,hH,hB⟩;rw[show lT f (l.set j y)=(lT f l).set j (f y) from by simp[lT,UE]];exact Mp
def qx(hf:∀z,(f z).n=sz)(hp:look Γ p=some (.NQ t j sz))(ht:look Γ t=some (.F2 E pre post<|lT f l))(h:l[j]? =some z)(hx:Arg Γ x (f y))(hT:Bv P T (f y).n (f y).agg=true):Step P N ops ⟨none,.store T (.tmp p) x,ty,pos,af,none⟩ Γ ((t,.F2 E pre post<|lT f<|l.set j y)::BL t Γ):=aBm (λ_ h=>h) hf hp ht h hx hT
def amQ(hf:∀z,(f z).n=sz)(hp:look Γ p=some (.NQ t j sz))(ht:look Γ t=some (.F2 E pre post<|lT f l))(h:l[j]? =some z)(hx:Arg Γ x (f y))(hT:Bv P T (f y).n (f y).agg=true):P3 P N ops Γ ⟨none,.store T (.tmp p) x,ty,pos,af,none⟩ t (.F2 E pre post<|lT f<|l.set j y):=λ_ BI=>aBm BI hf hp ht h hx hT
end
section
variable[D:DR]
variable{P:Program}{w0:Ah P}{H0:HV}{N:Nat}{ops:Array Oper}{Γ Aq:Ctx}{d:Option Tmp}{ty:TypeId}{pos:String}{af:Array Edge}{g:Option (Nat×Bool)}
variable{E:Ap}{sz t:Nat}{α:Type}{f:α->Ty}{l:A3 α}{xs:A3 CR}{F5:BG Ap}{dd:Nat}{x:CR}{i n u:Nat}
def yI{T:Ap}{lo hi:A9 CR}{i j:Int}(hT:GP P T sz=true)(hs:Et Γ x t)(ht:look Γ t=some (.buf E sz<|lT f l))(G0:Lo Γ lo 0 i)(L1:Lo Γ hi l.length j)(h:(decide (0<=i)&&decide (i<j)&&decide (j<=l.length))=true):B0 P Γ ⟨d,.slice T x lo hi none,ty,pos,af,g⟩ (.win t i.toNat (j-i).toNat sz):=
 Dp λw0 _ _ a w H BJ=>by
  rw[C9,C9,Hm,Hm,Hm] at h;let⟨⟨h1,h2⟩,h3⟩:=h;let⟨b,cap,cs,xs,e,hb,hcap,_⟩:=WB (BJ.holds _<|BD ht) (λe=>by have:l=[]:=List.map_eq_nil_iff.1 e;rw[this] at h3;simp at h3;omega)
  simp only at e;rw[C2] at e hcap;let⟨el,ii,hue,hii,hsz⟩:=py hT;have IM:∀w,(Go.sizeOf el).run P w= .ok sz w:=λw=>by simp[Go.sizeOf,typeInfo,program,Sem.run,hii,hsz]
  have hbd:=ua (P:=P) (b:=true) (cap:=cap) (w:=w) G0 L1 h1 (by omega) h3 hcap BJ;have e3:a.eval x= .slice (some ⟨b,0,none⟩) l.length cap:=by rw[hs.ok BJ];exact e
  refine⟨.slice (some ⟨b,i.toNat*sz,none⟩) (j-i).toNat<|cap-i.toNat,?_,⟨b,_,cap,cap-i.toNat,e,rfl⟩,rfl⟩;have hne: ¬cap=i.toNat:=by omega
  have hn:j.toNat-i.toNat=(j-i).toNat:=by omega
  simp[execOp,e3,Instr.sliceAt,Ey hue,Instr.slice,hbd,IM,addr_add,hne,hn]
def ami{B:Ah P}{w:AR}{H:HV}{v:AV}(hf:∀z,(f z).n=sz)(h:Kk B w H E sz (lT f l) v)(hn:0<n)(hl:i+n<=l.length){b:Nat}{len cap:Nat}(hv:v= .slice (some ⟨b,0,none⟩) len cap)(c:Nat):∃pre post:A3 AV,pre.length=i*sz/\(AS.F2 E pre post<|lT f<|(l.drop i).take n).holds B Rf w H (.slice (some ⟨b,i*sz,none⟩) n c)/\
   ∀(w':AR) (H':HV) (r:A3 α),HV.le H H'->r.length=n->(AS.F2 E pre post<|lT f r).holds B Rf w' H' (.slice (some ⟨b,i*sz,none⟩) n c)->Kk B w' H' E sz (lT f<|l.take i++r++l.drop (i+n)) v:=by
 subst hv;let⟨xs,⟨GZ,hr⟩,ho,hH⟩:=h;rcases hr with⟨e,_⟩|⟨g',bI,cur,e,h0,hb,hcap,hm,hcs,htake⟩
 .cases e
 cases e;have hu:G1 sz (lT f l):=K4 hf l;have GZ:xs.length=l.length*sz:=by simpa using GZ
 rw[C2] at htake hcap;have s1:i*sz+n*sz<=xs.length:=by rw[GZ,<-Ke];exact LS _ hl
 have MA:cur.toList=xs++cur.toList.drop (l.length*sz):=by conv=>lhs;rw[<-Oi (l.length*sz) cur.toList,htake]
 have hx3:xs=xs.take (i*sz)++((xs.drop<|i*sz).take (n*sz)++xs.drop (i*sz+n*sz)):=by
  conv=>lhs;rw[<-Oi (i*sz) xs]
  congr 1
  conv=>lhs;rw[<-Oi (n*sz) (xs.drop<|i*sz),Fe]
 have Uu:(xs.take<|i*sz).length=i*sz:=by rw[EK];omega
 have rE:∀(lo hi:Nat),Db H ((lT f l).take hi|>.drop lo) ((xs.take<|hi*sz).drop<|lo*sz):=λlo hi=>vT hu ho lo hi
 refine⟨xs.take<|i*sz,xs.drop (i*sz+n*sz)++cur.toList.drop (l.length*sz),Uu,?_,?_⟩
 .refine⟨b,c,cur,(xs.drop<|i*sz).take<|n*sz,?_,hb,?_,?_,(hH b rfl).1,(hH b rfl).2⟩
  .rw[Uu];simp;omega
  .have e0:xs++cur.toList.drop (l.length*sz)=(xs.take (i*sz)++((xs.drop<|i*sz).take (n*sz)++xs.drop (i*sz+n*sz)))++cur.toList.drop (l.length*sz):=by rw[<-hx3]
   exact MA.trans (e0.trans (by rw[ID,ID]))
  .have:=rE i (i+n);rw[show((lT f l).take<|i+n).drop i=lT f ((l.drop i).take n) from by simp[lT,<-List.map_take,<-List.map_drop,MX]] at this;rw[Ke,MX,show i*sz+n*sz-i*sz=n*sz from by omega] at this;exact this
 .rintro w' H' r hle hrl ⟨g2,c2,tY,xs2,e2,hb2,HH,ho2,IW,hB2⟩;have e3:g2=b:=by simp[Value.slice.injEq,Option.some.injEq,Addr.mk.injEq] at e2;exact e2.1.1.symm
  subst e3;have Hi:Db H' (lT f<|l.take i++r++l.drop (i+n)) (xs.take (i*sz)++xs2++xs.drop (i*sz+n*sz)):=by
   have p1:=rE 0 i;have p2:=rE (i+n) l.length;rw[iC,Pg,Pg] at p1;rw[D6 (by simp[lT]),D6 (by omega),Ke] at p2;have:=S4 (S4 (QW hle p1) ho2)<|QW hle p2
   rwa [show(lT f l).take i++lT f r++(lT f l).drop (i+n)=lT f (l.take i++r++l.drop (i+n)) from by simp[lT,List.map_take,List.map_drop]] at this
  have Um:xs2.length=n*sz:=by have:=N6 ho2;rw[Ka<|K4 hf r] at this;simpa[hrl] using this
  have hlen:(lT f<|l.take i++r++l.drop (i+n)).length=l.length:=by simp[hrl];omega
  have acz:(xs.take (i*sz)++xs2++xs.drop (i*sz+n*sz)).length=l.length*sz:=by rw[DS,DS,Uu,Um,Ja,GZ];omega
  have hc3:tY.toList=(xs.take (i*sz)++xs2++xs.drop (i*sz+n*sz))++cur.toList.drop (l.length*sz):=by rw[HH];simp
  have htk:tY.toList.take (l.length*sz)=xs.take (i*sz)++xs2++xs.drop (i*sz+n*sz):=by rw[hc3,List.take_append_of_le_length (by omega),D6 (by omega)]
  refine⟨xs.take (i*sz)++xs2++xs.drop (i*sz+n*sz),⟨by rw[hlen];exact acz,.inr ⟨g2,cap,tY,by rw[hlen];simp,FV _,hb2,by rw[hlen];exact hcap,hm,?_,by rw[hlen];exact htk⟩⟩,Hi,λb' Bg=>?_⟩
  .have q1:cur.toList.length=cap*sz:=by rw[Fv];exact hcs
   have q2:l.length*sz<=cap*sz:=LS _ hcap;rw[<-Fv,hc3,DS,acz,Ja,q1];omega
  .have:g2=b':=by simpa[Value.ownBlock] using Bg
   subst this;exact⟨IW,hB2⟩
def alI{r:A3 α}{fn:FuncId}{ys:A3 CR}{pre post Bs:A3 Ty}{Ai:Ctx}(BI:∀q∈Ai,q∈Γ)(hf:∀z,(f z).n=sz)
 (hS:∀(ps qs:A3 AV),ps.length=i*sz->J8 P fn pre (.F2 E ps qs<|lT f<|(l.drop i).take n) (.F2 E ps qs<|lT f r) post Bs)(hx:Et Ai x u)(hu:look Ai u=some (.win t i n sz))(ht:look Ai t=some (.buf E sz<|lT f l))
 (hn:(Nat.blt 0 n&&Nat.ble (i+n) l.length&&Nat.beq r.length n)=true)(ha:AP Ai xs pre)(hb:AP Ai ys post)(DN:dd<N)(hne:dd≠t):Step P N ops ⟨some dd,.call ⟨.value<| .func fn,(xs++x::ys).toArray,F5⟩,ty,pos,af,none⟩ Γ ((dd,Im Bs)::(t,.buf E sz<|lT f<|l.take i++r++l.drop (i+n))::del dd (BL t Γ)):=by
 rw[C9,C9] at hn;let⟨⟨hn1,IW⟩,hn3⟩:=hn;have hn1:=Dx hn1;have IW:=Dx IW;have hn3:=EF hn3;intro w0 H0 a w H hs K Q k;simp[Region.wanted,if_true];have hsi:=hs.weaken BI;have Ex:=hs.holds _<|BI _<|BD ht
 simp only at Ex;let⟨b,len,cap,c,ev,eu⟩:=hs.holds _<|BI _<|BD hu
 simp only at ev eu;let⟨ps,qs,hps,hw,sG⟩:=ami hf Ex hn1 IW ev c;have can:Gq P fn=true:=(hS ps qs hps).can;have e:execOp a.eval ⟨some dd,.call ⟨.value<| .func fn,(xs++x::ys).toArray,F5⟩,ty,pos,af,none⟩=callFunc fn (xs.map a.eval++Ae a u::ys.map a.eval).toArray:=by
  have e:execOp a.eval ⟨some dd,.call ⟨.value<| .func fn,(xs++x::ys).toArray,F5⟩,ty,pos,af,none⟩=callFunc fn (#[]++(xs++x::ys).toArray.map a.eval++ #[]):=rfl;rw[e]
  congr 1
  simp[hx.ok hsi]
 unfold Oper.wp;rw[e,PC can,WO,eu];have hw0:(AS.F2 E ps qs<|lT f<|(l.drop i).take n).holds (Ah.Oy P w λb'=>(AS.F2 E ps qs<|lT f<|(l.drop i).take n).owns w (.slice (some ⟨b,i*sz,none⟩) n c) b') Rf w H (.slice (some ⟨b,i*sz,none⟩) n c):=AS.S5 rfl hw λb' Bg=> .inr Bg
 have hown:∀b',(AS.F2 E ps qs<|lT f<|(l.drop i).take n).owns w (.slice (some ⟨b,i*sz,none⟩) n c) b'↔(AS.buf E sz<|lT f l).owns w (Ae a t) b':=λb'=>by rw[ev];exact Iff.rfl
 refine((hS ps qs hps).run w H _ _ _ hs.sub hs.gl (ha.ok hsi) (hb.ok hsi) hw0).mono ?_;rintro e w' ⟨rv,rfl,H',hy,DQ,ho,hr⟩;have hy':RN (λb'=>(AS.buf E sz<|lT f l).owns w (Ae a t) b') w H w' H':=by
  have:(λb'=>(AS.buf E sz<|lT f l).owns w (Ae a t) b')=λb'=>(AS.F2 E ps qs<|lT f<|(l.drop i).take n).owns w (.slice (some ⟨b,i*sz,none⟩) n c) b':=funext λb'=>propext (hown b').symm
  rw[this];exact hy
 have KT:(AS.F2 E ps qs<|lT f r).holds w0 Rf w' H' (.slice (some ⟨b,i*sz,none⟩) n c):=AS.S5 rfl DQ λb' Bg=>by
  have Bg:(AS.buf E sz<|lT f l).owns w (Ae a t) b':=by rw[ev];exact Bg
  exact AS.PT rfl Ex Bg
 have Hf:(AS.buf E sz<|lT f<|l.take i++r++l.drop (i+n)).holds w0 a w' H' (Ae a t):=sG w' H' r hy.le hn3 KT;have h1:=yt hs (BI _<|BD ht) rfl rfl (λq hq _ b hb=>Ah.Qe<|AS.PT rfl Ex hb) hy' Hf<|λb' Bg=> .inl Bg
 have h2:=QV (h1.weaken (Aq:=del dd ((t,.buf E sz<|lT f<|l.take i++r++l.drop (i+n))::BL t Γ)) Mb) DN PX (s:=Im Bs) (v:=rv) (by match Bs with|[]=>simp[Im,AS.CD]|[_]=>simp[Im,AS.CD]|_::_::_=>simp[Im,AS.CD]) (Vh hr)<|λb e=>absurd e<|AS.free_spec Vq
 refine k _ w' H'<|h2.weaken λq hq=>?_
 simp[Am] at hq⊢;rcases hq with h|h|h
 .exact .inl h
 .subst h;exact .inr (SR (by simp) (λe=>hne e.symm) (by simp[AS.CD]))
 .have:=rX h;exact .inr<|SR (Br _<|Mb _ h) this.1 this.2
def ym{r:A3 α}{fn:FuncId}{ys:A3 CR}{pre post Bs:A3 Ty}(hf:∀z,(f z).n=sz)
 (hS:∀(ps qs:A3 AV),ps.length=i*sz->J8 P fn pre (.F2 E ps qs<|lT f<|(l.drop i).take n) (.F2 E ps qs<|lT f r) post Bs)(hx:Et Γ x u)(hu:look Γ u=some (.win t i n sz))(ht:look Γ t=some (.buf E sz<|lT f l))
 (hn:(Nat.blt 0 n&&Nat.ble (i+n) l.length&&Nat.beq r.length n)=true)(ha:AP Γ xs pre)(hb:AP Γ ys post)(DN:dd<N)(hne:(dd !=t)=true):Step P N ops ⟨some dd,.call ⟨.value<| .func fn,(xs++x::ys).toArray,F5⟩,ty,pos,af,none⟩ Γ ((dd,Im Bs)::(t,.buf E sz<|lT f<|l.take i++r++l.drop (i+n))::del dd (BL t Γ)):=alI (λ_ h=>h) hf hS hx hu ht hn ha hb DN (by simpa using hne)
structure jH(P:CP)(f:FuncId)(E:Ap)(sz:Nat)(bl:A3 Ty)(args:A3 Ty)(l:A3 Ty):Prop where
 can:Gq P f=true
 run:∀(w:AR) (H:HV) (v:AV) (xs:A3 AV) (vs:A3 AV),(∀r o,H r=some o->w.heap[r]? =some o)->LY P H->w.ownsRow 0 E sz v bl.length xs->Db H bl xs->(∀b,v.ownBlock=some b->H b=none)->Ee H args vs->Calls P f (v::vs).toArray w λe w'=>∃r,e= .returned r/\Ef w w' v.ownBlock/\∃xs',w'.ownsRow 0 E sz r l.length xs'/\Db H l xs'/\∀b,r.ownBlock=some b->v.ownBlock=some b
def aje{s:CR}{f:FuncId}{bl:A3 Ty}{args l:A3 Ty}(X1:jH P f E sz bl args l)(hs:s= .tmp t\/∃u,s= .tmp u/\look Γ u=some (.same t))(ht:look Γ t=some (.buf E sz bl))(ha:AP Γ xs args)(DN:dd<N):QA P N ops Γ ⟨some dd,.call ⟨.value<| .func f,(s::xs).toArray,F5⟩,ty,pos,af,none⟩ t dd (.buf E sz l):=by
 intro EP BI w0 H0 a w H BJ K Q k;simp only[Region.wanted,if_true];have hb:=BJ.holds _<|BI _<|BD ht
 let⟨ys,hr,ho,hn⟩:=hb;have es:a.eval s=Ae a t:=by
  rcases hs with rfl|⟨u,rfl,hu⟩
  .rfl
  .exact BJ.holds _<|BI _<|BD hu
 have e0:execOp a.eval ⟨some dd,.call ⟨.value<| .func f,(s::xs).toArray,F5⟩,ty,pos,af,none⟩=callFunc f (#[]++(s::xs).toArray.map a.eval++ #[]):=rfl;unfold Oper.wp;rw[e0,PC X1.can,WO];have e2:(#[]++(s::xs).toArray.map a.eval++ #[])=(Ae a t::xs.map a.eval).toArray:=by simp[es]
 rw[e2];refine(X1.run w H _ ys _ BJ.sub BJ.gl hr ho (λb hb=>(hn b hb).1)<|ha.ok<|BJ.weaken BI).mono ?_;rintro e w' ⟨r,rfl,hg,xs',h3,h4,h5⟩;have jt:∀b,(Ae a t).ownBlock=some b->w0.EH b/\H b=none/\∀l,w.heap[b]? ≠some (.deferred l):=λb hb=>⟨(hn b hb).2,(hn b hb).1,λl e=>by let⟨_,_,o,h3,h4⟩:=AS.J9 (s:= .buf E sz bl) (B:=w0) (a:=a) ⟨ys,hr,ho,hn⟩ hb;rw[h3] at e;cases e;exact h4⟩
 have jl:∀b o,H b=some o->w'.heap[b]? =some o:=λc o hc=>by rw[hg.block c (lt_of_heap<|BJ.sub c o hc) (λe2=>by rw[(hn c e2.symm).1] at hc;cases hc)];exact BJ.sub c o hc
 have far:∀q∈del dd (BL t EP),∀c,q.2.owns w (Ae a q.1) c->(Ae a t).ownBlock≠some c:=λq hq c hc e=>BJ.sep _ (BI _<|BD ht) q (DO q<|Mb q hq).1 (λe=>(DO q<|Mb q hq).2 e.symm) c e hc
 have IF:Sat w0 H0 N (del dd<|BL t EP) a w' H:=akI BJ hg jt (HV.le.refl _) (λ_ _ _=>rfl) jl λq hq=>⟨(DO q<|Mb q hq).1,far q hq⟩
 refine k _ w' H (QV IF DN PX (by simp[AS.CD]) ⟨xs',h3,h4,λb hb=>⟨(hn b<|h5 b hb).1,(hn b<|h5 b hb).2⟩⟩ ?_);intro b hb q hq hq2;have hb:r.ownBlock=some b:=hb;have IN:=(DO q<|Mb q hq).1;have F:Far w0.lo (λb=>q.2.owns w (Ae a q.1) b) w H w' H:=by
  have hk:∀c,c<w.heap.size->(c<w0.lo\/q.2.owns w (Ae a q.1) c)->(Ae a t).ownBlock≠some c:=λc _ h e=>by
   rcases h with h|h
   .have:=Ah.Qe (hn c e).2;omega
   .exact far q hq c h e
  exact⟨hg.size,hg.os,hg.tape,hg.output,hg.drawn,HV.le.refl _,λc hc h=>hg.block c hc<|λe=>hk c hc h e.symm,λ_ _ _=>rfl,jl⟩
 exact far q hq b (((AS.Yl (BJ.holds q IN) F).2 b).1 hq2)<|h5 b hb
def ain{f:FuncId}{bl:A3 Ty}{args l:A3 Ty}(X1:jH P f E sz bl args l)(hu:look Γ u=some (.same t))(ht:look Γ t=some (.buf E sz bl))(ha:AP Γ xs args)(DN:dd<N):Step P N ops ⟨some dd,.call ⟨.value<| .func f,(.tmp u::xs).toArray,F5⟩,ty,pos,af,none⟩ Γ ((dd,.buf E sz l)::del dd (BL t Γ)):=aje X1 (.inr ⟨u,rfl,hu⟩) ht ha DN Γ<|λ_ h=>h
end
section
variable[D:DR]
variable{P:Program}{w0:Ah P}{H0:HV}{N:Nat}{Q:Exit->Act->World->Prop}{Γ Aq:Ctx}{d:Option Tmp}{ty:TypeId}{pos:String}{af:Array Edge}{g:Option (Nat×Bool)}
def aqi{T:Ap}{τ:Ty}(h:Du P T τ):Du P T (Ip τ.n τ.agg):=⟨λw=>by let⟨z,h1,h2⟩:=h.run w;exact⟨z,h1,λH=>τ.shape<|h2 H⟩⟩
def oT{β:Type}(F:β->Ty)(n:Nat)(agg:Bool)(h:∀x,(F x).n=n/\(F x).agg=agg)(o:A9 β):Ty where
 n:=n
 agg:=agg
 ok:=λH v=>match o with|some x=>(F x).ok H v|none=>Shape n agg v
 mono:=λ{H H' v} hl k=>by cases o with|none=>exact k|some x=>exact(F x).mono hl k
 shape:=λ{H v} k=>by cases o with|none=>exact k|some x=>have:=(F x).shape k;rwa [(h x).1,(h x).2] at this
def mlk{α β:Type}[DecidableEq α](l:A3 (α×β))(x:α):A9 β:=match mix x l with|none=>none|some j=>(l[j]?).map (·.2)
def alO{w0:Ah P}{β:Type}{F:β->Ty}{n:Nat}{agg:Bool}{h:∀x,(F x).n=n/\(F x).agg=agg}{o:A9 β}{t:Nat}{T:Ap}{z:β}(ht:look Γ t=some (.own T<|oT F n agg h o))(hs:(!o.isSome)=false):IH w0 N Γ ((t,.own T<|F<|o.getD z)::BL t Γ):=λH0 a w H BJ=>by
 let⟨b,x,e,hb,hx,hH,hB⟩:=BJ.holds _<|BD ht
 refine⟨H,na (us:=[]) BJ (λq hq=>DO q hq) ⟨b,x,e,hb,?_,hH,hB⟩ (λc hc=>⟨_,BD ht,.inl rfl,hc⟩) (λ_ _ h=>by cases h)⟩;cases o with|none=>cases hs|some y=>exact hx
end
section
variable[D:DR]
variable{P:Program}{w0:Ah P}{H0:HV}{N:Nat}{Q:Exit->Act->World->Prop}{Γ Aq:Ctx}{d:Option Tmp}{ty:TypeId}{pos:String}{af:Array Edge}{g:Option (Nat×Bool)}
variable{α β:Type}[DecidableEq α]{K E Eb T:TypeId}{sz:Nat}{fK:α->Ty}
def aox{F:β->Ty}{n:Nat}{agg:Bool}{hF:∀x,(F x).n=n/\(F x).agg=agg}{t:Nat}{m k:CR}{l:A3 (α×β)}{x:α}(hT:Ut P T K E=true)(hk:Sj P K fK)(hz:Du P E (Ip n agg))(hm:RP Γ m t)(ht:look Γ t=some (.H4 K E Eb sz<|mM fK (λv=> .val<|F v) l))(hx:Arg Γ k (fK x)):B0 P Γ ⟨d,.lookup T m k true,ty,pos,af,g⟩ (.tup [oT F n agg hF<|mlk l x,Ay (mlk l x).isSome]):=
 Dp λ_ _ _ a w H hs=>by
  let⟨r,es,e,hr,hn,hmi,ho,IU⟩:=hs.holds _<|BD ht
  have em:a.eval m= .map (some r):=by rw[hm.ok hs];exact e
  have Hx:=hx.ok hs;let⟨k1,k2⟩:=aac ho;have hf:=run_findKey hk Hx (w:=w) k1 k2;have hc:=hk.check H _ x Hx es.isEmpty w;let⟨zv,hzr,hzo⟩:=hz.run w;cases hmx:mix x l with
  |none=>
   rw[hmx] at hf;refine⟨.tuple #[zv,.bool false],?_,⟨#[zv,.bool false],rfl,?_⟩,rfl⟩
   .simp[execOp,em,Instr.lookup,Ey<|Z0 hT,run_getObj_map hr,hc,hf,hzr]
   .have:mlk l x=none:=by simp[mlk,hmx]
    rw[this];exact⟨_,_,rfl,hzo H,_,_,rfl,rfl,rfl⟩
  |some j=>
   rw[hmx] at hf;let⟨v,hv⟩:=pF hmx;let⟨y,h1,_,h3,_⟩:=aM ho (j:=j) (k:=fK x) (e:= .val<|F v) (by simp[hv]);simp only[Ph,h1,Zd] at hf;refine⟨.tuple #[y.val,.bool true],?_,⟨#[y.val,.bool true],rfl,?_⟩,rfl⟩
   .simp[execOp,em,Instr.lookup,Ey<|Z0 hT,run_getObj_map hr,hc,hf]
   .have:mlk l x=some v:=by simp[mlk,hmx,hv]
    rw[this];exact⟨_,_,rfl,h3,_,_,rfl,rfl,rfl⟩
end
section
variable[D:DR]
variable{P:Program}{w0:Ah P}{H0:HV}{N:Nat}{Q:Exit->Act->World->Prop}{Γ Aq:Ctx}{d:Option Tmp}{ty:TypeId}{pos:String}{af:Array Edge}{g:Option (Nat×Bool)}
def apd{α:Type}{f:α->Ty}{l:A3 α}{ops:BG Oper}{o:Oper}{t dd:Nat}{E:Ap}{sz:Nat}{s:AS}(ht:look Γ t=some (.buf E sz<|lT f l))(h:B0 P ((t,.val<|TL f l)::BL t Γ) o s)(hg:o.guard=none)(hd:o.dst=some dd)(hN:dd<N)(hl:s.LV dd=false):QA P N ops Γ o t dd s:=λEP BI=>by
 intro w0 H0 a w H BJ K Q k;simp only[Region.wanted,hg,if_true];have IN:=BI _<|BD ht
 let⟨xs,hr,ho,hn⟩:=BJ.holds _ IN;have DQ:=eN (τ:=TL f l) BJ IN (λb=>(Ae a t).ownBlock=some b) (λb h=>⟨h,(hn b h).2⟩) (Wh (a:=a) ⟨xs,hr,ho,hn⟩ (λr o h=>by
  by_cases e:(Ae a t).ownBlock=some r
  .rw[(hn r e).1] at h;cases h
  .simp[e,h]) (λb hb _ o hbo=>by simp[hb,hbo]))
 refine h w0 H0 N a w _ (DQ.weaken ?_) K Q λv w' H'' he hv hbb=>?_
 .intro q hq;rcases Am.1 hq with e|hq
  .subst e;exact Cz
  .exact Br _<|PW (BI q (DO q hq).1) (DO q hq).2
 .rw[hd];exact k _ _ _<|SM (DQ.weaken λq hq=>Br _<|Mb q hq) he hN PX (Yc hl) hv hbb
end
section
variable[D:DR]
def ck(b:Bool)(p:Prop):Prop:=match b with|true=>p|false=>False
def ck_{b:Bool}{p:Prop}(h:ck b p):b=true/\p:=by
 cases b
 .exact h.elim
 .exact⟨rfl,h⟩
def lkV(o:A9 AS)(K:Ty->Prop):Prop:=match o with|some (.val τ)=>K τ|_=>False
theorem sr{o:A9 AS}{K:Ty->Prop}(h:lkV o K):∃τ,o=some (.val τ)/\K τ:=by
 unfold lkV at h;split at h
 .grind
 .exact h.elim
def KO(Γ:Ctx):A3 Nat->A9 Ctx
 |[]=>some []
 |t::ts=>match look Γ t,KO Γ ts with|some s,some Aq=>some ((t,s)::Aq)|_,_=>none
def NR{Γ:Ctx}:∀{ts:A3 Nat} {Aq:Ctx},KO Γ ts=some Aq->EU Γ ts Aq
 |[],_,h=>by cases h;exact .nil
 |t::ts,Aq,h=>by
  unfold KO at h;split at h
  .rename_i h1 h2;cases h;exact .cons h1<|NR h2
  .cases h
end
section
variable[D:DR]
variable{P:Program}{w0:Ah P}{H0:HV}{N:Nat}{ops:Array Oper}{Γ Aq Er:Ctx}{l:List Oper}{d:Nat}{op:Op}{ty:TypeId}{pos:String}{af:Array Edge}{K:Ctx->Prop}{Q:Exit->Act->World->Prop}
variable{s:AS}
structure CK(P:CP)(w0:Ah P)(N:Nat)(ops:BG Oper)(l:A3 Oper)(Γ:Ctx)(K:Ctx->Prop):Prop where
 w:∃Aq,JI P w0 N ops l Γ Aq/\K Aq
def fr(N d:Nat)(s:AS)(Γ:Ctx):Bool:=Nat.blt d N&&(Jc d Γ&& !s.LV d)
def fo(N d:Nat)(s:AS):Bool:=Nat.blt d N&& !s.LV d
def fr_{N d:Nat}{Γ:Ctx}(h:fr N d s Γ=true):d<N/\Jc d Γ=true/\s.LV d=false:=by simp only[fr,C9,GM] at h;exact⟨Ad h.1,h.2.1,h.2.2⟩
def fo_{N d:Nat}(h:fo N d s=true):d<N/\s.LV d=false:=by simp only[fo,C9,GM] at h;exact⟨Ad h.1,h.2⟩
def cP(h:B0 P Γ ⟨some d,op,ty,pos,af,none⟩ s)(r:ck (fr N d s Γ) (CK P w0 N ops l ((d,s)::Γ) K)):CK P w0 N ops (⟨some d,op,ty,pos,af,none⟩::l) Γ K:=by let⟨hb,Aq,h1,h2⟩:=ck_ r;let⟨b1,b2,b3⟩:=fr_ hb;exact⟨Aq,.cons (Step.pure h rfl rfl b1 b2 b3) h1,h2⟩
def cO(h:B0 P Γ ⟨some d,op,ty,pos,af,none⟩ s)(r:ck (fo N d s) (CK P w0 N ops l ((d,s)::del d Γ) K)):CK P w0 N ops (⟨some d,op,ty,pos,af,none⟩::l) Γ K:=by let⟨hb,Aq,h1,h2⟩:=ck_ r;let⟨b1,b3⟩:=fo_ hb;exact⟨Aq,.cons (Step.over h rfl rfl b1 b3) h1,h2⟩
def cS{o:Oper}(h:Step P N ops o Γ Er)(r:CK P w0 N ops l Er K):CK P w0 N ops (o::l) Γ K:=by let⟨Aq,h1,h2⟩:=r;exact⟨Aq,.cons h h1,h2⟩
def cG(h:IH w0 N Γ Er)(r:CK P w0 N ops l Er K):CK P w0 N ops l Γ K:=by let⟨Aq,h1,h2⟩:=r;exact⟨Aq,.ghost h h1,h2⟩
def cF(ts:A3 Nat)(h:KO Γ ts=some Er)(r:K Er):CK P w0 N ops [] Γ K:=⟨Er,.fin<|NR h,r⟩
def cY{ts:A3 Nat}(h:EU Γ ts Er)(r:K Er):CK P w0 N ops [] Γ K:=⟨Er,.fin h,r⟩
def cPr(h:B0 P Γ ⟨some d,op,ty,pos,af,none⟩ s)(hb:fr N d s Γ=true)(r:CK P w0 N ops l ((d,s)::Γ) K):CK P w0 N ops (⟨some d,op,ty,pos,af,none⟩::l) Γ K:=cP h (by rw[hb];exact r)
def avm(m t:Nat):Bool:=Nat.beq (Nat.mod (Nat.div m<|Nat.pow 2 t) 2) 1
def fm(m:Nat):Ctx->A9 Ctx
 |[]=>some []
 |(t,s)::Γ=>match avm m t with
  |true=>match fm m Γ with|some Aq=>some ((t,s)::Aq)|none=>none
  |false=>fm m Γ
def fm_{m:Nat}:∀{Γ Aq:Ctx},fm m Γ=some Aq->∀q∈Aq,q∈Γ
 |[],_,h,q,hq=>by cases h;exact hq
 |(t,s)::Γ,Aq,h,q,hq=>by
  unfold fm at h;split at h
  .split at h
   .rename_i h1;cases h;rcases Am.1 hq with e|hq
    .rw[e];simp
    .exact Br _<|fm_ h1 q hq
   .cases h
  .exact Br _<|fm_ h q hq
def gm{m:Nat}(h:fm m Γ=some Er):IH w0 N Γ Er:=λ_ _ _ H hs=>⟨H,hs.weaken<|fm_ h⟩
def U(m:Nat)(h:fm m Γ=some Er)(r:K Er):CK P w0 N ops [] Γ K:=cG (gm h) ⟨Er,.done,r⟩
def cWm(m:Nat)(h:fm m Γ=some Er)(r:CK P w0 N ops l Er K):CK P w0 N ops l Γ K:=cG (gm h) r
def cD(r:K Γ):CK P w0 N ops [] Γ K:=⟨Γ,.done,r⟩
end
section
variable[D:DR]
variable{P:Program}{w0:Ah P}{H0:HV}{N:Nat}{ops:Array Oper}{Γ Aq Er:Ctx}{l:List Oper}{d:Nat}{op:Op}{ty:TypeId}{pos:String}{af:Array Edge}{K:Ctx->Prop}{Q:Exit->Act->World->Prop}
variable{x y:Operand}{t t':Nat}{T T':TypeId}{τ σ:Ty}{k:IntKind}{m n:Int}{b e:Bool}
variable{off:Nat}{L:A3 Ty}{g:A9 (Nat×Bool)}{α:Type}{j dj:Nat}{want:Bool}{Ai:Ctx}{s:AS}
abbrev G(P:CP)(w0:Ah P)(N:Nat)(ops:BG Oper)(l:A3 Oper)(Γ:Ctx)(K:Ctx->Prop)(d:Nat)(s:AS):Prop:=ck (fr N d s Γ)<|CK P w0 N ops l ((d,s)::Γ) K
def lkT(o:A9 AS)(K:A3 Ty->Prop):Prop:=match o with|some (.tup l)=>K l|_=>False
theorem acr{o:A9 AS}{K:A3 Ty->Prop}(h:lkT o K):∃l,o=some (.tup l)/\K l:=by
 unfold lkT at h;split at h
 .grind
 .exact h.elim
def lkO{α:Type}(o:A9 α)(K:α->Prop):Prop:=match o with|some x=>K x|_=>False
theorem asY{o:A9 α}{K:α->Prop}(h:lkO o K):∃x,o=some x/\K x:=by
 unfold lkO at h;split at h
 .grind
 .exact h.elim
def cM(r:lkV (look Γ t) λτ=>G P w0 N ops l Γ K d<| .val τ):CK P w0 N ops (⟨some d,.move<| .tmp t,ty,pos,af,none⟩::l) Γ K:=by let⟨τ,h1,h2⟩:=sr r;exact cP (gk<| .t h1) h2
def cA(r:lkV (look Γ t) λτ=>G P w0 N ops l Γ K d<| .val τ):CK P w0 N ops (⟨some d,.assign<| .tmp t,ty,pos,af,none⟩::l) Γ K:=by let⟨τ,h1,h2⟩:=sr r;exact cP (BO<| .t h1) h2
def cI(r:G P w0 N ops l Γ K d (.val<|TI k n)):CK P w0 N ops (⟨some d,.assign<| .const<| .int k n,ty,pos,af,none⟩::l) Γ K:=cP (BO .int) r
def cB(r:G P w0 N ops l Γ K d (.val<|Ay b)):CK P w0 N ops (⟨some d,.assign<| .const<| .bool b,ty,pos,af,none⟩::l) Γ K:=cP (BO .bool) r
def cN(r:G P w0 N ops l Γ K d (.val<|TI k n)):CK P w0 N ops (⟨some d,.move<| .const<| .int k n,ty,pos,af,none⟩::l) Γ K:=cP (gk .int) r
def cX(r:lkV (look Γ t) λτ=>G P w0 N ops l Γ K d<| .own T τ):CK P w0 N ops (⟨some d,.box T<| .tmp t,ty,pos,af,none⟩::l) Γ K:=by let⟨τ,h1,h2⟩:=sr r;exact cP (ap1<| .t h1) h2
def cE{i:Nat}(r:lkT (look Γ t) λL=>lkO L[i]? λτ=>G P w0 N ops l Γ K d<| .val τ):CK P w0 N ops (⟨some d,.extract (.tmp t) i,ty,pos,af,none⟩::l) Γ K:=by let⟨L,h1,h2⟩:=acr r;let⟨τ,h3,h4⟩:=asY h2;exact cP (Hk h1 h3) h4
def cZ(r:lkT (look Γ t) λL=>G P w0 N ops l Γ K d<| .tup L):CK P w0 N ops (⟨some d,.move<| .tmp t,ty,pos,af,none⟩::l) Γ K:=by let⟨L,h1,h2⟩:=acr r;exact cP (PU h1) h2
def cQ(r:G P w0 N ops l Γ K d (.same t)):CK P w0 N ops (⟨some d,.move<| .tmp t,ty,pos,af,none⟩::l) Γ K:=cP Dm r
def cU(h:look Γ t=some (.own T' τ))(hT:Bv P T τ.n τ.agg=true)(r:G P w0 N ops l Γ K d (.val τ)):CK P w0 N ops (⟨some d,.load T<| .tmp t,ty,pos,af,none⟩::l) Γ K:=cP (Ao h hT) r
def cR(h:look Γ t=some (.val<|Jl τ))(hT:Bv P T τ.n τ.agg=true)(r:G P w0 N ops l Γ K d (.val τ)):CK P w0 N ops (⟨some d,.load T<| .tmp t,ty,pos,af,none⟩::l) Γ K:=cP (Bc (.t h) hT) r
def cRc(h0:(look Γ t,Bv P T τ.n τ.agg)=(some<| .val<|Jl τ,true))(r:G P w0 N ops l Γ K d (.val τ)):CK P w0 N ops (⟨some d,.load T<| .tmp t,ty,pos,af,none⟩::l) Γ K:=cR (congrArg (·.1) h0) (congrArg (·.2) h0) r
def lk2(Γ:Ctx)(t:Nat):A9 (Nat×Ty):=match look Γ t with
 |some (.ptr t' off)=>match look Γ t' with|some (.own _ τ)=>some (off,τ)|_=>none
 |_=>none
theorem asZ{Γ:Ctx}{t:Nat}{τ:Ty}(h:lk2 Γ t=some (off,τ)):∃t' T,look Γ t=some (.ptr t' off)/\look Γ t'=some (.own T τ):=by
 unfold lk2 at h;split at h
 .grind
 .cases h
def pick(L:A3 Ty)(i off:Nat):A9 Ty:=match Nat.beq (CS<|L.take i) off with|true=>L[i]?|false=>none
def ru{i:Nat}{σ:Ty}(h:pick L i off=some σ):BZ (DH L) off σ:=by
 unfold pick at h;split at h
 .rename_i e;exact .agg h<|EF e
 .cases h
def oP{d:A9 Tmp}(i:Nat)(h:lk2 Γ t=some (off,DH L))(h1:pick L i off=some σ)(hT:Bv P T σ.n σ.agg=true):B0 P Γ ⟨d,.load T<| .tmp t,ty,pos,af,g⟩ (.val σ):=by let⟨t',T',k1,k2⟩:=asZ h;exact Fo k1 k2 (ru h1) hT
def BV{d:A9 Tmp}(i:Nat)(h0:(lk2 Γ t,pick L i off)=(some (off,DH L),some σ))(hT:Bv P T σ.n σ.agg=true):B0 P Γ ⟨d,.load T<| .tmp t,ty,pos,af,g⟩ (.val σ):=oP i (congrArg (·.1) h0) (congrArg (·.2) h0) hT
def cV(i:Nat)(h:lk2 Γ t=some (off,DH L))(h1:pick L i off=some σ)(hT:Bv P T σ.n σ.agg=true)(r:G P w0 N ops l Γ K d (.val σ)):CK P w0 N ops (⟨some d,.load T<| .tmp t,ty,pos,af,none⟩::l) Γ K:=cP (oP i h h1 hT) r
def cK{k':Nat}(h:look Γ t=some (.own T' τ))(hf:Gf P T k' off=true)(r:G P w0 N ops l Γ K d (.ptr t off)):CK P w0 N ops (⟨some d,.fieldAddr T (.tmp t) k',ty,pos,af,none⟩::l) Γ K:=cP (G2 h hf) r
def cJ{f:α->Ty}{L:A3 α}(hT:E4 P T=true)(h:look Γ t=some (.val<|TL f L))(r:G P w0 N ops l Γ K d (.val<|TI .i64 L.length)):CK P w0 N ops (⟨some d,.call ⟨.builtin .len,#[.tmp t],#[T]⟩,ty,pos,af,none⟩::l) Γ K:=cP (Lq hT<| .t h) r
def cT(h:Du P T τ)(r:G P w0 N ops l Γ K d (.own T τ)):CK P w0 N ops (⟨some d,.alloc T,ty,pos,af,none⟩::l) Γ K:=cP (LD h) r
def cH{r':Int}(h:look Γ t=some (.val<|TI .i64 m))(h1:AG (m+n)=some r')(r:G P w0 N ops l Γ K d (.val<|TI .i64 r')):CK P w0 N ops (⟨some d,.binOp .add T (.tmp t) (.const<| .int .i64 n) T',ty,pos,af,none⟩::l) Γ K:=cP (Cu (.t h) .int h1) r
def cL(h:look Γ t=some (.val<|TI k m))(h':look Γ t'=some (.val<|TI k n))(r:G P w0 N ops l Γ K d (.val<|Ay<|decide<|m<n)):CK P w0 N ops (⟨some d,.binOp .lss T (.tmp t) (.tmp t') T',ty,pos,af,none⟩::l) Γ K:=cP (Cr (.t h)<| .t h') r
def BF(h0:(look Γ t,look Γ t')=(some<| .val<|TI k m,some<| .val<|TI k n))(r:G P w0 N ops l Γ K d (.val<|Ay<|decide<|m<n)):CK P w0 N ops (⟨some d,.binOp .lss T (.tmp t) (.tmp t') T',ty,pos,af,none⟩::l) Γ K:=cL (congrArg (·.1) h0) (congrArg (·.2) h0) r
def oX{f:α->Ty}{L:A3 α}{d:A9 Tmp}{i:Int}{sz:Nat}{y:α}(hT:GP P T sz=true)(hf:∀z,(f z).n=sz)(hx:look Γ t=some (.val<|TL f L))(hi:look Γ t'=some (.val<|TI k i))(h:AB L i=some y):B0 P Γ ⟨d,.indexAddr T (.tmp t)<| .tmp t',ty,pos,af,g⟩ (.val<|Jl<|f y):=E5 hT hf (.t hx) (.t hi) h
def Q7(Γ:Ctx):A3 CR->A9 (A3 Ty)
 |[]=>some []
 | .tmp t::xs=>match look Γ t,Q7 Γ xs with|some (.val τ),some l=>some (τ::l)|_,_=>none
 | .const (.int k n)::xs=>match Q7 Γ xs with|some l=>some (TI k n::l)|_=>none
 | .const (.bool b)::xs=>match Q7 Γ xs with|some l=>some (Ay b::l)|_=>none
 |_=>none
def ak{Γ:Ctx}:∀{xs:A3 CR} {l:A3 Ty},Q7 Γ xs=some l->AP Γ xs l
 |[],_,h=>by cases h;exact .nil
 | .tmp t::xs,l,h=>by
  unfold Q7 at h;split at h
  .rename_i h1 h2;cases h;exact .cons (.t h1)<|ak h2
  .cases h
 | .const (.int k n)::xs,l,h=>by
  unfold Q7 at h;split at h
  .rename_i h2;cases h;exact .cons .int<|ak h2
  .cases h
 | .const (.bool b)::xs,l,h=>by
  unfold Q7 at h;split at h
  .rename_i h2;cases h;exact .cons .bool<|ak h2
  .cases h
def oC{f:FuncId}{xs:A3 CR}{F5:BG Ap}{args:A3 Ty}{Bs:Res}{d:A9 Tmp}(hf:Eg P f args Bs)(ha:Q7 Γ xs=some args):B0 P Γ ⟨d,.call ⟨.value<| .func f,xs.toArray,F5⟩,ty,pos,af,g⟩ (si Bs):=FU hf<|ak ha
def cC{f:FuncId}{xs:A3 CR}{F5:BG Ap}{args:A3 Ty}{Bs:Res}(hf:Eg P f args Bs)(ha:Q7 Γ xs=some args)(r:G P w0 N ops l Γ K d (si Bs)):CK P w0 N ops (⟨some d,.call ⟨.value<| .func f,xs.toArray,F5⟩,ty,pos,af,none⟩::l) Γ K:=cP (oC hf ha) r
def gV(hj:(ops[j]?).bind (·.dst)=some dj)(hl:look Γ dj=some (.val<|Ay b))(ho:Iq Γ (gd b want) Ai)(h:gd b want=true->B0 P Ai ⟨some d,op,ty,pos,af,some (j,want)⟩ s)(r:ck (Nat.blt dj N&&fr N d s Γ) (CK P w0 N ops l ((d,.opt (gd b want) s)::Γ) K)):CK P w0 N ops (⟨some d,op,ty,pos,af,some (j,want)⟩::l) Γ K:=by let⟨hb,Aq,h1,h2⟩:=ck_ r;rw[C9] at hb;let⟨b1,b2,b3⟩:=fr_ hb.2;exact⟨Aq,.cons (Step.guarded (.v rfl hj hl<|Ad hb.1) (opO ho h) rfl b1 b2 b3) h1,h2⟩
def AH(h0:((ops[j]?).bind (·.dst),look Γ dj)=(some dj,some<| .val<|Ay b))(ho:Iq Γ (gd b want) Ai)(h:gd b want=true->B0 P Ai ⟨some d,op,ty,pos,af,some (j,want)⟩ s)(r:ck (Nat.blt dj N&&fr N d s Γ) (CK P w0 N ops l ((d,.opt (gd b want) s)::Γ) K)):CK P w0 N ops (⟨some d,op,ty,pos,af,some (j,want)⟩::l) Γ K:=gV (congrArg (·.1) h0) (congrArg (·.2) h0) ho h r
def gO(hj:(ops[j]?).bind (·.dst)=some dj)(hl:look Γ dj=some (.opt e<| .val<|Ay b))(ho:Iq Γ (e&&gd b want) Ai)(h:(e&&gd b want)=true->B0 P Ai ⟨some d,op,ty,pos,af,some (j,want)⟩ s)(r:ck (Nat.blt dj N&&fr N d s Γ) (CK P w0 N ops l ((d,.opt (e&&gd b want) s)::Γ) K)):CK P w0 N ops (⟨some d,op,ty,pos,af,some (j,want)⟩::l) Γ K:=by let⟨hb,Aq,h1,h2⟩:=ck_ r;rw[C9] at hb;let⟨b1,b2,b3⟩:=fr_ hb.2;exact⟨Aq,.cons (Step.guarded (.o rfl hj hl<|Ad hb.1) (opO ho h) rfl b1 b2 b3) h1,h2⟩
end
section
variable[D:DR]
variable{P:Program}{w0:Ah P}{H0:HV}{N:Nat}{ops:Array Oper}{Γ Aq Er:Ctx}{l:List Oper}{d:Nat}{op:Op}{ty:TypeId}{pos:String}{af:Array Edge}{K:Ctx->Prop}{Q:Exit->Act->World->Prop}
def rS{id:Nat}{y:Code}(r:ck (Jf l) (CK P w0 N l.toArray l Γ λAq=>Goal P w0 H0 N y Q Aq)):Goal P w0 H0 N (.seq (.region id l.toArray false) y) Q Γ:=by let⟨Az,Aq,h1,h2⟩:=ck_ r;exact A8<|zj Az h1<|A7 h2
def rK{id:Nat}(r:ck (Jf l) (CK P w0 N l.toArray l Γ λAq=>EN w0 H0 N (Q .normal) Aq)):Goal P w0 H0 N (.region id l.toArray false) Q Γ:=by let⟨Az,Aq,h1,h2⟩:=ck_ r;exact zj Az h1 h2
structure PK(P:CP)(N:Nat)(ops:BG Oper)(Γ:Ctx)(acc:A3 Ctx)(l:A3 Oper)(K:A3 (A3 Nat)->A3 Bool->A3 Ctx->Prop):Prop where
 w:∃Dw Dv S,Ev P N ops Γ acc l Dw Dv S/\K Dw Dv S
end
section
variable[D:DR]
variable{P:Program}{w0:Ah P}{H0:HV}{N:Nat}{ops:Array Oper}{Γ Aq Er:Ctx}{l:List Oper}{d:Nat}{op:Op}{ty:TypeId}{pos:String}{af:Array Edge}{K:Ctx->Prop}{Q:Exit->Act->World->Prop}
variable{acc:List Ctx}{ts:List Nat}{Ai:Ctx}{s s' su:AS}{t u:Nat}{o:Oper}{R:List (List Nat)->List Bool->List Ctx->Prop}
def dN(r:R [] [] acc):PK P N ops Γ acc [] R:=⟨_,_,_,.nil,r⟩
def dP(ts:A3 Nat)(hs:KO (acc.flatten++Γ) ts=some Ai)(h:B0 P Ai ⟨some d,op,ty,pos,af,none⟩ s)(r:ck (Nat.blt d N) (PK P N ops Γ ([(d,s)]::acc) l λn p S=>R (ts::n) (true::p) S)):PK P N ops Γ acc (⟨some d,op,ty,pos,af,none⟩::l) R:=by let⟨hb,n,p,S,h1,h2⟩:=ck_ r;exact⟨_,_,S,.cons (NR hs) h rfl rfl (Ad hb) h1,h2⟩
def dM{τ:Ty}(i:Nat)(h0:(KO (acc.flatten++Γ) [i],look Ai t)=(some Ai,some<| .val τ))(r:ck (Nat.blt d N) (PK P N ops Γ ([(d,.val τ)]::acc) l λn p S=>R ([i]::n) (true::p) S)):PK P N ops Γ acc (⟨some d,.move<| .tmp t,ty,pos,af,none⟩::l) R:=dP [i] (congrArg (·.1) h0) (gk<| .t<|congrArg (·.2) h0) r
def dV{j dj:Nat}{want b:Bool}{Γj:Ctx}(ts:A3 Nat)(hs:KO (acc.flatten++Γ) ts=some Ai)(hj:(ops[j]?).bind (·.dst)=some dj)(hl:look Ai dj=some (.val<|Ay b))(ho:Iq Ai (gd b want) Γj)(h:gd b want=true->B0 P Γj ⟨some d,op,ty,pos,af,some (j,want)⟩ s)(r:ck (Nat.blt dj N&&Nat.blt d N) (PK P N ops Γ ([(d,.opt (gd b want) s)]::acc) l λn p S=>R (ts::n) (true::p) S)):PK P N ops Γ acc (⟨some d,op,ty,pos,af,some (j,want)⟩::l) R:=by let⟨hb,n,p,S,h1,h2⟩:=ck_ r;rw[C9] at hb;exact⟨_,_,S,.guarded (NR hs) (.v rfl hj hl<|Ad hb.1) (opO ho h) rfl (Ad hb.2) h1,h2⟩
def dS(ts:A3 Nat)(hs:KO (acc.flatten++Γ) ts=some Ai)(h:P3 P N ops Ai o t s)(r:PK P N ops Γ ([(t,s)]::acc) l λn p S=>R (ts::n) (false::p) S):PK P N ops Γ acc (o::l) R:=by let⟨n,p,S,h1,h2⟩:=r;exact⟨_,_,S,.store (NR hs) h h1,h2⟩
def dG(gs ts:A3 Nat)(hs:KO (acc.flatten++Γ) ts=some Ai)(h:QA P N ops Ai o t d s)(r:PK P N ops Γ (((d,s)::(t,.gone)::gs.map λu=>(u,.gone))::acc) l λn p S=>R (ts::n) (true::p) S):PK P N ops Γ acc (o::l) R:=by let⟨n,p,S,h1,h2⟩:=r;exact⟨_,_,S,.avi gs (NR hs) h h1,h2⟩
def dT(ts:A3 Nat)(hs:KO (acc.flatten++Γ) ts=some Ai)(h:kV P N ops Ai o t s' d s)(r:PK P N ops Γ ([(d,s),(t,s')]::acc) l λn p S=>R (ts::n) (true::p) S):PK P N ops Γ acc (o::l) R:=by let⟨n,p,S,h1,h2⟩:=r;exact⟨_,_,S,.two (NR hs) h h1,h2⟩
end
section
variable[D:DR]
variable{P:Program}{w0:Ah P}{H0:HV}{N:Nat}{ops:Array Oper}{Γ Aq Er:Ctx}{l:List Oper}{d:Nat}{op:Op}{ty:TypeId}{pos:String}{af:Array Edge}{K:Ctx->Prop}{Q:Exit->Act->World->Prop}
def XN(ops:A3 Oper):A3 (A3 Nat):=ops.foldl (λav o=>av++[(List.range av.length).filter λj=>(Si o).any λe=>e.on==j||(av.getD e.on []).contains j]) []
def DE(P:CP)(w0:Ah P)(N:Nat)(ops:A3 Oper)(k:Nat)(Γ:Ctx)(K:Ctx->Prop)(Dw:A3 (A3 Nat))(Dv:A3 Bool)(S:A3 Ctx):Prop:=∃ts GC,(O2 ops.toArray (XN ops)&&TJ k (S.reverse.map Kp) Dw Dv (OZ Γ) (XN ops)&&Qu ops.toArray k (XN ops))=true/\KO (S.flatten++Γ) ts=some GC/\CK P w0 N ops.toArray (ops.drop k) GC K
def dE{Dw:A3 (A3 Nat)}{Dv:A3 Bool}{S:A3 Ctx}{k:Nat}{GC:Ctx}(ts:A3 Nat)(hs:KO (S.flatten++Γ) ts=some GC)(hc:(O2 l.toArray (XN l)&&TJ k (S.reverse.map Kp) Dw Dv (OZ Γ) (XN l)&&Qu l.toArray k (XN l))=true)(r:CK P w0 N l.toArray (l.drop k) GC K):DE P w0 N l k Γ K Dw Dv S:=⟨ts,GC,hc,hs,r⟩
def gD{id:Nat}(k:Nat)(hm:P.follows .mixedOrders=true)(r:ck (Jf l) (PK P N l.toArray Γ [] (l.take k)<|DE P w0 N l k Γ λAq=>EN w0 H0 N (Q .normal) Aq)):Goal P w0 H0 N (.region id l.toArray true) Q Γ:=by let⟨Az,n,p,S,h1,ts,GC,hc,hs,Aq,h2,h3⟩:=ck_ r;exact apj (k:=k) Az _ _ _ _ _ hm hc h1 rfl rfl (NR hs) h2 h3
def gE{id:Nat}{y:Code}(k:Nat)(hm:P.follows .mixedOrders=true)(r:ck (Jf l) (PK P N l.toArray Γ [] (l.take k)<|DE P w0 N l k Γ λAq=>Goal P w0 H0 N y Q Aq)):Goal P w0 H0 N (.seq (.region id l.toArray true) y) Q Γ:=
 A8 (gD k hm (by let⟨Az,r⟩:=ck_ r;rw[Az];let⟨n,p,S,h1,ts,GC,hc,hs,Aq,h2,h3⟩:=r;exact⟨n,p,S,h1,ts,GC,hc,hs,Aq,h2,A7 h3⟩))
end
section
variable[D:DR]
variable{P:Program}{w0:Ah P}{H0:HV}{N:Nat}{ops:Array Oper}{Γ Aq Er:Ctx}{l:List Oper}{d:Nat}{op:Op}{ty:TypeId}{pos:String}{af:Array Edge}{K:Ctx->Prop}{Q:Exit->Act->World->Prop}
variable{x y:Operand}{t t':Nat}{T T':TypeId}{τ σ:Ty}{k:IntKind}{m n:Int}{b e:Bool}{g:Option (Nat×Bool)}{dd:Option Tmp}
variable{s:AS}{sz:Nat}{ps:A3 (Nat×CR)}{l':A3 Ty}
def aT(h:look Γ t=some (.val τ)):Arg Γ (.tmp t) τ:= .t h
def aI:Arg Γ (.const<| .int k n) (TI k n):= .int
def aB:Arg Γ (.const<| .bool b) (Ay b):= .bool
def sS(ts:A3 Nat)(h:KO Γ ts=some Aq):EU Γ ts Aq:=NR h
def oM(h:look Γ t=some (.val τ)):B0 P Γ ⟨dd,.move<| .tmp t,ty,pos,af,g⟩ (.val τ):=gk<| .t h
def oA(h:look Γ t=some (.val τ)):B0 P Γ ⟨dd,.assign<| .tmp t,ty,pos,af,g⟩ (.val τ):=BO<| .t h
def iO{i:Int}{len:Nat}(h:look Γ t=some (.own T' τ))(hT:Lf P T len sz=true)(hc:(decide (0<=i)&&decide (i<(len:Int)))=true):B0 P Γ ⟨dd,.indexAddr T (.tmp t)<| .const<| .int k i,ty,pos,af,g⟩ (.ptr t<|i.toNat*sz):=by rw[C9,WU,WU] at hc;exact w6 h hT .int hc.1 hc.2
def Wz(Γ:Ctx):A3 (Nat×CR)->A3 Ty->A9 (A3 Ty)
 |[],l=>some l
 |(i,x)::ps,l=>match Q7 Γ [x],l[i]? with
  |some [σ],some τ=>match Nat.beq σ.n τ.n with|true=>Wz Γ ps<|l.set i σ|false=>none
  |_,_=>none
def pV{Γ:Ctx}:∀{ps:A3 (Nat×CR)} {l l':A3 Ty},Wz Γ ps l=some l'->E8 P Γ ps l l'
 |[],_,_,h=>by cases h;exact .nil
 |(i,x)::ps,l,l',h=>by
  unfold Wz at h;split at h
  .rename_i σ τ h1 h2;split at h
   .rename_i h3;cases ak h1 with|cons ha _=>exact .cons ha h2 (EF h3)<|pV h
   .cases h
  .cases h
def bB{l:A3 Ty}(hz:Du P T (DH l))(hT:Ng P T (Fa l)=true)(hp:Wz Γ ps l=some l'):B0 P Γ ⟨dd,.build T ps.toArray,ty,pos,af,g⟩ (.val<|DH l'):=gI hz hT<|pV hp
def bA{n:Nat}{l:A3 Ty}(hz:Du P T (DH l))(hT:Lf P T n sz=true)(hu:(l.all λτ=>Nat.beq τ.n sz)=true)(hp:Wz Γ ps l=some l'):B0 P Γ ⟨dd,.build T ps.toArray,ty,pos,af,g⟩ (.val<|DH l'):=YQ hz hT (λτ h=>EF<|Dr.1 hu τ h) (pV hp)
def bS{E:Ap}{n:Nat}(hz:Du P E τ)(hT:HE P T E sz=true)(hp:Wz Γ ps (List.replicate n τ)=some l')(hc:(Nat.beq τ.n sz&&(Nat.blt 0 (n*sz)&&(Nat.ble (n*sz) 16777216&&Nat.beq l'.length n)))=true):B0 P Γ ⟨dd,.buildSlice T n ps.toArray,ty,pos,af,g⟩ (.val<|GJ l'):=by simp only[C9] at hc;exact vS hz hT (EF hc.1) hc.2.1 hc.2.2.1 (pV hp)<|EF hc.2.2.2
def cs(ht:look Γ t=some (.own T' τ))(hx:look Γ t'=some (.val σ))(hn:σ.n=τ.n)(hT:Bv P T σ.n σ.agg=true)(r:CK P w0 N ops l ((t,.own T' σ)::BL t Γ) K):CK P w0 N ops (⟨none,.store T (.tmp t)<| .tmp t',ty,pos,af,none⟩::l) Γ K:=cS (afp ht (.t hx) hn hT) r
def Aj(h0:(look Γ t,look Γ t',σ.n)=(some<| .own T' τ,some<| .val σ,τ.n))(hT:Bv P T σ.n σ.agg=true)(r:CK P w0 N ops l ((t,.own T' σ)::BL t Γ) K):CK P w0 N ops (⟨none,.store T (.tmp t)<| .tmp t',ty,pos,af,none⟩::l) Γ K:=cs (congrArg (·.1) h0) (congrArg (·.2.1) h0) (congrArg (·.2.2) h0) hT r
def ds(ht:look Γ t=some (.own T' τ))(hx:look Γ t'=some (.val σ))(hn:σ.n=τ.n)(hT:Bv P T σ.n σ.agg=true):P3 P N ops Γ ⟨none,.store T (.tmp t)<| .tmp t',ty,pos,af,none⟩ t (.own T' σ):=afS ht (.t hx) hn hT
def CA(h0:(look Γ t,look Γ t',σ.n)=(some<| .own T' τ,some<| .val σ,τ.n))(hT:Bv P T σ.n σ.agg=true):P3 P N ops Γ ⟨none,.store T (.tmp t)<| .tmp t',ty,pos,af,none⟩ t (.own T' σ):=ds (congrArg (·.1) h0) (congrArg (·.2.1) h0) (congrArg (·.2.2) h0) hT
def ov(t:Nat)(h:look Γ t=some s)(r:Iq Γ e Aq):Iq Γ e ((t,s)::Aq):= .v h r
def oo(t:Nat){c:Bool}(h:look Γ t=some (.opt c s))(k:e=true->c=true)(r:Iq Γ e Aq):Iq Γ e ((t,s)::Aq):= .o h k r
def on:Iq Γ e []:= .nil
def AU(t:Nat)(h:look Γ t=some s):Iq Γ e [(t,s)]:= .v h .nil
def AO(t:Nat)(h:look Γ t=some (.opt e s)):Iq Γ e [(t,s)]:= .o h id .nil
end
section
variable[D:DR]
variable{P:Program}{w0:Ah P}{H0:HV}{N:Nat}{ops:Array Oper}{Γ Aq Er:Ctx}{l:List Oper}{d:Nat}{op:Op}{ty:TypeId}{pos:String}{af:Array Edge}{K:Ctx->Prop}{Q:Exit->Act->World->Prop}
variable{α β γ δ ε ζ ρ:Type}{r:ρ}{e:Option α}{f:α->Option β}{g:α->β->Option γ}{h:α->β->γ->Option δ}{i:α->β->γ->δ->Option ε}{j:α->β->γ->δ->ε->Option ζ}
def b2{K:α->β->A9 ρ}(q:(bd e λx=>bd (f x)<|K x)=some r):∃x,e=some x/\∃y,f x=some y/\K x y=some r:=by let⟨x,h1,q⟩:=Aw q;let⟨y,h2,q⟩:=Aw q;exact⟨x,h1,y,h2,q⟩
def b3{K:α->β->γ->A9 ρ}(q:(bd e λx=>bd (f x) λy=>bd (g x y)<|K x y)=some r):∃x,e=some x/\∃y,f x=some y/\∃z,g x y=some z/\K x y z=some r:=by let⟨x,h1,y,h2,q⟩:=b2 q;let⟨z,h3,q⟩:=Aw q;exact⟨x,h1,y,h2,z,h3,q⟩
def b4{K:α->β->γ->δ->A9 ρ}(q:(bd e λx=>bd (f x) λy=>bd (g x y) λz=>bd (h x y z)<|K x y z)=some r):∃x,e=some x/\∃y,f x=some y/\∃z,g x y=some z/\∃u,h x y z=some u/\K x y z u=some r:=by let⟨x,h1,y,h2,z,h3,q⟩:=b3 q;let⟨u,h4,q⟩:=Aw q;exact⟨x,h1,y,h2,z,h3,u,h4,q⟩
def b5{K:α->β->γ->δ->ε->A9 ρ}(q:(bd e λx=>bd (f x) λy=>bd (g x y) λz=>bd (h x y z) λu=>bd (i x y z u)<|K x y z u)=some r):∃x,e=some x/\∃y,f x=some y/\∃z,g x y=some z/\∃u,h x y z=some u/\∃v,i x y z u=some v/\K x y z u v=some r:=by let⟨x,h1,y,h2,z,h3,u,h4,q⟩:=b4 q;let⟨v,h5,q⟩:=Aw q;exact⟨x,h1,y,h2,z,h3,u,h4,v,h5,q⟩
def b6{K:α->β->γ->δ->ε->ζ->A9 ρ}(q:(bd e λx=>bd (f x) λy=>bd (g x y) λz=>bd (h x y z) λu=>bd (i x y z u) λv=>bd (j x y z u v)<|K x y z u v)=some r):∃x,e=some x/\∃y,f x=some y/\∃z,g x y=some z/\∃u,h x y z=some u/\∃v,i x y z u=some v/\∃w,j x y z u v=some w/\K x y z u v w=some r:=by let⟨x,h1,y,h2,z,h3,u,h4,v,h5,q⟩:=b5 q;let⟨w,h6,q⟩:=Aw q;exact⟨x,h1,y,h2,z,h3,u,h4,v,h5,w,h6,q⟩
end
section
variable[D:DR]
variable{P:Program}{w0:Ah P}{H0:HV}{N:Nat}{ops:Array Oper}{Γ Aq Er:Ctx}{l:List Oper}{d:Nat}{op:Op}{ty:TypeId}{pos:String}{af:Array Edge}{K:Ctx->Prop}{Q:Exit->Act->World->Prop}
variable{α β γ δ ε ζ ρ:Type}{r:ρ}{e:Option α}{f:α->Option β}{g:α->β->Option γ}{h:α->β->γ->Option δ}{i:α->β->γ->δ->Option ε}{j:α->β->γ->δ->ε->Option ζ}
variable{P:Program}{w0:Ah P}{H0:HV}{N:Nat}{c:Code}{Q:Exit->Act->World->Prop}{Γ:Ctx}
def AD{e:A9 α}{K:α->A9 ρ}(q:bd e K=some r)(k:∀x,e=some x->K x=some r->Goal P w0 H0 N c Q Γ):Goal P w0 H0 N c Q Γ:=by let⟨x,h,q⟩:=Aw q;exact k x h q
def BY{b:Bool}{d:α}{e:A9 α}{K:α->A9 ρ}(q:Ax b d e K=some r)(k:∀x,(b=true->e=some x)->K x=some r->Goal P w0 H0 N c Q Γ):Goal P w0 H0 N c Q Γ:=by let⟨x,h,q⟩:=I6 q;exact k x h q
def gcI{b:Bool}{K:A9 ρ}(q:gC b K=some r)(k:b=true->K=some r->Goal P w0 H0 N c Q Γ):Goal P w0 H0 N c Q Γ:=k (We q).1 (We q).2
def BR{K:α->β->A9 ρ}(q:(bd e λx=>bd (f x)<|K x)=some r)(k:∀x,e=some x->∀y,f x=some y->K x y=some r->Goal P w0 H0 N c Q Γ):Goal P w0 H0 N c Q Γ:=AD q λx h1 q=>AD q λy h2 q=>k x h1 y h2 q
def Cy{K:α->β->γ->A9 ρ}(q:(bd e λx=>bd (f x) λy=>bd (g x y)<|K x y)=some r)(k:∀x,e=some x->∀y,f x=some y->∀z,g x y=some z->K x y z=some r->Goal P w0 H0 N c Q Γ):Goal P w0 H0 N c Q Γ:=BR q λx h1 y h2 q=>AD q λz h3 q=>k x h1 y h2 z h3 q
def J6{K:α->β->γ->δ->A9 ρ}(q:(bd e λx=>bd (f x) λy=>bd (g x y) λz=>bd (h x y z)<|K x y z)=some r)(k:∀x,e=some x->∀y,f x=some y->∀z,g x y=some z->∀u,h x y z=some u->K x y z u=some r->Goal P w0 H0 N c Q Γ):Goal P w0 H0 N c Q Γ:=Cy q λx h1 y h2 z h3 q=>AD q λu h4 q=>k x h1 y h2 z h3 u h4 q
def b5I{K:α->β->γ->δ->ε->A9 ρ}(q:(bd e λx=>bd (f x) λy=>bd (g x y) λz=>bd (h x y z) λu=>bd (i x y z u)<|K x y z u)=some r)(k:∀x,e=some x->∀y,f x=some y->∀z,g x y=some z->∀u,h x y z=some u->∀v,i x y z u=some v->K x y z u v=some r->Goal P w0 H0 N c Q Γ):Goal P w0 H0 N c Q Γ:=J6 q λx h1 y h2 z h3 u h4 q=>AD q λv h5 q=>k x h1 y h2 z h3 u h4 v h5 q
def HT{K:α->β->γ->δ->ε->ζ->A9 ρ}(q:(bd e λx=>bd (f x) λy=>bd (g x y) λz=>bd (h x y z) λu=>bd (i x y z u) λv=>bd (j x y z u v)<|K x y z u v)=some r)(k:∀x,e=some x->∀y,f x=some y->∀z,g x y=some z->∀u,h x y z=some u->∀v,i x y z u=some v->∀w,j x y z u v=some w->K x y z u v w=some r->Goal P w0 H0 N c Q Γ):Goal P w0 H0 N c Q Γ:=b5I q λx h1 y h2 z h3 u h4 v h5 q=>AD q λw h6 q=>k x h1 y h2 z h3 u h4 v h5 w h6 q
end
section
variable[D:DR]
variable{P:Program}{w0:Ah P}{H0:HV}{N:Nat}{ops:Array Oper}{Γ Aq Er:Ctx}{l:List Oper}{d:Nat}{op:Op}{ty:TypeId}{pos:String}{af:Array Edge}{K:Ctx->Prop}{Q:Exit->Act->World->Prop}
variable{t:Nat}{x y:Code}{b:Bool}{ρ α:Type}{r:ρ}
def gc{X Y:A9 ρ}(hl:look Γ t=some (.val<|Ay b))(hm:cond b X Y=some r)(hx:b=true->X=some r->Goal P w0 H0 N x Q Γ)(hy:b=false->Y=some r->Goal P w0 H0 N y Q Γ):Goal P w0 H0 N (.cond (.tmp t) x y) Q Γ:=Uh hl (λh=>hx h<|apw hm h) (λh=>hy h<|apx hm h)
def gQ{X Y:A9 ρ}(hl:look Γ t=some (.val<|Ay b))(hm:cond b X Y=some r)(hx:X=some r->Goal P w0 H0 N x Q Γ)(hy:Y=some r->Goal P w0 H0 N y Q Γ):Goal P w0 H0 N (.cond (.tmp t) x y) Q Γ:=gc hl hm (λ_=>hx) λ_=>hy
def cm{JO:α->Ctx}{k:α->A9 ρ}{i:α}(hm:k i=some r)(h:KO Γ ((JO i).map (·.1))=some (JO i)):EN w0 H0 N (λa w=>Mid w0 H0 N JO k r a w) Γ:=as3 hm<|NR h
def gl{σ:Type}(Ai:σ->Ctx){n:Nat}{B:(σ->A9 ρ)->σ->A9 ρ}{s0:σ}{c:Code}(hm:lp n B s0=some r)(h0:KO Γ ((Ai s0).map (·.1))=some (Ai s0))
  (round:∀(k:σ->A9 ρ) (s:σ),B k s=some r->Goal P w0 H0 N c (Exit.then (Mid w0 H0 N Ai k r) Q) (Ai s)):Goal P w0 H0 N (.loop c) Q Γ:=abn Ai hm (NR h0) round
end
section
variable[D:DR]
variable{P:Program}{w0:Ah P}{H0:HV}{N:Nat}{ops:Array Oper}{Γ Aq Er:Ctx}{l:List Oper}{d:Nat}{op:Op}{ty:TypeId}{pos:String}{af:Array Edge}{K:Ctx->Prop}{Q:Exit->Act->World->Prop}
variable{f:FuncId}{fn:Func}{t t' T:Nat}{T':TypeId}{τ Gx σ σ':Ty}{Q:Exit->Act->World->Prop}
def AX{c:Code}{args:A3 Ty}{Bs:Res}{N:Nat}(hf:P.funcs[f]? =some fn)(hb:(fn.body,fn.ntmps)=(some c,N))(hc:(Gq P f&&Nat.ble args.length N)=true)
  (h:∀{w0 H0},Goal P (Ah.call P w0) H0 N c (RA P fn (Ah.call P w0) H0 Bs)<|Hd 0 args):Eg P f args Bs:=by
 rw[C9] at hc;rw[LH] at hb;exact ahX hf hb.1 hb.2 (Dx hc.2) hc.1 λ_ _=>h
def r1(h:(((w0.X,w0.Iv,w0.ds,w0.rd),fn.results),look Γ t)=(((KR,false,[],none),[.tmp t].toArray),some<| .val τ)):EN w0 H0 N (λa w=>RA P fn w0 H0 (.vs [τ]) .ret a w) Γ:=by simp[LH] at h;exact Cc (by simp[h]) h.1.2<| .tmp h.2 rfl .nil
def Ac{ρ:Type}{r x:ρ}{F:ρ->Ty}(q:some x=some r)(h:(((w0.X,w0.Iv,w0.ds,w0.rd),fn.results),look Γ t)=(((KR,false,[],none),[.tmp t].toArray),some<| .val<|F x)):EN w0 H0 N (λa w=>RA P fn w0 H0 (.vs [F r]) .ret a w) Γ:=by cases q;exact r1 h
def r2(h:(((w0.X,w0.Iv,w0.ds,w0.rd),fn.results),look Γ t,look Γ t')=(((KR,false,[],none),[.tmp t,.tmp t'].toArray),some<| .val τ,some<| .val σ)):EN w0 H0 N (λa w=>RA P fn w0 H0 (.vs [τ,σ]) .ret a w) Γ:=by simp[LH] at h;exact Cc (by simp[h]) h.1.2<| .tmp h.2.1 rfl<| .tmp h.2.2 rfl .nil
def q1(h:(((w0.X,w0.Iv,w0.ds,w0.rd),fn.results),look Γ t)=(((KR,false,[],none),[.cell t T].toArray),some<| .own T' τ))(hT:Bv P T τ.n τ.agg=true):EN w0 H0 N (λa w=>RA P fn w0 H0 (.vs [τ]) .ret a w) Γ:=by simp[LH] at h;exact Cc (by simp[h]) h.1.2<| .cell h.2 (FY hT) rfl .nil
def CV{ρ:Type}{r x:ρ}{F:ρ->Ty}(q:some x=some r)(h:(((w0.X,w0.Iv,w0.ds,w0.rd),fn.results),look Γ t)=(((KR,false,[],none),[.cell t T].toArray),some<| .own T'<|F x))(hT:Bv P T (F x).n (F x).agg=true):EN w0 H0 N (λa w=>RA P fn w0 H0 (.vs [F r]) .ret a w) Γ:=by cases q;exact q1 h hT
end
section
variable[D:DR]
variable{P:Program}{w0:Ah P}{H0:HV}{N:Nat}{ops:Array Oper}{Γ Aq Er:Ctx}{l:List Oper}{d:Nat}{op:Op}{ty:TypeId}{pos:String}{af:Array Edge}{K:Ctx->Prop}{Q:Exit->Act->World->Prop}
variable{t d' k' off:Nat}{T T' T2 KK:TypeId}{σ:Ty}{L:List Ty}{pos':String}{Lg:Array Edge}{acc:List Ctx}{R:List (List Nat)->List Bool->List Ctx->Prop}
def ZP{Γ:Ctx}{t:Nat}{s:AS}:look ((t,s)::Γ) t=some s:=by simp[look]
def qT{Γ:Ctx}{d t:Nat}{s s':AS}(h:Nat.beq d t=false)(k:look Γ t=some s'):look ((d,s)::Γ) t=some s':=by unfold look;rw[h];exact k
def By(i:Nat)(h:look Γ t=some (.own T'<|DH L))(hf:Gf P T k' off=true)(h1:pick L i off=some σ)(hT:Bv P T2 σ.n σ.agg=true)(r:ck (fr N d (.ptr t off) Γ&&(!Nat.beq d t&&fr N d' (.val σ) ((d,.ptr t off)::Γ))) (CK P w0 N ops l ((d',.val σ)::(d,.ptr t off)::Γ) K)):CK P w0 N ops (⟨some d,.fieldAddr T (.tmp t) k',ty,pos,af,none⟩::⟨some d',.load T2<| .tmp d,KK,pos',Lg,none⟩::l) Γ K:=by let⟨hb,hk⟩:=ck_ r;simp[C9,GM] at hb;refine cP (G2 h hf) ?_;rw[hb.1];refine cP (Fo ZP (qT hb.2.1 h) (ru h1) hT) ?_;rw[hb.2.2];exact hk
def dQ(i:Nat)(h:look (acc.flatten++Γ) t=some (.own T'<|DH L))(hf:Gf P T k' off=true)(h1:pick L i off=some σ)(hT:Bv P T2 σ.n σ.agg=true)(r:ck (Nat.blt d N&&(Nat.blt d' N&& !Nat.beq d t)) (PK P N ops Γ ([(d',.val σ)]::[(d,.ptr t off)]::acc) l λn p S=>R ([t]::[d,t]::n) (true::true::p) S)):PK P N ops Γ acc (⟨some d,.fieldAddr T (.tmp t) k',ty,pos,af,none⟩::⟨some d',.load T2<| .tmp d,KK,pos',Lg,none⟩::l) R:=by
 let⟨hb,n,p,S,k1,k2⟩:=ck_ r;simp only[C9,GM] at hb;have e:look (([(d,AS.ptr t off)]::acc).flatten++Γ) d=some (.ptr t off):=by simpa using ZP
 have e':look (([(d,AS.ptr t off)]::acc).flatten++Γ) t=some (.own T'<|DH L):=by simpa using qT hb.2.2 h
 exact⟨_,_,S,.cons (.cons h .nil) (G2 ZP hf) rfl rfl (Ad hb.1)<| .cons (.cons e<| .cons e' .nil) (Fo ZP (qT hb.2.2 ZP) (ru h1) hT) rfl rfl (Ad hb.2.1) k1,k2⟩
end
section
variable[D:DR]
variable{P:Program}{w0:Ah P}{H0:HV}{N:Nat}{ops:Array Oper}{Γ Aq Er:Ctx}{l:List Oper}{d:Nat}{op:Op}{ty:TypeId}{pos:String}{af:Array Edge}{K:Ctx->Prop}{Q:Exit->Act->World->Prop}
variable{ρ:Type}{r:ρ}
def amV{A B:Ctx}{ts us:A3 Nat}(h:EU Γ ts A)(k:EU Γ us B):EU Γ (ts++us) (A++B):=by induction h with|nil=>exact k|cons h _ ih=>exact .cons h ih
def B6{σ:Type}(ks:A3 Nat){Γ0:Ctx}(hk:KO Γ ks=some Γ0)(Ai:σ->Ctx){n:Nat}{B:(σ->A9 ρ)->σ->A9 ρ}{s0:σ}{c:Code}(hm:lp n B s0=some r)(h0:KO Γ ((Ai s0).map (·.1))=some (Ai s0))
  (round:∀(k:σ->A9 ρ) (s:σ),B k s=some r->Goal P w0 H0 N c (Exit.then (Mid w0 H0 N (λs=>Ai s++Γ0) k r) Q) (Ai s++Γ0)):Goal P w0 H0 N (.loop c) Q Γ:=abn (λs=>Ai s++Γ0) hm (amV (NR h0)<|NR hk) round
def DB{α:Type}(ks:A3 Nat){Γ0:Ctx}(hk:KO Γ ks=some Γ0)(JO:α->Ctx){K:α->A9 ρ}{E:(α->A9 ρ)->A9 ρ}{x:Code}(hm:jn K E=some r)
  (h:∀k,E k=some r->Goal P w0 H0 N x (Exit.then (Mid w0 H0 N (λs=>JO s++Γ0) k r) Q) Γ)(kk:∀i,K i=some r->EN w0 H0 N (Q .normal) (JO i++Γ0)):Goal P w0 H0 N x Q Γ:=Sl (λs=>JO s++Γ0) hm h kk
end
section
variable{α:Type}{c:α->α->Option Int}
theorem Nx{α ρ:Type}{e:A9 α}{K:α->A9 ρ}{r:ρ}(h:bd e K=some r):∃x,e=some x/\K x=some r:=by(simp_all [bd]<;>grind)
def fQ:∀{l r:A3 α} {x:α},OB c x l=some r->r.Perm (x::l)
 |[],r,x,h=>by cases h;exact .refl _
 |y::l,r,x,h=>by
  let⟨k,_,h⟩:=Nx h;cases hb:decide (k<0) with
  |true=>rw[hb] at h;let⟨r',hr,h⟩:=Nx (K:=λr=>some (y::r)) h;cases h;exact((fQ hr).cons y).trans<| .swap x y l
  |false=>rw[hb] at h;have h:some (x::y::l)=some r:=h;cases h;exact .refl _
def yR:∀(l:A3 α) (s r:A3 α),JS l (λnext x s=>bd (OB c x s) next) s (λs=>some s.reverse)=some r->r.Perm (s++l)
 |[],s,r,h=>by have h:some s.reverse=some r:=h;cases h;simpa using s.reverse_perm
 |x::l,s,r,h=>by let⟨s',hs,h⟩:=Nx h;refine(yR l s' r h).trans ?_;refine((fQ hs).append_right l).trans ?_;exact List.perm_middle.symm
def wY{l r:A3 α}(h:jW c l=some r):r.Perm l:=by simpa using yR l [] r h
end
section
variable{α:Type}[DecidableEq α]{c:α×α->Option Int}
variable{s:A3 α}
def yd:∀{l:A3 α} {x:α},XO c x l=true->∀y∈l,x=y\/∃i j,c (x,y)=some i/\c (y,x)=some j/\i<0/\0<=j
 |[],_,_,y,hy=>by cases hy
 |z::l,x,h,y,hy=>by
  unfold XO at h;rw[C9] at h;rcases Am.1 hy with e|hy
  .subst e;cases hd:decide (x=y) with
   |true=>exact .inl<|As hd
   |false=>
    rw[hd] at h;refine .inr ?_;have h:=h.1;simp only[B8] at h;split at h
    .rename_i i j e1 e2;rw[C9,Hm,Hm] at h;exact⟨i,j,e1,e2,h.1,h.2⟩
    .cases h
  .exact yd h.2 y hy
def oB:∀{s:A3 α},Ot c s=true->(∀x∈s,∃i,c (x,x)=some i/\0<=i)/\s.Pairwise λx y=>x=y\/∃i j,c (x,y)=some i/\c (y,x)=some j/\i<0/\0<=j
 |[],_=>⟨λx h=>(by cases h),.nil⟩
 |x::s,h=>by
  unfold Ot at h;rw[C9,C9] at h;let⟨h1,h2,h3⟩:=h;let⟨k1,k2⟩:=oB h3;refine⟨λy hy=>?_,.cons (yd h2) k2⟩;rcases Am.1 hy with e|hy
  .subst e;split at h1
   .rename_i i e;exact⟨i,e,As h1⟩
   .cases h1
  .exact k1 y hy
theorem jX{x:α}(h:x∈s):∃hl:s.idxOf x<s.length,s[s.idxOf x]=x:=by grind
def fj(h:Ot c s=true){x y:α}(hx:x∈s)(hy:y∈s){v:Int}(hv:c (x,y)=some v):v<0↔s.idxOf x<s.idxOf y:=by
 let⟨k1,k2⟩:=oB h;let⟨lx,ex⟩:=jX hx;let⟨ly,ey⟩:=jX hy;have pw:=Zt.1 k2;rcases Nat.lt_trichotomy (s.idxOf x) (s.idxOf y) with hlt|heq|hgt
 .have:=pw _ _ lx ly hlt;rw[ex,ey] at this;rcases this with e|⟨i,j,e1,e2,h1,h2⟩
  .subst e;omega
  .rw[hv] at e1;cases e1;exact⟨λ_=>hlt,λ_=>h1⟩
 .have:x=y:=by rw[<-ex,<-ey];congr 1
  subst this;let⟨i,e,hi⟩:=k1 x hx;rw[hv] at e;cases e;omega
 .have:=pw _ _ ly lx hgt;rw[ex,ey] at this;rcases this with e|⟨i,j,e1,e2,h1,h2⟩
  .subst e;omega
  .rw[hv] at e2;cases e2;omega
def agh(h:Ot c s=true):s.Pairwise λx y=>s.idxOf x<=s.idxOf y:=by
 let⟨k1,k2⟩:=oB h;refine Zt.2 λi j hi hj KW=>?_
 rcases Zt.1 k2 i j hi hj KW with e|⟨a,b,e1,e2,h1,h2⟩
 .rw[e];exact BQ _
 .have:=(fj h (Lz hi) (Lz hj) e1).1 h1;omega
def xx{r:A3 α}(h:Ot c s=true)(hp:r.Perm s)(hr:r.Pairwise λx y=>s.idxOf x<=s.idxOf y):r=s:=by
 refine List.Perm.eq_of_pairwise (le:=λx y=>s.idxOf x<=s.idxOf y) ?_ hr (agh h) hp;intro a b ha hb h1 h2;let⟨la,ea⟩:=jX<|hp.mem_iff.1 ha
 let⟨lb,eb⟩:=jX hb;have e:s.idxOf a=s.idxOf b:=by omega
 rw[<-ea,<-eb]
 congr 1
def YO{l:A3 α}(h:Ia l c=some s):s.Perm l/\Ot c s=true/\(∀x∈l,∀y∈l,∃v,c (x,y)=some v)/\l.length<4611686018427387904:=by
 let⟨s',hs,h⟩:=Nx h;unfold ES at h;cases hb:Nat.blt l.length 4611686018427387904&&(totB c l&&Ot c s') with
 |false=>rw[hb] at h;cases h
 |true=>rw[hb] at h;cases h;rw[C9,C9] at hb;refine⟨wY hs,hb.2.2,λx hx y hy=>?_,Dx hb.1⟩;have:=Dr.1 hb.2.1 x hx;have:=Dr.1 this y hy;exact Option.isSome_iff_exists.1 this
end
def O{α:Sort _}{a:α}:a=a:=rfl
def AN{α:Type}{f:α->Ty}{sz:Nat}(h:(λz=>(f z).n)=λ_=>sz):∀z,(f z).n=sz:=congrFun h
abbrev TiZ(n:Int):Ty:=TI .i64 n
abbrev AA:=List UInt8
abbrev Bj:=AA×AA×AA
abbrev HfZ:=(Int×Int×Int)×List UInt8
abbrev PlZ:=(Rat×Rat×Rat)×Rat
abbrev FcZ:=((Rat×Rat×Rat)×Rat)×List (Rat×Rat×Rat)
abbrev BdZ:=List ((Int×Int×Int)×List UInt8)
abbrev SpZ:=List (((Rat×Rat×Rat)×Rat)×List (Rat×Rat×Rat))
abbrev ShZ:=List ((Int×Int×Int)×List UInt8)×List (List UInt8×List UInt8×List UInt8)×List (List Int)
end Trn
