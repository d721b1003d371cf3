/-
  Part of the proof of SolidForms.
-/
import Derived.Test.YtflhfjdapojoiaaGreatDoorEb
set_option maxRecDepth 100000
set_option maxHeartbeats 20000000
set_option linter.all false
open Go Go.RowKit Go.Proofs
namespace Trn
section
variable[D:DR]
variable{P:Program}{w0:AX P}{H0:HV}{N:Nat}{ops:Array Oper}{Q:Exit->Act->World->Prop}{Γ Ae:Ctx}{d:Option Tmp}{ty:TypeId}{pos:String}{af:Array Edge}{g:Option (Nat×Bool)}
variable{t:Nat}{ps:A3 Bk}{w:AK}{H:HV}{T:Af}{l:A3 Ty}{sz:Nat}{a:Act}{p i:Nat}{gg:Bool}{B:AX P}{u:Nat}{E T' Eb:Af}
def PZ.ok(h:PZ Γ u)(hs:Sat w0 H0 N Γ a w H):(AT a u).oneCell'=true:=by
 cases h with
 |buf h=>
  obtain⟨xs,⟨_,hr⟩,_,_⟩:=hs.holds _<|Au h
  rcases hr with⟨e,_⟩|⟨g,cap,cur,e,_⟩
  ·simp only at e;rw[e];rfl
  ·simp only at e;rw[e];rfl
 |GJ h=>
  obtain⟨r,es,e,_⟩:=hs.holds _<|Au h
  simp only at e;rw[e];rfl
 |Ca h=>
  obtain⟨b,cs,e,_⟩:=hs.holds _<|Au h
  simp only at e;rw[e];rfl
def oj{off:Nat}{pp:Bk}(hp:Ex Γ p t off)(ht:look Γ t=some (.Ca T' gg ps))(hi:ps[i]? =some pp)(ho:BQ ps i=off)(hu:PZ Γ u)(hn:pp.n=1)(hT:BX P T 1 false=true):
  Step P N ops ⟨none,.store T (.tmp p)<| .tmp u,ty,pos,af,none⟩ Γ ((t,.Ca T' gg<|ps.set i<| .sm u)::B4 t Γ):=by
 intro w0 H0 a w H hs K Q k;simp only[Region.wanted,if_true];exact nZ (λ_ h=>h) (x:= .tmp u) (q:= .sm u) hp ht hi ho hn.symm hT (λa w H hs=>⟨Shape.one<|hu.ok hs,rfl,hu.ok hs⟩) (λ_ _ _ h=>h) hs λw' CG=>k a w' H CG
def nX{off:Nat}{pp:Bk}(hp:Ex Γ p t off)(ht:look Γ t=some (.Ca T' gg ps))(hi:ps[i]? =some pp)(ho:BQ ps i=off)(hu:PZ Γ u)(hn:pp.n=1)(hT:BX P T 1 false=true):
  PY P N ops Γ ⟨none,.store T (.tmp p)<| .tmp u,ty,pos,af,none⟩ t (.Ca T' gg<|ps.set i<| .sm u):=λDx B0=>by
 intro w0 H0 a w H hs K Q k;simp only[Region.wanted,if_true];exact nZ B0 (x:= .tmp u) (q:= .sm u) hp ht hi ho hn.symm hT (λa w H hs=>⟨Shape.one<|hu.ok hs,rfl,hu.ok hs⟩) (λ_ _ _ h=>h) hs λw' CG=>k a w' H CG
def lD{s':AJ}{us:A3 Nat}{G:Ctx}(hs:Sat w0 H0 N Γ a w H)(ht:∀q∈G,q∈Γ/\q.1≠t)(hh:s'.holds w0 a w H (AT a t))
 (ho:∀b,s'.owns w (AT a t) b->∃p∈Γ,(p.1=t\/p.1∈us)/\p.2.owns w (AT a p.1) b)(hu:∀q∈G,q.1∉us):Sat w0 H0 N ((t,s')::G) a w H:=by
 have key:∀q∈G,∀b,s'.owns w (AT a t) b-> ¬q.2.owns w (AT a q.1) b:=λq hq b hb KL=>by
  obtain⟨p,hp,h1,h2⟩:=ho b hb;refine hs.sep p hp q (ht q hq).1 (λe=>?_) b h2 KL;rcases h1 with h1|h1
  ·exact(ht q hq).2 (by rw[<-e,h1])
  ·exact hu q hq<|e▸h1
 refine⟨hs.nd,hs.sz,hs.below,hs.Ed,hs.sub,?_,?_,hs.gl⟩
 ·intro q hq;rcases Ag.1 hq with e|hq
  ·subst e;exact hh
  ·exact hs.holds q (ht q hq).1
 ·intro q hq r hr hn b hb B2;rcases Ag.1 hq with e|hq<;>rcases Ag.1 hr with e'|hr
  ·subst e;subst e';exact hn rfl
  ·subst e;exact key r hr b hb B2
  ·subst e';exact key q hq b B2 hb
  ·exact hs.sep q (ht q hq).1 r (ht r hr).1 hn b hb B2
def alT{w0:AX P}(pp:Bk)(ht:look Γ t=some (.Ca T' gg ps))(hi:ps[i]? =some (.sm u))(hu:look Γ u=some pp.sty)(hne:(u !=t)=true)(hpp:(pp.n,pp.agg)=(1,false))(hg: ¬pp.sty= .gone):
  Ia w0 N Γ ((t,.Ca T' gg<|ps.set i pp)::B4 t (B4 u Γ)):=λH0 a w H hs=>by
 obtain⟨b,cs,e,hb,Lh,hm,Al,Hs,hx⟩:=hs.holds _<|Au ht
 have hph:=hs.holds _<|Au hu
 simp only at e hph;have hut:u≠t:=by simpa using hne
 obtain⟨_,h3,h4,_⟩:=QJ Al hi;have hv:pv (.sm u) (BQ ps i) cs.toList=AT a u:=h4.1;have h1:pp.n=1:=congrArg Prod.fst hpp;have h2:pp.agg=false:=congrArg Prod.snd hpp;have By:Shape pp.n pp.agg (AT a u):=by rw[h1,h2,<-hv];exact h3
 have hq:pp.holds w0 a w H (AT a u):=by
  cases pp with
  |buf E sz l=>exact hph
  |map K E Eb sz E7=>exact hph
  |val τ=>exact absurd rfl hg
  |any n g=>exact absurd rfl hg
  |sm v=>exact absurd rfl hg
 have qR:∀c,pp.owns w (AT a u) c-> ¬Fh w c ps cs.toList:=λc hc ho=>by
  refine hs.sep _ (Au hu) _ (Au ht) hut c (Bk.Xx.2 hc) ⟨b,e,.inr ⟨cs,hb,ho⟩⟩
 have arX: ¬pp.owns w (AT a u) b:=λhc=>hs.sep _ (Au hu) _ (Au ht) hut b (Bk.Xx.2 hc) ⟨b,e,.inl rfl⟩
 obtain⟨Dd,hcs,k1,k2,k3⟩:=V6 Al Hs hi By (by rw[h1];rfl) hq<|λc hc=> .inr<|qR c hc
 have hcc:Dd=cs.toList:=by rw[hcs,<-hv];exact eS Al hi
 rw[hcc] at k1 k2 k3;refine⟨H,lD (us:=[u]) hs (λq hq=>⟨(Cq q (Cq q hq).1).1,(Cq q hq).2⟩) ⟨b,cs,e,hb,Lh,hm,k1,k2,λhc=>?_⟩ ?_ (λq hq=>by simpa using(Cq q (Cq q hq).1).2)⟩
 ·rcases k3 b hc with h|h
  ·exact arX h
  ·exact hx h.1
 ·rintro c ⟨c',e',hc⟩;simp only[e] at e';cases e';rcases hc with hc|⟨cs2,hb2,hc⟩
  ·exact⟨_,Au ht,.inl rfl,b,e,.inl hc⟩
  ·rw[hb] at hb2;cases hb2;rcases k3 c hc with h|h
   ·exact⟨_,Au hu,.inr (by simp),Bk.Xx.2 h⟩
   ·exact⟨_,Au ht,.inl rfl,b,e,.inr ⟨cs,hb,h.1⟩⟩
inductive GG:A3 Ty->A3 Bk->Prop where
 |nil:GG [] []
 |val {τ:Ty} {l:A3 Ty} {ps:A3 Bk} (r:GG l ps):GG (τ::l) (.val τ::ps)
 |buf {α:Type} {f:α->Ty} {x:A3 α} {E:Af} {sz:Nat} {l:A3 Ty} {ps:A3 Bk} (hx:x=[]) (r:GG l ps):GG (TN f x::l) (.buf E sz []::ps)
def vI:Kq B w H E sz [] (.slice none 0 0):=
 ⟨[],⟨by simp,.inl ⟨rfl,rfl⟩⟩,rfl,λb h=>by simp[Value.ownBlock] at h⟩
def GG.ok(h:GG l ps):∀{cs:A3 AO},D4 H l cs->IH B a w H ps cs/\(∀b,¬Fh w b ps cs)/\NU w ps cs:=by
 induction h with
 |nil=>exact λe=>⟨e,λ_ h=>h,trivial⟩
 | @val τ l ps r ih=>
  rintro cs ⟨v,rest,e,hv,hr⟩;subst e;obtain⟨h1,h2,h3⟩:=ih hr;have hd:=(Pu (p:= .val τ) (rest:=rest)<|τ.shape hv).2;refine⟨⟨v,rest,rfl,τ.shape hv,hv,h1⟩,λb h=>?_,λb h=>h.elim,?_⟩
  ·rcases h with h|h
   ·exact h
   ·rw[hd] at h;exact h2 b h
  ·rw[hd];exact h3
 | @buf α f x E sz l ps hx r ih=>
  rintro cs ⟨v,rest,e,hv,hr⟩;subst e;subst hx;obtain⟨h1,h2,h3⟩:=ih hr;have ev:=hv.2 rfl;subst ev;have By:Shape (Bk.buf E sz []).n (Bk.buf E sz []).agg (.slice none 0 0):=Shape.one rfl;obtain⟨e1,hd⟩:=Pu (p:= .buf E sz []) (rest:=rest) By;refine⟨⟨_,rest,rfl,By,vI,h1⟩,λb h=>?_,λb h=>?_,?_⟩
  ·rcases h with h|h
   ·rw[e1] at h;simp[Bk.owns,Value.ownBlock] at h
   ·rw[hd] at h;exact h2 b h
  ·rw[e1] at h;simp[Bk.owns,Value.ownBlock] at h
  ·rw[hd];exact h3
def xu:∀H v,(Co l).ok H v->D4 H l v.cells.toList:=λ_ _ ⟨cs,e,h⟩=>by subst e;exact h
def xt{τ:Ty}:∀H v,τ.ok H v->D4 H [τ] v.cells.toList:=λ_ v h=>⟨v,[],by simp,h,rfl⟩
def Ck.pub:Ck->Ty
 | .val τ=>τ
 | .buf l=>FY l
 | .any=>SZ ⟨#[]⟩
def Ck.isAny:Ck->Bool
 | .any=>true
 |_=>false
def il(p:Ty×Ck):Ty×Ty:=(p.1,p.2.pub)
def xz{B:AX P}{w:AK}{H H':HV}{Eb:Af}{sz:Nat}(hle:HV.le H H'):∀{i:Nat} {l:A3 (Ty×Ck)} {es:A3 MapEntry},Ji B w H Eb sz i l es->(∀p∈l,p.2.isAny=false)->(∀b,HC b l es->H' b=w.heap[b]?)->okM H' i (l.map il) es
 |_,[],[],_,_,_=>trivial
 |_,[],_::_,h,_,_=>h.elim
 |_,(_,_)::_,[],h,_,_=>h.elim
 |i,(k,e)::l,x::xs,⟨h1,h2,h3,h4⟩,hn,hw=>by
  refine⟨k.mono hle h1,?_,h3,xz hle h4 (λp hp=>hn p (by simp[hp])) λb hb=>hw b<| .inr hb⟩;cases e with
  |val τ=>exact τ.mono hle h2
  |any=>have:=hn (k,.any) (by simp);cases this
  |buf bl=>exact Vp (a:=⟨#[],[]⟩) (B:=B) h2 hle λb hb _ o ho=>by rw[hw b<| .inl hb];exact ho
def ah8{H':HV}{E7:A3 (Ty×Ck)}{v:AO}(hle:HV.le H H')(h:QS B w H Eb sz E7 v)(hn:∀p∈E7,p.2.isAny=false)(hw:∀b,Oz w E7 v b->H' b=w.heap[b]?):(jA<|E7.map il).ok H' v:=by
 obtain⟨r,es,e,hr,_,_,ho,_⟩:=h;subst e;exact⟨r,es,rfl,by rw[hw r<| .inl rfl];exact hr,xz hle ho hn λb hb=>hw b<| .inr ⟨r,es,rfl,hr,hb⟩⟩
def aiC{AY:Ctx}(B0:∀q∈AY,q∈Γ){ps':A3 Bk}{x:Bu}(hp:Ex AY p t 0)(ht:look AY t=some (.Ca T true ps))(hx:Arg AY x (Co l))(hl:GG l ps')(hn:(ps.map Bk.n).sum=Bx l)(hT:BX P T (Bx l) true=true)
 (B1:Sat w0 H0 N Γ a w H){K:Act->AK->Prop}(k:∀w',Sat w0 H0 N ((t,.Ca T true ps')::B4 t Γ) a w' H->K a w'):
  (⟨none,.store T (.tmp p) x,ty,pos,af,none⟩:Oper).wp P a w K Q:=by
 obtain⟨b,cs,e,ep,hb,Lh,hm,Al,Hs,hx'⟩:=hp.ok ht<|B1.weaken B0
 have hxo:=hx.ok<|B1.weaken B0
 have By:=(Co l).shape hxo;obtain⟨ys,ey,hy⟩:=hxo;have hcs:cs.size=Bx l:=by have:=xx Al;simpa[hn] using this
 have hsz:(a.eval x).cells.size=Bx l:=By.size;have Eh:=Sd (P:=P) (x:=a.eval x) (off:=0) (TC hT) hsz hb (by omega) By.cell;rw[List.take_zero,MZ (by simp[hcs]),I4,JQ,Array.toArray_toList] at Eh;rw[ey] at Eh;unfold Oper.wp;have er:(execOp a.eval ⟨none,.store T (.tmp p) x,ty,pos,af,none⟩).run P w= .ok .skip (w.setRow b ys):=by
  simp[execOp,ep,Instr.storeAt,Instr.sureAddr,ey,Eh,Value.cells]
 rw[er,Q8];have hg:E9 w (w.setRow b ys) (some b):=E9.setRow w b _;have B2:(w.setRow b ys).heap[b]? =some (.cells ys T (0,0)):=TP w b _ _ _ _ hb;obtain⟨k1,k2,k3⟩:=hl.ok (B:=w0) (a:=a) (w:=w.setRow b ys) hy;refine k _<|Oa B1 (B0 _<|Au ht) hg hm ⟨b,e,.inl rfl⟩ ⟨b,ys,e,B2,Lh,hm,k1,k3,k2 _⟩ ?_
 rintro c ⟨c',e',hc⟩;simp only[e] at e';cases e';rcases hc with hc|⟨cs2,hb2,hc⟩
 ·subst hc;exact .inl ⟨c,e,.inl rfl⟩
 ·rw[B2] at hb2;cases hb2;exact absurd hc<|k2 c
def ak4(ps':A3 Bk){x:Bu}(hp:Ex Γ p t 0)(ht:look Γ t=some (.Ca T true ps))(hx:Arg Γ x (Co l))(hl:GG l ps')(hn:(ps.map Bk.n).sum=Bx l)(hT:BX P T (Bx l) true=true):
  Step P N ops ⟨none,.store T (.tmp p) x,ty,pos,af,none⟩ Γ ((t,.Ca T true ps')::B4 t Γ):=by
 intro w0 H0 a w H hs K Q k;simp only[Region.wanted,if_true];exact aiC (λ_ h=>h) hp ht hx hl hn hT hs λw' CG=>k a w' H CG
inductive MI:A3 Bk->A3 Ty->Prop where
 |n:MI [] []
 |c {τ:Ty} {l:A3 Ty} {ps:A3 Bk} (r:MI ps l):MI (.val τ::ps) (τ::l)
def MI.ok(h:MI ps l):∀{cs:A3 AO},IH B a w H ps cs->D4 H l cs:=by
 induction h with
 |n=>exact λe=>e
 |c r ih=>rintro cs ⟨v,rest,e,_,hv,hr⟩;exact⟨v,rest,e,hv,ih hr⟩
def xw(hp:Ex Γ p t 0)(ht:look Γ t=some (.Ca T true ps))(hl:MI ps l)(hT:BX P T (Bx l) true=true):
  Aq P Γ ⟨d,.load T<| .tmp p,ty,pos,af,g⟩ (.val<|Co l):=
 DL λ_ _ _ a w _ hs=>by
  obtain⟨b,cs,e,ep,hb,_,_,Al,_⟩:=hp.ok ht hs;have h1:=hl.ok Al;have h2:cs.size=Bx l:=by have:=MT h1;simpa using this
  have h3:=Qp (off:=0) hT hb (by omega);rw[P4,CB (by simp[h2])] at h3;exact⟨.agg cs,by simp[execOp,ep,Instr.loadAt,Instr.sureAddr,h3,GL],⟨cs,rfl,h1⟩,rfl⟩
open Classical in
def aiy{w0:AX P}(ht:look Γ t=some (.Ca T gg ps))(hi:ps[i]? =some (.buf E sz l)):Ia w0 N Γ ((t,.Ca T gg<|ps.set i<| .val<|FY l)::B4 t Γ):=λH0 a w H hs=>by
 obtain⟨b,cs,e,hb,Lh,hm,Al,Hs,hx⟩:=hs.holds _<|Au ht
 simp only at e;obtain⟨_,h3,h4,_⟩:=QJ Al hi;have iG:=eS Al hi
 generalize hv:pv (.buf E sz l) (BQ ps i) cs.toList=v at*
 obtain⟨S,hS⟩:∃S:Nat->Prop,∀c,S c↔v.ownBlock=some c:=⟨_,λ_=>Iff.rfl⟩;have hlt:=(EC.1 hi).1;have hown:∀c,v.ownBlock=some c->Fh w c ps cs.toList:=λc hc=>Om.2 ⟨i,_,hi,by rw[hv];exact hc⟩
 obtain⟨Dd,hcs,k1,k2,k3⟩:=V6 (q:= .any 1 false) (x:=v) Al Hs hi h3 rfl h3<|λc hc=>hc.elim
 rw[show Dd=cs.toList by rw[hcs];exact iG] at k1 k2 k3;have hle:HV.le H (λr=>if S r then w.heap[r]? else H r):=by
  intro r o ho;by_cases e:S r
  ·rw[(Pp Al<|hown r<|(hS r).1 e).2.2.1] at ho;cases ho
  ·simp[e,ho]
 have no:∀c,Fh w c (ps.set i<| .any 1 false) cs.toList->Fh w c ps cs.toList/\ ¬S c:=λc hc=>by
  rcases k3 c hc with h|h
  ·exact h.elim
  ·exact⟨h.1,λh'=>h.2 (by rw[hv];exact(hS c).1 h')⟩
 obtain⟨f1,f2,f3⟩:=fA (w':=w) hle k1 (λc hc=>⟨rfl,by simp[(no c hc).2]⟩);have hi':(ps.set i<| .any 1 false)[i]? =some (.any 1 false):=Rp hlt;have qV:BQ (ps.set i<| .any 1 false) i=BQ ps i:=(o6 (q:= .any 1 false) Al hi h3 rfl h3).2.1;have JW:(FY l).ok (λr=>if S r then w.heap[r]? else H r) v:=Vp (a:=a) h4 hle (λc hc _ o ho=>by have:S c:=(hS c).2 hc;simp[this,ho]);obtain⟨cs2,qb,m1,m2,m3⟩:=V6 (q:= .val<|FY l) (x:=v) f1 (f3 k2) hi' ((FY l).shape JW) rfl JW<|λc hc=>hc.elim
 rw[show cs2=cs.toList by rw[qb,qV];exact iG,List.set_set] at m1 m2 m3;have nw:∀c,Fh w c (ps.set i<| .val<|FY l) cs.toList->Fh w c ps cs.toList:=λc hc=>by
  rcases m3 c hc with h|h
  ·exact h.elim
  ·exact(no c h.1).1
 have hSb: ¬S b:=λh=>hx<|hown b<|(hS b).1 h
 refine⟨_,tK hs (Au ht) S (λc hc=>⟨⟨b,e,.inr ⟨cs,hb,hown c<|(hS c).1 hc⟩⟩,(Pp Al<|hown c<|(hS c).1 hc).2.1⟩) ⟨b,cs,e,hb,by simp[hSb,Lh],hm,m1,m2,λhc=>hx<|nw b hc⟩ ?_⟩;rintro c ⟨c',e',hc⟩;rw[e] at e';cases e';refine⟨b,e,?_⟩;rcases hc with hc|⟨cs3,hb3,hc⟩
 ·exact .inl hc
 ·rw[hb] at hb3;cases hb3;exact .inr ⟨cs,hb,nw c hc⟩
def oQ{w0:AX P}{α:Type}{f:α->Ty}{l:A3 α}(ht:look Γ t=some (.Ca T gg ps))(hi:ps[i]? =some (.buf E sz<|lT f l)):Ia w0 N Γ ((t,.Ca T gg<|ps.set i<| .val<|TL f l)::B4 t Γ):=aiy ht hi
def akP{w0:AX P}{K:Af}{E7:A3 (Ty×Ck)}{M:A3 (Ty×Ty)}(ht:look Γ t=some (.GJ K E Eb sz E7))(hn:∀p∈E7,p.2.isAny=false)(hM:E7.map il=M):Ia w0 N Γ ((t,.val<|jA M)::B4 t Γ):=λH0 a w H hs=>by
 subst hM;have Al:=hs.holds _<|Au ht
 obtain⟨S,hS⟩:∃S:Nat->Prop,∀c,S c↔Oz w E7 (AT a t) c:=⟨_,λ_=>Iff.rfl⟩;refine⟨_,bk hs (Au ht) S (λc hc=>⟨(hS c).1 hc,(RV Al<|(hS c).1 hc).2.1⟩) ?_⟩;refine ah8 ?_ Al hn λb hb=>by have:S b:=(hS b).2 hb;simp[this]
 intro r o ho;by_cases e:S r
 ·rw[(RV Al<|(hS r).1 e).2.2.1] at ho;cases ho
 ·simp[e,ho]
end
section
variable[D:DR]
variable{P:Program}{w0:AX P}{H0:HV}{N:Nat}{ops:Array Oper}{Q:Exit->Act->World->Prop}{Γ Ae:Ctx}{d:Option Tmp}{ty:TypeId}{pos:String}{af:Array Edge}{g:Option (Nat×Bool)}
variable{α β:Type}[DecidableEq α]
def mix(x:α):A3 (α×β)->A6 Nat
 |[]=>none
 |p::l=>bif decide (x=p.1) then some 0 else(mix x l).map (· +1)
def WV(l:A3 (α×β))(x:α)(v:β):A3 (α×β):=match mix x l with
 |none=>l++[(x,v)]
 |some j=>l.set j (x,v)
def n9{x:α}:∀{l:A3 (α×β)} {j:Nat},mix x l=some j->∃v,l[j]? =some (x,v)
 |[],_,h=>by simp[mix] at h
 |p::l,j,h=>by
  simp only[mix] at h;by_cases e:x=p.1
  ·simp[e] at h;subst h;subst e;exact⟨p.2,rfl⟩
  ·simp[e] at h;obtain⟨k,hk,rfl⟩:=h;obtain⟨v,hv⟩:=n9 hk;exact⟨v,by simpa using hv⟩
end
section
variable[D:DR]
variable{P:Program}{w0:AX P}{H0:HV}{N:Nat}{ops:Array Oper}{Q:Exit->Act->World->Prop}{Γ Ae:Ctx}{d:Option Tmp}{ty:TypeId}{pos:String}{af:Array Edge}{g:Option (Nat×Bool)}
variable{B:AX P}{w:AK}{H:HV}{Eb:Af}{sz:Nat}
@[reducible] def mM{α β:Type}(fK:α->Ty)(fV:β->Ck)(l:A3 (α×β)):A3 (Ty×Ck):=l.map λp=>(fK p.1,fV p.2)
def Tv(P:Bs)(T K E:Af):Bool:=match P.underlying T with
 |some (.map k e)=>Nat.beq k K&&Nat.beq e E
 |_=>false
def Y6{T K E:Af}(h:Tv P T K E=true):P.underlying T=some (.map K E):=by
 unfold Tv at h;split at h
 ·rename_i k e hu;simp only[BU] at h;rw[hu,Dj h.1,Dj h.2]
 ·cases h
structure Rt{α:Type}[DecidableEq α](P:Bs)(K:Af)(f:α->Ty):Prop where
 eq:∀(H:HV) (u v:AO) (x y:α),(f x).ok H u->(f y).ok H v->∀w:AK,(Op.equal K u v).run P w= .ok (decide<|x=y) w
 check:∀(H:HV) (u:AO) (x:α),(f x).ok H u->∀(e:Bool) (w:AK),(Instr.checkKey e 10000 K u).run P w= .ok () w
 kind:∃ud,P.underlying K=some ud/\∀u v,Instr.sameNow ud u v=none
 bits:∀(H:HV) (u v:AO) (x:α),(f x).ok H u->(f x).ok H v->Instr.sameBits 10000 u v=true
def ZC{B:AX P}{w:AK}{H:HV}{Eb:Af}{sz:Nat}:∀{i:Nat} {l:A3 (Ty×Ck)} {es:A3 MapEntry} {j:Nat} {k:Ty} {e:Ck},Ji B w H Eb sz i l es->l[j]? =some (k,e)->
  ∃x,es[j]? =some x/\k.ok H x.key/\e.holds B w H Eb sz x.val/\x.born=i+j
 |_,[],_,_,_,_,_,h=>by simp at h
 |_,(_,_)::_,[],_,_,_,h,_=>h.elim
 |i,(k',e')::l,x::xs,0,k,e,⟨h1,h2,h3,h4⟩,h=>by
  simp at h;obtain⟨rfl,rfl⟩:=h;exact⟨x,rfl,h1,h2,by simpa using h3⟩
 |i,(k',e')::l,x::xs,j+1,k,e,⟨h1,h2,h3,h4⟩,h=>by
  obtain⟨y,g1,g2,g3,g4⟩:=ZC h4 (by simpa using h);exact⟨y,by simpa using g1,g2,g3,by omega⟩
def y4{B:AX P}{w:AK}{H:HV}{Eb:Af}{sz:Nat}:∀{i:Nat} {l:A3 (Ty×Ck)} {es:A3 MapEntry},Ji B w H Eb sz i l es->es.length=l.length
 |_,[],[],_=>rfl
 |_,[],_::_,h=>h.elim
 |_,(_,_)::_,[],h=>h.elim
 |_,(_,_)::_,_::_,⟨_,_,_,h⟩=>by simp[y4 h]
def xy{B:AX P}{w:AK}{H:HV}{Eb:Af}{sz:Nat}:∀{i:Nat} {l:A3 (Ty×Ck)} {es:A3 MapEntry} {j:Nat} {k:Ty} {e:Ck} {x:MapEntry},Ji B w H Eb sz i l es->k.ok H x.key->e.holds B w H Eb sz x.val->x.born=i+j->
  Ji B w H Eb sz i (l.set j (k,e)) (es.set j x)
 |_,[],[],_,_,_,_,_,_,_,_=>trivial
 |_,[],_::_,_,_,_,_,h,_,_,_=>h.elim
 |_,(_,_)::_,[],_,_,_,_,h,_,_,_=>h.elim
 |i,(k',e')::l,x::xs,0,k,e,y,⟨h1,h2,h3,h4⟩,g1,g2,g3=>⟨g1,g2,g3,h4⟩
 |i,(k',e')::l,x::xs,j+1,k,e,y,⟨h1,h2,h3,h4⟩,g1,g2,g3=>⟨h1,h2,h3,xy h4 g1 g2 (by omega)⟩
def wS{B:AX P}{w:AK}{H:HV}{Eb:Af}{sz:Nat}:∀{i:Nat} {l:A3 (Ty×Ck)} {es:A3 MapEntry} {k:Ty} {e:Ck} {x:MapEntry},Ji B w H Eb sz i l es->k.ok H x.key->e.holds B w H Eb sz x.val->x.born=i+l.length->
  Ji B w H Eb sz i (l++[(k,e)]) (es++[x])
 |_,[],[],_,_,_,_,g1,g2,g3=>⟨g1,g2,by simpa using g3,trivial⟩
 |_,[],_::_,_,_,_,h,_,_,_=>h.elim
 |_,(_,_)::_,[],_,_,_,h,_,_,_=>h.elim
 |i,(k',e')::l,x::xs,k,e,y,⟨h1,h2,h3,h4⟩,g1,g2,g3=>⟨h1,h2,h3,wS h4 g1 g2 (by simp at g3;omega)⟩
def On{b:Nat}:∀{l:A3 (Ty×Ck)} {es:A3 MapEntry},HC b l es↔∃(j:Nat) (k:Ty) (e:Ck) (x:MapEntry),l[j]? =some (k,e)/\es[j]? =some x/\e.owns x.val b
 |[],es=>by simp[HC]
 |(k,e)::l,[]=>by simp[HC]
 |(k,e)::l,x::xs=>by
  simp only[HC,On (l:=l)];constructor
  ·rintro(h|⟨j,k',e',y,h1,h2,h3⟩)
   ·exact⟨0,k,e,x,rfl,rfl,h⟩
   ·exact⟨j+1,k',e',y,by simpa using h1,by simpa using h2,h3⟩
  ·rintro⟨j,k',e',y,h1,h2,h3⟩;cases j with
   |zero=>simp at h1 h2;obtain⟨rfl,rfl⟩:=h1;subst h2;exact .inl h3
   |succ j=>exact .inr ⟨j,k',e',y,by simpa using h1,by simpa using h2,h3⟩
def Y0:∀{l:A3 (Ty×Ck)} {es:A3 MapEntry},l.length=es.length->(OO l es↔∀(i j:Nat) (k k':Ty) (e e':Ck) (x y:MapEntry),i<j->l[i]? =some (k,e)->l[j]? =some (k',e')->es[i]? =some x->es[j]? =some y->∀b,e.owns x.val b-> ¬e'.owns y.val b)
 |[],[],_=>by simp[OO]
 |[],_::_,h=>by simp at h
 |(_,_)::_,[],h=>by simp at h
 |(k,e)::l,x::xs,h=>by
  simp only[OO,Y0 (l:=l) (es:=xs) (by simpa using h)];constructor
  ·rintro⟨h1,h2⟩ i j k1 k2 e1 e2 y z Jm hi hj hx hy b hb B2;cases j with
   |zero=>omega
   |succ j=>
    cases i with
    |zero=>
     simp at hi hx;obtain⟨rfl,rfl⟩:=hi;subst hx;exact h1 b hb (On.2 ⟨j,k2,e2,z,by simpa using hj,by simpa using hy,B2⟩)
    |succ i=>exact h2 i j k1 k2 e1 e2 y z (by omega) (by simpa using hi) (by simpa using hj) (by simpa using hx) (by simpa using hy) b hb B2
  ·intro hh;refine⟨λb hb ho=>?_,λi j k1 k2 e1 e2 y z Jm hi hj hx hy b hb B2=>?_⟩
   ·obtain⟨j,k',e',y,h1,h2,h3⟩:=On.1 ho;exact hh 0 (j+1) k k' e e' x y (by omega) rfl (by simpa using h1) rfl (by simpa using h2) b hb h3
   ·exact hh (i+1) (j+1) k1 k2 e1 e2 y z (by omega) (by simpa using hi) (by simpa using hj) (by simpa using hx) (by simpa using hy) b hb B2
end
section
variable[D:DR]
variable{P:Program}{w0:AX P}{H0:HV}{N:Nat}{ops:Array Oper}{Q:Exit->Act->World->Prop}{Γ Ae:Ctx}{d:Option Tmp}{ty:TypeId}{pos:String}{af:Array Edge}{g:Option (Nat×Bool)}
variable{α β:Type}[DecidableEq α]{K:TypeId}{fK:α->Ty}{fV:β->Ck}
def sD(hk:Rt P K fK){H:HV}{u:AO}{x:α}(hu:(fK x).ok H u){w:AK}:∀{l:A3 (α×β)} {es:A3 MapEntry} (i:Nat),(∀(j:Nat) (p:α×β),l[j]? =some p->∃y,es[j]? =some y/\(fK p.1).ok H y.key)->es.length=l.length->
  (Instr.findAsking K u es i).run P w= .ok ((mix x l).map λj=>(i+j,((es[j]?).map (·.val)).getD undef)) w
 |[],[],i,_,_=>by simp[Instr.findAsking,mix]
 |[],_::_,_,_,h=>by simp at h
 |_::_,[],_,_,h=>by simp at h
 |p::l,y::es,i,h,hl=>by
  obtain⟨y',h1,h2⟩:=h 0 p rfl;simp at h1;subst h1;have ih:=sD hk hu (l:=l) (es:=es) (w:=w) (i+1) (λj q hq=>by simpa using h (j+1) q (by simpa using hq)) (by simpa using hl);have he:=hk.eq H u y.key x p.1 hu h2 w;simp only[Instr.findAsking,mix,Df,he,DP];by_cases e:x=p.1
  ·simp[e]
  ·simp only[e,decide_false,TX,if_false,B8,ih];cases hm:mix x l with
   |none=>simp
   |some j=>simp;omega
def run_findKey(hk:Rt P K fK){H:HV}{u:AO}{x:α}(hu:(fK x).ok H u){w:AK}{l:A3 (α×β)}{es:A3 MapEntry}(h:∀(j:Nat) (p:α×β),l[j]? =some p->∃y,es[j]? =some y/\(fK p.1).ok H y.key)(hl:es.length=l.length):
  (Instr.findKey K u es).run P w= .ok ((mix x l).map λj=>(j,((es[j]?).map (·.val)).getD undef)) w:=by
 obtain⟨ud,hud,Dy⟩:=hk.kind;have hf:=sD hk hu (w:=w) 0 h hl;unfold Instr.findKey;simp only[Df,EY hud,DP];cases es with
 |nil=>
  cases l with
  |nil=>simp[Instr.findNow,mix]
  |cons p l=>simp at hl
 |cons y es=>
  simp only[Instr.findNow,Dy];simpa using hf
end
section
variable[D:DR]
variable{P:Program}{w0:AX P}{H0:HV}{N:Nat}{ops:Array Oper}{Q:Exit->Act->World->Prop}{Γ Ae:Ctx}{d:Option Tmp}{ty:TypeId}{pos:String}{af:Array Edge}{g:Option (Nat×Bool)}
inductive QX(Γ:Ctx):Bu->Nat->Prop where
 |own {t:Nat}:QX Γ (.tmp t) t
 |same {u t:Nat} (h:look Γ u=some (.same t)):QX Γ (.tmp u) t
def QX.ok{x:Bu}{t:Nat}(h:QX Γ x t){a:Act}{w:AK}{H:HV}(hs:Sat w0 H0 N Γ a w H):a.eval x=AT a t:=by
 cases h with
 |own=>rfl
 |same h=>exact hs.holds _<|Au h
def afc{T K E Eb:Af}{sz:Nat}:Aq P Γ ⟨d,.makeMap T none,ty,pos,af,g⟩ (.GJ K E Eb sz []):=
 Lr λw0 _ _ a w H hs=>by
  refine⟨.map<|some w.heap.size,w.alloc<| .map #[] 0,H,?_,Ext.alloc hs.sub _,?_,?_⟩
  ·simp[execOp,Instr.makeMap,newObj];rfl
  ·refine⟨w.heap.size,#[],rfl,LF w _,?_,.inl hs.below.size,trivial,trivial⟩;cases hh:H w.heap.size with
   |none=>rfl
   |some o=>have:=Gk hs.sub hh;omega
  ·rintro b (h|⟨r,es,e,hr,hb⟩)
   ·cases h;exact Az _
   ·simp[HC] at hb
end
section
variable[D:DR]
variable{P:Program}{w0:AX P}{H0:HV}{N:Nat}{ops:Array Oper}{Q:Exit->Act->World->Prop}{Γ Ae:Ctx}{d:Option Tmp}{ty:TypeId}{pos:String}{af:Array Edge}{g:Option (Nat×Bool)}
variable{α β:Type}[DecidableEq α]{K E Eb T:TypeId}{sz:Nat}{fK:α->Ty}
def yJ{B:AX P}{w:AK}{H:HV}{fV:β->Ck}{l:A3 (α×β)}{es:A3 MapEntry}(h:Ji B w H Eb sz 0 (mM fK fV l) es):(∀(j:Nat) (p:α×β),l[j]? =some p->∃y,es[j]? =some y/\(fK p.1).ok H y.key)/\es.length=l.length:=
 ⟨λj p hp=>by
  obtain⟨y,h1,h2,_⟩:=ZC h (j:=j) (k:=fK p.1) (e:=fV p.2) (by simp[hp]);exact⟨y,h1,h2⟩,by simpa using y4 h⟩
def run_getObj_map{w:AK}{r:Nat}{es:Aw MapEntry}{c:Nat}(h:w.heap[r]? =some (.map es c)):(getObj r).run P w= .ok (.map es c) w:=by
 simp[getObj,Sem.run,h]
end
section
variable[D:DR]
variable{P:Program}{w0:AX P}{H0:HV}{N:Nat}{ops:Array Oper}{Q:Exit->Act->World->Prop}{Γ Ae:Ctx}{d:Option Tmp}{ty:TypeId}{pos:String}{af:Array Edge}{g:Option (Nat×Bool)}
variable{w:AK}{c:Nat}{es:Aw MapEntry}{B:AX P}{H:HV}{sz:Nat}
def uP{r:Nat}{o:Obj}(h:w.heap[r]? =some (.map es c)):(setObj r o).run P w= .ok () (w.putObj r o):=by
 simp[setObj,Sem.run,h];rfl
def aec{E:Af}{l:A3 Ty}{v:AO}(h:Kq B w H E sz l v){b:Nat}(hb:v.ownBlock=some b):w.heap[b]? ≠some (.map es c):=by
 obtain⟨xs,⟨_,hr⟩,_,_⟩:=h;rcases hr with⟨e,_⟩|⟨g,cap,cur,e,_,hc,_⟩
 ·subst e;simp[Value.ownBlock] at hb
 ·subst e;simp[Value.ownBlock] at hb;subst hb;rw[hc];intro e;cases e
def adp{Eb:Af}{l:A3 (Ty×Ck)}{es:A3 MapEntry}(h:Ji B w H Eb sz 0 l es){b:Nat}(hb:HC b l es){HU:Aw MapEntry}:w.heap[b]? ≠some (.map HU c):=by
 obtain⟨j,k,e,x,h1,h2,h3⟩:=On.1 hb;obtain⟨y,g1,_,g3,_⟩:=ZC h h1;rw[h2] at g1;cases g1;cases e with
 |val τ=>exact h3.elim
 |any=>exact h3.elim
 |buf bl=>exact aec g3 h3
def akk{Eb:Af}{r:Nat}{HU:Aw MapEntry}{l':A3 (Ty×Ck)}(hr:w.heap[r]? =some (.map es c))(hn:H r=none)(hm:B.Du r)(ho:Ji B w H Eb sz 0 l' HU.toList)(hs:OO l' HU.toList):
  QS B (w.putObj r<| .map HU HU.size) H Eb sz l' (.map<|some r)/\∀b,Oz (w.putObj r<| .map HU HU.size) l' (.map<|some r) b↔b=r\/HC b l' HU.toList:=by
 have KK:(w.putObj r<| .map HU HU.size).heap[r]? =some (.map HU HU.size):=oL<|lt_of_heap hr
 refine⟨⟨r,HU,rfl,KK,hn,hm,o8 (HV.le.refl H) ho<|λb hb=>⟨Yr<|λe=>?_,rfl⟩,hs⟩,λb=>?_⟩
 ·subst e;exact adp ho hb hr
 ·constructor
  ·rintro(h|⟨r1,es1,e1,h1,h2⟩)
   ·cases h;exact .inl rfl
   ·cases e1;rw[KK] at h1;cases h1;exact .inr h2
  ·rintro(h|h)
   ·subst h;exact .inl rfl
   ·exact .inr ⟨r,HU,rfl,KK,h⟩
end
section
variable[D:DR]
variable{P:Program}{w0:AX P}{H0:HV}{N:Nat}{ops:Array Oper}{Q:Exit->Act->World->Prop}{Γ Ae:Ctx}{d:Option Tmp}{ty:TypeId}{pos:String}{af:Array Edge}{g:Option (Nat×Bool)}
variable{α β:Type}[DecidableEq α]{K E Eb T:TypeId}{sz:Nat}{fK:α->Ty}{fV:β->Ck}
def wC{l:A3 (Ty×Ck)}{es:A3 MapEntry}{j:Nat}{k k0:Ty}{e e0:Ck}{x x0:MapEntry}(hlen:l.length=es.length)(hl:l[j]? =some (k0,e0))(hx:es[j]? =some x0)(h:OO l es)(hn:∀b,e.owns x.val b->e0.owns x0.val b\/ ¬HC b l es):
  OO (l.set j (k,e)) (es.set j x)/\∀b,HC b (l.set j (k,e)) (es.set j x)->e.owns x.val b\/(HC b l es/\ ¬e0.owns x0.val b):=by
 have hj:=(EC.1 hl).1;have hj':j<es.length:=hlen▸hj;have hs:=(Y0 hlen).1 h;have at':∀i k' e' y,(l.set j (k,e))[i]? =some (k',e')->(es.set j x)[i]? =some y->(i=j/\k'=k/\e'=e/\y=x)\/(i≠j/\l[i]? =some (k',e')/\es[i]? =some y):=λi k' e' y h1 h2=>by
  by_cases ei:i=j
  ·subst ei;rw[Rp hj] at h1;rw[Rp hj'] at h2;cases h1;cases h2;exact .inl ⟨rfl,rfl,rfl,rfl⟩
  ·rw[Vc<|Ne.symm ei] at h1 h2;exact .inr ⟨ei,h1,h2⟩
 have one:∀i k' e' y,i≠j->l[i]? =some (k',e')->es[i]? =some y->∀b,e'.owns y.val b-> ¬e.owns x.val b/\ ¬e0.owns x0.val b:=λi k' e' y hi h1 h2 b hb=>by
  have k2: ¬e0.owns x0.val b:=λh0=>by
   rcases Nat.lt_or_gt_of_ne hi with hlt|hlt
   ·exact hs i j k' k0 e' e0 y x0 hlt h1 hl h2 hx b hb h0
   ·exact hs j i k0 k' e0 e' x0 y hlt hl h1 hx h2 b h0 hb
  refine⟨λh3=>?_,k2⟩;rcases hn b h3 with h4|h4
  ·exact k2 h4
  ·exact h4<|On.2 ⟨i,k',e',y,h1,h2,hb⟩
 refine⟨(Y0 (by simpa using hlen)).2 ?_,λb hb=>?_⟩
 ·intro i i' k1 k2 e1 e2 y z Jm hi hi' hy hz b hb B2;rcases at' i k1 e1 y hi hy with⟨rfl,rfl,rfl,rfl⟩|⟨n1,g1,g2⟩<;>rcases at' i' k2 e2 z hi' hz with⟨rfl,rfl,rfl,rfl⟩|⟨n2,g3,g4⟩
  ·omega
  ·exact(one i' k2 e2 z n2 g3 g4 b B2).1 hb
  ·exact(one i k1 e1 y n1 g1 g2 b hb).1 B2
  ·exact hs i i' k1 k2 e1 e2 y z Jm g1 g3 g2 g4 b hb B2
 ·obtain⟨i,k1,e1,y,h1,h2,h3⟩:=On.1 hb;rcases at' i k1 e1 y h1 h2 with⟨rfl,rfl,rfl,rfl⟩|⟨n1,g1,g2⟩
  ·exact .inl h3
  ·exact .inr ⟨On.2 ⟨i,k1,e1,y,g1,g2,h3⟩,(one i k1 e1 y n1 g1 g2 b h3).2⟩
def vF{l:A3 (Ty×Ck)}{es:A3 MapEntry}{k:Ty}{e:Ck}{x:MapEntry}(hlen:l.length=es.length)(h:OO l es)(hn:∀b,¬e.owns x.val b):
  OO (l++[(k,e)]) (es++[x])/\∀b,HC b (l++[(k,e)]) (es++[x])->HC b l es:=by
 have at':∀(i:Nat) (k':Ty) (e':Ck) (y:MapEntry) (b:Nat),(l++[(k,e)])[i]? =some (k',e')->(es++[x])[i]? =some y->e'.owns y.val b->l[i]? =some (k',e')/\es[i]? =some y:=λi k' e' y b h1 h2 h3=>by
  by_cases hi:i<l.length
  ·rw[IQ hi] at h1;rw[IQ<|hlen▸hi] at h2;exact⟨h1,h2⟩
  ·have:i=l.length:=by
    have:=(EC.1 h1).1;simp at this;omega
   subst this;rw[LM<|Az _] at h1;rw[LM (by omega)] at h2;simp[hlen] at h1 h2;obtain⟨rfl,rfl⟩:=h1;subst h2;exact absurd h3<|hn b
 refine⟨(Y0 (by simp[hlen])).2 λi j k1 k2 e1 e2 y z Jm hi hj hy hz b hb B2=>?_,λb hb=>?_⟩
 ·obtain⟨g1,g2⟩:=at' i k1 e1 y b hi hy hb;obtain⟨g3,g4⟩:=at' j k2 e2 z b hj hz B2;exact(Y0 hlen).1 h i j k1 k2 e1 e2 y z Jm g1 g3 g2 g4 b hb B2
 ·obtain⟨i,k1,e1,y,h1,h2,h3⟩:=On.1 hb;obtain⟨g1,g2⟩:=at' i k1 e1 y b h1 h2 h3;exact On.2 ⟨i,k1,e1,y,g1,g2,h3⟩
def run_keyThatStays(hk:Rt P K fK){H:HV}{u v:AO}{x:α}(hu:(fK x).ok H u)(hv:(fK x).ok H v)(w:AK):(Instr.keyThatStays u v).run P w= .ok v w:=by
 simp[Instr.keyThatStays,hk.bits H u v x hu hv]
def adq{γ:Type}(es:Aw γ)(j:Nat)(f:γ->γ):(es.modify j f).toList=es.toList.modify j f:=by simp
def vU{γ:Type}:∀{l:A3 γ} {j:Nat} {f:γ->γ} {x:γ},l[j]? =some x->l.modify j f=l.set j (f x)
 |[],_,_,_,h=>by simp at h
 |y::l,0,f,x,h=>by simp at h;subst h;rfl
 |y::l,j+1,f,x,h=>by
  have:=vU (l:=l) (j:=j) (f:=f) (x:=x) (by simpa using h);simpa using this
def aeA{F:β->Ty}{m k v:Bu}{t:Nat}{l:A3 (α×β)}{x:α}{y:β}{AY:Ctx}(B0:∀q∈AY,q∈Γ)(hT:Tv P T K E=true)(hk:Rt P K fK)(hm:QX AY m t)(ht:look AY t=some (.GJ K E Eb sz<|mM fK (λv=> .val<|F v) l))(hx:Arg AY k (fK x))(hy:Arg AY v (F y)):
  Step P N ops ⟨none,.mapUpdate T m k v,ty,pos,af,none⟩ Γ ((t,.GJ K E Eb sz<|mM fK (λv=> .val<|F v)<|WV l x y)::B4 t Γ):=by
 intro w0 H0 a w H hs K' Q kk;simp only[Region.wanted,if_true];obtain⟨r,es,e,hr,hn,hmi,ho,Hs⟩:=hs.holds _<|B0 _<|Au ht
 simp only at e;have hsi:=hs.weaken B0;have em:a.eval m= .map (some r):=by rw[hm.ok hsi];exact e
 have HK:=hx.ok hsi;have hyv:=hy.ok hsi;obtain⟨k1,k2⟩:=yJ ho;have hf:=run_findKey hk HK (w:=w) k1 k2;have hc:=hk.check H _ x HK false w;have hlen:(mM fK (λv=>Ck.val<|F v) l).length=es.toList.length:=by simp[k2,mM]
 have hown:∀b,¬HC b (mM fK (λv=>Ck.val<|F v) l) es.toList:=λb h=>by
  obtain⟨j,k',e',z,h1,_,h3⟩:=On.1 h;simp only[mM,GX,Option.map_eq_some_iff] at h1;obtain⟨p,_,h1⟩:=h1;cases h1;exact h3
 have fin:∀(HU:Aw MapEntry) (l':A3 (Ty×Ck)),l'=mM fK (λv=>Ck.val<|F v) (WV l x y)->Ji w0 w H Eb sz 0 l' HU.toList->OO l' HU.toList->(∀b,¬HC b l' HU.toList)->
   K' (a.put none undef) (w.putObj r<| .map HU HU.size):=λHU l' el h1 h2 h3=>by
  subst el;obtain⟨g1,g2⟩:=akk hr hn hmi h1 h2;refine kk a _ H (Oa hs (B0 _<|Au ht) (E9.putObj w r _) hmi (by simp only[e];exact .inl rfl) (by simp only[e];exact g1) λc hc=> .inl ?_);simp only[e] at hc⊢;rcases(g2 c).1 hc with h|h
  ·subst h;exact .inl rfl
  ·exact absurd h<|h3 c
 unfold Oper.wp;cases hmx:mix x l with
 |none=>
  rw[hmx] at hf;have er:(execOp a.eval ⟨none,.mapUpdate T m k v,ty,pos,af,none⟩).run P w= .ok .skip (w.putObj r<| .map (es.push {key:=a.eval k,val:=a.eval v,born:=es.size})<|es.size+1):=by
   simp[execOp,em,Instr.mapUpdate,EY<|Y6 hT,run_getObj_map hr,hc,hf,uP hr]
  rw[er,Q8];have:=fin (es.push {key:=a.eval k,val:=a.eval v,born:=es.size}) (mM fK (λv=>Ck.val<|F v) l++[(fK x,.val<|F y)]) (by simp[mM,WV,hmx])
   (by simpa using wS (k:=fK x) (e:= .val<|F y) (x:={key:=a.eval k,val:=a.eval v,born:=es.size}) ho HK hyv (by simp[<-k2]))
   (by simpa using(vF (k:=fK x) (e:= .val<|F y) hlen Hs<|λ_ h=>h).1)
   (λb hb=>hown b ((vF (k:=fK x) (e:= .val<|F y) (x:={key:=a.eval k,val:=a.eval v,born:=es.size}) hlen Hs<|λ_ h=>h).2 b (by simpa using hb)))
  simpa using this
 |some j=>
  rw[hmx] at hf;obtain⟨v0,HL⟩:=n9 hmx;obtain⟨z,h1,h2,h3,h4⟩:=ZC ho (j:=j) (k:=fK x) (e:= .val<|F v0) (by simp[HL]);have h1':es[j]? =some z:=by simpa using h1
  have EX:=run_keyThatStays hk h2 HK w;have er:(execOp a.eval ⟨none,.mapUpdate T m k v,ty,pos,af,none⟩).run P w= .ok .skip (w.putObj r<| .map (es.modify j λe=>{e with key:=a.eval k,val:=a.eval v}) es.size):=by
   simp[execOp,em,Instr.mapUpdate,EY<|Y6 hT,run_getObj_map hr,hc,hf,uP hr,h1',EX]
  rw[er,Q8];have hml:(es.modify j λe=>{e with key:=a.eval k,val:=a.eval v}).toList=es.toList.set j {z with key:=a.eval k,val:=a.eval v}:=by rw[adq,vU h1]
  have hl0:(mM fK (λv=>Ck.val<|F v) l)[j]? =some (fK x,.val<|F v0):=by simp[HL]
  have:=fin (es.modify j λe=>{e with key:=a.eval k,val:=a.eval v}) ((mM fK (λv=>Ck.val<|F v) l).set j (fK x,.val<|F y)) (by simp[mM,WV,hmx,TT])
   (by rw[hml];exact xy (k:=fK x) (e:= .val<|F y) (x:={z with key:=a.eval k,val:=a.eval v}) ho HK hyv (by simpa using h4))
   (by rw[hml];exact(wC (k:=fK x) (e:= .val<|F y) hlen hl0 h1 Hs<|λ_ h=>h.elim).1)
   (λb hb=>by
    rw[hml] at hb;rcases(wC (k:=fK x) (e:= .val<|F y) hlen hl0 h1 Hs<|λ_ h=>h.elim).2 b hb with h|h
    ·exact h
    ·exact hown b h.1)
  simpa using this
end
section
variable[D:DR]
variable{P:Program}{w0:AX P}{H0:HV}{N:Nat}{ops:Array Oper}{Q:Exit->Act->World->Prop}{Γ Ae:Ctx}{d:Option Tmp}{ty:TypeId}{pos:String}{af:Array Edge}{g:Option (Nat×Bool)}
variable{H:HV}{w:AK}{L:A3 (Ty×Ty)}{α:Type}{t r m it:Nat}{seen:A3 Nat}{s s':AJ}
def sE{n:Nat}(hn:0<n)(w:AK):∃(i:Nat) (k:Nat),w.drawn<=k/\i<n/\(choose<| .mapNext n).run P w= .ok i {w with drawn:=k}:=by
 by_cases h:n<=1
 ·refine⟨0,w.drawn,Az _,hn,?_⟩;simp[choose,Sem.run,Question.forced,h]
 ·refine⟨w.tape w.drawn (.mapNext n)%n,w.drawn+1,P1 _,N8 _ hn,?_⟩;simp[choose,Sem.run,Question.forced,h,Question.cut]
def aif{T:Af}{K E:Af}{m:Bu}(hT:Tv P T K E=true)(hm:Arg Γ m (jA L)):Aq P Γ ⟨d,.range T m,ty,pos,af,g⟩ (.IX L []):=
 Lr λw0 _ _ a w H hs=>by
  obtain⟨r,es,e,hr,ho⟩:=hm.ok hs;have KK:=hs.sub _ _ hr;refine⟨.pointer<|some ⟨w.heap.size,0,none⟩,w.alloc<| .mapIter (some r) es.size #[] es.size,H,?_,Ext.alloc hs.sub _,?_,?_⟩
  ·simp[execOp,Instr.range,e,EY<|Y6 hT,run_getObj_map KK,newObj];rfl
  ·refine⟨w.heap.size,r,es,#[],rfl,LF w _,?_,.inl hs.below.size,hr,ho,rfl⟩;cases hh:H w.heap.size with
   |none=>rfl
   |some o=>have:=Gk hs.sub hh;omega
  ·rintro b ⟨ad,e,hb⟩;cases e;simp at hb;omega
def o7{H:HV}:∀{i:Nat} {l:A3 (Ty×Ty)} {es:A3 MapEntry},okM H i l es->es.length=l.length
 |_,[],[],_=>rfl
 |_,[],_::_,h=>h.elim
 |_,(_,_)::_,[],h=>h.elim
 |_,(_,_)::_,_::_,⟨_,_,_,h⟩=>by simp[o7 h]
def gW{H:HV}:∀{i:Nat} {l:A3 (Ty×Ty)} {es:A3 MapEntry} {j:Nat} {x:MapEntry},okM H i l es->es[j]? =some x->∃k e,l[j]? =some (k,e)/\k.ok H x.key/\e.ok H x.val/\x.born=i+j
 |_,[],[],_,_,_,h=>by simp at h
 |_,[],_::_,_,_,h,_=>h.elim
 |_,(_,_)::_,[],_,_,h,_=>h.elim
 |i,(k,e)::l,x::xs,0,y,⟨h1,h2,h3,h4⟩,h=>by
  simp at h;subst h;exact⟨k,e,rfl,h1,h2,by simpa using h3⟩
 |i,(k,e)::l,x::xs,j+1,y,⟨h1,h2,h3,h4⟩,h=>by
  obtain⟨k',e',g1,g2,g3,g4⟩:=gW h4 (by simpa using h);exact⟨k',e',by simpa using g1,g2,g3,by omega⟩
def re{since last:Nat}{seen:Aw Nat}(h:w.heap[r]? =some (.mapIter (some m) since seen last)):(getObj r).run P w= .ok (.mapIter (some m) since seen last) w:=by
 simp[getObj,Sem.run,h]
def acI{o:Obj}{since last:Nat}{seen:Aw Nat}(h:w.heap[r]? =some (.mapIter (some m) since seen last)):(setObj r o).run P w= .ok () (w.putObj r o):=by
 simp[setObj,Sem.run,h];rfl
def aim{es:Aw MapEntry}{sn:Aw Nat}{ty:Af}(hr:w.heap[r]? =some (.mapIter (some m) es.size sn es.size))(hm:w.heap[m]? =some (.map es es.size))(ho:okM H 0 L es.toList):
  ((∀j,j<L.length->j∈sn.toList)/\∃k,w.drawn<=k/\(Instr.next (.pointer<|some ⟨r,0,none⟩) false ty).run P w= .ok (.tuple #[.bool false]) {w with drawn:=k})\/
  ∃j x k,j<L.length/\j∉sn.toList/\es[j]? =some x/\w.drawn<=k/\(Instr.next (.pointer<|some ⟨r,0,none⟩) false ty).run P w= .ok (.tuple #[.bool true,x.key,x.val]) (World.putObj {w with drawn:=k} r<| .mapIter (some m) es.size (sn.push j) es.size):=by
 have hlen:=o7 ho;have WG:∀(j:Nat) (x:MapEntry),es[j]? =some x->x.born=j:=λj x hx=>by
  obtain⟨_,_,_,_,_,h⟩:=gW ho (j:=j) (x:=x) (by simpa using hx);simpa using h
 have hbl:∀e∈es,e.born<es.size:=λe he=>by
  obtain⟨j,hj,e1⟩:=Array.getElem_of_mem he;have:=WG j e (by simp[hj,e1]);omega
 have aaF:(!sn.isEmpty&& !es.isEmpty&&es.all (·.born>=es.size))=false:=by
  cases hes:es.isEmpty
  ·simp only[fM,fI];have hpos:0<es.size:=by
    cases h:es.size with
    |zero=>rw[Array.isEmpty_iff_size_eq_zero.2 h] at hes;cases hes
    |succ n=>omega
   have:es.all (·.born>=es.size)=false:=by
    rw[Array.all_eq_false'];refine⟨es[0],by simp,?_⟩;have:=hbl es[0] (by simp);simp;omega
   simp[this]
  ·simp
 generalize WE:es.filter (λe=> !sn.contains e.born)=left
 have hlm:∀e∈left,e∈es/\sn.contains e.born=false:=λe he=>by
  rw[<-WE] at he;simpa using Array.mem_filter.1 he
 have hold:left.filter (·.born<es.size)=left:=by
  rw[Array.filter_eq_self];exact λe he=>by simpa using hbl e (hlm e he).1
 have Mh:left.filter (·.born>=es.size)= #[]:=by
  rw[Array.filter_eq_empty_iff];intro e he;have:=hbl e (hlm e he).1;simp;omega
 have XR:=re (P:=P) hr;have hg2:=run_getObj_map (P:=P) hm;by_cases j4:left= #[]
 ·left;refine⟨λj hj=>?_,?_⟩
  ·have hj':j<es.size:=by rw[<-hlen] at hj;simpa using hj
   have hb:=WG j es[j] (by simp[hj']);apply CC;intro hn;have:es[j]∈left:=by
    rw[<-WE];refine Array.mem_filter.2 ⟨by simp,?_⟩;rw[hb];simpa using hn
   rw[j4] at this;simp at this
  ·obtain⟨i,k,hk,hi,hc⟩:=sE (P:=P) (n:=1) (by omega) w;have:i=0:=by omega
   subst this;refine⟨k,hk,?_⟩;unfold Instr.next
   simp only[Df,XR,DP,hg2,aaF,TX,if_false,WE,hold,Mh];rw[j4];simp only[Array.isEmpty_empty,if_true,Array.append_empty,Array.map_empty,VX,DF,TU,Nt,hc,DP]
   rfl
 ·right;have hpos:0<left.size:=by
   cases h:left.size with
   |zero=>exact absurd (Array.eq_empty_of_size_eq_zero h) j4
   |succ n=>omega
  obtain⟨i,k,hk,hi,hc⟩:=sE (P:=P) (n:=left.size) hpos w;have H4:=hlm left[i] (by simp);obtain⟨j,hj,e1⟩:=Array.getElem_of_mem H4.1;have hb:=WG j left[i] (by simp[hj,e1]);have KK:World.heap {w with drawn:=k}=w.heap:=rfl;refine⟨j,left[i],k,by rw[<-hlen];simpa using hj,?_,by simp[hj,e1],hk,?_⟩
  ·have:=H4.2;rw[hb] at this;simpa using this
  ·have hne:left.isEmpty=false:=by
    cases h:left.isEmpty
    ·rfl
    ·rw[Array.isEmpty_iff] at h;exact absurd h j4
   have MG:=acI (P:=P) (w:={w with drawn:=k}) (o:= .mapIter (some m) es.size (sn.push left[i].born) es.size) hr;rw[hb] at MG;unfold Instr.next
   simp only[Df,XR,DP,hg2,aaF,TX,if_false,WE,hold,Mh,hne,Array.append_empty,Array.empty_append,Array.size_map,hc,DP];have:(Array.map some left)[i]? =some (some left[i]):=by simp[hi]
   simp only[this,hb,Df,MG,DP]
   rfl
def an0{dn de id:Nat}{ts:A3 Nat}{G8:Ctx}{ty Jd:Af}{pos pos':String}{af Ky:Aw Edge}(hit:look Γ it=some (.IX L seen))(KA:E2 Γ ts G8)
 (hN:(Nat.blt dn N&&Nat.blt de N&&(dn !=it)&&(de !=it)&&(de !=dn))=true)(hf:(G8.all λp=>p.1 !=it&&p.1 !=dn&&p.1 !=de&&p.2.Bn.all (λt=>t !=dn&&t !=de&&t !=it))=true)
 (kt:∀j,j<L.length->j∉seen->E1 w0 H0 N (Q .normal) ((de,.val<|Ar true)::(it,.IX L<|seen++[j])::G8))(kf:(∀j,j<L.length->j∈seen)->E1 w0 H0 N (Q .normal) ((de,.val<|Ar false)::G8)):
  Goal P w0 H0 N (.region id #[⟨some dn,.next (.tmp it) false,ty,pos,af,none⟩,⟨some de,.extract (.tmp dn) 0,Jd,pos',Ky,none⟩] false) Q Γ:=by
 intro a w H hs;simp only[BU,LB,ne_eq] at hN;obtain⟨⟨⟨⟨h1,h2⟩,h3⟩,h4⟩,h5⟩:=hN;have hdn:=AU h1;have hde:=AU h2;obtain⟨r,m,es,sn,e,hr,hn,hmi,hm,ho,hsn⟩:=hs.holds _<|Au hit
 simp only at e;have fr:∀q∈G8,q∈Γ/\q.1≠it/\q.1≠dn/\q.1≠de/\dn∉q.2.Bn/\de∉q.2.Bn/\it∉q.2.Bn:=λq hq=>by
  have:=Cy.1 hf q hq;simp only[BU,LB,ne_eq,Cy] at this;obtain⟨⟨⟨k1,k2⟩,k3⟩,k4⟩:=this;exact⟨KA.sub q hq,k1,k2,k3,λh=>(k4 _ h).1.1 rfl,λh=>(k4 _ h).1.2 rfl,λh=>(k4 _ h).2 rfl⟩
 have ei:a.eval (.tmp it)= .pointer (some ⟨r,0,none⟩):=e;refine wpIn_region_lit ?_;have fin:∀(vs:A3 AO) (b:Bool) (w':AK) (G:Ctx),(∀q∈G,q.1≠dn/\q.1≠de/\dn∉q.2.Bn/\de∉q.2.Bn)->Sat w0 H0 N G a w' H->vs.head?=some (.bool b)->E1 w0 H0 N (Q .normal) ((de,.val<|Ar b)::G)->
   wpListIn (FB w0.rd) 0 P #[⟨some dn,.next (.tmp it) false,ty,pos,af,none⟩,⟨some de,.extract (.tmp dn) 0,Jd,pos',Ky,none⟩] Q [⟨some de,.extract (.tmp dn) 0,Jd,pos',Ky,none⟩] (a.put (some dn)<| .tuple vs.toArray) w':=by
  intro vs b w' G hG hS hv kk;unfold wpListIn;have hw:Region.wanted (⟨some de,.extract (.tmp dn) 0,Jd,pos',Ky,none⟩:Oper) (yielded #[⟨some dn,.next (.tmp it) false,ty,pos,af,none⟩,⟨some de,.extract (.tmp dn) 0,Jd,pos',Ky,none⟩] (a.put (some dn)<| .tuple vs.toArray).tmps)=true:=rfl;rw[if_pos hw];refine YL (λc e=>by cases e) ?_;unfold Oper.wp;have ed:(a.put (some dn)<| .tuple vs.toArray).eval (.tmp dn)= .tuple vs.toArray:=Um (by rw[hs.sz];exact hdn);have Im:vs[0]? =some (.bool b):=by rw[<-List.head?_eq_getElem?];exact hv
  have er:(execOp (a.put (some dn)<| .tuple vs.toArray).eval ⟨some de,.extract (.tmp dn) 0,Jd,pos',Ky,none⟩).run P w'= .ok (.value<| .bool b) w':=by
   simp[execOp,ed,Instr.extract,Im]
  rw[er,Nu];unfold wpListIn;have Jk:=Ps (s:= .gone) (v:= .tuple vs.toArray) hS hdn (by
   simp only[J1,Cy,BU,LB,ne_eq];exact λq hq=>⟨(hG q hq).1,by simpa using(hG q hq).2.2.1⟩) (by simp[AJ.Bn]) trivial<|λb h=>h.elim
  have hs3:=Ps (s:= .val<|Ar b) (v:= .bool b) (Jk.weaken (Ae:=G) λq hq=>Bi _ hq) hde (by
   simp only[J1,Cy,BU,LB,ne_eq];exact λq hq=>⟨(hG q hq).2.1,by simpa using(hG q hq).2.2.2⟩) (by simp[AJ.Bn]) rfl<|λb h=>h.elim
  exact kk _ w' H hs3
 unfold wpListIn;have hw:Region.wanted (⟨some dn,.next (.tmp it) false,ty,pos,af,none⟩:Oper) (yielded #[⟨some dn,.next (.tmp it) false,ty,pos,af,none⟩,⟨some de,.extract (.tmp dn) 0,Jd,pos',Ky,none⟩] a.tmps)=true:=rfl;rw[if_pos hw];refine YL (λc e=>by cases e) ?_;unfold Oper.wp;rcases aim (P:=P) (ty:=ty) hr (hs.sub _ _ hm) ho with⟨hall,k,hk,Eh⟩|⟨j,x,k,hj,hjn,hx,hk,Eh⟩
 ·have er:(execOp a.eval ⟨some dn,.next (.tmp it) false,ty,pos,af,none⟩).run P w= .ok (.value<| .tuple #[.bool false]) {w with drawn:=k}:=by
   simp only[execOp,ei,Df,Eh,DP];rfl
  rw[er,Nu];have he:Ext w H {w with drawn:=k} H:=⟨⟨⟨rfl,rfl,rfl,Az _,λ_ _=>rfl⟩,GQ.of hk⟩,HV.le.refl _,λ_ _=>rfl,hs.sub⟩;exact fin [.bool false] false _ G8 (λq hq=>⟨(fr q hq).2.2.1,(fr q hq).2.2.2.1,(fr q hq).2.2.2.2.1,(fr q hq).2.2.2.2.2.1⟩) (dZ (hs.weaken KA.sub) he) rfl (kf (by rw[<-hsn];exact hall))
 ·have er:(execOp a.eval ⟨some dn,.next (.tmp it) false,ty,pos,af,none⟩).run P w= .ok (.value<| .tuple #[.bool true,x.key,x.val]) (World.putObj {w with drawn:=k} r<| .mapIter (some m) es.size (sn.push j) es.size):=by
   simp only[execOp,ei,Df,Eh,DP];rfl
  rw[er,Nu];have hg:E9 w (World.putObj {w with drawn:=k} r<| .mapIter (some m) es.size (sn.push j) es.size) (some r):=
   ⟨⟨rfl,rfl,rfl,by simp,λi _ hi=>by rw[Yr (λe=>hi (by rw[e]))]⟩,GQ.of hk⟩
  have KK:(World.putObj {w with drawn:=k} r<| .mapIter (some m) es.size (sn.push j) es.size).heap[r]? =some (.mapIter (some m) es.size (sn.push j) es.size):=oL<|lt_of_heap hr
  have Jk:=Oa (s':= .IX L<|seen++[j]) hs (Au hit) hg hmi ⟨_,e,rfl⟩ ⟨r,m,es,sn.push j,e,KK,hn,hmi,hm,ho,by simp[hsn]⟩<|λc hc=> .inl hc
  exact fin [.bool true,x.key,x.val] true _ ((it,.IX L<|seen++[j])::G8) (λq hq=>by
    rcases Ag.1 hq with e|hq
    ·subst e;exact⟨λe=>h3 e.symm,λe=>h4 e.symm,by simp[AJ.Bn],by simp[AJ.Bn]⟩
    ·exact⟨(fr q hq).2.2.1,(fr q hq).2.2.2.1,(fr q hq).2.2.2.2.1,(fr q hq).2.2.2.2.2.1⟩)
   (Jk.weaken λq hq=>by
    rcases Ag.1 hq with e|hq
    ·subst e;simp
    ·exact Bi _<|Ov (fr q hq).1 (fr q hq).2.1) rfl (kt j hj (by rw[<-hsn];exact hjn))
def aih{j:Nat}{k e:Ty}(hit:look Γ it=some (.IX L<|seen++[j]))(hj:L[j]? =some (k,e)):Aq P Γ ⟨d,.entry<| .tmp it,ty,pos,af,g⟩ (.Kz [k,e]):=
 DL λw0 _ _ a w H hs=>by
  obtain⟨r,m,es,sn,ev,hr,hn,hmi,hm,ho,hsn⟩:=hs.holds _<|Au hit
  simp only at ev;have ei:a.eval (.tmp it)= .pointer (some ⟨r,0,none⟩):=ev;have Jl:=hs.sub _ _ hm;have WG:∀(i:Nat) (x:MapEntry),es[i]? =some x->x.born=i:=λi x hx=>by
   obtain⟨_,_,_,_,_,h⟩:=gW ho (j:=i) (x:=x) (by simpa using hx);simpa using h
  have hlt:j<es.size:=by
   have:=(EC.1 hj).1;rw[<-o7 ho] at this;simpa using this
  obtain⟨k',e',h1,h2,h3,_⟩:=gW ho (j:=j) (x:=es[j]) (by simp[hlt]);rw[hj] at h1;cases h1;have pb:sn.back?=some j:=by
   have:sn=(seen++[j]).toArray:=by rw[<-hsn]
   rw[this];simp
  have aoz:es.find? (λx=>x.born==j)=some es[j]:=by
   rw[Array.find?_eq_some_iff_getElem];refine⟨by simpa using WG j es[j] (by simp[hlt]),j,hlt,rfl,λi hi=>?_⟩;have:=WG i es[i] (by simp[Nat.lt_trans hi hlt]);simp[this];omega
  refine⟨.tuple #[es[j].key,es[j].val],?_,⟨_,rfl,_,_,rfl,h2,_,[],rfl,h3,rfl⟩,rfl⟩;simp[execOp,ei,Instr.entry,re hr,run_getObj_map Jl,pb,aoz]
def PQ{α σ:Type}(f:α->σ->A6 σ):A3 α->σ->A6 σ
 |[],s=>some s
 |x::l,s=>bd (f x s)<|PQ f l
def SO{α σ ρ:Type}(f:α->σ->A6 σ)(l:A3 α)(s:σ)(K:σ->A6 ρ):A6 ρ:=bd (PQ f l s) K
def at6{P:Bs}{α σ:Type}(w0:AX P)(H0:HV)(N it:Nat)(l:A3 α)(enc:α->Ty×Ty)(f:α->σ->A6 σ)(AY:σ->Ctx)(seen:A3 Nat)(s:σ)(a:Act)(w:AK):Prop:=
 ∃j x s',l[j]? =some x/\j∉seen/\f x s=some s'/\∃H,Sat w0 H0 N ((it,.IX (l.map enc)<|seen++[j])::AY s') a w H
def PR{α:Type}(l:A3 α)(seen:A3 Nat):A3 α:=((List.range l.length).filter λj=> !seen.contains j).filterMap λj=>l[j]?
def lK{l:A3 α}{j:Nat}{x:α}(hj:l[j]? =some x)(hn:j∉seen):(x::PR l (seen++[j])).Perm (PR l seen):=by
 have hlt:=(EC.1 hj).1;have key:((List.range l.length).filter λi=> !seen.contains i).Perm (j::(List.range l.length).filter λi=> !(seen++[j]).contains i):=by
  have Ht:((List.range l.length).filter λi=> !seen.contains i).Nodup:=List.nodup_range.filter _;have H4:j∈(List.range l.length).filter λi=> !seen.contains i:=by simp[hlt,hn]
  have h1:=List.perm_cons_erase H4;refine h1.trans<|List.Perm.cons _ ?_
  rw[Ht.erase_eq_filter,List.filter_filter];refine List.Perm.of_eq<|List.filter_congr λi _=>?_
  by_cases e:i=j
  ·subst e;simp
  ·simp[e]
 have h2:=(key.filterMap λi=>l[i]?).symm;simpa[PR,hj] using h2
def vM{α:Type}:∀(l pre:A3 α),(List.range' pre.length l.length).filterMap (λj=>(pre++l)[j]?)=l
 |[],_=>rfl
 |x::l,pre=>by
  have ih:=vM l<|pre++[x]
  simp only[ES,LN,Gw,yG] at ih;simp only[DF,List.range'_succ,List.filterMap_cons];rw[LM<|Az _,Nat.sub_self];simp only[List.getElem?_cons_zero,ih]
def ahB(l:A3 α):PR l []=l:=by
 have:=vM l [];simp only[TU,I4] at this;unfold PR;have e:List.filter (λj=> !([]:A3 Nat).contains j) (List.range l.length)=List.range l.length:=List.filter_eq_self.2<|λj _=>rfl
 rw[e,List.range_eq_range'];exact this
def alW{σ ρ:Type}{l:A3 α}(enc:α->Ty×Ty){f:α->σ->A6 σ}{K:σ->A6 ρ}{s0:σ}{r:ρ}(AY:σ->Ctx){c:Code}{ts:A3 Nat}(hall:∀π,π.Perm l->SO f π s0 K=some r)(h0:E2 Γ ts ((it,.IX (l.map enc) [])::AY s0))
 (round:∀(seen:A3 Nat) (s:σ),(∀j x,l[j]? =some x->j∉seen->∃s',f x s=some s')->((∀j,j<(l.map enc).length->j∈seen)->K s=some r)->
 Goal P w0 H0 N c (Exit.then (at6 w0 H0 N it l enc f AY seen s) Q) ((it,.IX (l.map enc) seen)::AY s)):Goal P w0 H0 N (.loop c) Q Γ:=by
 intro a w H hs;refine wp_loop_ghost (λ(i:A3 Nat×σ) a w=>(∀π,π.Perm (PR l i.1)->SO f π i.2 K=some r)/\∃H,Sat w0 H0 N ((it,.IX (l.map enc) i.1)::AY i.2) a w H) (λi=>(PR l i.1).length) ([],s0) ⟨λπ hπ=>hall π (hπ.trans (by rw[ahB])),H,hs.weaken h0.sub⟩ ?_
 ·rintro⟨seen,s⟩ a w ⟨hI,H,hs⟩;refine VG (round seen s (λj x hj hn=>?_) (λhd=>?_) a w H hs) λe a' w' q=>?_
  ·have h1:=hI (x::PR l (seen++[j])) (lK hj hn);unfold SO at h1;simp only[PQ] at h1;obtain⟨s1,h2,_⟩:=Ao h1;obtain⟨s2,h3,_⟩:=Ao h2;exact⟨s2,h3⟩
  ·have:PR l seen=[]:=by
    unfold PR;have:((List.range l.length).filter λj=> !seen.contains j)=[]:=List.filter_eq_nil_iff.2 λj hj=>by
     have:=hd j (by simpa using hj);simp[this]
    rw[this];rfl
   have h1:=hI [] (by rw[this]);exact h1
  ·cases e with
   |normal=>
    obtain⟨j,x,s',hj,hn,hf,H',CG⟩:=q;refine⟨(seen++[j],s'),⟨λπ hπ=>?_,H',CG⟩,?_⟩
    ·have h1:=hI (x::π) ((hπ.cons x).trans<|lK hj hn);unfold SO at h1⊢;simp only[PQ] at h1;rw[hf] at h1;exact h1
    ·have:=(lK hj hn).length_eq;simp at this;simp only;omega
   |_=>exact q
def AX.OQ(P:Bs)(w:AK)(X:Nat->Prop):AX P:=⟨w,X,none,false,[],0,F2 _,λ_ _=>F2 _⟩
def Qj:Act:=⟨#[],[]⟩
structure IN(P:Bs)(f:FuncId)(pre:A3 Ty)(s s':AJ)(post:A3 Ty)(BP:A3 Ty):Prop where
 can:GA P f=true
 run:∀(w:AK) (H:HV) (v:AO) (ps qs:A3 AO),(∀r o,H r=some o->w.heap[r]? =some o)->Kp P H->EW H pre ps->EW H post qs->s.holds (AX.OQ P w λb=>s.owns w v b) Qj w H v->
  Calls P f (ps++v::qs).toArray w λe w'=>∃r,e= .returned r/\∃H',QV (λb=>s.owns w v b) w H w' H'/\s'.holds (AX.OQ P w λb=>s.owns w v b) Qj w' H' v/\(∀b,s'.owns w' v b->s.owns w v b\/w.heap.size<=b)/\Kr H' BP r
inductive EU(Γ:Ctx):Bu->Nat->Prop where
 |own {t:Nat}:EU Γ (.tmp t) t
 |same {u t:Nat} (h:look Γ u=some (.same t)):EU Γ (.tmp u) t
 |ptr {u t:Nat} (h:look Γ u=some (.ptr t 0)):EU Γ (.tmp u) t
def EU.ok{x:Bu}(h:EU Γ x t){a:Act}(hs:Sat w0 H0 N Γ a w H):a.eval x=AT a t:=by
 cases h with
 |own=>rfl
 |same h=>exact hs.holds _<|Au h
 |ptr h=>
  obtain⟨b,e1,e2⟩:=hs.holds _<|Au h
  simp only at e1 e2;rw[e1];exact e2
def wE{a:Act}{w':AK}{H':HV}(hs:Sat w0 H0 N Γ a w H)(ht:(t,s)∈Γ)(hi:s.Eg=false)(hi':s'.Eg=false)(Dy:∀q∈B4 t Γ,q.2.Eg=true->∀b,s.owns w (AT a t) b->w0.lo<=b)
 (hy:QV (λb=>s.owns w (AT a t) b) w H w' H')(CG:s'.holds w0 a w' H' (AT a t))(ho:∀b,s'.owns w' (AT a t) b->s.owns w (AT a t) b\/w.heap.size<=b):Sat w0 H0 N ((t,s')::B4 t Γ) a w' H':=by
 have EX:=hs.holds _ ht;have Du:∀b,s.owns w (AT a t) b->w0.Du b:=λb hb=>AJ.Oq hi EX hb
 have other:∀q∈B4 t Γ,∀b,q.2.owns w (AT a q.1) b-> ¬s.owns w (AT a t) b:=λq hq b hb B2=>hs.sep _ ht q (Cq q hq).1 (λe=>(Cq q hq).2 e.symm) b B2 hb
 have key:∀q∈B4 t Γ,q.2.holds w0 a w' H' (AT a q.1)/\∀b,q.2.owns w' (AT a q.1) b↔q.2.owns w (AT a q.1) b:=λq hq=>by
  refine AJ.Us (n:=w0.lo) (hs.holds q (Cq q hq).1) (λ_=>rfl) ?_;have kp:∀b,b<w.heap.size->(b<w0.lo\/q.2.owns w (AT a q.1) b)->w'.heap[b]? =w.heap[b]? /\H' b=H b:=λb hb h=>hy.Dh b hb (λh2=>by
   rcases h with h|h
   ·have:=AX.Q2 (Du b h2);omega
   ·exact other q hq b h h2)
  exact⟨hy.size,hy.os,hy.tape,hy.output,hy.drawn,hy.le,λb hb h=>(kp b hb h).1,λb hb h=>(kp b hb h).2,hy.sub⟩
 refine⟨?_,hs.sz,?_,?_,hy.sub,?_,?_,hs.gl.mono hy.le⟩
 ·refine hs.nd.kept λD _ h1 h2=>?_
  have hn: ¬s.owns w (AT a t) D:=λhm=>by
   obtain⟨_,_,o,ho,JF⟩:=AJ.IP EX hm;rw[h1] at ho;cases ho;exact JF
  have:=hy.Dh D (lt_of_heap h1) hn;exact⟨by rw[this.1];exact h1,by rw[this.2];exact h2⟩
 ·refine⟨hy.os.trans hs.below.os,hy.tape.trans hs.below.tape,hy.output.trans hs.below.output,CX hs.below.drawn hy.drawn,CX hs.below.size hy.size,λhv k hk hx=>?_⟩;rw[(hy.Dh k (K0 hk hs.below.size) (λh=>by
   rcases Du k h with h|h
   ·omega
   ·exact hx h)).1]
  exact hs.below.block hv k hk hx
 ·intro hv r hr hx;rw[(hy.Dh r (K0 hr hs.below.size) (λh=>by
   rcases Du r h with h|h
   ·omega
   ·exact hx h)).2]
  exact hs.Ed hv r hr hx
 ·intro q hq;rcases Ag.1 hq with e|hq
  ·subst e;exact CG
  ·exact(key q hq).1
 ·have low:∀q∈B4 t Γ,∀b,q.2.owns w' (AT a q.1) b-> ¬s'.owns w' (AT a t) b:=λq hq b hb hm=>by
   have hb:=((key q hq).2 b).1 hb;rcases ho b hm with h|h
   ·exact other q hq b hb h
   ·have:=(AJ.IP (hs.holds q (Cq q hq).1) hb).1;omega
  intro q hq r hr hne b hb B2;rcases Ag.1 hq with e|hq<;>rcases Ag.1 hr with e'|hr
  ·subst e;subst e';exact hne rfl
  ·subst e;exact low r hr b B2 hb
  ·subst e';exact low q hq b hb B2
  ·exact hs.sep q (Cq q hq).1 r (Cq r hr).1 hne b (((key q hq).2 b).1 hb)<|((key r hr).2 b).1 B2
def afi{o:Oper}{f:FuncId}{xs ys:A3 Bu}{pre post BP:A3 Ty}{dd:Nat}{AY:Ctx}(B0:∀q∈AY,q∈Γ)(hf:IN P f pre s s' post BP)(hod:(o.dst,o.guard)=(some dd,none))(hoe:∀{w0:AX P} {H0:HV} {N:Nat} {a:Act} {w:AK} {H:HV},Sat w0 H0 N AY a w H->execOp a.eval o=callFunc f (xs.map a.eval++AT a t::ys.map a.eval).toArray)(ht:look AY t=some s)(hi:(s.Eg||s'.Eg)=false)(hl:s.Bn=[])(hl':s'.Bn=[])
 (ha:AL AY xs pre)(hb:AL AY ys post)(Cp:dd<N)(hne:dd≠t):
  Step P N ops o Γ ((dd,IA BP)::(t,s')::del dd (B4 t Γ)):=by
 intro w0 H0 a w H hs K Q k;have hg:o.guard=none:=congrArg Prod.snd hod;have hd:o.dst=some dd:=congrArg Prod.fst hod;simp only[Region.wanted,hg,if_true];simp only[LL] at hi;have hsi:=hs.weaken B0;have EX:=hs.holds _<|B0 _<|Au ht
 simp only at EX;unfold Oper.wp;rw[hoe hsi,Ob hf.can,VT,hd];have arR:s.holds (AX.OQ P w λb=>s.owns w (AT a t) b) Qj w H (AT a t):=
  AJ.Oo (a:=a) (λt h=>by rw[hl] at h;cases h) (AJ.R6 hi.1 EX λb hb=> .inr hb)
 refine(hf.run w H _ _ _ hs.sub hs.gl (ha.ok hsi) (hb.ok hsi) arR).mono ?_;rintro e w' ⟨r,rfl,H',hy,CG,ho,hr⟩;have arS:s'.holds w0 a w' H' (AT a t):=AJ.Oo (a:=Qj) (λt h=>by rw[hl'] at h;cases h) (AJ.R6 hi.2 CG λb hb=>by
  rcases ho b hb with h|h
  ·exact AJ.Oq hi.1 EX h
  ·exact .inl<|CX hs.below.size h)
 have h1:=wE hs (B0 _<|Au ht) hi.1 hi.2 (λq hq _ b hb=>AX.Q2<|AJ.Oq hi.1 EX hb) hy arS ho;have h2:=Ps (h1.weaken (Ae:=del dd ((t,s')::B4 t Γ)) M3) Cp Ox (s:=IA BP) (v:=r) (by
  match BP with
  |[]=>simp[IA,AJ.Bn]
  |[_]=>simp[IA,AJ.Bn]
  |_::_::_=>simp[IA,AJ.Bn]) (Uo hr)<|λb e=>absurd e<|AJ.free_spec Uv
 refine k _ w' H'<|h2.weaken λq hq=>?_
 simp only[Ag] at hq⊢;rcases hq with h|h|h
 ·exact .inl h
 ·subst h;exact .inr (RU (by simp) (λe=>hne e.symm) (by simp only;rw[hl'];simp))
 ·have:=pJ h;exact .inr<|RU (Bi _<|M3 _ h) this.1 this.2
def vW{f:FuncId}{x:Bu}{xs ys:A3 Bu}{Ec:Aw Af}{pre post BP:A3 Ty}{dd:Nat}{AY:Ctx}(B0:∀q∈AY,q∈Γ)(hf:IN P f pre s s' post BP)(hx:EU AY x t)(ht:look AY t=some s)(hi:(s.Eg||s'.Eg)=false)(hl:s.Bn=[])(hl':s'.Bn=[])
 (ha:AL AY xs pre)(hb:AL AY ys post)(Cp:dd<N)(hne:dd≠t):
  Step P N ops ⟨some dd,.call ⟨.value<| .func f,(xs++x::ys).toArray,Ec⟩,ty,pos,af,none⟩ Γ ((dd,IA BP)::(t,s')::del dd (B4 t Γ)):=by
 refine afi B0 hf rfl (λ{_ _ _ a _ _} hsi=>?_) ht hi hl hl' ha hb Cp hne;have e:execOp a.eval ⟨some dd,.call ⟨.value<| .func f,(xs++x::ys).toArray,Ec⟩,ty,pos,af,none⟩=callFunc f (#[]++(xs++x::ys).toArray.map a.eval++ #[]):=rfl;rw[e]
 congr 1
 simp[hx.ok hsi]
end
section
variable[D:DR]
variable{P:Program}{w0:AX P}{H0:HV}{N:Nat}{Q:Exit->Act->World->Prop}{Γ Ae:Ctx}
variable{fn:Func}{BP:A3 Ty}{s s':AJ}
def ab7(P:Bs)(w:AK)(H:HV)(v:AO)(s s':AJ)(BP:A3 Ty)(e:Ending)(w':AK):Prop:=
 ∃r,e= .returned r/\∃H',QV (λb=>s.owns w v b) w H w' H'/\s'.holds (AX.OQ P w λb=>s.owns w v b) Qj w' H' v/\(∀b,s'.owns w' v b->s.owns w v b\/w.heap.size<=b)/\Kr H' BP r
def qB(P:Bs)(fn:Func)(w:AK)(H:HV)(v:AO)(s s':AJ)(BP:A3 Ty):Exit->Act->AK->Prop:=bodyPostM (FB none) 0 P fn<|ab7 P w H v s s' BP
def ahA{rs:A3 ResultVar}{w1:AK}{v:AO}{i:Nat}(hw0:w0=AX.OQ P w1 λb=>s.owns w1 v b)(Dy:∀b,s.owns w1 v b->H0 b=none)(hlt:∀r o,H0 r=some o->r<w1.heap.size)(hr:fn.results=rs.toArray)(h:AQ P Γ rs BP)(CG:look Γ i=some s')(hp:look Γ N=some (.Jh i v))(hi:s'.Eg=false)(hl:s'.Bn=[])
 {a:Act}{w:AK}{H:HV}(hs:Sat w0 H0 N Γ a w H):LeavesInM (FB none) 0 P fn a.tmps (ab7 P w1 H0 v s s' BP) a.defers .returning w:=by
 subst hw0;refine Uk rfl rfl (a:=a) (ds:=a.defers) hs λw H hs=>?_
 obtain⟨vs,h1,h2⟩:=h.run hs;have hlen:=RQ h2;rw[Xi hr];simp only[Df,Sem.run_map,h1,DP,JN];have hv:AT a i=v:=hs.holds _<|Au hp
 have EX:=hs.holds _<|Au CG
 simp only at EX;have ea:AT {a with defers:=[]} i=v:=hv;rw[ea] at EX;refine⟨_,rfl,_,rfl,H,⟨hs.below.size,hs.below.os,hs.below.tape,hs.below.output,hs.below.drawn,?_,?_,hs.sub⟩,AJ.Oo (λt h=>by rw[hl] at h;cases h) EX,?_,?_⟩
 ·intro r o ho;rw[hs.Ed rfl r (hlt r o ho) (λhx=>by have:=Dy r hx;rw[this] at ho;cases ho)];exact ho
 ·exact λb hb hx=>⟨hs.below.block rfl b hb hx,hs.Ed rfl b hb hx⟩
 ·intro b hb;rcases AJ.Oq hi EX hb with h|h
  ·exact .inr h
  ·exact .inl h
 ·match BP,h2,hlen with
  |[],h2,hl=>
   have:vs=[]:=h2;subst this;exact⟨#[],rfl,rfl⟩
  |[τ],h2,hl=>
   obtain⟨v,rest,e,hv,hr⟩:=h2;have:rest=[]:=hr;subst this;subst e;exact hv
  |τ::GH::l,h2,hl=>
   have: ¬vs.toArray.size=1:=by simp[hl]
   rw[dif_neg this];exact⟨vs.toArray,rfl,by simpa using h2⟩
structure gq(P:Bs)(w0:AX P)(H0:HV)(w1:AK)(v:AO)(s:AJ):Prop where
 eq:w0=AX.OQ P w1 λb=>s.owns w1 v b
 no:∀b,s.owns w1 v b->H0 b=none
 lt:∀r o,H0 r=some o->r<w1.heap.size
def zd{rs:A3 ResultVar}{w1:AK}{v:AO}{i:Nat}(hk:gq P w0 H0 w1 v s)(hr:fn.results=rs.toArray)(h:AQ P Γ rs BP)(CG:look Γ i=some s')(hp:look Γ N=some (.Jh i v))(hi:s'.Eg=false)(hl:s'.Bn=[]):
  E1 w0 H0 N (λa w=>qB P fn w1 H0 v s s' BP .ret a w) Γ:=λ_ _ _ hs=>ahA hk.eq hk.no hk.lt hr h CG hp hi hl hs
def lQ:∀{l:A3 Ty} {i:Nat},∀p∈Gy i l,i<=p.1/\p.1<i+l.length/\p.2.free=true/\p.2.Eg=false
 |[],_,p,hp=>by simp[Gy] at hp
 |τ::l,i,p,hp=>by
  simp only[Gy,Ag] at hp;rcases hp with e|hp
  ·subst e;exact⟨Az _,by simp,rfl,rfl⟩
  ·have:=lQ p hp;refine⟨by omega,by simp;omega,this.2.2.1,this.2.2.2⟩
def lJ{f:FuncId}{c:Code}{pre post:A3 Ty}{N:Nat}(hf:P.funcs[f]? =some fn)(hb:fn.body=some c)(hN:fn.ntmps=N)(hn:pre.length+1+post.length<=N)(hc:GA P f=true)(hl:s.Bn=[])(hi:s.Eg=false)
 (h:∀(w1:AK) (v:AO) (w0:AX P) (H0:HV),gq P w0 H0 w1 v s->Goal P w0 H0 N c (qB P fn w1 H0 v s s' BP) ((N,.Jh pre.length v)::(pre.length,s)::(Gy 0 pre++Gy (pre.length+1) post))):IN P f pre s s' post BP:=by
 subst hN;refine⟨hc,λw H v ps qs sub gl hps hqs hs=>?_⟩;have Al:EW H (pre++post) (ps++qs):=Xj hps hqs;have JE:=RQ hps;have hql:=RQ hqs;have aok:gq P (AX.OQ P w λb=>s.owns w v b) H w v s:=⟨rfl,λb hb=>(AJ.IP hs hb).2.1,λr o ho=>Gk sub ho⟩;refine(callsIn_wide (n:=0)).1<|callsIn_of_wp_marks (F:=Fence.wide) hf hb trivial<|h w v _ H aok _ w H ?_
 obtain⟨a,ha⟩:∃a:Act,a={tmps:=(ps++v::qs).toArray++Array.replicate (fn.ntmps-(ps++v::qs).toArray.size) undef,defers:=[]}:=⟨_,rfl⟩;rw[<-ha];have qX:∀j x,(ps++v::qs)[j]? =some x->AT a j=x:=λj x hj=>by
  have Ip:=(EC.1 hj).1;have e:((ps++v::qs).toArray++Array.replicate (fn.ntmps-(ps++v::qs).toArray.size) undef)[j]? =some x:=by
   rw[Array.getElem?_append_left (by simpa using Ip)];simpa using hj
  rw[ha];simp only[AT,Tb,e,Yj]
 have hvv:AT a pre.length=v:=qX _ _ (by rw[<-JE];simp);have e1:∀p∈Gy 0 pre,p.2.holds (AX.OQ P w λb=>s.owns w v b) a w H (AT a p.1):=bz 0 hps λj x hj=>qX _ _ (by
  rw[Nt,IQ (EC.1 hj).1];exact hj)
 have e2:∀p∈Gy (pre.length+1) post,p.2.holds (AX.OQ P w λb=>s.owns w v b) a w H (AT a p.1):=bz (pre.length+1) hqs λj x hj=>qX _ _ (by
  rw[LM (by omega),<-JE,show ps.length+1+j-ps.length=j+1 by omega];simpa using hj)
 have JT:∀p∈(fn.ntmps,AJ.Jh pre.length v)::(pre.length,s)::(Gy 0 pre++Gy (pre.length+1) post),p.1≠pre.length->∀b,¬p.2.owns w (AT a p.1) b:=by
  intro p hp hne b hb;simp only[Ag,BR] at hp;rcases hp with e|e|hp|hp
  ·subst e;exact hb
  ·subst e;exact hne rfl
  ·exact AJ.free_spec (lQ p hp).2.2.1 hb
  ·exact AJ.free_spec (lQ p hp).2.2.1 hb
 refine⟨by rw[ha];trivial,by rw[ha];simp;omega,⟨rfl,rfl,rfl,Az _,Az _,λ_ _ _ _=>rfl⟩,λ_ _ _ _=>rfl,sub,?_,?_,gl⟩
 ·intro p hp;simp only[Ag,BR] at hp;rcases hp with e|e|hp|hp
  ·subst e;exact hvv
  ·subst e;simp only;rw[hvv];exact AJ.Oo (λt h=>by rw[hl] at h;cases h) hs
  ·exact e1 p hp
  ·exact e2 p hp
 ·intro p hp q hq hne b hb B2;by_cases h1:p.1=pre.length
  ·exact JT q hq (λe=>hne<|h1.trans e.symm) b B2
  ·exact JT p hp h1 b hb
end
@[reducible] def qq(_:Unit):Ty:=TEq .nilIface rfl
def Ft:Int:=18446744073709551616
def GY(x:Int):Bool:=decide (0<=x)&&decide (x<18446744073709551616)
def LA(x y c:Int):A6 (Int×Int):=bif (GY x&&GY y)&&(decide (c=0)||decide (c=1)) then some ((x+y+c)%Ft,(x+y+c)/Ft) else none
def RX(x y b:Int):A6 (Int×Int):=bif (GY x&&GY y)&&(decide (b=0)||decide (b=1)) then some ((x-y-b)%Ft,bif decide (x<y+b) then 1 else 0) else none
def Cl(z:Int):Bool:=Nat.blt (Nat.log2 z.natAbs) 1099511627776
def Dz{α:Type}(b:Bool)(x:α):A6 α:=bif b then some x else none
def SV(x y:Int):Int:=bif decide (x<y) then -1 else bif decide (y<x) then 1 else 0
def pq(z:Int):A6 Int:=some z.sign
def ab4(z:Int):A6 Int:=some<| -z
def qp(z:Int):A6 Int:=some (z.natAbs:Int)
def Zr(x y:Int):A6 Int:=Dz (Cl x&&Cl y)<|SV x y
def SY(x y:Int):A6 Int:=Dz (Cl x&&Cl y)<|x+y
def JY(x y:Int):A6 Int:=Dz (Cl x&&Cl y)<|x*y
def ab3(x y:Int):A6 Int:=Dz (Cl x&&Cl y&& !decide (y=0))<|x.fdiv y
def PX(x y:Int):A6 Int:=Dz (Cl x&&Cl y) (Int.gcd x y:Int)
def aOf(x:Int):A6 Int:=AE x
def QN(z:Int):A6 (Int×Bool):=Dz (!decide (z= -9223372036854775808))<|bif Hm z then(z,true) else(z.sign,false)
def aaM(z:Int):A6 Int:=Dz (Cl z)<|bif decide (z=0) then 0 else(Nat.log2 z.natAbs:Int)+1
def Zl:Nat->Nat->A3 UInt8->A3 UInt8
 |0,_,acc=>acc
 |f+1,n,acc=>bif Nat.blt n 10 then UInt8.ofNat (48+n)::acc else Zl f (n/10) (UInt8.ofNat (48+n%10)::acc)
def B5(n:Nat):A3 UInt8:=Zl (n+1) n []
def CU(z:Int):A3 UInt8:=bif decide (z<0) then 45::B5 z.natAbs else B5 z.natAbs
def ZF(z:Int):A6 (A3 UInt8):=bif Hm z then some (CU z) else none
def gZ(z b:Int):A6 (A3 UInt8):=Dz (GY z&&decide (b=10))<|B5 z.toNat
def ij(l:A3 UInt8):Nat->A3 UInt8
 |0=>[]
 |c+1=>l++ij l c
def gY(s:A3 UInt8)(c:Int):A6 (A3 UInt8):=Dz (decide (0<=c)&&decide (c<=64)&&decide (s=[48]))<|ij s c.toNat
def Z0(z:Int):A6 (A3 UInt8):=Dz (Cl z)<|CU z
def Ej(q:Rat):Bool:=Nat.blt (Nat.log2 q.num.natAbs) 68719476736&&Nat.blt (Nat.log2 q.den) 68719476736
def OK(x y:Int):A6 Rat:=Dz (Cl x&&Cl y&& !decide (y=0))<|(x:Rat)/(y:Rat)
def Lw(q:Rat):A6 Bool:=some<|decide<|q.den=1
def W6(x:Int):A6 Rat:=some (x:Rat)
def SK(q:Rat):A6 Rat:=some<| -q
def LV(x y:Rat):A6 Rat:=Dz (Ej x&&Ej y)<|x+y
def NX(x y:Rat):A6 Rat:=Dz (Ej x&&Ej y)<|x-y
def Fs(x y:Rat):A6 Rat:=Dz (Ej x&&Ej y)<|x*y
def SM(x y:Rat):A6 Rat:=Dz (Ej x&&Ej y&& !decide (y=0))<|x/y
def Zd(x:Rat):A6 Rat:=Dz (Ej x&& !decide (x=0)) x⁻¹
def OP(x y:Rat):A6 Int:=Dz (Ej x&&Ej y)<|bif decide (x<y) then -1 else bif decide (y<x) then 1 else 0
def S6(x y:Rat):A6 Bool:=Dz (Ej x&&Ej y)<|decide<|x=y
def IW(x:Rat):A6 Int:=some x.num.sign
def qF(x:Int):A6 Rat:=(AE x).map λz=>(z:Rat)
def mkq(a b:Int):A6 Rat:=match b with
 | .ofNat (d+1)=>Dz (Nat.beq (Nat.gcd a.natAbs<|d+1) 1)<|mkRat a<|d+1
 |_=>none
def wg{a b:Int}{r:Rat}(h:mkq a b=some r):r.num=a/\(r.den:Int)=b:=by
 unfold mkq at h;split at h
 ·rename_i d;unfold Dz at h;cases hc:Nat.beq (Nat.gcd a.natAbs<|d+1) 1
  ·rw[hc] at h;cases h
  ·rw[hc] at h;have h:=(Dg h).symm;subst h;have hg:Nat.gcd a.natAbs (d+1)=1:=Dj hc;rw[Rat.num_mkRat,Rat.den_mkRat];rw[Rb] at hg;simp[hg]
 ·cases h
def pB[D:DR]{a b:Int}{r:Rat}(h:mkq a b=some r):(AJ.val<|Co [Dv a,Dv b])= .val (Bb r):=by
 obtain⟨h1,h2⟩:=wg h;rw[<-h1,<-h2]
def DW(b:UInt8):Bool:=Nat.ble 48 b.toNat&&Nat.ble b.toNat 57
def BA(l:A3 UInt8):Nat:=l.foldl (λn b=>10*n+(b.toNat-48)) 0
def ZG(s:A3 UInt8):A6 (Int×Unit):=Dz (!s.isEmpty&&Nat.ble s.length 18&&s.all DW) ((BA s:Int),())
def cutAt(sep:UInt8):A3 UInt8->A3 UInt8->A3 UInt8×A3 UInt8×Bool
 |pre,[]=>(pre.reverse,[],false)
 |pre,b::l=>bif b==sep then(pre.reverse,l,true) else cutAt sep (b::pre) l
def iB(s sep:A3 UInt8):A6 (A3 UInt8×A3 UInt8×Bool):=match sep with
 |[c]=>Dz (Nat.blt s.length 4294967281)<|cutAt c [] s
 |_=>none
def J5(s:A3 UInt8):A6 Int:=match s with
 |45::ds=>Dz (ds.all DW&&Nat.blt ds.length 1000000)<| -(BA ds:Int)
 |ds=>Dz (ds.all DW&&Nat.blt ds.length 1000000) (BA ds:Int)
abbrev V3:=Rat×Rat×Rat
abbrev Bl:=(Int×Int×Int)×A3 UInt8
def RP{α:Type}:A3 α->A3 (α×α)
 |[]=>[]
 |a::l=>(a::l).zip<|l++[a]
def NZ{α:Type}(c:α->α->A6 Int)(x:α):A3 α->A6 (A3 α)
 |[]=>some [x]
 |y::l=>bd (c x y) λk=>cond (decide<|k<0) (bd (NZ c x l) λr=>some (y::r))<|some (x::y::l)
def gj{α:Type}(c:α->α->A6 Int)(l:A3 α):A6 (A3 α):=
 Il l (λnext x s=>bd (NZ c x s) next) [] λs=>some s.reverse
def WJ{α:Type}(e:α->α->A6 Bool):α->A3 α->A6 (A3 α)
 |_,[]=>some []
 |x,y::l=>bd (e y x) λb=>bd (WJ e y l) λr=>some<|cond b r (y::r)
def ajZ{α:Type}(e:α->α->A6 Bool):A3 α->A6 (A3 α)
 |[]=>some []
 |x::l=>bd (WJ e x l) λr=>some (x::r)
def Wd{α:Type}[DecidableEq α](c:α×α->A6 Int)(x:α):A3 α->Bool
 |[]=>true
 |y::l=>(bif decide (x=y) then true else match c (x,y),c (y,x) with
  |some i,some j=>decide (i<0)&&decide (0<=j)
  |_,_=>false)&&Wd c x l
def OJ{α:Type}[DecidableEq α](c:α×α->A6 Int):A3 α->Bool
 |[]=>true
 |x::l=>(match c (x,x) with
  |some i=>decide<|0<=i
  |none=>false)&&(Wd c x l&&OJ c l)
def totB{α:Type}(c:α×α->A6 Int)(l:A3 α):Bool:=l.all λx=>l.all λy=>(c (x,y)).isSome
def I2{α:Type}[DecidableEq α](l:A3 α)(c:α×α->A6 Int):A6 (A3 α):=
 bd (gj (λa b=>c (a,b)) l) λs=>Dz (Nat.blt l.length 4611686018427387904&&(totB c l&&OJ c s)) s
def Xt{α:Type}(l:A3 α)(e:α×α->A6 Bool):A6 (A3 α):=ajZ (λa b=>e (a,b)) l
def Uz(l:A3 V3):A6 (A3<|V3×V3):=Dz (Nat.blt l.length 1000000000)<|RP l
section
variable[D:DR]
variable{P:Program}{w0:AX P}{H0:HV}{N:Nat}{ops:Array Oper}{Q:Exit->Act->World->Prop}{Γ Ae:Ctx}{d:Option Tmp}{ty:TypeId}{pos:String}{af:Array Edge}{g:Option (Nat×Bool)}
variable{T:Af}{ps:A3 Bk}{τ:Ty}{t:Nat}
@[reducible] def TMp{α β:Type}(fK:α->Ty)(F:β->Ty)(l:A3 (α×β)):Ty:=jA<|l.map λp=>(fK p.1,F p.2)
def mB{l:A3 Ty}(gg:Bool)(h:DS P T τ)(hτ:∀H v,τ.ok H v->D4 H l v.cells.toList)(ho:GG l ps):Aq P Γ ⟨d,.alloc T,ty,pos,af,g⟩ (.Ca T gg ps):=
 Lr λw0 _ _ a w H hs=>by
  obtain⟨z,hr,hz⟩:=h.run w;have he:=Ext.alloc hs.sub<| .cells z.cells T (0,0)
  obtain⟨h1,h2,h3⟩:=ho.ok (B:=w0) (a:=a) (w:=w.alloc<| .cells z.cells T (0,0))<|hτ H z<|hz H
  refine⟨.pointer<|some ⟨w.heap.size,0,none⟩,w.alloc<| .cells z.cells T,H,?_,he,?_,?_⟩
  ·simp[execOp,Instr.alloc,hr,newVar,newRow]
  ·refine⟨w.heap.size,z.cells,rfl,LF w _,?_,.inl hs.below.size,h1,h3,h2 _⟩;cases hh:H w.heap.size with
   |none=>rfl
   |some o=>have:=Gk hs.sub hh;omega
  ·rintro b ⟨c,e,hb⟩;cases e;rcases hb with hb|⟨cs,hc,hb⟩
   ·omega
   ·rw[LF] at hc;cases hc;exact absurd hb<|h2 b
def akZ{x:Bu}{l:A3 Ty}(gg:Bool)(hx:Arg Γ x τ)(hτ:∀H v,τ.ok H v->D4 H l v.cells.toList)(ho:GG l ps):Aq P Γ ⟨d,.box T x,ty,pos,af,g⟩ (.Ca T gg ps):=
 Lr λw0 _ _ a w H hs=>by
  have he:=Ext.alloc hs.sub<| .cells (a.eval x).cells T (0,0)
  obtain⟨h1,h2,h3⟩:=ho.ok (B:=w0) (a:=a) (w:=w.alloc<| .cells (a.eval x).cells T (0,0))<|hτ H _<|hx.ok hs
  refine⟨.pointer<|some ⟨w.heap.size,0,none⟩,w.alloc<| .cells (a.eval x).cells T,H,?_,he,?_,?_⟩
  ·simp[execOp,Instr.box,newVar,newRow]
  ·refine⟨w.heap.size,(a.eval x).cells,rfl,LF w _,?_,.inl hs.below.size,h1,h3,h2 _⟩;cases hh:H w.heap.size with
   |none=>rfl
   |some o=>have:=Gk hs.sub hh;omega
  ·rintro b ⟨c,e,hb⟩;cases e;rcases hb with hb|⟨cs,hc,hb⟩
   ·omega
   ·rw[LF] at hc;cases hc;exact absurd hb<|h2 b
def aoR{u:Nat}(hu:look Γ u=some (.same t))(ht:look Γ t=some (.val τ)):Ia w0 N Γ ((u,.val τ)::B4 u Γ):=λH0 a w H hs=>by
 have e:=hs.holds _<|Au hu
 have hv:=hs.holds _<|Au ht
 exact⟨H,lD (us:=[]) hs (λq hq=>Cq q hq) (by rw[show AT a u=AT a t from e];exact hv) (λb h=>h.elim) (λ_ _ h=>by cases h)⟩
def Z6{p off i dd:Nat}{T':Af}{gg:Bool}{pp:Bk}(sm:Bool)(hp:Ex Γ p t off)(ht:look Γ t=some (.Ca T' gg ps))(hi:ps[i]? =some pp)(ho:BQ ps i=off)(h1:(pp.n,pp.agg)=(1,false))(hT:BX P T 1 false=true)(Cp:dd<N)(hd:(dd !=t&& !(QQ ps).contains dd)=true):
  Step P N ops ⟨some dd,.load T<| .tmp p,ty,pos,af,none⟩ Γ ((dd,pp.sty)::(t,.Ca T' gg<|ps.set i<|S8 dd sm)::del dd (B4 t Γ)):=by
 simp only[BU,LB,ne_eq,F6,oK,HB] at hd;exact yH (λ_ h=>h) sm hp ht hi ho (congrArg Prod.fst h1) (congrArg Prod.snd h1) hT Cp hd.1 hd.2
def yw{p off i dd:Nat}{T':Af}{gg:Bool}{pp:Bk}(sm:Bool)(hp:Ex Γ p t off)(ht:look Γ t=some (.Ca T' gg ps))(hi:ps[i]? =some pp)(ho:BQ ps i=off)(h1:(pp.n,pp.agg)=(1,false))(hT:BX P T 1 false=true)(Cp:dd<N)(hd:(dd !=t&& !(QQ ps).contains dd)=true):
  j9 P N ops Γ ⟨some dd,.load T<| .tmp p,ty,pos,af,none⟩ t (.Ca T' gg<|ps.set i<|S8 dd sm) dd pp.sty:=λDx B0=>by
 simp only[BU,LB,ne_eq,F6,oK,HB] at hd;exact yH B0 sm hp ht hi ho (congrArg Prod.fst h1) (congrArg Prod.snd h1) hT Cp hd.1 hd.2
end
section
variable[D:DR]
variable{P:Program}{w0:AX P}{H0:HV}{N:Nat}{ops:Array Oper}{Q:Exit->Act->World->Prop}{Γ Ae:Ctx}{d:Option Tmp}{ty:TypeId}{pos:String}{af:Array Edge}{g:Option (Nat×Bool)}
variable{α β:Type}[DecidableEq α]{K E Eb T:TypeId}{sz:Nat}{fK:α->Ty}
def ak3{F:β->Ty}{m k v:Bu}{t:Nat}{l:A3 (α×β)}{x:α}{y:β}(hT:Tv P T K E=true)(hk:Rt P K fK)(hm:QX Γ m t)(ht:look Γ t=some (.GJ K E Eb sz<|mM fK (λv=> .val<|F v) l))(hx:Arg Γ k (fK x))(hy:Arg Γ v (F y)):
  PY P N ops Γ ⟨none,.mapUpdate T m k v,ty,pos,af,none⟩ t (.GJ K E Eb sz<|mM fK (λv=> .val<|F v)<|WV l x y):=λ_ B0=>aeA B0 hT hk hm ht hx hy
def amM{K E Eb T:Af}{sz:Nat}{α β:Type}(fK:α->Ty)(fV:β->Ck):Aq P Γ ⟨d,.makeMap T none,ty,pos,af,g⟩ (.GJ K E Eb sz<|mM fK fV ([]:A3 (α×β))):=afc
def aiR{t:Nat}{F:β->Ty}{l:A3 (α×β)}(ht:look Γ t=some (.GJ K E Eb sz<|mM fK (λv=> .val<|F v) l)):Ia w0 N Γ ((t,.val<|TMp fK F l)::B4 t Γ):=
 akP ht (λp hp=>by obtain⟨q,_,rfl⟩:=BI.1 hp;rfl) (by simp[mM,il,Ck.pub])
end
section
variable[D:DR]
variable{P:Program}{w0:AX P}{H0:HV}{N:Nat}{ops:Array Oper}{Q:Exit->Act->World->Prop}{Γ Ae:Ctx}{d:Option Tmp}{ty:TypeId}{pos:String}{af:Array Edge}{g:Option (Nat×Bool)}
variable{t:Nat}
def RF{f:FuncId}{x:Bu}{xs ys:A3 Bu}{Ec:Aw Af}{pre post BP:A3 Ty}{s s':AJ}{dd:Nat}(hf:IN P f pre s s' post BP)(hx:EU Γ x t)(ht:look Γ t=some s)(hi:(s.Eg||s'.Eg)=false)(hl:(s.Bn,s'.Bn)=([],[]))
 (ha:AL Γ xs pre)(hb:AL Γ ys post)(Cp:dd<N)(hne:(dd !=t)=true):
  Step P N ops ⟨some dd,.call ⟨.value<| .func f,(xs++x::ys).toArray,Ec⟩,ty,pos,af,none⟩ Γ ((dd,IA BP)::(t,s')::del dd (B4 t Γ)):=vW (λ_ h=>h) hf hx ht hi (congrArg Prod.fst hl) (congrArg Prod.snd hl) ha hb Cp (by simpa using hne)
def ahz{f:FuncId}{x:Bu}{xs ys:A3 Bu}{Ec:Aw Af}{pre post BP:A3 Ty}{s s':AJ}{dd:Nat}(hf:IN P f pre s s' post BP)(hx:EU Γ x t)(ht:look Γ t=some s)(hi:(s.Eg||s'.Eg)=false)(hl:(s.Bn,s'.Bn)=([],[]))
 (ha:AL Γ xs pre)(hb:AL Γ ys post)(Cp:dd<N)(hne:(dd !=t)=true):
  j9 P N ops Γ ⟨some dd,.call ⟨.value<| .func f,(xs++x::ys).toArray,Ec⟩,ty,pos,af,none⟩ t s' dd (IA BP):=λ_ B0=>vW B0 hf hx ht hi (congrArg Prod.fst hl) (congrArg Prod.snd hl) ha hb Cp (by simpa using hne)
def VB{w0:AX P}{u i:Nat}{T':Af}{gg:Bool}{ps:A3 Bk}{E:Af}{sz:Nat}{l:A3 Ty}(ht:look Γ t=some (.Ca T' gg ps))(hi:ps[i]? =some (.sm u))(hu:look Γ u=some (.buf E sz l))(hne:(u !=t)=true):
  Ia w0 N Γ ((t,.Ca T' gg<|ps.set i<| .buf E sz l)::B4 t (B4 u Γ)):=alT (.buf E sz l) ht hi hu hne rfl (λe=>by cases e)
end
section
variable[D:DR]
variable{P:Program}{w0:AX P}{H0:HV}{N:Nat}{Q:Exit->Act->World->Prop}{Γ Ae:Ctx}{d:Option Tmp}{ty:TypeId}{pos:String}{af:Array Edge}{g:Option (Nat×Bool)}
def at0{α β:Type}{f:α->β}{l:A3 α}{j:Nat}(h:j<(l.map f).length):∃x,l[j]? =some x:=⟨l[j]'(by simpa using h),by simp at h;simp[h]⟩
def amp{t i k:Nat}{c:Code}{T:Af}{gg:Bool}{ps:A3 Bk}{E:Af}{sz:Nat}{l:A3 Ty}(ht:look Γ t=some (.Ca T gg ps))(hi:ps[i]? =some (.buf E sz l))(hk:Nat.ble N k=true)(h:∀x (hx:x.oneCell'=true),Goal P w0 H0 N c Q ((k,.NV x E sz l)::(t,.Ca T gg<|ps.set i<| .val<|TEq x hx)::B4 k (B4 t Γ))):Goal P w0 H0 N c Q Γ:=λa w H hs=>by
 obtain⟨b,cs,e,hb,Lh,hm,Al,Hs,hx⟩:=hs.holds _<|Au ht
 simp only at e;obtain⟨_,h3,h4,_⟩:=QJ Al hi;have iG:=eS Al hi;have hown:∀c,(pv (.buf E sz l) (BQ ps i) cs.toList).ownBlock=some c->Fh w c ps cs.toList:=λc hc=>Om.2 ⟨i,_,hi,hc⟩
 generalize hv:pv (.buf E sz l) (BQ ps i) cs.toList=v at*
 have h1:v.oneCell'=true:=(kb h3).1;obtain⟨Dd,hcs,k1,k2,k3⟩:=V6 (q:= .val<|TEq v h1) (x:=v) Al Hs hi h3 rfl rfl<|λc hc=>hc.elim
 rw[show Dd=cs.toList by rw[hcs];exact iG,hv] at*;have nw:∀c,Fh w c (ps.set i<| .val<|TEq v h1) cs.toList->Fh w c ps cs.toList/\ ¬v.ownBlock=some c:=λc hc=>by
  rcases k3 c hc with h|h
  ·exact h.elim
  ·exact h
 have hb1:∀c,(AJ.Ca T gg<|ps.set i<| .val<|TEq v h1).owns w (AT a t) c->(AJ.Ca T gg ps).owns w (AT a t) c/\ ¬v.ownBlock=some c:=by
  rintro c ⟨c',e',hc⟩;rw[e] at e';cases e';rcases hc with hc|⟨cs3,hb3,hc⟩
  ·subst hc;exact⟨⟨c,e,.inl rfl⟩,λh=>hx<|hown c h⟩
  ·rw[hb] at hb3;cases hb3;exact⟨⟨b,e,.inr ⟨cs,hb,(nw c hc).1⟩⟩,(nw c hc).2⟩
 have hb2:∀c,v.ownBlock=some c->(AJ.Ca T gg ps).owns w (AT a t) c:=λc hc=>⟨b,e,.inr ⟨cs,hb,hown c hc⟩⟩
 have sub:∀q∈B4 k (B4 t Γ),q∈Γ/\q.1≠t/\q.1≠k:=λq hq=>⟨(Cq q (Cq q hq).1).1,(Cq q (Cq q hq).1).2,(Cq q hq).2⟩
 refine h v h1 a w H ⟨hs.nd,hs.sz,hs.below,hs.Ed,hs.sub,?_,?_,hs.gl⟩
 ·intro p hp;rcases Ag.1 hp with e1|hp
  ·subst e1;exact h4
  rcases Ag.1 hp with e1|hp
  ·subst e1;exact⟨b,cs,e,hb,Lh,hm,k1,k2,λhc=>hx (nw b hc).1⟩
  ·exact hs.holds p (sub p hp).1
 ·intro p hp q hq hne c hc Dl;rcases Ag.1 hp with e1|hp
  ·subst e1;rcases Ag.1 hq with e2|hq
   ·subst e2;exact hne rfl
   rcases Ag.1 hq with e2|hq
   ·subst e2;exact(hb1 c Dl).2 hc
   ·exact hs.sep _ (Au ht) q (sub q hq).1 (λe=>(sub q hq).2.1 e.symm) c (hb2 c hc) Dl
  rcases Ag.1 hp with e1|hp
  ·subst e1;rcases Ag.1 hq with e2|hq
   ·subst e2;exact(hb1 c hc).2 Dl
   rcases Ag.1 hq with e2|hq
   ·subst e2;exact hne rfl
   ·exact hs.sep _ (Au ht) q (sub q hq).1 (λe=>(sub q hq).2.1 e.symm) c (hb1 c hc).1 Dl
  ·rcases Ag.1 hq with e2|hq
   ·subst e2;exact hs.sep p (sub p hp).1 _ (Au ht) (sub p hp).2.1 c hc<|hb2 c Dl
   rcases Ag.1 hq with e2|hq
   ·subst e2;exact hs.sep p (sub p hp).1 _ (Au ht) (sub p hp).2.1 c hc (hb1 c Dl).1
   ·exact hs.sep p (sub p hp).1 q (sub q hq).1 hne c hc Dl
def yg{fn:Func}{rs:A3 ResultVar}{BP:A3 Ty}{w1:AK}{v:AO}{s:AJ}(hk:gq P w0 H0 w1 v s)(hr:fn.results=rs.toArray)(h:AQ P Γ rs BP):
  E1 w0 H0 N (λa w=>qB P fn w1 H0 v s .gone BP .ret a w) Γ:=λa w H hs=>by
 obtain⟨e1,e2,e3⟩:=hk;subst e1;refine Uk rfl rfl (a:=a) (ds:=a.defers) hs λw H hs=>?_
 obtain⟨vs,h1,h2⟩:=h.run hs;have hlen:=RQ h2;rw[Xi hr];simp only[Df,Sem.run_map,h1,DP,JN];refine⟨_,rfl,_,rfl,H,⟨hs.below.size,hs.below.os,hs.below.tape,hs.below.output,hs.below.drawn,?_,?_,hs.sub⟩,trivial,(λb hb=>hb.elim),?_⟩
 ·intro r o ho;rw[hs.Ed rfl r (e3 r o ho) (λhx=>by have:=e2 r hx;rw[this] at ho;cases ho)];exact ho
 ·exact λb hb hx=>⟨hs.below.block rfl b hb hx,hs.Ed rfl b hb hx⟩
 ·match BP,h2,hlen with
  |[],h2,hl=>
   have:vs=[]:=h2;subst this;exact⟨#[],rfl,rfl⟩
  |[τ],h2,hl=>
   obtain⟨v,rest,e,hv,hr⟩:=h2;have:rest=[]:=hr;subst this;subst e;exact hv
  |τ::GH::l,h2,hl=>
   have: ¬vs.toArray.size=1:=by simp[hl]
   rw[dif_neg this];exact⟨vs.toArray,rfl,by simpa using h2⟩
end
section
variable{p:Bs}
def acG{w w':AK}{at_:Addr}{u:Af}{k:Addr}{v:AO}{b:Bool}{l:A3 Addr}(h:w.viewStore p at_ u k v b= .ok (w',l)):w'.drawn=w.drawn:=by
 unfold World.viewStore at h;simp only[bind,Except.bind,pure,Except.pure,MonadExcept.throw,throwThe,MonadExceptOf.throw] at h
 repeat' (split at h)
 all_goals first|(cases h;done)|skip
 all_goals (cases h;rfl)
def acv{w w':AK}{a:Addr}{v:AO}{b:Bool}{l:A3 Addr}(h:w.farStore p a v b= .ok (w',l)):w'.drawn=w.drawn:=by
 unfold World.farStore at h;split at h
 ·split at h
  ·cases h;rename_i h2;exact acG h2
  ·cases h
 ·cases h
def mI{α:Type}:∀(q:Ask α) (w:AK),w.drawn<=(w.ask q).2.drawn
 | .done a,w=>by simp[World.ask]
 | .ask atM range k,w=>by
  unfold World.ask;simp only;split
  ·exact mI _ w
  ·exact CX (P1 w.drawn)<|mI _ {w with drawn:=w.drawn+1}
def agS(w:AK)(c:Sys):w.drawn<=(w.sys c).2.drawn:=by
 unfold World.sys;split
 ·exact Az _
 ·rename_i h;have:=mI (Kernel.perform c w.os) w;rw[h] at this;exact this
def agl{α:Type}:∀(s:Sem α) {w w':AK} {v:α},s.run p w= .ok v w'->w.drawn<=w'.drawn:=by
 intro s
 induction s with
 |pure a=>intro w w' v h;simp only[Sem.run] at h;cases h;exact Az _
 |load m a k ih=>
  intro w w' v h;simp only[Sem.run] at h;split at h
  ·exact ih _ h
  ·split at h
   ·exact ih _ h
   ·cases h
 |store m a u k ih=>
  intro w w' v h;have key:∀r:Result α,(match w.cell? a with
   |some _=>if w.frozen? a then Result.halt (.unsupported<| .unsafePointer "a write to bytes that a string shares") w else k.run p (w.setCell a u)
   |none=>match w.farStore p a u (m== .atomic) with
    | .ok (w,_)=>k.run p w
    | .error h=>Result.halt h w)=r->r= .ok v w'->w.drawn<=w'.drawn:=by
   intro r hr e;subst e;split at hr
   ·split at hr
    ·cases hr
    ·have:= @ih _ _ _ hr;exact this
   ·split at hr
    ·rename_i w2 l h2;have:=ih hr;rwa [acv h2] at this
    ·cases hr
  cases u<;>first|(unfold Sem.run at h;cases h;done)|(unfold Sem.run at h;exact key _ rfl h)
 |new o k ih=>intro w w' v h;simp only[Sem.run] at h;have:= @ih _ _ _ _ h;exact this
 |shape r k ih=>intro w w' v h;simp only[Sem.run] at h;exact ih _ h
 |freeze a n k ih=>
  intro w w' v h;simp only[Sem.run] at h;have:=ih h;have e:(w.freeze a n).drawn=w.drawn:=by unfold World.freeze;split<;>rfl
  rwa [e] at this
 |frozen a k ih=>intro w w' v h;simp only[Sem.run] at h;exact ih _ h
 |getObj r k ih=>
  intro w w' v h;simp only[Sem.run] at h;split at h<;>first|(cases h;done)|exact ih _ h
 |setObj r o k ih=>
  intro w w' v h;simp only[Sem.run] at h;split at h
  ·cases h
  ·have:= @ih _ _ _ h;exact this
  ·cases h
 |choose q k ih=>
  intro w w' v h;simp only[Sem.run] at h;split at h
  ·exact ih _ h
  ·have:= @ih _ _ _ _ h;exact CX (P1 _) this
 |sys c k ih=>
  intro w w' v h;simp only[Sem.run] at h;exact CX (agS w c)<|ih _ h
 |program k ih=>intro w w' v h;simp only[Sem.run] at h;exact ih _ h
 |mark m k ih=>intro w w' v h;simp only[Sem.run] at h;exact ih h
 |halt h=>intro w w' v e;simp only[Sem.run] at e;cases e
end
section
variable[D:DR]
variable{P:Program}{w0:AX P}{H0:HV}{N:Nat}{ops:Array Oper}{Q:Exit->Act->World->Prop}{Γ Ae:Ctx}{d:Option Tmp}{ty:TypeId}{pos:String}{af:Array Edge}{g:Option (Nat×Bool)}
def R9{f:FuncId}{args BP:A3 Ty}(hc:GA P f=true)
  (h:∀(w:AK) (H:HV) (vs:A3 AO),(∀r o,H r=some o->w.heap[r]? =some o)->Kp P H->EW H args vs->Calls P f vs.toArray w λe w'=>∃v,e= .returned v/\F1 w.heap.size w w'/\Kr H BP v):EE P f args (.vs BP):=
 ⟨hc,λw H vs sub gl ha=>(h w H vs sub gl ha).mono λe w' ⟨v,he,hb,hv⟩=>⟨v,he,hb,H,λ_ _=>rfl,λr o hr=>by
  have:=sub r o hr;rw[hb.block r<|lt_of_heap this];exact this,hv⟩⟩
def lB(l:A3 UInt8):A3 Ty:=l.map λb=>TI .u8 (b.toNat:Int)
def ZB{H:HV}:∀{l:A3 UInt8} {xs:A3 AO},D4 H (lB l) xs↔xs=Lib.byteCells l
 |[],xs=>Iff.rfl
 |b::l,xs=>by
  show D4 H (TI .u8 (b.toNat:Int)::lB l) xs↔_;constructor
  ·rintro⟨v,rest,e,hv,hr⟩;have hv:v= .int .u8 b.toNat:=hv;subst hv;rw[ZB] at hr;subst hr;exact e
  ·intro e;exact⟨.int .u8 b.toNat,Lib.byteCells l,e,rfl,ZB.2 rfl⟩
def mE(l:A3 UInt8):(lB l).length=l.length:=by simp[lB]
def aek{T E:Af}(h:(P.info? T).bind (·.zero)=some (.agg #[.pointer none,.slice none 0 0])):Aq P Γ ⟨d,.alloc T,ty,pos,af,g⟩ (.HW T E<|lB []):=
 Lr λw0 _ _ a w H hs=>by
  have hz:DS P T (IB 2 true):=FA _ h<|λ_=>K8 rfl rfl
  have hr:(zeroValue T).run P w= .ok (.agg #[.pointer none,.slice none 0 0]) w:=by
   cases hi:P.info? T with
   |none=>rw[hi] at h;cases h
   |some i=>rw[hi] at h;exact sj hi h w
  refine⟨.pointer<|some ⟨w.heap.size,0,none⟩,w.alloc<| .cells #[.pointer none,.slice none 0 0] T,H,?_,Ext.alloc hs.sub _,?_,?_⟩
  ·simp[execOp,Instr.alloc,hr,newVar,newRow,Value.cells]
  ·refine⟨w.heap.size,_,_,rfl,LF w _,.inl rfl,?_,.inl hs.below.size,vI,by simp[Value.ownBlock]⟩;cases hh:H w.heap.size with
   |none=>rfl
   |some o=>have:=Gk hs.sub hh;omega
  ·rintro b ⟨c,e,hb⟩;cases e;rcases hb with hb|⟨p,r,hc,hb⟩
   ·omega
   ·rw[LF] at hc;simp at hc;obtain⟨rfl,rfl⟩:=hc;simp[Value.ownBlock] at hb
def ali{w:AK}{t u ty e:Af}{i:TypeInfo}(ht:P.underlying t=some (.slice e))(hu:P.underlying u=some .string)(hi:P.info? e=some i)(hz:i.zero=some (.int .u8 0))(Tn:i.size=1)(hby:i.bytes=1)
  {v:AO}{n:Nat}{xs:A3 AO}(hown:w.ownsRow 0 e 1 v n xs)(s:ByteArray)(hlen:n+s.size<=140737488355328):
  ∃v' w',(Builtin.append_ #[t,u] ty #[v,.string s]).run P w= .ok v' w'/\w'.ownsRow 0 e 1 v' (n+s.size) (xs++Lib.strCells s)/\E9 w w' v.ownBlock/\
   ∀b,v'.ownBlock=some b->v.ownBlock=some b\/w.heap.size<=b:=by
 have GM:n+s.size<=maxLen:=by unfold maxLen;omega
 obtain⟨v',w',hr,h2,h3,h4⟩:=Lib.run_append_own_string (P:=P) w 0 t u ty e i ht hu hi hz Tn hby v n xs hown s GM hlen<|F2 _
 refine⟨v',w',hr,h2,⟨h3,GQ.of<|agl _ hr⟩,λb hb=>?_⟩;have Fx:xs.length=n:=by simpa using hown.1
 rcases hown.2 with⟨rfl,rfl⟩|⟨g,cap,cur,rfl,hbg,hg,hnc,hcm,hcs,htake⟩
 ·by_cases hm:s.size=0
  ·rw[h4.2 ⟨rfl,hm⟩] at hb;simp[Value.ownBlock] at hb
  ·have H7:=run_append_nil_string (P:=P) w t u ty e i (.int .u8 0) ht hu hi hz s (by omega) (by omega) (by rw[hby];omega);rw[hr] at H7;cases H7;simp[Value.ownBlock] at hb;exact .inr (by omega)
 ·by_cases SB:n+s.size<=cap
  ·have H7:=Lib.run_append_room_string (P:=P) w t u ty e i ht hu hi Tn g n cap cur hg s SB (by omega);rw[hr] at H7;cases H7;exact .inl hb
  ·have holds:∀j u,xs[j]? =some u->w.cell? ((⟨g,0,none⟩:Addr).add j)=some u:=hown.cells (g:=g) rfl;have H7:=Lib.run_append_grow_string (P:=P) w t u ty e i (.int .u8 0) ht hu hi hz ⟨g,0,none⟩ n cap xs (by rw[Tn];simpa using Fx) holds s (by omega) (by omega) (by rw[hby];exact growslice_fits (by omega) (by omega));rw[hr] at H7;cases H7;simp[Value.ownBlock] at hb;exact .inr (by omega)
def alp{w:AK}{ops:Aw Oper}{rest:A3 Oper}{o:Oper}{a:Act}{Q:Exit->Act->AK->Prop}(hgd:o.guard=none)(sl x:Bu)(t u:Af)
  (ho:o.op= .call {callee:= .builtin .append,args:= #[sl,x],argTypes:= #[t,u]})
  (e:Af)(i:TypeInfo)(ht:P.underlying t=some (.slice e))(hu:P.underlying u=some .string)(hi:P.info? e=some i)(hz:i.zero=some (.int .u8 0))(Tn:i.size=1)(hby:i.bytes=1)
  (v:AO)(n:Nat)(xs:A3 AO)(hs:a.eval sl=v)(hown:w.ownsRow 0 e 1 v n xs)(s:ByteArray)(hx:a.eval x= .string s)(hlen:n+s.size<=140737488355328)
  (h:∀v' w',w'.ownsRow 0 e 1 v' (n+s.size) (xs++Lib.strCells s)->E9 w w' v.ownBlock->(∀b,v'.ownBlock=some b->v.ownBlock=some b\/w.heap.size<=b)->wpList P ops Q rest (a.put o.dst v') w'):wpList P ops Q (o::rest) a w:=by
 refine wpList_plain hgd λK hK=>?_
 obtain⟨v',w',hr,h2,h3,h4⟩:=ali (P:=P) (ty:=o.type) ht hu hi hz Tn hby hown s hlen;unfold Oper.wp execOp;simp only[ho,resolve,invoke,builtin,Df,JN,DP,List.map_toArray,LD,YX,hs,hx,hr];exact hK _ _<|h v' w' h2 h3 h4
end
section
open Go.Shelf
variable[D:DR]
variable{P:Program}{ρ:Ren}
variable{w:AK}{M:Nat->Prop}{b:Nat}{p v:AO}{w':AK}{H:HV}{T:Af}{l:A3 UInt8}{vs:A3 AO}
structure Tr(M:Nat->Prop)(w w':AK):Prop where
 size:w.heap.size<=w'.heap.size
 os:w'.os=w.os
 tape:w'.tape=w.tape
 output:w'.output=w.output
 drawn:GQ w w'
 Dh:∀k,k<w.heap.size-> ¬M k->w'.heap[k]? =w.heap[k]?
def Tr.refl(M:Nat->Prop)(w:AK):Tr M w w:=⟨Az _,rfl,rfl,rfl,Az _,λ_ _ _=>rfl⟩
def Tr.trans{M:Nat->Prop}{w w' w'':AK}(h:Tr M w w')(k:Tr M w' w''):Tr M w w'':=
 ⟨CX h.size k.size,k.os.trans h.os,k.tape.trans h.tape,k.output.trans h.output,CX h.drawn k.drawn,λi hi hm=>(k.Dh i (K0 hi h.size) hm).trans<|h.Dh i hi hm⟩
def Tr.setCell{M:Nat->Prop}(w:AK)(a:Addr)(x:AO)(h:M a.block):Tr M w (w.setCell a x):=
 ⟨by simp[World.setCell],rfl,rfl,rfl,Az _,λk _ hk=>Below.heap_setCell _ _ _ _<|λe=>hk<|e▸h⟩
def Tr.grown{row:A6 Nat}(h:E9 w w' row)(hr:∀k,row=some k->M k):Tr M w w':=
 ⟨h.size,h.os,h.tape,h.output,h.drawn,λk hk hm=>h.block k hk<|λe=>hm<|hr k e.symm⟩
def Tr.mono{M2:Nat->Prop}{w2:AK}(h:Tr M w w2)(k:∀b,M b->M2 b):Tr M2 w w2:=⟨h.size,h.os,h.tape,h.output,h.drawn,λi hi hm=>h.Dh i hi<|λx=>hm<|k i x⟩
def Tr.drew{M:Nat->Prop}(w:AK):Tr M w w.drew:=⟨Az _,rfl,rfl,rfl,GQ.of<|P1 _,λ_ _ _=>rfl⟩
def Tr.Ku(h:Tr M w w')(sub:∀r o,H r=some o->w.heap[r]? =some o)(hM:∀b,M b->H b=none):QV M w H w' H:=
 ⟨h.size,h.os,h.tape,h.output,h.drawn,HV.le.refl _,λb hb hm=>⟨h.Dh b hb hm,rfl⟩,λr o hr=>by
  have hw:=sub r o hr;rw[h.Dh r (lt_of_heap hw) (λhm=>by rw[hM r hm] at hr;cases hr)];exact hw⟩
def ln(hb:w.heap[b]? =some (.cells #[p,v] T (0,0))):w.cell? ⟨b,0,none⟩=some p/\w.cell? ⟨b,1,none⟩=some v/\w.shape? b=some (T,2)/\(∀j,w.frozen? ⟨b,j,none⟩=false):=
 ⟨by rw[Yi hb];rfl,by rw[Yi hb];rfl,by simp[World.shape?,hb],λj=>Lib.frozen_of_heap hb j⟩
def ahH{x:AO}(hb:w.heap[b]? =some (.cells #[p,v] T (0,0))):(w.setCell ⟨b,1,none⟩ x).heap[b]? =some (.cells #[p,x] T (0,0)):=by
 simp[World.setCell,TZ,hb]
def ahI{x:AO}(hb:w.heap[b]? =some (.cells #[p,v] T (0,0))):(w.setCell ⟨b,0,none⟩ x).heap[b]? =some (.cells #[x,v] T (0,0)):=by
 simp[World.setCell,TZ,hb]
def ahX(L:Lays.n240 P ρ)(X:Builder.X72 P ρ)(hb:w.heap[b]? =some (.cells #[p,v] (ρ.t 72) (0,0)))(hp:p= .pointer none\/p= .pointer (some ⟨b,0,none⟩)):
  Calls P (ρ.f 240) #[.pointer<|some ⟨b,0,none⟩] w λe w'=>e= .returned (.tuple #[])/\w'.heap[b]? =some (.cells #[.pointer<|some ⟨b,0,none⟩,v] (ρ.t 72) (0,0))/\Tr (λk=>k=b) w w'/\w'.heap.size=w.heap.size:=by
 obtain⟨c0,c1,By,hfz⟩:=ln hb;rcases hp with rfl|rfl
 ·refine(Any.Builder_copyCheck_fresh L X b w c0 By<|hfz 0).mono ?_;rintro e w' ⟨rfl,rfl⟩;exact⟨rfl,ahI hb,Tr.setCell w _ _ rfl,by simp[World.setCell]⟩
 ·refine(Any.Builder_copyCheck_used L X b w c0).mono ?_;rintro e w' ⟨rfl,rfl⟩;exact⟨rfl,hb,Tr.refl _ _,rfl⟩
def wH{e:Af}{n:Nat}{xs:A3 AO}(h:w.ownsRow 0 e 1 v n xs)(hk:∀g,v.ownBlock=some g->w'.heap[g]? =w.heap[g]?):w'.ownsRow 0 e 1 v n xs:=by
 refine⟨h.1,?_⟩;rcases h.2 with h|⟨g,cap,cur,e1,h1,hc,h2⟩
 ·exact .inl h
 ·exact .inr ⟨g,cap,cur,e1,h1,by rw[hk g (by rw[e1];rfl)];exact hc,h2⟩
set_option maxHeartbeats 2000000 in
set_option maxRecDepth 100000 in
def acM(L:Lays.n166 P ρ)(X:Builder.Extra P ρ){bs:A3 AO}(s:ByteArray)(hb:w.heap[b]? =some (.cells #[p,v] (ρ.t 72) (0,0)))(hp:p= .pointer none\/p= .pointer (some ⟨b,0,none⟩))
 (hown:w.ownsRow 0 (ρ.t 5) 1 v bs.length bs)(hne:v.ownBlock≠some b)(hlen:bs.length+s.size<=140737488355328):
  Calls P (ρ.f 166) #[.pointer<|some ⟨b,0,none⟩,.string s] w λe w'=>e= .returned (.tuple #[.int .i64 s.size,.nilIface])/\∃v',w'.heap[b]? =some (.cells #[.pointer<|some ⟨b,0,none⟩,v'] (ρ.t 72) (0,0))/\w'.ownsRow 0 (ρ.t 5) 1 v' (bs.length+s.size) (bs++Lib.strCells s)/\v'.ownBlock≠some b/\
   (∀g,v'.ownBlock=some g->v.ownBlock=some g\/w.heap.size<=g)/\Tr (λk=>k=b\/v.ownBlock=some k) w w':=by
 obtain⟨i0,hi,hz0,hz1,hz2⟩:=info_parts X.infoByte;have hblt:b<w.heap.size:=lt_of_heap hb;have mixed:=L.mixed;have t72:=L.t72;have a72:=L.a72;have z72:=L.z72;have v72:=L.v72;have u72:=Jz L.t72;have t70:=L.t70;have a70:=L.a70;have z70:=L.z70;have v70:=L.v70;have u70:=Jz L.t70;have t37:=L.t37;have a37:=L.a37;have z37:=L.z37;have v37:=L.v37;have u37:=Jz L.t37;have t3:=L.t3;have a3:=L.a3;have z3:=L.z3;have v3:=L.v3;have u3:=Jz L.t3;have t9:=L.t9;have a9:=L.a9;have z9:=L.z9;have v9:=L.v9;have u9:=Jz L.t9;have t4:=L.t4;have a4:=L.a4;have z4:=L.z4;have v4:=L.v4;have u4:=Jz L.t4;have t164:=L.t164;have a164:=L.a164;have z164:=L.z164;have v164:=L.v164;have u164:=Jz L.t164;have t5:=X.t5;have a5:=X.a5;have z5:=X.z5;have v5:=X.v5;have u5:=Jz X.t5;have e240:∀args w,(callFunc (ρ.f 240) args).run P w= .ok (.enter (ρ.f 240) args) w:=enters_of L.f240 A4 rfl
 go_enter L.f166,Body.n166_ntmps ρ
 go_wp2_with (go_at_fn (ρ.f 240);refine(ahX {L with} X.toX72 hb hp).mono ?_)
 rintro e w1 ⟨rfl,hb1,ht1,hs1⟩;have hown1:w1.ownsRow 0 (ρ.t 5) 1 v bs.length bs:=wH hown λg hg=>ht1.Dh g (hown.lt g hg).2 (λe=>hne (by rw[hg,e]))
 obtain⟨c0,c1,_,_⟩:=ln hb1
 go_wp2_with (at_builtin;refine alp rfl _ _ (ρ.t 37) (ρ.t 9) rfl (ρ.t 5) i0 L.t37 L.t9 hi hz0 hz1 hz2 _ _ _ rfl hown1 s rfl hlen ?_)
 intro v' w2 hown' hgrow hfr;have hb2:w2.heap[b]? =some (.cells #[.pointer<|some ⟨b,0,none⟩,v] (ρ.t 72) (0,0)):=by
  rw[hgrow.block b (by omega)<|λe=>hne e.symm];exact hb1
 obtain⟨d0,d1,_,hf⟩:=ln hb2;have f1:=hf 1;have hne':v'.ownBlock≠some b:=λe=>by
  rcases hfr b e with h|h
  ·exact hne h
  ·omega
 obtain⟨ao,n',cap,rfl⟩:∃ao n' cap,v'= .slice ao n' cap:=by
  rcases hown'.2 with⟨hv,_⟩|⟨g,cap,cur,hv,_⟩
  ·exact⟨_,_,_,hv⟩
  ·exact⟨_,_,_,hv⟩
 go_wp2
 go_ret2
 refine⟨rfl,_,ahH hb2,wH hown' λg hg=>?_,hne',λg hg=>by have:=hfr g hg;omega,?_⟩
 ·exact Below.heap_setCell _ _ _ _ (λe=>hne' (by rw[hg,e]))
 ·exact((ht1.mono<|λk h=> .inl h).trans<|Tr.grown hgrow<|λk h=> .inr h).trans<|Tr.setCell _ _ _<| .inl rfl
def Tr.freeze{M:Nat->Prop}(w:AK)(a:Addr)(n:Nat)(h:M a.block):Tr M w (w.freeze a n):=by
 unfold World.freeze;split
 ·exact Tr.refl _ _
 ·refine⟨by simp,rfl,rfl,rfl,Az _,λk _ hk=>?_⟩;simp only[TZ];rw[if_neg (λ(e:a.block=k)=>hk (by rw[<-e];exact h))]
set_option maxHeartbeats 1000000 in
set_option maxRecDepth 100000 in
def abx(L:Lays.n169 P ρ)(X:Builder.Extra P ρ)(hbk:w.heap[b]? =some (.cells #[p,v] (ρ.t 72) (0,0)))(hown:w.ownsRow 0 (ρ.t 5) 1 v l.length (Lib.byteCells l))(h0:l≠[]):
  Calls P (ρ.f 169) #[.pointer<|some ⟨b,0,none⟩] w λe w'=>e= .returned (.string ⟨l.toArray⟩)/\Tr (λk=>v.ownBlock=some k) w w':=by
 have hl0:l.length≠0:=by simpa using h0
 obtain⟨g,cap,cur,rfl,hg,hnc,hcm,hcs,htake⟩:∃g cap cur,v= .slice (some ⟨g,0,none⟩) l.length cap/\w.heap[g]? =some (.cells cur (ρ.t 5) (0,0))/\l.length<=cap/\cap<=maxLen/\cur.size=cap*1/\cur.toList.take (l.length*1)=Lib.byteCells l:=by
  rcases hown.2 with⟨_,hz⟩|⟨g,cap,cur,hv,_,r⟩
  ·exact absurd hz hl0
  ·exact⟨g,cap,cur,hv,r⟩
 have c1:w.drew.cell? ⟨b,1,none⟩=some (.slice (some ⟨g,0,none⟩) l.length cap):=by
  have:w.drew.heap[b]? =some (.cells #[p,.slice (some ⟨g,0,none⟩) l.length cap] (ρ.t 72) (0,0)):=hbk;rw[Yi this];rfl
 have hSD:(Builtin.unsafeSliceData_ #[(ρ.t 37)] (ρ.t 127) #[.slice (some ⟨g,0,none⟩) l.length cap]).run P w.drew= .ok (.pointer<|some ⟨g,0,none⟩) w.drew:=
  Lib.run_unsafeSliceData_row _ _ _ _ _ _ (by omega)
 have hUS:(Builtin.unsafeString_ #[(ρ.t 127),(ρ.t 3)] (ρ.t 9) #[.pointer<|some ⟨g,0,none⟩,.int .i64 l.length]).run P w.drew= .ok (.string ⟨l.toArray⟩) (w.drew.freeze ⟨g,0,none⟩ l.length):=by
  refine Lib.run_unsafeString_row w.drew (ρ.t 127) (ρ.t 3) (ρ.t 9) (ρ.t 5) L.t127 X.cellsByte g cur.size (by have hg':w.drew.heap[g]? =some (.cells cur (ρ.t 5) (0,0)):=hg;simp[World.shape?,hg']) l h0 (by omega) (by unfold maxLen at hcm;omega) ?_;intro j x hx;exact hown.cells (g:=g) rfl j (.int .u8 x.toNat) (by simp[Lib.byteCells,hx])
 have mixed:=L.mixed;have t72:=L.t72;have a72:=L.a72;have z72:=L.z72;have v72:=L.v72;have u72:=Jz L.t72;have t70:=L.t70;have a70:=L.a70;have z70:=L.z70;have v70:=L.v70;have u70:=Jz L.t70;have t37:=L.t37;have a37:=L.a37;have z37:=L.z37;have v37:=L.v37;have u37:=Jz L.t37;have t127:=L.t127;have a127:=L.a127;have z127:=L.z127;have v127:=L.v127;have u127:=Jz L.t127;have t3:=L.t3;have a3:=L.a3;have z3:=L.z3;have v3:=L.v3;have u3:=Jz L.t3;have t9:=L.t9;have a9:=L.a9;have z9:=L.z9;have v9:=L.v9;have u9:=Jz L.t9;have t5:=X.t5;have a5:=X.a5;have z5:=X.z5;have v5:=X.v5;have u5:=Jz X.t5
 go_enter L.f169,Body.n169_ntmps ρ
 go_wp2
 go_region_o
 all_goals (go_wp2;go_ret;exact⟨rfl,(Tr.drew w).trans<|Tr.freeze _ _ _ rfl⟩)
def V9(l s:A3 UInt8):A6 (A3 UInt8×Int×Unit):=Dz (Nat.ble (l.length+s.length) 140737488355328) (l++s,(s.length:Int),())
def Xq(l:A3 UInt8):A6 (A3 UInt8):=Dz (!l.isEmpty) l
def Gf{α:Type}{b:Bool}{x r:α}(h:Dz b x=some r):b=true/\x=r:=by
 unfold Dz at h;cases b
 ·cases h
 ·exact⟨rfl,Dg h⟩
def YO(h:EW H [] vs):vs=[]:=h
def Ns{τ:Ty}(h:EW H [τ] vs):∃v,vs=[v]/\τ.ok H v:=by
 obtain⟨v,rest,e,hv,hr⟩:=h;have hr:rest=[]:=hr;subst hr;exact⟨v,e,hv⟩
def TK{τ σ:Ty}(h:EW H [τ,σ] vs):∃v u,vs=[v,u]/\τ.ok H v/\σ.ok H u:=by
 obtain⟨v,rest,e,hv,hr⟩:=h;obtain⟨u,e2,hu⟩:=Ns hr;subst e2;exact⟨v,u,e,hv,hu⟩
def byteCells_append(l s:A3 UInt8):Lib.byteCells (l++s)=Lib.byteCells l++Lib.byteCells s:=by simp[Lib.byteCells]
def ahW(L:Lays.n166 P ρ)(X:Builder.Extra P ρ)(hc:GA P (ρ.f 166)=true){s:A3 UInt8}{r:A3 UInt8×Int×Unit}(hm:V9 l s=some r):
  IN P (ρ.f 166) [] (.HW (ρ.t 72) (ρ.t 5)<|lB l) (.HW (ρ.t 72) (ρ.t 5)<|lB r.1) [TS s] [TI .i64 r.2.1,qq r.2.2]:=by
 obtain⟨hb,rfl⟩:=Gf hm;have hb:=EP hb;refine⟨hc,λw H v ps qs sub gl hp hq hs=>?_⟩;have hp:=YO hp;subst hp;obtain⟨x,rfl,hx⟩:=Ns hq;have hx:x= .string ⟨s.toArray⟩:=hx;subst hx;obtain⟨b,p,row,rfl,hbk,hpp,hn,hB,⟨xs,hown,Al,hH⟩,hne⟩:=hs;rw[ZB] at Al;subst Al;rw[mE] at hown;refine(acM L X (bs:=Lib.byteCells l) ⟨s.toArray⟩ hbk hpp (by simpa[Lib.byteCells] using hown) hne (by simpa[Lib.byteCells,ByteArray.size] using hb)).mono ?_;rintro e w' ⟨rfl,v',B2,JF,hne',hfr,ht⟩;have EX:Lib.strCells ⟨s.toArray⟩=Lib.byteCells s:=rfl;have hmo:∀k,k=b\/row.ownBlock=some k->(AJ.HW (ρ.t 72) (ρ.t 5)<|lB l).owns w (.pointer<|some ⟨b,0,none⟩) k:=λk h=>⟨b,rfl,h.imp id λh=>⟨p,row,hbk,h⟩⟩
 have hMn:∀k,(AJ.HW (ρ.t 72) (ρ.t 5)<|lB l).owns w (.pointer<|some ⟨b,0,none⟩) k->k=b\/row.ownBlock=some k:=by
  rintro k ⟨c,e,h⟩;cases e;rcases h with h|⟨p',r',Dl,h⟩
  ·exact .inl h
  ·have e2:=hbk.symm.trans Dl;simp at e2;obtain⟨rfl,rfl⟩:=e2;exact .inr h
 refine⟨_,rfl,H,(ht.mono hmo).Ku sub<|λk hk=>?_,⟨b,_,v',rfl,B2,.inr rfl,hn,hB,⟨_,?_,ZB.2 rfl,λg hg=>?_⟩,hne'⟩,?_,⟨#[.int .i64 s.length,.nilIface],?_,_,_,rfl,rfl,_,_,rfl,rfl,rfl⟩⟩
 ·rcases hMn k hk with rfl|h
  ·exact hn
  ·exact(hH k h).1
 ·rw[mE,byteCells_append,ES];exact(by simpa[Lib.byteCells,ByteArray.size,EX] using JF)
 ·rcases hfr g hg with h|h
  ·exact hH g h
  ·refine⟨?_,.inl h⟩;cases hh:H g with
   |none=>rfl
   |some o=>have:=Gk sub hh;omega
 ·rintro k ⟨c,e,h⟩;cases e;rcases h with h|⟨p',r',Dl,h⟩
  ·exact .inl<|hmo k<| .inl h
  ·have e2:=B2.symm.trans Dl;simp at e2;obtain⟨rfl,rfl⟩:=e2;exact(hfr k h).imp (λh=>hmo k<| .inr h) id
 ·simp[ByteArray.size]
def xR{E:Af}{l:A3 Ty}{row:AO}(hbk:w.heap[b]? =some (.cells #[p,row] T (0,0)))(k:Nat):(AJ.HW T E l).owns w (.pointer<|some ⟨b,0,none⟩) k↔k=b\/row.ownBlock=some k:=by
 constructor
 ·rintro⟨c,e,h⟩;cases e;rcases h with h|⟨p',r',Dl,h⟩
  ·exact .inl h
  ·have e2:=hbk.symm.trans Dl;simp at e2;obtain⟨rfl,rfl⟩:=e2;exact .inr h
 ·exact λh=>⟨b,rfl,h.imp id λh=>⟨p,row,hbk,h⟩⟩
def agC(L:Lays.n169 P ρ)(X:Builder.Extra P ρ)(hc:GA P (ρ.f 169)=true){r:A3 UInt8}(hm:Xq l=some r):
  IN P (ρ.f 169) [] (.HW (ρ.t 72) (ρ.t 5)<|lB l) .gone [] [TS r]:=by
 obtain⟨h0,rfl⟩:=Gf hm;refine⟨hc,λw H v ps qs sub gl hp hq hs=>?_⟩;have hp:=YO hp;subst hp;have hq:=YO hq;subst hq;obtain⟨b,p,row,rfl,hbk,hpp,hn,hB,⟨xs,hown,Al,hH⟩,hne⟩:=hs;rw[ZB] at Al;subst Al;rw[mE] at hown;refine(abx L X hbk hown (by rintro rfl;simp at h0)).mono ?_;rintro e w' ⟨rfl,ht⟩;exact⟨_,rfl,H,(ht.mono λk h=>(xR hbk k).2<| .inr h).Ku sub (λk hk=>by
  rcases(xR hbk k).1 hk with rfl|h
  ·exact hn
  ·exact(hH k h).1),trivial,λk hk=>hk.elim,rfl⟩
instance instDecAVec:DecidableEq (A3 UInt8×A3 UInt8×A3 UInt8):=inferInstance
end
section
open Go.Shelf
variable[D:DR]
variable{P:Program}{ρ:Ren}
variable{P:Program}{N:Nat}{ops:Array Oper}{Γ:Ctx}{ty:TypeId}{pos:String}{af:Array Edge}
def mS{u t dd:Nat}{s:AJ}(hu:look Γ u=some (.same t))(ht:look Γ t=some s)(hl:s.Bn=[])(Cp:dd<N)(o:Op)(ho:o= .assign (.tmp u)\/o= .move (.tmp u)):
  Step P N ops ⟨some dd,o,ty,pos,af,none⟩ Γ ((dd,s)::del dd (B4 t Γ)):=by
 intro w0 H0 a w H B1 K Q k;simp only[Region.wanted,if_true];have eu:AT a u=AT a t:=B1.holds _<|Au hu
 have er:(execOp a.eval ⟨some dd,o,ty,pos,af,none⟩).run P w= .ok (.value<|AT a t) w:=by
  rw[<-eu];rcases ho with rfl|rfl<;>rfl
 unfold Oper.wp;rw[er,Nu];exact k _ w H (V2 B1 (Au ht) (lN w) (λ_ e=>by cases e) Cp (by rw[hl];simp) (B1.holds _<|Au ht) λ_ h=> .inl h)
end
section
open Go.Shelf
variable[D:DR]
variable{P:Program}{ρ:Ren}
def Uu{α:Type}(l:A3 α):A6 (A3 α):=Dz (Nat.blt l.length 4000000000) l
def Q4(x y:Int):A6 (Int×Int):=bif GY x&&GY y then some (x*y/Ft,x*y%Ft) else none
def NQ(n:Nat):Nat:=bif Nat.beq n 0 then 0 else Nat.log2 n+1
def YQ(x:Int):A6 Int:=bif GY x then some (NQ x.toNat:Int) else none
def Vu(x:Int):A6 Int:=bif GY x then some (64-(NQ x.toNat:Int)) else none
end
section
variable[D:DR]
variable{P:Program}{w0:AX P}{H0:HV}{N:Nat}{ops:Array Oper}{Q:Exit->Act->World->Prop}{Γ Ae:Ctx}{d:Option Tmp}{ty:TypeId}{pos:String}{af:Array Edge}{g:Option (Nat×Bool)}
variable{α:Type}{f:α->Ty}{l:A3 α}{t:Nat}{T E:Af}{sz:Nat}{pre post:A3 AO}{y:α}{p j:Nat}{x:Bu}{z:α}
def MW{s ix:Bu}{k:IntKind}{i:Int}(hT:Fl P T sz=true)(hs:EU Γ s t)(ht:look Γ t=some (.EZ E pre post<|lT f l))(hi:Arg Γ ix (TI k i))(h:A8 l i=some y):
  Aq P Γ ⟨d,.indexAddr T s ix,ty,pos,af,g⟩ (.Mf t i.toNat sz):=
 DL λw0 _ _ a w H B1=>by
  obtain⟨h0,h1,h3⟩:=HY h;obtain⟨b,c,cur,xs,e,_⟩:=B1.holds _<|Au ht
  simp only at e;have e3:a.eval s= .slice (some ⟨b,pre.length,none⟩) l.length c:=by
   rw[hs.ok B1,e,Bw]
  have ei:a.eval ix= .int k i:=hi.ok B1;have hr:=jr (P:=P) hT b pre.length l.length c (k:=k) h0 h1 w;exact⟨.pointer<|some ⟨b,pre.length+i.toNat*sz,none⟩,by simp only[execOp,e3,ei,Df,hr,DP];rfl,⟨b,pre.length,_,c,e,rfl⟩,rfl⟩
def QI(hf:∀z,(f z).n=sz)(hp:look Γ p=some (.Mf t j sz))(ht:look Γ t=some (.EZ E pre post<|lT f l))(h:l[j]? =some y)(hT:BX P T (f y).n (f y).agg=true):
  Aq P Γ ⟨d,.load T<| .tmp p,ty,pos,af,g⟩ (.val<|f y):=
 DL λw0 _ _ a w H B1=>by
  obtain⟨b,c,cur,xs,e,hb,LZ,ho,hH,hB⟩:=B1.holds _<|Au ht
  obtain⟨b',o,n',c',e1,e2⟩:=B1.holds _<|Au hp
  simp only at e e1 e2;rw[e] at e1;cases e1;have hj:(lT f l)[j]? =some (f y):=by rw[GX,h];rfl
  have Ip:=(EC.1 hj).1;have hu:Fo sz (lT f l):=JL hf l;have e3:a.eval (.tmp p)= .pointer (some ⟨b,pre.length+j*sz,none⟩):=e2;obtain⟨p1,p2⟩:=My ho hj;have hc:Bx ((lT f l).take j)=j*sz:=by rw[Js<|hu.take _,DI,Dt (by omega)]
  rw[hc] at p1 p2;have LY:List.take (f y).n (List.drop (pre.length+j*sz) cur.toList)=List.take (f y).n (List.drop (j*sz) xs):=by
   rw[LZ,<-F4,VN,List.drop_append_of_le_length (by omega),List.take_append_of_le_length (by simp;omega)]
  have Tn:cur.size=pre.length+(xs.length+post.length):=by rw[<-EB,LZ];simp
  refine⟨_,?_,p2,rfl⟩;have hr:=Qp (P:=P) hT hb (off:=pre.length+j*sz) (by omega);rw[LY] at hr;simp[execOp,e3,Instr.loadAt,Instr.sureAddr,hr]
def xj{AY:Ctx}(B0:∀q∈AY,q∈Γ)(hf:∀z,(f z).n=sz)(hp:look AY p=some (.Mf t j sz))(ht:look AY t=some (.EZ E pre post<|lT f l))(h:l[j]? =some z)(hx:Arg AY x (f y))(hT:BX P T (f y).n (f y).agg=true):
  Step P N ops ⟨none,.store T (.tmp p) x,ty,pos,af,none⟩ Γ ((t,.EZ E pre post<|lT f<|l.set j y)::B4 t Γ):=by
 intro w0 H0 a w H B1 K Q k;simp only[Region.wanted,if_true];obtain⟨b,c,cur,xs,e,hb,LZ,ho,hH,hB⟩:=B1.holds _ (B0 _<|Au ht);obtain⟨b',o,n',c',e1,e2⟩:=B1.holds _ (B0 _<|Au hp);simp only at e e1 e2;rw[e] at e1;cases e1;have hj:(lT f l)[j]? =some (f z):=by rw[GX,h];rfl
 have Ip:=(EC.1 hj).1;have hu:Fo sz (lT f l):=JL hf l;have ep:a.eval (.tmp p)= .pointer (some ⟨b,pre.length+j*sz,none⟩):=e2;have HK:=hx.ok<|B1.weaken B0
 have By:=(f y).shape HK;have hc:Bx ((lT f l).take j)=j*sz:=by rw[Js<|hu.take _,DI,Dt (by omega)]
 obtain⟨p1,_⟩:=My ho hj;rw[hc,hf] at p1;have MG:=TO ho hj ((hf y).trans (hf z).symm) HK;rw[hc,hf] at MG;have Tn:cur.size=pre.length+(xs.length+post.length):=by rw[<-EB,LZ];simp
 have Eh:=Sd (P:=P) (off:=pre.length+j*sz) (TC hT) By.size hb (by rw[hf];omega) By.cell;rw[hf] at Eh;unfold Oper.wp;have er:(execOp a.eval ⟨none,.store T (.tmp p) x,ty,pos,af,none⟩).run P w= .ok .skip (w.setRow b (cur.toList.take (pre.length+j*sz)++(a.eval x).cells.toList++cur.toList.drop (pre.length+j*sz+sz)).toArray):=by
  simp[execOp,ep,Instr.storeAt,Instr.sureAddr,Eh]
 rw[er,Q8];have aoj:cur.toList.take (pre.length+j*sz)++(a.eval x).cells.toList++cur.toList.drop (pre.length+j*sz+sz)=pre++((xs.take (j*sz)++(a.eval x).cells.toList++xs.drop (j*sz+sz))++post):=by
  have t1:(pre++(xs++post)).take (pre.length+j*sz)=pre++xs.take (j*sz):=by
   rw[Yk,CB (by omega)]
   congr 1
   rw[show pre.length+j*sz-pre.length=j*sz from by omega,List.take_append_of_le_length (by omega)]
  have t2:(pre++(xs++post)).drop (pre.length+j*sz+sz)=xs.drop (j*sz+sz)++post:=by
   rw[KY,<-F4,VN,List.drop_append_of_le_length (by omega)]
  rw[LZ,t1,t2];simp
 rw[aoj];have hg:E9 w (w.setRow b (pre++((xs.take (j*sz)++(a.eval x).cells.toList++xs.drop (j*sz+sz))++post)).toArray) (some b):=E9.setRow w b _;refine k a _ H (Oa B1 (B0 _<|Au ht) hg hB (by simp[AJ.owns,e,Value.ownBlock]) ?_ λc hc=> .inl hc);refine⟨b,c,_,_,by rw[e];simp[lT],TP w b _ _ _ _ hb,rfl,?_,hH,hB⟩;rw[show lT f (l.set j y)=(lT f l).set j (f y) from by simp[lT,TT]];exact MG
def oi(hf:∀z,(f z).n=sz)(hp:look Γ p=some (.Mf t j sz))(ht:look Γ t=some (.EZ E pre post<|lT f l))(h:l[j]? =some z)(hx:Arg Γ x (f y))(hT:BX P T (f y).n (f y).agg=true):
  Step P N ops ⟨none,.store T (.tmp p) x,ty,pos,af,none⟩ Γ ((t,.EZ E pre post<|lT f<|l.set j y)::B4 t Γ):=xj (λ_ h=>h) hf hp ht h hx hT
def ak2(hf:∀z,(f z).n=sz)(hp:look Γ p=some (.Mf t j sz))(ht:look Γ t=some (.EZ E pre post<|lT f l))(h:l[j]? =some z)(hx:Arg Γ x (f y))(hT:BX P T (f y).n (f y).agg=true):
  PY P N ops Γ ⟨none,.store T (.tmp p) x,ty,pos,af,none⟩ t (.EZ E pre post<|lT f<|l.set j y):=λ_ B0=>xj B0 hf hp ht h hx hT
end
section
variable[D:DR]
variable{P:Program}{w0:AX P}{H0:HV}{N:Nat}{ops:Array Oper}{Γ Ae:Ctx}{d:Option Tmp}{ty:TypeId}{pos:String}{af:Array Edge}{g:Option (Nat×Bool)}
variable{E:Af}{sz t:Nat}{α:Type}{f:α->Ty}{l:A3 α}{xs:A3 Bu}{Ec:Aw Af}{dd:Nat}{x:Bu}{i n u:Nat}
def vR{T:Af}{lo hi:A6 Bu}{i j:Int}(hT:Fl P T sz=true)(hs:EU Γ x t)(ht:look Γ t=some (.buf E sz<|lT f l))(FG:Lo Γ lo 0 i)(KM:Lo Γ hi l.length j)(h:(decide (0<=i)&&decide (i<j)&&decide (j<=l.length))=true):
  Aq P Γ ⟨d,.slice T x lo hi none,ty,pos,af,g⟩ (.win t i.toNat (j-i).toNat sz):=
 DL λw0 _ _ a w H B1=>by
  rw[BU,BU,Ev,Ev,Ev] at h;obtain⟨⟨h1,h2⟩,h3⟩:=h;obtain⟨b,cap,cs,xs,e,hb,hcap,_⟩:=VD (B1.holds _<|Au ht) (λe=>by
   have:l=[]:=List.map_eq_nil_iff.1 e;rw[this] at h3;simp at h3;omega)
  simp only at e;rw[Bw] at e hcap;obtain⟨el,ii,hue,hii,hsz⟩:=na hT;have Hn:∀w,(Go.sizeOf el).run P w= .ok sz w:=λw=>by simp[Go.sizeOf,typeInfo,program,Sem.run,hii,hsz]
  have hbd:=ra (P:=P) (b:=true) (cap:=cap) (w:=w) FG KM h1 (by omega) h3 hcap B1;have e3:a.eval x= .slice (some ⟨b,0,none⟩) l.length cap:=by rw[hs.ok B1];exact e
  refine⟨.slice (some ⟨b,i.toNat*sz,none⟩) (j-i).toNat<|cap-i.toNat,?_,⟨b,_,cap,cap-i.toNat,e,rfl⟩,rfl⟩;have hne: ¬cap=i.toNat:=by omega
  have hn:j.toNat-i.toNat=(j-i).toNat:=by omega
  simp[execOp,e3,Instr.sliceAt,EY hue,Instr.slice,hbd,Hn,addr_add,hne,hn]
def akB{B:AX P}{w:AK}{H:HV}{v:AO}(hf:∀z,(f z).n=sz)(h:Kq B w H E sz (lT f l) v)(hn:0<n)(hl:i+n<=l.length){b:Nat}{len cap:Nat}(hv:v= .slice (some ⟨b,0,none⟩) len cap)(c:Nat):
  ∃pre post:A3 AO,pre.length=i*sz/\(AJ.EZ E pre post<|lT f<|(l.drop i).take n).holds B Qj w H (.slice (some ⟨b,i*sz,none⟩) n c)/\
   ∀(w':AK) (H':HV) (r:A3 α),HV.le H H'->r.length=n->(AJ.EZ E pre post<|lT f r).holds B Qj w' H' (.slice (some ⟨b,i*sz,none⟩) n c)->Kq B w' H' E sz (lT f<|l.take i++r++l.drop (i+n)) v:=by
 subst hv;obtain⟨xs,⟨Fx,hr⟩,ho,hH⟩:=h;rcases hr with⟨e,_⟩|⟨g',Zp,cur,e,h0,hb,hcap,hm,hcs,htake⟩
 ·cases e
 cases e;have hu:Fo sz (lT f l):=JL hf l;have Fx:xs.length=l.length*sz:=by simpa using Fx
 rw[Bw] at htake hcap;have s1:i*sz+n*sz<=xs.length:=by rw[Fx,<-Iv];exact Hg _ hl
 have LZ:cur.toList=xs++cur.toList.drop (l.length*sz):=by
  conv=>lhs;rw[<-OC (l.length*sz) cur.toList,htake]
 have hx3:xs=xs.take (i*sz)++((xs.drop<|i*sz).take (n*sz)++xs.drop (i*sz+n*sz)):=by
  conv=>lhs;rw[<-OC (i*sz) xs]
  congr 1
  conv=>lhs;rw[<-OC (n*sz) (xs.drop<|i*sz),F4]
 have Tw:(xs.take<|i*sz).length=i*sz:=by rw[DI];omega
 have p7:∀(lo hi:Nat),D4 H ((lT f l).take hi|>.drop lo) ((xs.take<|hi*sz).drop<|lo*sz):=λlo hi=>sv hu ho lo hi
 refine⟨xs.take<|i*sz,xs.drop (i*sz+n*sz)++cur.toList.drop (l.length*sz),Tw,?_,?_⟩
 ·refine⟨b,c,cur,(xs.drop<|i*sz).take<|n*sz,?_,hb,?_,?_,(hH b rfl).1,(hH b rfl).2⟩
  ·rw[Tw];simp;omega
  ·have e0:xs++cur.toList.drop (l.length*sz)=(xs.take (i*sz)++((xs.drop<|i*sz).take (n*sz)++xs.drop (i*sz+n*sz)))++cur.toList.drop (l.length*sz):=by rw[<-hx3]
   exact LZ.trans (e0.trans (by rw[Gw,Gw]))
  ·have:=p7 i (i+n);rw[show((lT f l).take<|i+n).drop i=lT f ((l.drop i).take n) from by simp[lT,<-List.map_take,<-List.map_drop,Lz]] at this;rw[Iv,Lz,show i*sz+n*sz-i*sz=n*sz from by omega] at this;exact this
 ·rintro w' H' r hle hrl ⟨g2,c2,qk,xs2,e2,hb2,Fm,ho2,Io,hB2⟩;have e3:g2=b:=by
   simp only[Value.slice.injEq,Option.some.injEq,Addr.mk.injEq] at e2;exact e2.1.1.symm
  subst e3;have H7:D4 H' (lT f<|l.take i++r++l.drop (i+n)) (xs.take (i*sz)++xs2++xs.drop (i*sz+n*sz)):=by
   have p1:=p7 0 i;have p2:=p7 (i+n) l.length;rw[fH,P4,P4] at p1;rw[CB (by simp[lT]),CB (by omega),Iv] at p2;have:=R5 (R5 (Pt hle p1) ho2)<|Pt hle p2
   rwa [show(lT f l).take i++lT f r++(lT f l).drop (i+n)=lT f (l.take i++r++l.drop (i+n)) from by simp[lT,List.map_take,List.map_drop]] at this
  have To:xs2.length=n*sz:=by
   have:=MT ho2;rw[Js<|JL hf r] at this;simpa[hrl] using this
  have hlen:(lT f<|l.take i++r++l.drop (i+n)).length=l.length:=by simp[hrl];omega
  have aap:(xs.take (i*sz)++xs2++xs.drop (i*sz+n*sz)).length=l.length*sz:=by
   rw[ES,ES,Tw,To,H9,Fx];omega
  have hc3:qk.toList=(xs.take (i*sz)++xs2++xs.drop (i*sz+n*sz))++cur.toList.drop (l.length*sz):=by
   rw[Fm];simp
  have htk:qk.toList.take (l.length*sz)=xs.take (i*sz)++xs2++xs.drop (i*sz+n*sz):=by
   rw[hc3,List.take_append_of_le_length (by omega),CB (by omega)]
  refine⟨xs.take (i*sz)++xs2++xs.drop (i*sz+n*sz),⟨by rw[hlen];exact aap,.inr ⟨g2,cap,qk,by rw[hlen];simp,F2 _,hb2,by rw[hlen];exact hcap,hm,?_,by rw[hlen];exact htk⟩⟩,H7,λb' B2=>?_⟩
  ·have q1:cur.toList.length=cap*sz:=by rw[EB];exact hcs
   have q2:l.length*sz<=cap*sz:=Hg _ hcap;rw[<-EB,hc3,ES,aap,H9,q1];omega
  ·have:g2=b':=by simpa[Value.ownBlock] using B2
   subst this;exact⟨Io,hB2⟩
def ait{r:A3 α}{fn:FuncId}{ys:A3 Bu}{pre post BP:A3 Ty}{AY:Ctx}(B0:∀q∈AY,q∈Γ)(hf:∀z,(f z).n=sz)
 (hS:∀(ps qs:A3 AO),ps.length=i*sz->IN P fn pre (.EZ E ps qs<|lT f<|(l.drop i).take n) (.EZ E ps qs<|lT f r) post BP)(hx:EU AY x u)(hu:look AY u=some (.win t i n sz))(ht:look AY t=some (.buf E sz<|lT f l))
 (hn:(Nat.blt 0 n&&Nat.ble (i+n) l.length&&Nat.beq r.length n)=true)(ha:AL AY xs pre)(hb:AL AY ys post)(Cp:dd<N)(hne:dd≠t):
  Step P N ops ⟨some dd,.call ⟨.value<| .func fn,(xs++x::ys).toArray,Ec⟩,ty,pos,af,none⟩ Γ ((dd,IA BP)::(t,.buf E sz<|lT f<|l.take i++r++l.drop (i+n))::del dd (B4 t Γ)):=by
 rw[BU,BU] at hn;obtain⟨⟨Li,Io⟩,hn3⟩:=hn;have Li:=EP Li;have Io:=EP Io;have hn3:=Dj hn3;intro w0 H0 a w H hs K Q k;simp only[Region.wanted,if_true];have hsi:=hs.weaken B0;have EX:=hs.holds _<|B0 _<|Au ht
 simp only at EX;obtain⟨b,len,cap,c,ev,eu⟩:=hs.holds _<|B0 _<|Au hu
 simp only at ev eu;obtain⟨ps,qs,hps,hw,pb⟩:=akB hf EX Li Io ev c;have can:GA P fn=true:=(hS ps qs hps).can;have e:execOp a.eval ⟨some dd,.call ⟨.value<| .func fn,(xs++x::ys).toArray,Ec⟩,ty,pos,af,none⟩=callFunc fn (xs.map a.eval++AT a u::ys.map a.eval).toArray:=by
  have e:execOp a.eval ⟨some dd,.call ⟨.value<| .func fn,(xs++x::ys).toArray,Ec⟩,ty,pos,af,none⟩=callFunc fn (#[]++(xs++x::ys).toArray.map a.eval++ #[]):=rfl;rw[e]
  congr 1
  simp[hx.ok hsi]
 unfold Oper.wp;rw[e,Ob can,VT,eu];have hw0:(AJ.EZ E ps qs<|lT f<|(l.drop i).take n).holds (AX.OQ P w λb'=>(AJ.EZ E ps qs<|lT f<|(l.drop i).take n).owns w (.slice (some ⟨b,i*sz,none⟩) n c) b') Qj w H (.slice (some ⟨b,i*sz,none⟩) n c):=
  AJ.R6 rfl hw λb' B2=> .inr B2
 have hown:∀b',(AJ.EZ E ps qs<|lT f<|(l.drop i).take n).owns w (.slice (some ⟨b,i*sz,none⟩) n c) b'↔(AJ.buf E sz<|lT f l).owns w (AT a t) b':=λb'=>by
  rw[ev];exact Iff.rfl
 refine((hS ps qs hps).run w H _ _ _ hs.sub hs.gl (ha.ok hsi) (hb.ok hsi) hw0).mono ?_;rintro e w' ⟨rv,rfl,H',hy,CG,ho,hr⟩;have hy':QV (λb'=>(AJ.buf E sz<|lT f l).owns w (AT a t) b') w H w' H':=by
  have:(λb'=>(AJ.buf E sz<|lT f l).owns w (AT a t) b')=λb'=>(AJ.EZ E ps qs<|lT f<|(l.drop i).take n).owns w (.slice (some ⟨b,i*sz,none⟩) n c) b':=funext λb'=>propext (hown b').symm
  rw[this];exact hy
 have Jk:(AJ.EZ E ps qs<|lT f r).holds w0 Qj w' H' (.slice (some ⟨b,i*sz,none⟩) n c):=AJ.R6 rfl CG λb' B2=>by
  have B2:(AJ.buf E sz<|lT f l).owns w (AT a t) b':=by rw[ev];exact B2
  exact AJ.Oq rfl EX B2
 have Gz:(AJ.buf E sz<|lT f<|l.take i++r++l.drop (i+n)).holds w0 a w' H' (AT a t):=pb w' H' r hy.le hn3 Jk;have h1:=wE hs (B0 _<|Au ht) rfl rfl (λq hq _ b hb=>AX.Q2<|AJ.Oq rfl EX hb) hy' Gz<|λb' B2=> .inl B2
 have h2:=Ps (h1.weaken (Ae:=del dd ((t,.buf E sz<|lT f<|l.take i++r++l.drop (i+n))::B4 t Γ)) M3) Cp Ox (s:=IA BP) (v:=rv) (by
  match BP with
  |[]=>simp[IA,AJ.Bn]
  |[_]=>simp[IA,AJ.Bn]
  |_::_::_=>simp[IA,AJ.Bn]) (Uo hr)<|λb e=>absurd e<|AJ.free_spec Uv
 refine k _ w' H'<|h2.weaken λq hq=>?_
 simp only[Ag] at hq⊢;rcases hq with h|h|h
 ·exact .inl h
 ·subst h;exact .inr (RU (by simp) (λe=>hne e.symm) (by simp[AJ.Bn]))
 ·have:=pJ h;exact .inr<|RU (Bi _<|M3 _ h) this.1 this.2
def w9{r:A3 α}{fn:FuncId}{ys:A3 Bu}{pre post BP:A3 Ty}(hf:∀z,(f z).n=sz)
 (hS:∀(ps qs:A3 AO),ps.length=i*sz->IN P fn pre (.EZ E ps qs<|lT f<|(l.drop i).take n) (.EZ E ps qs<|lT f r) post BP)(hx:EU Γ x u)(hu:look Γ u=some (.win t i n sz))(ht:look Γ t=some (.buf E sz<|lT f l))
 (hn:(Nat.blt 0 n&&Nat.ble (i+n) l.length&&Nat.beq r.length n)=true)(ha:AL Γ xs pre)(hb:AL Γ ys post)(Cp:dd<N)(hne:(dd !=t)=true):
  Step P N ops ⟨some dd,.call ⟨.value<| .func fn,(xs++x::ys).toArray,Ec⟩,ty,pos,af,none⟩ Γ ((dd,IA BP)::(t,.buf E sz<|lT f<|l.take i++r++l.drop (i+n))::del dd (B4 t Γ)):=
 ait (λ_ h=>h) hf hS hx hu ht hn ha hb Cp (by simpa using hne)
structure gM(P:Bs)(f:FuncId)(E:Af)(sz:Nat)(bl:A3 Ty)(args:A3 Ty)(l:A3 Ty):Prop where
 can:GA P f=true
 run:∀(w:AK) (H:HV) (v:AO) (xs:A3 AO) (vs:A3 AO),(∀r o,H r=some o->w.heap[r]? =some o)->Kp P H->w.ownsRow 0 E sz v bl.length xs->D4 H bl xs->(∀b,v.ownBlock=some b->H b=none)->EW H args vs->
  Calls P f (v::vs).toArray w λe w'=>∃r,e= .returned r/\E9 w w' v.ownBlock/\∃xs',w'.ownsRow 0 E sz r l.length xs'/\D4 H l xs'/\∀b,r.ownBlock=some b->v.ownBlock=some b
def ahJ{s:Bu}{f:FuncId}{bl:A3 Ty}{args l:A3 Ty}(WC:gM P f E sz bl args l)(hs:s= .tmp t\/∃u,s= .tmp u/\look Γ u=some (.same t))(ht:look Γ t=some (.buf E sz bl))(ha:AL Γ xs args)(Cp:dd<N):
  Pa P N ops Γ ⟨some dd,.call ⟨.value<| .func f,(s::xs).toArray,Ec⟩,ty,pos,af,none⟩ t dd (.buf E sz l):=by
 intro Dx B0 w0 H0 a w H B1 K Q k;simp only[Region.wanted,if_true];have hb:=B1.holds _<|B0 _<|Au ht
 obtain⟨ys,hr,ho,hn⟩:=hb;have es:a.eval s=AT a t:=by
  rcases hs with rfl|⟨u,rfl,hu⟩
  ·rfl
  ·exact B1.holds _<|B0 _<|Au hu
 have e0:execOp a.eval ⟨some dd,.call ⟨.value<| .func f,(s::xs).toArray,Ec⟩,ty,pos,af,none⟩=callFunc f (#[]++(s::xs).toArray.map a.eval++ #[]):=rfl;unfold Oper.wp;rw[e0,Ob WC.can,VT];have e2:(#[]++(s::xs).toArray.map a.eval++ #[])=(AT a t::xs.map a.eval).toArray:=by simp[es]
 rw[e2];refine(WC.run w H _ ys _ B1.sub B1.gl hr ho (λb hb=>(hn b hb).1)<|ha.ok<|B1.weaken B0).mono ?_;rintro e w' ⟨r,rfl,hg,xs',h3,h4,h5⟩;have iI:∀b,(AT a t).ownBlock=some b->w0.Du b/\H b=none/\∀l,w.heap[b]? ≠some (.deferred l):=λb hb=>⟨(hn b hb).2,(hn b hb).1,λl e=>by
  obtain⟨_,_,o,h3,h4⟩:=AJ.IP (s:= .buf E sz bl) (B:=w0) (a:=a) ⟨ys,hr,ho,hn⟩ hb;rw[h3] at e;cases e;exact h4⟩
 have iD:∀b o,H b=some o->w'.heap[b]? =some o:=λc o hc=>by
  rw[hg.block c (lt_of_heap<|B1.sub c o hc) (λe2=>by rw[(hn c e2.symm).1] at hc;cases hc)];exact B1.sub c o hc
 have L4:∀q∈del dd (B4 t Dx),∀c,q.2.owns w (AT a q.1) c->(AT a t).ownBlock≠some c:=λq hq c hc e=>
  B1.sep _ (B0 _<|Au ht) q (Cq q<|M3 q hq).1 (λe=>(Cq q<|M3 q hq).2 e.symm) c e hc
 have Hj:Sat w0 H0 N (del dd<|B4 t Dx) a w' H:=
  aiH B1 hg iI (HV.le.refl _) (λ_ _ _=>rfl) iD λq hq=>⟨(Cq q<|M3 q hq).1,L4 q hq⟩
 refine k _ w' H (Ps Hj Cp Ox (by simp[AJ.Bn]) ⟨xs',h3,h4,λb hb=>⟨(hn b<|h5 b hb).1,(hn b<|h5 b hb).2⟩⟩ ?_);intro b hb q hq hq2;have hb:r.ownBlock=some b:=hb;have H4:=(Cq q<|M3 q hq).1;have F:Far w0.lo (λb=>q.2.owns w (AT a q.1) b) w H w' H:=by
  have hk:∀c,c<w.heap.size->(c<w0.lo\/q.2.owns w (AT a q.1) c)->(AT a t).ownBlock≠some c:=λc _ h e=>by
   rcases h with h|h
   ·have:=AX.Q2 (hn c e).2;omega
   ·exact L4 q hq c h e
  exact⟨hg.size,hg.os,hg.tape,hg.output,hg.drawn,HV.le.refl _,λc hc h=>hg.block c hc<|λe=>hk c hc h e.symm,λ_ _ _=>rfl,iD⟩
 exact L4 q hq b (((AJ.Xs (B1.holds q H4) F).2 b).1 hq2)<|h5 b hb
def agV{f:FuncId}{bl:A3 Ty}{args l:A3 Ty}(WC:gM P f E sz bl args l)(hu:look Γ u=some (.same t))(ht:look Γ t=some (.buf E sz bl))(ha:AL Γ xs args)(Cp:dd<N):
  Step P N ops ⟨some dd,.call ⟨.value<| .func f,(.tmp u::xs).toArray,Ec⟩,ty,pos,af,none⟩ Γ ((dd,.buf E sz l)::del dd (B4 t Γ)):=ahJ WC (.inr ⟨u,rfl,hu⟩) ht ha Cp Γ<|λ_ h=>h
end
section
variable[D:DR]
variable{P:Program}{w0:AX P}{H0:HV}{N:Nat}{Q:Exit->Act->World->Prop}{Γ Ae:Ctx}{d:Option Tmp}{ty:TypeId}{pos:String}{af:Array Edge}{g:Option (Nat×Bool)}
def ao3{T:Af}{τ:Ty}(h:DS P T τ):DS P T (IB τ.n τ.agg):=⟨λw=>by
 obtain⟨z,h1,h2⟩:=h.run w;exact⟨z,h1,λH=>τ.shape<|h2 H⟩⟩
def oT{β:Type}(F:β->Ty)(n:Nat)(agg:Bool)(h:∀x,(F x).n=n/\(F x).agg=agg)(o:A6 β):Ty where
 n:=n
 agg:=agg
 ok:=λH v=>match o with
  |some x=>(F x).ok H v
  |none=>Shape n agg v
 mono:=λ{H H' v} hl k=>by
  cases o with
  |none=>exact k
  |some x=>exact(F x).mono hl k
 shape:=λ{H v} k=>by
  cases o with
  |none=>exact k
  |some x=>have:=(F x).shape k;rwa [(h x).1,(h x).2] at this
def mlk{α β:Type}[DecidableEq α](l:A3 (α×β))(x:α):A6 β:=match mix x l with
 |none=>none
 |some j=>(l[j]?).map (·.2)
def aiz{w0:AX P}{β:Type}{F:β->Ty}{n:Nat}{agg:Bool}{h:∀x,(F x).n=n/\(F x).agg=agg}{o:A6 β}{t:Nat}{T:Af}{z:β}(ht:look Γ t=some (.own T<|oT F n agg h o))(hs:(!o.isSome)=false):Ia w0 N Γ ((t,.own T<|F<|o.getD z)::B4 t Γ):=λH0 a w H B1=>by
 obtain⟨b,x,e,hb,hx,hH,hB⟩:=B1.holds _<|Au ht
 refine⟨H,lD (us:=[]) B1 (λq hq=>Cq q hq) ⟨b,x,e,hb,?_,hH,hB⟩ (λc hc=>⟨_,Au ht,.inl rfl,hc⟩) (λ_ _ h=>by cases h)⟩;cases o with
 |none=>cases hs
 |some y=>exact hx
end
section
variable[D:DR]
variable{P:Program}{w0:AX P}{H0:HV}{N:Nat}{Q:Exit->Act->World->Prop}{Γ Ae:Ctx}{d:Option Tmp}{ty:TypeId}{pos:String}{af:Array Edge}{g:Option (Nat×Bool)}
variable{α β:Type}[DecidableEq α]{K E Eb T:TypeId}{sz:Nat}{fK:α->Ty}
def amN{F:β->Ty}{n:Nat}{agg:Bool}{hF:∀x,(F x).n=n/\(F x).agg=agg}{t:Nat}{m k:Bu}{l:A3 (α×β)}{x:α}(hT:Tv P T K E=true)(hk:Rt P K fK)(hz:DS P E (IB n agg))(hm:QX Γ m t)(ht:look Γ t=some (.GJ K E Eb sz<|mM fK (λv=> .val<|F v) l))(hx:Arg Γ k (fK x)):
  Aq P Γ ⟨d,.lookup T m k true,ty,pos,af,g⟩ (.Kz [oT F n agg hF<|mlk l x,Ar (mlk l x).isSome]):=
 DL λ_ _ _ a w H hs=>by
  obtain⟨r,es,e,hr,hn,hmi,ho,Hs⟩:=hs.holds _<|Au ht
  have em:a.eval m= .map (some r):=by rw[hm.ok hs];exact e
  have HK:=hx.ok hs;obtain⟨k1,k2⟩:=yJ ho;have hf:=run_findKey hk HK (w:=w) k1 k2;have hc:=hk.check H _ x HK es.isEmpty w;obtain⟨zv,hzr,hzo⟩:=hz.run w;cases hmx:mix x l with
  |none=>
   rw[hmx] at hf;refine⟨.tuple #[zv,.bool false],?_,⟨#[zv,.bool false],rfl,?_⟩,rfl⟩
   ·simp[execOp,em,Instr.lookup,EY<|Y6 hT,run_getObj_map hr,hc,hf,hzr]
   ·have:mlk l x=none:=by simp[mlk,hmx]
    rw[this];exact⟨_,_,rfl,hzo H,_,_,rfl,rfl,rfl⟩
  |some j=>
   rw[hmx] at hf;obtain⟨v,hv⟩:=n9 hmx;obtain⟨y,h1,_,h3,_⟩:=ZC ho (j:=j) (k:=fK x) (e:= .val<|F v) (by simp[hv]);simp only[P6,h1,Yj] at hf;refine⟨.tuple #[y.val,.bool true],?_,⟨#[y.val,.bool true],rfl,?_⟩,rfl⟩
   ·simp[execOp,em,Instr.lookup,EY<|Y6 hT,run_getObj_map hr,hc,hf]
   ·have:mlk l x=some v:=by simp[mlk,hmx,hv]
    rw[this];exact⟨_,_,rfl,h3,_,_,rfl,rfl,rfl⟩
end
section
variable[D:DR]
variable{P:Program}{w0:AX P}{H0:HV}{N:Nat}{Q:Exit->Act->World->Prop}{Γ Ae:Ctx}{d:Option Tmp}{ty:TypeId}{pos:String}{af:Array Edge}{g:Option (Nat×Bool)}
def amo{α:Type}{f:α->Ty}{l:A3 α}{ops:Aw Oper}{o:Oper}{t dd:Nat}{E:Af}{sz:Nat}{s:AJ}(ht:look Γ t=some (.buf E sz<|lT f l))(h:Aq P ((t,.val<|TL f l)::B4 t Γ) o s)(hg:o.guard=none)(hd:o.dst=some dd)(hN:dd<N)(hl:s.LO dd=false):Pa P N ops Γ o t dd s:=λDx B0=>by
 intro w0 H0 a w H B1 K Q k;simp only[Region.wanted,hg,if_true];have H4:=B0 _<|Au ht
 obtain⟨xs,hr,ho,hn⟩:=B1.holds _ H4;have CG:=bk (τ:=TL f l) B1 H4 (λb=>(AT a t).ownBlock=some b) (λb h=>⟨h,(hn b h).2⟩) (Vp (a:=a) ⟨xs,hr,ho,hn⟩ (λr o h=>by
  by_cases e:(AT a t).ownBlock=some r
  ·rw[(hn r e).1] at h;cases h
  ·simp[e,h]) (λb hb _ o hbo=>by simp[hb,hbo]))
 refine h w0 H0 N a w _ (CG.weaken ?_) K Q λv w' H'' he hv hbb=>?_
 ·intro q hq;rcases Ag.1 hq with e|hq
  ·subst e;exact Dm
  ·exact Bi _<|Ov (B0 q (Cq q hq).1) (Cq q hq).2
 ·rw[hd];exact k _ _ _<|RO (CG.weaken λq hq=>Bi _<|M3 q hq) he hN Ox (Xk hl) hv hbb
end
section
variable[D:DR]
def ck(b:Bool)(p:Prop):Prop:=match b with
 |true=>p
 |false=>False
def ck_{b:Bool}{p:Prop}(h:ck b p):b=true/\p:=by
 cases b
 ·exact h.elim
 ·exact⟨rfl,h⟩
def lkV(o:A6 AJ)(K:Ty->Prop):Prop:=match o with
 |some (.val τ)=>K τ
 |_=>False
def qK{o:A6 AJ}{K:Ty->Prop}(h:lkV o K):∃τ,o=some (.val τ)/\K τ:=by
 unfold lkV at h;split at h
 ·exact⟨_,rfl,h⟩
 ·exact h.elim
def KG(Γ:Ctx):A3 Nat->A6 Ctx
 |[]=>some []
 |t::ts=>match look Γ t,KG Γ ts with
  |some s,some Ae=>some ((t,s)::Ae)
  |_,_=>none
def Mg{Γ:Ctx}:∀{ts:A3 Nat} {Ae:Ctx},KG Γ ts=some Ae->E2 Γ ts Ae
 |[],_,h=>by cases h;exact .nil
 |t::ts,Ae,h=>by
  unfold KG at h;split at h
  ·rename_i h1 h2;cases h;exact .cons h1<|Mg h2
  ·cases h
end
section
variable[D:DR]
variable{P:Program}{w0:AX P}{H0:HV}{N:Nat}{ops:Array Oper}{Γ Ae EM:Ctx}{l:List Oper}{d:Nat}{op:Op}{ty:TypeId}{pos:String}{af:Array Edge}{K:Ctx->Prop}{Q:Exit->Act->World->Prop}
variable{s:AJ}
structure CK(P:Bs)(w0:AX P)(N:Nat)(ops:Aw Oper)(l:A3 Oper)(Γ:Ctx)(K:Ctx->Prop):Prop where
 w:∃Ae,Ib P w0 N ops l Γ Ae/\K Ae
def fr(N d:Nat)(s:AJ)(Γ:Ctx):Bool:=Nat.blt d N&&(J1 d Γ&& !s.LO d)
def fo(N d:Nat)(s:AJ):Bool:=Nat.blt d N&& !s.LO d
def fr_{N d:Nat}{Γ:Ctx}(h:fr N d s Γ=true):d<N/\J1 d Γ=true/\s.LO d=false:=by
 simp only[fr,BU,F6] at h;exact⟨AU h.1,h.2.1,h.2.2⟩
def fo_{N d:Nat}(h:fo N d s=true):d<N/\s.LO d=false:=by
 simp only[fo,BU,F6] at h;exact⟨AU h.1,h.2⟩
def cP(h:Aq P Γ ⟨some d,op,ty,pos,af,none⟩ s)(r:ck (fr N d s Γ) (CK P w0 N ops l ((d,s)::Γ) K)):CK P w0 N ops (⟨some d,op,ty,pos,af,none⟩::l) Γ K:=by
 obtain⟨hb,Ae,h1,h2⟩:=ck_ r;obtain⟨b1,b2,b3⟩:=fr_ hb;exact⟨Ae,.cons (Step.pure h rfl rfl b1 b2 b3) h1,h2⟩
def cO(h:Aq P Γ ⟨some d,op,ty,pos,af,none⟩ s)(r:ck (fo N d s) (CK P w0 N ops l ((d,s)::del d Γ) K)):CK P w0 N ops (⟨some d,op,ty,pos,af,none⟩::l) Γ K:=by
 obtain⟨hb,Ae,h1,h2⟩:=ck_ r;obtain⟨b1,b3⟩:=fo_ hb;exact⟨Ae,.cons (Step.over h rfl rfl b1 b3) h1,h2⟩
def cS{o:Oper}(h:Step P N ops o Γ EM)(r:CK P w0 N ops l EM K):CK P w0 N ops (o::l) Γ K:=by
 obtain⟨Ae,h1,h2⟩:=r;exact⟨Ae,.cons h h1,h2⟩
def cG(h:Ia w0 N Γ EM)(r:CK P w0 N ops l EM K):CK P w0 N ops l Γ K:=by
 obtain⟨Ae,h1,h2⟩:=r;exact⟨Ae,.ghost h h1,h2⟩
def cF(ts:A3 Nat)(h:KG Γ ts=some EM)(r:K EM):CK P w0 N ops [] Γ K:=⟨EM,.fin<|Mg h,r⟩
def cY{ts:A3 Nat}(h:E2 Γ ts EM)(r:K EM):CK P w0 N ops [] Γ K:=⟨EM,.fin h,r⟩
def cPr(h:Aq P Γ ⟨some d,op,ty,pos,af,none⟩ s)(hb:fr N d s Γ=true)(r:CK P w0 N ops l ((d,s)::Γ) K):CK P w0 N ops (⟨some d,op,ty,pos,af,none⟩::l) Γ K:=cP h (by rw[hb];exact r)
def at3(m t:Nat):Bool:=Nat.beq (Nat.mod (Nat.div m<|Nat.pow 2 t) 2) 1
def fm(m:Nat):Ctx->A6 Ctx
 |[]=>some []
 |(t,s)::Γ=>match at3 m t with
  |true=>match fm m Γ with
   |some Ae=>some ((t,s)::Ae)
   |none=>none
  |false=>fm m Γ
def fm_{m:Nat}:∀{Γ Ae:Ctx},fm m Γ=some Ae->∀q∈Ae,q∈Γ
 |[],_,h,q,hq=>by cases h;exact hq
 |(t,s)::Γ,Ae,h,q,hq=>by
  unfold fm at h;split at h
  ·split at h
   ·rename_i h1;cases h;rcases Ag.1 hq with e|hq
    ·rw[e];simp
    ·exact Bi _<|fm_ h1 q hq
   ·cases h
  ·exact Bi _<|fm_ h q hq
def gm{m:Nat}(h:fm m Γ=some EM):Ia w0 N Γ EM:=λ_ _ _ H hs=>⟨H,hs.weaken<|fm_ h⟩
def U(m:Nat)(h:fm m Γ=some EM)(r:K EM):CK P w0 N ops [] Γ K:=cG (gm h) ⟨EM,.done,r⟩
def cWm(m:Nat)(h:fm m Γ=some EM)(r:CK P w0 N ops l EM K):CK P w0 N ops l Γ K:=cG (gm h) r
def cD(r:K Γ):CK P w0 N ops [] Γ K:=⟨Γ,.done,r⟩
end
section
variable[D:DR]
variable{P:Program}{w0:AX P}{H0:HV}{N:Nat}{ops:Array Oper}{Γ Ae EM:Ctx}{l:List Oper}{d:Nat}{op:Op}{ty:TypeId}{pos:String}{af:Array Edge}{K:Ctx->Prop}{Q:Exit->Act->World->Prop}
variable{x y:Operand}{t t':Nat}{T T':TypeId}{τ σ:Ty}{k:IntKind}{m n:Int}{b e:Bool}
variable{off:Nat}{α:Type}{L:A3 Ty}{g:A6 (Nat×Bool)}
abbrev G(P:Bs)(w0:AX P)(N:Nat)(ops:Aw Oper)(l:A3 Oper)(Γ:Ctx)(K:Ctx->Prop)(d:Nat)(s:AJ):Prop:=ck (fr N d s Γ)<|CK P w0 N ops l ((d,s)::Γ) K
def lkT(o:A6 AJ)(K:A3 Ty->Prop):Prop:=match o with
 |some (.Kz l)=>K l
 |_=>False
def aai{o:A6 AJ}{K:A3 Ty->Prop}(h:lkT o K):∃l,o=some (.Kz l)/\K l:=by
 unfold lkT at h;split at h
 ·exact⟨_,rfl,h⟩
 ·exact h.elim
def lkO{α:Type}(o:A6 α)(K:α->Prop):Prop:=match o with
 |some x=>K x
 |_=>False
def aqd{o:A6 α}{K:α->Prop}(h:lkO o K):∃x,o=some x/\K x:=by
 unfold lkO at h;split at h
 ·exact⟨_,rfl,h⟩
 ·exact h.elim
def cM(r:lkV (look Γ t) λτ=>G P w0 N ops l Γ K d<| .val τ):CK P w0 N ops (⟨some d,.move<| .tmp t,ty,pos,af,none⟩::l) Γ K:=by
 obtain⟨τ,h1,h2⟩:=qK r;exact cP (o0<| .t h1) h2
def cA(r:lkV (look Γ t) λτ=>G P w0 N ops l Γ K d<| .val τ):CK P w0 N ops (⟨some d,.assign<| .tmp t,ty,pos,af,none⟩::l) Γ K:=by
 obtain⟨τ,h1,h2⟩:=qK r;exact cP (B9<| .t h1) h2
def cI(r:G P w0 N ops l Γ K d (.val<|TI k n)):CK P w0 N ops (⟨some d,.assign<| .const<| .int k n,ty,pos,af,none⟩::l) Γ K:=cP (B9 .int) r
def cB(r:G P w0 N ops l Γ K d (.val<|Ar b)):CK P w0 N ops (⟨some d,.assign<| .const<| .bool b,ty,pos,af,none⟩::l) Γ K:=cP (B9 .bool) r
def cN(r:G P w0 N ops l Γ K d (.val<|TI k n)):CK P w0 N ops (⟨some d,.move<| .const<| .int k n,ty,pos,af,none⟩::l) Γ K:=cP (o0 .int) r
def cX(r:lkV (look Γ t) λτ=>G P w0 N ops l Γ K d<| .own T τ):CK P w0 N ops (⟨some d,.box T<| .tmp t,ty,pos,af,none⟩::l) Γ K:=by
 obtain⟨τ,h1,h2⟩:=qK r;exact cP (amS<| .t h1) h2
def cE{i:Nat}(r:lkT (look Γ t) λL=>lkO L[i]? λτ=>G P w0 N ops l Γ K d<| .val τ):CK P w0 N ops (⟨some d,.extract (.tmp t) i,ty,pos,af,none⟩::l) Γ K:=by
 obtain⟨L,h1,h2⟩:=aai r;obtain⟨τ,h3,h4⟩:=aqd h2;exact cP (H8 h1 h3) h4
def cZ(r:lkT (look Γ t) λL=>G P w0 N ops l Γ K d<| .Kz L):CK P w0 N ops (⟨some d,.move<| .tmp t,ty,pos,af,none⟩::l) Γ K:=by
 obtain⟨L,h1,h2⟩:=aai r;exact cP (Ot h1) h2
def cQ(r:G P w0 N ops l Γ K d (.same t)):CK P w0 N ops (⟨some d,.move<| .tmp t,ty,pos,af,none⟩::l) Γ K:=cP Da r
def cU(h:look Γ t=some (.own T' τ))(hT:BX P T τ.n τ.agg=true)(r:G P w0 N ops l Γ K d (.val τ)):CK P w0 N ops (⟨some d,.load T<| .tmp t,ty,pos,af,none⟩::l) Γ K:=cP (An h hT) r
def cR(h:look Γ t=some (.val<|JZ τ))(hT:BX P T τ.n τ.agg=true)(r:G P w0 N ops l Γ K d (.val τ)):CK P w0 N ops (⟨some d,.load T<| .tmp t,ty,pos,af,none⟩::l) Γ K:=cP (BY (.t h) hT) r
def lk2(Γ:Ctx)(t:Nat):A6 (Nat×Ty):=match look Γ t with
 |some (.ptr t' off)=>match look Γ t' with
  |some (.own _ τ)=>some (off,τ)
  |_=>none
 |_=>none
def aqe{Γ:Ctx}{t:Nat}{τ:Ty}(h:lk2 Γ t=some (off,τ)):∃t' T,look Γ t=some (.ptr t' off)/\look Γ t'=some (.own T τ):=by
 unfold lk2 at h;split at h
 ·rename_i h1;split at h
  ·rename_i h2;cases h;exact⟨_,_,h1,h2⟩
  ·cases h
 ·cases h
def pick(L:A3 Ty)(i off:Nat):A6 Ty:=match Nat.beq (Bx<|L.take i) off with
 |true=>L[i]?
 |false=>none
def pR{i:Nat}{σ:Ty}(h:pick L i off=some σ):BF (Co L) off σ:=by
 unfold pick at h;split at h
 ·rename_i e;exact .agg h<|Dj e
 ·cases h
def oP{d:A6 Tmp}(i:Nat)(h:lk2 Γ t=some (off,Co L))(h1:pick L i off=some σ)(hT:BX P T σ.n σ.agg=true):Aq P Γ ⟨d,.load T<| .tmp t,ty,pos,af,g⟩ (.val σ):=by
 obtain⟨t',T',k1,k2⟩:=aqe h;exact FZ k1 k2 (pR h1) hT
def cV(i:Nat)(h:lk2 Γ t=some (off,Co L))(h1:pick L i off=some σ)(hT:BX P T σ.n σ.agg=true)(r:G P w0 N ops l Γ K d (.val σ)):CK P w0 N ops (⟨some d,.load T<| .tmp t,ty,pos,af,none⟩::l) Γ K:=cP (oP i h h1 hT) r
def cK{k':Nat}(h:look Γ t=some (.own T' τ))(hf:G5 P T k' off=true)(r:G P w0 N ops l Γ K d (.ptr t off)):CK P w0 N ops (⟨some d,.fieldAddr T (.tmp t) k',ty,pos,af,none⟩::l) Γ K:=cP (FH h hf) r
def cJ{f:α->Ty}{L:A3 α}(hT:Db P T=true)(h:look Γ t=some (.val<|TL f L))(r:G P w0 N ops l Γ K d (.val<|TI .i64 L.length)):CK P w0 N ops (⟨some d,.call ⟨.builtin .len,#[.tmp t],#[T]⟩,ty,pos,af,none⟩::l) Γ K:=cP (L9 hT<| .t h) r
def cT(h:DS P T τ)(r:G P w0 N ops l Γ K d (.own T τ)):CK P w0 N ops (⟨some d,.alloc T,ty,pos,af,none⟩::l) Γ K:=cP (Ls h) r
def cH{r':Int}(h:look Γ t=some (.val<|TI .i64 m))(h1:AE (m+n)=some r')(r:G P w0 N ops l Γ K d (.val<|TI .i64 r')):CK P w0 N ops (⟨some d,.binOp .add T (.tmp t) (.const<| .int .i64 n) T',ty,pos,af,none⟩::l) Γ K:=cP (CR (.t h) .int h1) r
def cL(h:look Γ t=some (.val<|TI k m))(h':look Γ t'=some (.val<|TI k n))(r:G P w0 N ops l Γ K d (.val<|Ar<|decide<|m<n)):CK P w0 N ops (⟨some d,.binOp .lss T (.tmp t) (.tmp t') T',ty,pos,af,none⟩::l) Γ K:=cP (CV (.t h)<| .t h') r
def oX{f:α->Ty}{L:A3 α}{d:A6 Tmp}{i:Int}{sz:Nat}{y:α}(hT:Fl P T sz=true)(hf:∀z,(f z).n=sz)(hx:look Γ t=some (.val<|TL f L))(hi:look Γ t'=some (.val<|TI k i))(h:A8 L i=some y):Aq P Γ ⟨d,.indexAddr T (.tmp t)<| .tmp t',ty,pos,af,g⟩ (.val<|JZ<|f y):=Eu hT hf (.t hx) (.t hi) h
def PW(Γ:Ctx):A3 Bu->A6 (A3 Ty)
 |[]=>some []
 | .tmp t::xs=>match look Γ t,PW Γ xs with
  |some (.val τ),some l=>some (τ::l)
  |_,_=>none
 | .const (.int k n)::xs=>match PW Γ xs with
  |some l=>some (TI k n::l)
  |_=>none
 | .const (.bool b)::xs=>match PW Γ xs with
  |some l=>some (Ar b::l)
  |_=>none
 |_=>none
def ZZ{Γ:Ctx}:∀{xs:A3 Bu} {l:A3 Ty},PW Γ xs=some l->AL Γ xs l
 |[],_,h=>by cases h;exact .nil
 | .tmp t::xs,l,h=>by
  unfold PW at h;split at h
  ·rename_i h1 h2;cases h;exact .cons (.t h1)<|ZZ h2
  ·cases h
 | .const (.int k n)::xs,l,h=>by
  unfold PW at h;split at h
  ·rename_i h2;cases h;exact .cons .int<|ZZ h2
  ·cases h
 | .const (.bool b)::xs,l,h=>by
  unfold PW at h;split at h
  ·rename_i h2;cases h;exact .cons .bool<|ZZ h2
  ·cases h
def oC{f:FuncId}{xs:A3 Bu}{Ec:Aw Af}{args:A3 Ty}{BP:Res}{d:A6 Tmp}(hf:EE P f args BP)(ha:PW Γ xs=some args):Aq P Γ ⟨d,.call ⟨.value<| .func f,xs.toArray,Ec⟩,ty,pos,af,g⟩ (qH BP):=Fa hf<|ZZ ha
def cC{f:FuncId}{xs:A3 Bu}{Ec:Aw Af}{args:A3 Ty}{BP:Res}(hf:EE P f args BP)(ha:PW Γ xs=some args)(r:G P w0 N ops l Γ K d (qH BP)):CK P w0 N ops (⟨some d,.call ⟨.value<| .func f,xs.toArray,Ec⟩,ty,pos,af,none⟩::l) Γ K:=cP (oC hf ha) r
def gV{j dj:Nat}{want:Bool}{AY:Ctx}{s:AJ}(hj:(ops[j]?).bind (·.dst)=some dj)(hl:look Γ dj=some (.val<|Ar b))(ho:Ja Γ (gd b want) AY)(h:gd b want=true->Aq P AY ⟨some d,op,ty,pos,af,some (j,want)⟩ s)(r:ck (Nat.blt dj N&&fr N d s Γ) (CK P w0 N ops l ((d,.opt (gd b want) s)::Γ) K)):CK P w0 N ops (⟨some d,op,ty,pos,af,some (j,want)⟩::l) Γ K:=by
 obtain⟨hb,Ae,h1,h2⟩:=ck_ r;rw[BU] at hb;obtain⟨b1,b2,b3⟩:=fr_ hb.2;exact⟨Ae,.cons (Step.guarded (.v rfl hj hl<|AU hb.1) (opO ho h) rfl b1 b2 b3) h1,h2⟩
def gO{j dj:Nat}{want:Bool}{AY:Ctx}{s:AJ}(hj:(ops[j]?).bind (·.dst)=some dj)(hl:look Γ dj=some (.opt e<| .val<|Ar b))(ho:Ja Γ (e&&gd b want) AY)(h:(e&&gd b want)=true->Aq P AY ⟨some d,op,ty,pos,af,some (j,want)⟩ s)(r:ck (Nat.blt dj N&&fr N d s Γ) (CK P w0 N ops l ((d,.opt (e&&gd b want) s)::Γ) K)):CK P w0 N ops (⟨some d,op,ty,pos,af,some (j,want)⟩::l) Γ K:=by
 obtain⟨hb,Ae,h1,h2⟩:=ck_ r;rw[BU] at hb;obtain⟨b1,b2,b3⟩:=fr_ hb.2;exact⟨Ae,.cons (Step.guarded (.o rfl hj hl<|AU hb.1) (opO ho h) rfl b1 b2 b3) h1,h2⟩
end
section
variable[D:DR]
variable{P:Program}{w0:AX P}{H0:HV}{N:Nat}{ops:Array Oper}{Γ Ae EM:Ctx}{l:List Oper}{d:Nat}{op:Op}{ty:TypeId}{pos:String}{af:Array Edge}{K:Ctx->Prop}{Q:Exit->Act->World->Prop}
def rS{id:Nat}{y:Code}(r:ck (J3 l) (CK P w0 N l.toArray l Γ λAe=>Goal P w0 H0 N y Q Ae)):Goal P w0 H0 N (.seq (.region id l.toArray false) y) Q Γ:=by
 obtain⟨Al,Ae,h1,h2⟩:=ck_ r;exact A7<|xE Al h1<|A5 h2
def rK{id:Nat}(r:ck (J3 l) (CK P w0 N l.toArray l Γ λAe=>E1 w0 H0 N (Q .normal) Ae)):Goal P w0 H0 N (.region id l.toArray false) Q Γ:=by
 obtain⟨Al,Ae,h1,h2⟩:=ck_ r;exact xE Al h1 h2
structure PK(P:Bs)(N:Nat)(ops:Aw Oper)(Γ:Ctx)(acc:A3 Ctx)(l:A3 Oper)(K:A3 (A3 Nat)->A3 Bool->A3 Ctx->Prop):Prop where
 w:∃DV DU S,EV P N ops Γ acc l DV DU S/\K DV DU S
end
section
variable[D:DR]
variable{P:Program}{w0:AX P}{H0:HV}{N:Nat}{ops:Array Oper}{Γ Ae EM:Ctx}{l:List Oper}{d:Nat}{op:Op}{ty:TypeId}{pos:String}{af:Array Edge}{K:Ctx->Prop}{Q:Exit->Act->World->Prop}
variable{acc:List Ctx}{ts:List Nat}{AY:Ctx}{s s' su:AJ}{t u:Nat}{o:Oper}{R:List (List Nat)->List Bool->List Ctx->Prop}
def dN(r:R [] [] acc):PK P N ops Γ acc [] R:=⟨_,_,_,.nil,r⟩
def dP(ts:A3 Nat)(hs:KG (acc.flatten++Γ) ts=some AY)(h:Aq P AY ⟨some d,op,ty,pos,af,none⟩ s)(r:ck (Nat.blt d N) (PK P N ops Γ ([(d,s)]::acc) l λn p S=>R (ts::n) (true::p) S)):PK P N ops Γ acc (⟨some d,op,ty,pos,af,none⟩::l) R:=by
 obtain⟨hb,n,p,S,h1,h2⟩:=ck_ r;exact⟨_,_,S,.cons (Mg hs) h rfl rfl (AU hb) h1,h2⟩
def dV{j dj:Nat}{want b:Bool}{Γj:Ctx}(ts:A3 Nat)(hs:KG (acc.flatten++Γ) ts=some AY)(hj:(ops[j]?).bind (·.dst)=some dj)(hl:look AY dj=some (.val<|Ar b))(ho:Ja AY (gd b want) Γj)(h:gd b want=true->Aq P Γj ⟨some d,op,ty,pos,af,some (j,want)⟩ s)(r:ck (Nat.blt dj N&&Nat.blt d N) (PK P N ops Γ ([(d,.opt (gd b want) s)]::acc) l λn p S=>R (ts::n) (true::p) S)):PK P N ops Γ acc (⟨some d,op,ty,pos,af,some (j,want)⟩::l) R:=by
 obtain⟨hb,n,p,S,h1,h2⟩:=ck_ r;rw[BU] at hb;exact⟨_,_,S,.guarded (Mg hs) (.v rfl hj hl<|AU hb.1) (opO ho h) rfl (AU hb.2) h1,h2⟩
def dS(ts:A3 Nat)(hs:KG (acc.flatten++Γ) ts=some AY)(h:PY P N ops AY o t s)(r:PK P N ops Γ ([(t,s)]::acc) l λn p S=>R (ts::n) (false::p) S):PK P N ops Γ acc (o::l) R:=by
 obtain⟨n,p,S,h1,h2⟩:=r;exact⟨_,_,S,.store (Mg hs) h h1,h2⟩
def dG(gs ts:A3 Nat)(hs:KG (acc.flatten++Γ) ts=some AY)(h:Pa P N ops AY o t d s)(r:PK P N ops Γ (((d,s)::(t,.gone)::gs.map λu=>(u,.gone))::acc) l λn p S=>R (ts::n) (true::p) S):PK P N ops Γ acc (o::l) R:=by
 obtain⟨n,p,S,h1,h2⟩:=r;exact⟨_,_,S,.asx gs (Mg hs) h h1,h2⟩
def dT(ts:A3 Nat)(hs:KG (acc.flatten++Γ) ts=some AY)(h:j9 P N ops AY o t s' d s)(r:PK P N ops Γ ([(d,s),(t,s')]::acc) l λn p S=>R (ts::n) (true::p) S):PK P N ops Γ acc (o::l) R:=by
 obtain⟨n,p,S,h1,h2⟩:=r;exact⟨_,_,S,.two (Mg hs) h h1,h2⟩
end
section
variable[D:DR]
variable{P:Program}{w0:AX P}{H0:HV}{N:Nat}{ops:Array Oper}{Γ Ae EM:Ctx}{l:List Oper}{d:Nat}{op:Op}{ty:TypeId}{pos:String}{af:Array Edge}{K:Ctx->Prop}{Q:Exit->Act->World->Prop}
def Wc(ops:A3 Oper):A3 (A3 Nat):=ops.foldl (λav o=>av++[(List.range av.length).filter λj=>(Td o).any λe=>e.on==j||(av.getD e.on []).contains j]) []
def DE(P:Bs)(w0:AX P)(N:Nat)(ops:A3 Oper)(k:Nat)(Γ:Ctx)(K:Ctx->Prop)(DV:A3 (A3 Nat))(DU:A3 Bool)(S:A3 Ctx):Prop:=
 ∃ts FV,(OG ops.toArray (Wc ops)&&SX k (S.reverse.map LX) DV DU (O0 Γ) (Wc ops)&&QE ops.toArray k (Wc ops))=true/\KG (S.flatten++Γ) ts=some FV/\CK P w0 N ops.toArray (ops.drop k) FV K
def dE{DV:A3 (A3 Nat)}{DU:A3 Bool}{S:A3 Ctx}{k:Nat}{FV:Ctx}(ts:A3 Nat)(hs:KG (S.flatten++Γ) ts=some FV)(hc:(OG l.toArray (Wc l)&&SX k (S.reverse.map LX) DV DU (O0 Γ) (Wc l)&&QE l.toArray k (Wc l))=true)(r:CK P w0 N l.toArray (l.drop k) FV K):DE P w0 N l k Γ K DV DU S:=⟨ts,FV,hc,hs,r⟩
def gD{id:Nat}(k:Nat)(hm:P.follows .mixedOrders=true)(r:ck (J3 l) (PK P N l.toArray Γ [] (l.take k)<|DE P w0 N l k Γ λAe=>E1 w0 H0 N (Q .normal) Ae)):Goal P w0 H0 N (.region id l.toArray true) Q Γ:=by
 obtain⟨Al,n,p,S,h1,ts,FV,hc,hs,Ae,h2,h3⟩:=ck_ r;exact an1 (k:=k) Al _ _ _ _ _ hm hc h1 rfl rfl (Mg hs) h2 h3
def gE{id:Nat}{y:Code}(k:Nat)(hm:P.follows .mixedOrders=true)(r:ck (J3 l) (PK P N l.toArray Γ [] (l.take k)<|DE P w0 N l k Γ λAe=>Goal P w0 H0 N y Q Ae)):Goal P w0 H0 N (.seq (.region id l.toArray true) y) Q Γ:=
 A7 (gD k hm (by
  obtain⟨Al,r⟩:=ck_ r;rw[Al];obtain⟨n,p,S,h1,ts,FV,hc,hs,Ae,h2,h3⟩:=r;exact⟨n,p,S,h1,ts,FV,hc,hs,Ae,h2,A5 h3⟩))
end
section
variable[D:DR]
variable{P:Program}{w0:AX P}{H0:HV}{N:Nat}{ops:Array Oper}{Γ Ae EM:Ctx}{l:List Oper}{d:Nat}{op:Op}{ty:TypeId}{pos:String}{af:Array Edge}{K:Ctx->Prop}{Q:Exit->Act->World->Prop}
variable{x y:Operand}{t t':Nat}{T T':TypeId}{τ σ:Ty}{k:IntKind}{m n:Int}{b e:Bool}{g:Option (Nat×Bool)}{dd:Option Tmp}
variable{sz:Nat}{ps:A3 (Nat×Bu)}{l':A3 Ty}
def aT(h:look Γ t=some (.val τ)):Arg Γ (.tmp t) τ:= .t h
def aI:Arg Γ (.const<| .int k n) (TI k n):= .int
def aB:Arg Γ (.const<| .bool b) (Ar b):= .bool
def sS(ts:A3 Nat)(h:KG Γ ts=some Ae):E2 Γ ts Ae:=Mg h
def oM(h:look Γ t=some (.val τ)):Aq P Γ ⟨dd,.move<| .tmp t,ty,pos,af,g⟩ (.val τ):=o0<| .t h
def oA(h:look Γ t=some (.val τ)):Aq P Γ ⟨dd,.assign<| .tmp t,ty,pos,af,g⟩ (.val τ):=B9<| .t h
def iO{i:Int}{len:Nat}(h:look Γ t=some (.own T' τ))(hT:Kw P T len sz=true)(hc:(decide (0<=i)&&decide (i<(len:Int)))=true):Aq P Γ ⟨dd,.indexAddr T (.tmp t)<| .const<| .int k i,ty,pos,af,g⟩ (.ptr t<|i.toNat*sz):=by
 rw[BU,Nz,Nz] at hc;exact tM h hT .int hc.1 hc.2
def WA(Γ:Ctx):A3 (Nat×Bu)->A3 Ty->A6 (A3 Ty)
 |[],l=>some l
 |(i,x)::ps,l=>match PW Γ [x],l[i]? with
  |some [σ],some τ=>match Nat.beq σ.n τ.n with
   |true=>WA Γ ps<|l.set i σ
   |false=>none
  |_,_=>none
def pV{Γ:Ctx}:∀{ps:A3 (Nat×Bu)} {l l':A3 Ty},WA Γ ps l=some l'->Dp P Γ ps l l'
 |[],_,_,h=>by cases h;exact .nil
 |(i,x)::ps,l,l',h=>by
  unfold WA at h;split at h
  ·rename_i σ τ h1 h2;split at h
   ·rename_i h3;cases ZZ h1 with
    |cons ha _=>exact .cons ha h2 (Dj h3)<|pV h
   ·cases h
  ·cases h
def bB{l:A3 Ty}(hz:DS P T (Co l))(hT:N4 P T (Ey l)=true)(hp:WA Γ ps l=some l'):Aq P Γ ⟨dd,.build T ps.toArray,ty,pos,af,g⟩ (.val<|Co l'):=dq hz hT<|pV hp
def bA{n:Nat}{l:A3 Ty}(hz:DS P T (Co l))(hT:Kw P T n sz=true)(hu:(l.all λτ=>Nat.beq τ.n sz)=true)(hp:WA Γ ps l=some l'):Aq P Γ ⟨dd,.build T ps.toArray,ty,pos,af,g⟩ (.val<|Co l'):=
 Xb hz hT (λτ h=>Dj<|Cy.1 hu τ h) (pV hp)
def bS{E:Af}{n:Nat}(hz:DS P E τ)(hT:GZ P T E sz=true)(hp:WA Γ ps (List.replicate n τ)=some l')(hc:(Nat.beq τ.n sz&&(Nat.blt 0 (n*sz)&&(Nat.ble (n*sz) 16777216&&Nat.beq l'.length n)))=true):Aq P Γ ⟨dd,.buildSlice T n ps.toArray,ty,pos,af,g⟩ (.val<|FY l'):=by
 simp only[BU] at hc;exact sr hz hT (Dj hc.1) hc.2.1 hc.2.2.1 (pV hp)<|Dj hc.2.2.2
def cs(ht:look Γ t=some (.own T' τ))(hx:look Γ t'=some (.val σ))(hn:σ.n=τ.n)(hT:BX P T σ.n σ.agg=true)(r:CK P w0 N ops l ((t,.own T' σ)::B4 t Γ) K):CK P w0 N ops (⟨none,.store T (.tmp t)<| .tmp t',ty,pos,af,none⟩::l) Γ K:=cS (ady ht (.t hx) hn hT) r
def ds(ht:look Γ t=some (.own T' τ))(hx:look Γ t'=some (.val σ))(hn:σ.n=τ.n)(hT:BX P T σ.n σ.agg=true):PY P N ops Γ ⟨none,.store T (.tmp t)<| .tmp t',ty,pos,af,none⟩ t (.own T' σ):=ade ht (.t hx) hn hT
def ov(t:Nat){s:AJ}(h:look Γ t=some s)(r:Ja Γ e Ae):Ja Γ e ((t,s)::Ae):= .v h r
def oo(t:Nat){s:AJ}{c:Bool}(h:look Γ t=some (.opt c s))(k:e=true->c=true)(r:Ja Γ e Ae):Ja Γ e ((t,s)::Ae):= .o h k r
def on:Ja Γ e []:= .nil
end
section
variable[D:DR]
variable{P:Program}{w0:AX P}{H0:HV}{N:Nat}{ops:Array Oper}{Γ Ae EM:Ctx}{l:List Oper}{d:Nat}{op:Op}{ty:TypeId}{pos:String}{af:Array Edge}{K:Ctx->Prop}{Q:Exit->Act->World->Prop}
variable{α β γ δ ε ζ ρ:Type}{r:ρ}{e:Option α}{f:α->Option β}{g:α->β->Option γ}{h:α->β->γ->Option δ}{i:α->β->γ->δ->Option ε}{j:α->β->γ->δ->ε->Option ζ}
def b2{K:α->β->A6 ρ}(q:(bd e λx=>bd (f x)<|K x)=some r):∃x,e=some x/\∃y,f x=some y/\K x y=some r:=by
 obtain⟨x,h1,q⟩:=Ao q;obtain⟨y,h2,q⟩:=Ao q;exact⟨x,h1,y,h2,q⟩
def b3{K:α->β->γ->A6 ρ}(q:(bd e λx=>bd (f x) λy=>bd (g x y)<|K x y)=some r):∃x,e=some x/\∃y,f x=some y/\∃z,g x y=some z/\K x y z=some r:=by
 obtain⟨x,h1,y,h2,q⟩:=b2 q;obtain⟨z,h3,q⟩:=Ao q;exact⟨x,h1,y,h2,z,h3,q⟩
def b4{K:α->β->γ->δ->A6 ρ}(q:(bd e λx=>bd (f x) λy=>bd (g x y) λz=>bd (h x y z)<|K x y z)=some r):∃x,e=some x/\∃y,f x=some y/\∃z,g x y=some z/\∃u,h x y z=some u/\K x y z u=some r:=by
 obtain⟨x,h1,y,h2,z,h3,q⟩:=b3 q;obtain⟨u,h4,q⟩:=Ao q;exact⟨x,h1,y,h2,z,h3,u,h4,q⟩
def b5{K:α->β->γ->δ->ε->A6 ρ}(q:(bd e λx=>bd (f x) λy=>bd (g x y) λz=>bd (h x y z) λu=>bd (i x y z u)<|K x y z u)=some r):∃x,e=some x/\∃y,f x=some y/\∃z,g x y=some z/\∃u,h x y z=some u/\∃v,i x y z u=some v/\K x y z u v=some r:=by
 obtain⟨x,h1,y,h2,z,h3,u,h4,q⟩:=b4 q;obtain⟨v,h5,q⟩:=Ao q;exact⟨x,h1,y,h2,z,h3,u,h4,v,h5,q⟩
def b6{K:α->β->γ->δ->ε->ζ->A6 ρ}(q:(bd e λx=>bd (f x) λy=>bd (g x y) λz=>bd (h x y z) λu=>bd (i x y z u) λv=>bd (j x y z u v)<|K x y z u v)=some r):∃x,e=some x/\∃y,f x=some y/\∃z,g x y=some z/\∃u,h x y z=some u/\∃v,i x y z u=some v/\∃w,j x y z u v=some w/\K x y z u v w=some r:=by
 obtain⟨x,h1,y,h2,z,h3,u,h4,v,h5,q⟩:=b5 q;obtain⟨w,h6,q⟩:=Ao q;exact⟨x,h1,y,h2,z,h3,u,h4,v,h5,w,h6,q⟩
end
section
variable[D:DR]
variable{P:Program}{w0:AX P}{H0:HV}{N:Nat}{ops:Array Oper}{Γ Ae EM:Ctx}{l:List Oper}{d:Nat}{op:Op}{ty:TypeId}{pos:String}{af:Array Edge}{K:Ctx->Prop}{Q:Exit->Act->World->Prop}
variable{α β γ δ ε ζ ρ:Type}{r:ρ}{e:Option α}{f:α->Option β}{g:α->β->Option γ}{h:α->β->γ->Option δ}{i:α->β->γ->δ->Option ε}{j:α->β->γ->δ->ε->Option ζ}
variable{P:Program}{w0:AX P}{H0:HV}{N:Nat}{c:Code}{Q:Exit->Act->World->Prop}{Γ:Ctx}
def AB{e:A6 α}{K:α->A6 ρ}(q:bd e K=some r)(k:∀x,e=some x->K x=some r->Goal P w0 H0 N c Q Γ):Goal P w0 H0 N c Q Γ:=by
 obtain⟨x,h,q⟩:=Ao q;exact k x h q
def BL{b:Bool}{d:α}{e:A6 α}{K:α->A6 ρ}(q:Aa b d e K=some r)(k:∀x,(b=true->e=some x)->K x=some r->Goal P w0 H0 N c Q Γ):Goal P w0 H0 N c Q Γ:=by
 obtain⟨x,h,q⟩:=L6 q;exact k x h q
def gcI{b:Bool}{K:A6 ρ}(q:gC b K=some r)(k:b=true->K=some r->Goal P w0 H0 N c Q Γ):Goal P w0 H0 N c Q Γ:=k (Vi q).1 (Vi q).2
def BE{K:α->β->A6 ρ}(q:(bd e λx=>bd (f x)<|K x)=some r)(k:∀x,e=some x->∀y,f x=some y->K x y=some r->Goal P w0 H0 N c Q Γ):Goal P w0 H0 N c Q Γ:=
 AB q λx h1 q=>AB q λy h2 q=>k x h1 y h2 q
def Cu{K:α->β->γ->A6 ρ}(q:(bd e λx=>bd (f x) λy=>bd (g x y)<|K x y)=some r)(k:∀x,e=some x->∀y,f x=some y->∀z,g x y=some z->K x y z=some r->Goal P w0 H0 N c Q Γ):Goal P w0 H0 N c Q Γ:=
 BE q λx h1 y h2 q=>AB q λz h3 q=>k x h1 y h2 z h3 q
def Ir{K:α->β->γ->δ->A6 ρ}(q:(bd e λx=>bd (f x) λy=>bd (g x y) λz=>bd (h x y z)<|K x y z)=some r)(k:∀x,e=some x->∀y,f x=some y->∀z,g x y=some z->∀u,h x y z=some u->K x y z u=some r->Goal P w0 H0 N c Q Γ):Goal P w0 H0 N c Q Γ:=
 Cu q λx h1 y h2 z h3 q=>AB q λu h4 q=>k x h1 y h2 z h3 u h4 q
def KR{K:α->β->γ->δ->ε->A6 ρ}(q:(bd e λx=>bd (f x) λy=>bd (g x y) λz=>bd (h x y z) λu=>bd (i x y z u)<|K x y z u)=some r)(k:∀x,e=some x->∀y,f x=some y->∀z,g x y=some z->∀u,h x y z=some u->∀v,i x y z u=some v->K x y z u v=some r->Goal P w0 H0 N c Q Γ):Goal P w0 H0 N c Q Γ:=
 Ir q λx h1 y h2 z h3 u h4 q=>AB q λv h5 q=>k x h1 y h2 z h3 u h4 v h5 q
def Iq{K:α->β->γ->δ->ε->ζ->A6 ρ}(q:(bd e λx=>bd (f x) λy=>bd (g x y) λz=>bd (h x y z) λu=>bd (i x y z u) λv=>bd (j x y z u v)<|K x y z u v)=some r)(k:∀x,e=some x->∀y,f x=some y->∀z,g x y=some z->∀u,h x y z=some u->∀v,i x y z u=some v->∀w,j x y z u v=some w->K x y z u v w=some r->Goal P w0 H0 N c Q Γ):Goal P w0 H0 N c Q Γ:=
 KR q λx h1 y h2 z h3 u h4 v h5 q=>AB q λw h6 q=>k x h1 y h2 z h3 u h4 v h5 w h6 q
end
section
variable[D:DR]
variable{P:Program}{w0:AX P}{H0:HV}{N:Nat}{ops:Array Oper}{Γ Ae EM:Ctx}{l:List Oper}{d:Nat}{op:Op}{ty:TypeId}{pos:String}{af:Array Edge}{K:Ctx->Prop}{Q:Exit->Act->World->Prop}
variable{t:Nat}{x y:Code}{b:Bool}{ρ α:Type}{r:ρ}
def gc{X Y:A6 ρ}(hl:look Γ t=some (.val<|Ar b))(hm:cond b X Y=some r)(hx:b=true->X=some r->Goal P w0 H0 N x Q Γ)(hy:b=false->Y=some r->Goal P w0 H0 N y Q Γ):Goal P w0 H0 N (.cond (.tmp t) x y) Q Γ:=
 Tk hl (λh=>hx h<|anV hm h) (λh=>hy h<|anW hm h)
def cm{Ii:α->Ctx}{k:α->A6 ρ}{i:α}(hm:k i=some r)(h:KG Γ ((Ii i).map (·.1))=some (Ii i)):E1 w0 H0 N (λa w=>Mid w0 H0 N Ii k r a w) Γ:=apN hm<|Mg h
def gl{σ:Type}(AY:σ->Ctx){n:Nat}{B:(σ->A6 ρ)->σ->A6 ρ}{s0:σ}{c:Code}(hm:lp n B s0=some r)(h0:KG Γ ((AY s0).map (·.1))=some (AY s0))
  (round:∀(k:σ->A6 ρ) (s:σ),B k s=some r->Goal P w0 H0 N c (Exit.then (Mid w0 H0 N AY k r) Q) (AY s)):Goal P w0 H0 N (.loop c) Q Γ:=zW AY hm (Mg h0) round
end
section
variable[D:DR]
variable{P:Program}{w0:AX P}{H0:HV}{N:Nat}{ops:Array Oper}{Γ Ae EM:Ctx}{l:List Oper}{d:Nat}{op:Op}{ty:TypeId}{pos:String}{af:Array Edge}{K:Ctx->Prop}{Q:Exit->Act->World->Prop}
variable{f:FuncId}{fn:Func}{t t' T:Nat}{T':TypeId}{τ GH σ σ':Ty}{Q:Exit->Act->World->Prop}
def AP{c:Code}{args:A3 Ty}{BP:Res}{N:Nat}(hf:P.funcs[f]? =some fn)(hb:(fn.body,fn.ntmps)=(some c,N))(hc:(GA P f&&Nat.ble args.length N)=true)
  (h:∀{w0 H0},Goal P (AX.call P w0) H0 N c (QO P fn (AX.call P w0) H0 BP)<|Gy 0 args):EE P f args BP:=by
 rw[BU] at hc;rw[LC] at hb;exact afI hf hb.1 hb.2 (EP hc.2) hc.1 λ_ _=>h
def r1(h:(((w0.X,w0.IF,w0.ds,w0.rd),fn.results),look Γ t)=(((Jj,false,[],none),[.tmp t].toArray),some<| .val τ)):E1 w0 H0 N (λa w=>QO P fn w0 H0 (.vs [τ]) .ret a w) Γ:=by
 simp only[LC] at h;exact C6 (by simp only[h]) h.1.2<| .tmp h.2 rfl .nil
def AV{ρ:Type}{r x:ρ}{F:ρ->Ty}(q:some x=some r)(h:(((w0.X,w0.IF,w0.ds,w0.rd),fn.results),look Γ t)=(((Jj,false,[],none),[.tmp t].toArray),some<| .val<|F x)):E1 w0 H0 N (λa w=>QO P fn w0 H0 (.vs [F r]) .ret a w) Γ:=by
 cases q;exact r1 h
def r2(h:(((w0.X,w0.IF,w0.ds,w0.rd),fn.results),look Γ t,look Γ t')=(((Jj,false,[],none),[.tmp t,.tmp t'].toArray),some<| .val τ,some<| .val σ)):E1 w0 H0 N (λa w=>QO P fn w0 H0 (.vs [τ,σ]) .ret a w) Γ:=by
 simp only[LC] at h;exact C6 (by simp only[h]) h.1.2<| .tmp h.2.1 rfl<| .tmp h.2.2 rfl .nil
def q1(h:(((w0.X,w0.IF,w0.ds,w0.rd),fn.results),look Γ t)=(((Jj,false,[],none),[.cell t T].toArray),some<| .own T' τ))(hT:BX P T τ.n τ.agg=true):E1 w0 H0 N (λa w=>QO P fn w0 H0 (.vs [τ]) .ret a w) Γ:=by
 simp only[LC] at h;exact C6 (by simp only[h]) h.1.2<| .cell h.2 (F7 hT) rfl .nil
def C1{ρ:Type}{r x:ρ}{F:ρ->Ty}(q:some x=some r)(h:(((w0.X,w0.IF,w0.ds,w0.rd),fn.results),look Γ t)=(((Jj,false,[],none),[.cell t T].toArray),some<| .own T'<|F x))(hT:BX P T (F x).n (F x).agg=true):E1 w0 H0 N (λa w=>QO P fn w0 H0 (.vs [F r]) .ret a w) Γ:=by
 cases q;exact q1 h hT
end
section
variable[D:DR]
variable{P:Program}{w0:AX P}{H0:HV}{N:Nat}{ops:Array Oper}{Γ Ae EM:Ctx}{l:List Oper}{d:Nat}{op:Op}{ty:TypeId}{pos:String}{af:Array Edge}{K:Ctx->Prop}{Q:Exit->Act->World->Prop}
variable{t d' k' off:Nat}{T T' T2 Jd:TypeId}{σ:Ty}{L:List Ty}{pos':String}{Ky:Array Edge}{acc:List Ctx}{R:List (List Nat)->List Bool->List Ctx->Prop}
def YR{Γ:Ctx}{t:Nat}{s:AJ}:look ((t,s)::Γ) t=some s:=by simp[look]
def oG{Γ:Ctx}{d t:Nat}{s s':AJ}(h:Nat.beq d t=false)(k:look Γ t=some s'):look ((d,s)::Γ) t=some s':=by
 unfold look;rw[h];exact k
def Bh(i:Nat)(h:look Γ t=some (.own T'<|Co L))(hf:G5 P T k' off=true)(h1:pick L i off=some σ)(hT:BX P T2 σ.n σ.agg=true)(r:ck (fr N d (.ptr t off) Γ&&(!Nat.beq d t&&fr N d' (.val σ) ((d,.ptr t off)::Γ))) (CK P w0 N ops l ((d',.val σ)::(d,.ptr t off)::Γ) K)):
  CK P w0 N ops (⟨some d,.fieldAddr T (.tmp t) k',ty,pos,af,none⟩::⟨some d',.load T2<| .tmp d,Jd,pos',Ky,none⟩::l) Γ K:=by
 obtain⟨hb,hk⟩:=ck_ r;simp only[BU,F6] at hb;refine cP (FH h hf) ?_;rw[hb.1];refine cP (FZ YR (oG hb.2.1 h) (pR h1) hT) ?_;rw[hb.2.2];exact hk
def dQ(i:Nat)(h:look (acc.flatten++Γ) t=some (.own T'<|Co L))(hf:G5 P T k' off=true)(h1:pick L i off=some σ)(hT:BX P T2 σ.n σ.agg=true)(r:ck (Nat.blt d N&&(Nat.blt d' N&& !Nat.beq d t)) (PK P N ops Γ ([(d',.val σ)]::[(d,.ptr t off)]::acc) l λn p S=>R ([t]::[d,t]::n) (true::true::p) S)):
  PK P N ops Γ acc (⟨some d,.fieldAddr T (.tmp t) k',ty,pos,af,none⟩::⟨some d',.load T2<| .tmp d,Jd,pos',Ky,none⟩::l) R:=by
 obtain⟨hb,n,p,S,k1,k2⟩:=ck_ r;simp only[BU,F6] at hb;have e:look (([(d,AJ.ptr t off)]::acc).flatten++Γ) d=some (.ptr t off):=by simpa using YR
 have e':look (([(d,AJ.ptr t off)]::acc).flatten++Γ) t=some (.own T'<|Co L):=by simpa using oG hb.2.2 h
 exact⟨_,_,S,.cons (.cons h .nil) (FH YR hf) rfl rfl (AU hb.1)<| .cons (.cons e<| .cons e' .nil) (FZ YR (oG hb.2.2 YR) (pR h1) hT) rfl rfl (AU hb.2.1) k1,k2⟩
end
section
variable[D:DR]
variable{P:Program}{w0:AX P}{H0:HV}{N:Nat}{ops:Array Oper}{Γ Ae EM:Ctx}{l:List Oper}{d:Nat}{op:Op}{ty:TypeId}{pos:String}{af:Array Edge}{K:Ctx->Prop}{Q:Exit->Act->World->Prop}
variable{ρ:Type}{r:ρ}
def ak6{A B:Ctx}{ts us:A3 Nat}(h:E2 Γ ts A)(k:E2 Γ us B):E2 Γ (ts++us) (A++B):=by
 induction h with
 |nil=>exact k
 |cons h _ ih=>exact .cons h ih
def Av{σ:Type}(ks:A3 Nat){Γ0:Ctx}(hk:KG Γ ks=some Γ0)(AY:σ->Ctx){n:Nat}{B:(σ->A6 ρ)->σ->A6 ρ}{s0:σ}{c:Code}(hm:lp n B s0=some r)(h0:KG Γ ((AY s0).map (·.1))=some (AY s0))
  (round:∀(k:σ->A6 ρ) (s:σ),B k s=some r->Goal P w0 H0 N c (Exit.then (Mid w0 H0 N (λs=>AY s++Γ0) k r) Q) (AY s++Γ0)):Goal P w0 H0 N (.loop c) Q Γ:=zW (λs=>AY s++Γ0) hm (ak6 (Mg h0)<|Mg hk) round
def Cc{α:Type}(ks:A3 Nat){Γ0:Ctx}(hk:KG Γ ks=some Γ0)(Ii:α->Ctx){K:α->A6 ρ}{E:(α->A6 ρ)->A6 ρ}{x:Code}(hm:jn K E=some r)
  (h:∀k,E k=some r->Goal P w0 H0 N x (Exit.then (Mid w0 H0 N (λs=>Ii s++Γ0) k r) Q) Γ)(kk:∀i,K i=some r->E1 w0 H0 N (Q .normal) (Ii i++Γ0)):Goal P w0 H0 N x Q Γ:=Ry (λs=>Ii s++Γ0) hm h kk
end
section
variable{α:Type}{c:α->α->Option Int}
def NL{α ρ:Type}{e:A6 α}{K:α->A6 ρ}{r:ρ}(h:bd e K=some r):∃x,e=some x/\K x=some r:=by
 cases e with
 |none=>cases h
 |some x=>exact⟨x,rfl,h⟩
def dJ:∀{l r:A3 α} {x:α},NZ c x l=some r->r.Perm (x::l)
 |[],r,x,h=>by cases h;exact .refl _
 |y::l,r,x,h=>by
  obtain⟨k,_,h⟩:=NL h;cases hb:decide (k<0) with
  |true=>
   rw[hb] at h;obtain⟨r',hr,h⟩:=NL (K:=λr=>some (y::r)) h;cases h;exact((dJ hr).cons y).trans<| .swap x y l
  |false=>
   rw[hb] at h;have h:some (x::y::l)=some r:=h;cases h;exact .refl _
def vd:∀(l:A3 α) (s r:A3 α),Il l (λnext x s=>bd (NZ c x s) next) s (λs=>some s.reverse)=some r->r.Perm (s++l)
 |[],s,r,h=>by
  have h:some s.reverse=some r:=h;cases h;simpa using s.reverse_perm
 |x::l,s,r,h=>by
  obtain⟨s',hs,h⟩:=NL h;refine(vd l s' r h).trans ?_;refine((dJ hs).append_right l).trans ?_;exact List.perm_middle.symm
def tw{l r:A3 α}(h:gj c l=some r):r.Perm l:=by
 simpa using vd l [] r h
end
section
variable{α:Type}[DecidableEq α]{c:α×α->Option Int}
variable{s:A3 α}
def vo:∀{l:A3 α} {x:α},Wd c x l=true->∀y∈l,x=y\/∃i j,c (x,y)=some i/\c (y,x)=some j/\i<0/\0<=j
 |[],_,_,y,hy=>by cases hy
 |z::l,x,h,y,hy=>by
  unfold Wd at h;rw[BU] at h;rcases Ag.1 hy with e|hy
  ·subst e;cases hd:decide (x=y) with
   |true=>exact .inl<|AZ hd
   |false=>
    rw[hd] at h;refine .inr ?_;have h:=h.1;simp only[B8] at h;split at h
    ·rename_i i j e1 e2;rw[BU,Ev,Ev] at h;exact⟨i,j,e1,e2,h.1,h.2⟩
    ·cases h
  ·exact vo h.2 y hy
def lV:∀{s:A3 α},OJ c s=true->(∀x∈s,∃i,c (x,x)=some i/\0<=i)/\s.Pairwise λx y=>x=y\/∃i j,c (x,y)=some i/\c (y,x)=some j/\i<0/\0<=j
 |[],_=>⟨λx h=>(by cases h),.nil⟩
 |x::s,h=>by
  unfold OJ at h;rw[BU,BU] at h;obtain⟨h1,h2,h3⟩:=h;obtain⟨k1,k2⟩:=lV h3;refine⟨λy hy=>?_,.cons (vo h2) k2⟩;rcases Ag.1 hy with e|hy
  ·subst e;split at h1
   ·rename_i i e;exact⟨i,e,AZ h1⟩
   ·cases h1
  ·exact k1 y hy
def gk{x:α}(h:x∈s):∃hl:s.idxOf x<s.length,s[s.idxOf x]=x:=
 ⟨List.idxOf_lt_length_iff.2 h,List.getElem_idxOf _⟩
def da(h:OJ c s=true){x y:α}(hx:x∈s)(hy:y∈s){v:Int}(hv:c (x,y)=some v):v<0↔s.idxOf x<s.idxOf y:=by
 obtain⟨k1,k2⟩:=lV h;obtain⟨lx,ex⟩:=gk hx;obtain⟨ly,ey⟩:=gk hy;have pw:=Yu.1 k2;rcases Nat.lt_trichotomy (s.idxOf x) (s.idxOf y) with hlt|heq|hgt
 ·have:=pw _ _ lx ly hlt;rw[ex,ey] at this;rcases this with e|⟨i,j,e1,e2,h1,h2⟩
  ·subst e;omega
  ·rw[hv] at e1;cases e1;exact⟨λ_=>hlt,λ_=>h1⟩
 ·have:x=y:=by rw[<-ex,<-ey];congr 1
  subst this;obtain⟨i,e,hi⟩:=k1 x hx;rw[hv] at e;cases e;omega
 ·have:=pw _ _ ly lx hgt;rw[ex,ey] at this;rcases this with e|⟨i,j,e1,e2,h1,h2⟩
  ·subst e;omega
  ·rw[hv] at e2;cases e2;omega
def aeY(h:OJ c s=true):s.Pairwise λx y=>s.idxOf x<=s.idxOf y:=by
 obtain⟨k1,k2⟩:=lV h;refine Yu.2 λi j hi hj Jm=>?_
 rcases Yu.1 k2 i j hi hj Jm with e|⟨a,b,e1,e2,h1,h2⟩
 ·rw[e];exact Az _
 ·have:=(da h (Kg hi) (Kg hj) e1).1 h1;omega
def vB{r:A3 α}(h:OJ c s=true)(hp:r.Perm s)(hr:r.Pairwise λx y=>s.idxOf x<=s.idxOf y):r=s:=by
 refine List.Perm.eq_of_pairwise (le:=λx y=>s.idxOf x<=s.idxOf y) ?_ hr (aeY h) hp;intro a b ha hb h1 h2;obtain⟨la,ea⟩:=gk<|hp.mem_iff.1 ha
 obtain⟨lb,eb⟩:=gk hb;have e:s.idxOf a=s.idxOf b:=by omega
 rw[<-ea,<-eb]
 congr 1
def XZ{l:A3 α}(h:I2 l c=some s):s.Perm l/\OJ c s=true/\(∀x∈l,∀y∈l,∃v,c (x,y)=some v)/\l.length<4611686018427387904:=by
 obtain⟨s',hs,h⟩:=NL h;unfold Dz at h;cases hb:Nat.blt l.length 4611686018427387904&&(totB c l&&OJ c s') with
 |false=>rw[hb] at h;cases h
 |true=>
  rw[hb] at h;cases h;rw[BU,BU] at hb;refine⟨tw hs,hb.2.2,λx hx y hy=>?_,EP hb.1⟩;have:=Cy.1 hb.2.1 x hx;have:=Cy.1 this y hy;exact Option.isSome_iff_exists.1 this
end
def O{α:Sort _}{a:α}:a=a:=rfl
def AM{α:Type}{f:α->Ty}{sz:Nat}(h:(λz=>(f z).n)=λ_=>sz):∀z,(f z).n=sz:=congrFun h
abbrev TiZ(n:Int):Ty:=TI .i64 n
abbrev A9:=List UInt8
abbrev Bz:=A9×A9×A9
abbrev HfZ:=(Int×Int×Int)×List UInt8
abbrev PlZ:=(Rat×Rat×Rat)×Rat
abbrev FcZ:=((Rat×Rat×Rat)×Rat)×List (Rat×Rat×Rat)
abbrev BdZ:=List ((Int×Int×Int)×List UInt8)
abbrev SpZ:=List (((Rat×Rat×Rat)×Rat)×List (Rat×Rat×Rat))
abbrev ShZ:=List ((Int×Int×Int)×List UInt8)×List (List UInt8×List UInt8×List UInt8)×List (List Int)
end Trn
