/- Part of SolidCuts. -/
import Derived.Test.YtieipfegkfhllaaGreatDoorEb
set_option maxRecDepth 100000
set_option maxHeartbeats 20000000
set_option linter.all false
open Go Go.RowKit Go.Proofs
namespace Trn
section
variable[D:DR]
variable{P:Program}{w0:Aj P}{H0:HV}{N:Nat}{ops:Array Oper}{Q:Exit->Act->World->Prop}{Γ An:Ctx}{d:Option Tmp}{ty:TypeId}{pos:String}{af:Array Edge}{g:Option (Nat×Bool)}
variable{l:A3 Ty}{ps:A3 Bt}{t:Nat}{w:AR}{H:HV}{sz:Nat}{T:Am}{B:Aj P}{a:Act}{Eb:Am}{p:Nat}{E:Am}
theorem Gj.ok(h:Gj l ps):∀{cs:A3 AV},DT H l cs->J2 B a w H ps cs/\(∀b,¬G9 w b ps cs)/\Ns w ps cs:=by
 induction h with
 |nil=>exact λe=>⟨e,λ_ h=>h,trivial⟩
 | @val τ l ps r ih=>
  rintro cs ⟨v,rest,e,hv,hr⟩;subst e;let⟨h1,h2,h3⟩:=ih hr;have hd:=(QM (p:= .val τ) (rest:=rest)<|τ.shape hv).2;refine⟨⟨v,rest,rfl,τ.shape hv,hv,h1⟩,λb h=>?_,λb h=>h.elim,?_⟩
  .rcases h with h|h
   .exact h
   .grind
  .rw[hd];exact h3
 | @buf α f x E sz l ps hx r ih=>
  rintro cs ⟨v,rest,e,hv,hr⟩;subst e;subst hx;let⟨h1,h2,h3⟩:=ih hr;have ev:=hv.2 rfl;subst ev;have CS:Shape (Bt.buf E sz []).n (Bt.buf E sz []).agg (.slice none 0 0):=Shape.one rfl;let⟨e1,hd⟩:=QM (p:= .buf E sz []) (rest:=rest) CS;refine⟨⟨_,rest,rfl,CS,xF,h1⟩,λb h=>?_,λb h=>?_,?_⟩
  .rcases h with h|h
   .rw[e1] at h;simp[Bt.owns,Value.ownBlock] at h
   .grind
  .grind
  .rw[hd];exact h3
def zZ:∀H v,(DB l).ok H v->DT H l v.cells.toList:=λ_ _ ⟨cs,e,h⟩=>by subst e;exact h
def zY{τ:Ty}:∀H v,τ.ok H v->DT H [τ] v.cells.toList:=λ_ v h=>⟨v,[],by simp,h,rfl⟩
def DC.pub:DC->Ty
 | .val τ=>τ| .buf l=>G3 l| .any=>Sv ⟨#[]⟩
def DC.isAny:DC->Bool
 | .any=>true|_=>false
def jx(p:Ty×DC):Ty×Ty:=(p.1,p.2.pub)
def zf{B:Aj P}{w:AR}{H H':HV}{Eb:Am}{sz:Nat}(hle:HV.le H H'):∀{i:Nat} {l:A3 (Ty×DC)} {es:A3 MapEntry},KN B w H Eb sz i l es->(∀p∈l,p.2.isAny=false)->(∀b,Hn b l es->H' b=w.heap[b]?)->okM H' i (l.map jx) es
 |_,[],[],_,_,_=>trivial|_,[],_::_,h,_,_=>h.elim|_,(_,_)::_,[],h,_,_=>h.elim
 |i,(k,e)::l,x::xs,⟨h1,h2,h3,h4⟩,hn,hw=>by refine⟨k.mono hle h1,?_,h3,zf hle h4 (λp hp=>hn p (by simp[hp])) λb hb=>hw b<| .inr hb⟩;cases e with|val τ=>exact τ.mono hle h2|any=>have:=hn (k,.any) (by simp);cases this|buf bl=>exact WS (a:=⟨#[],[]⟩) (B:=B) h2 hle λb hb _ o ho=>by rw[hw b<| .inl hb];exact ho
def aj1{H':HV}{EZ:A3 (Ty×DC)}{v:AV}(hle:HV.le H H')(h:Qs B w H Eb sz EZ v)(hn:∀p∈EZ,p.2.isAny=false)(hw:∀b,PU w EZ v b->H' b=w.heap[b]?):(kJ<|EZ.map jx).ok H' v:=by let⟨r,es,e,hr,_,_,ho,_⟩:=h;subst e;exact⟨r,es,rfl,by rw[hw r<| .inl rfl];exact hr,zf hle ho hn λb hb=>hw b<| .inr ⟨r,es,rfl,hr,hb⟩⟩
theorem ajv{Ai:Ctx}(BC:∀q∈Ai,q∈Γ){ps':A3 Bt}{x:CD}(hp:FI Ai p t 0)(ht:look Ai t=some (.D7 T true ps))(hx:Arg Ai x (DB l))(hl:Gj l ps')(hn:(ps.map Bt.n).sum=CR l)(hT:Bp P T (CR l) true=true)
 (BD:Sat w0 H0 N Γ a w H){K:Act->AR->Prop}(k:∀w',Sat w0 H0 N ((t,.D7 T true ps')::BF t Γ) a w' H->K a w'):(⟨none,.store T (.tmp p) x,ty,pos,af,none⟩:Oper).wp P a w K Q:=by
 let⟨b,cs,e,ep,hb,hnb,hm,Aw,IU,hx'⟩:=hp.ok ht<|BD.weaken BC
 have hxo:=hx.ok<|BD.weaken BC
 have CS:=(DB l).shape hxo;let⟨ys,ey,hy⟩:=hxo;have hcs:cs.size=CR l:=by have:=zd Aw;simpa[hn] using this
 have hsz:(a.eval x).cells.size=CR l:=CS.size;have F1:=T4 (P:=P) (x:=a.eval x) (off:=0) (Tj hT) hsz hb (by omega) CS.cell;rw[List.take_zero,Mx (by simp[hcs]),K7,Ig,Array.toArray_toList] at F1;rw[ey] at F1;unfold Oper.wp;have er:(execOp a.eval ⟨none,.store T (.tmp p) x,ty,pos,af,none⟩).run P w= .ok .skip (w.setRow b ys):=by simp[execOp,ep,Instr.storeAt,Instr.sureAddr,ey,F1,Value.cells]
 rw[er,QZ];have hg:Ed w (w.setRow b ys) (some b):=Ed.setRow w b _;have Ba:(w.setRow b ys).heap[b]? =some (.cells ys T (0,0)):=Ts w b _ _ _ _ hb;let⟨k1,k2,k3⟩:=hl.ok (B:=w0) (a:=a) (w:=w.setRow b ys) hy;refine k _<|P5 BD (BC _<|B6 ht) hg hm ⟨b,e,.inl rfl⟩ ⟨b,ys,e,Ba,hnb,hm,k1,k3,k2 _⟩ ?_
 rintro c ⟨c',e',hc⟩;simp[e] at e';cases e';rcases hc with hc|⟨cs2,hb2,hc⟩
 .subst hc;exact .inl ⟨c,e,.inl rfl⟩
 .grind
def alu(ps':A3 Bt){x:CD}(hp:FI Γ p t 0)(ht:look Γ t=some (.D7 T true ps))(hx:Arg Γ x (DB l))(hl:Gj l ps')(hn:(ps.map Bt.n).sum=CR l)(hT:Bp P T (CR l) true=true):Step P N ops ⟨none,.store T (.tmp p) x,ty,pos,af,none⟩ Γ ((t,.D7 T true ps')::BF t Γ):=by intro w0 H0 a w H hs K Q k;simp[Region.wanted,if_true];exact ajv (λ_ h=>h) hp ht hx hl hn hT hs λw' DO=>k a w' H DO
inductive Mc:A3 Bt->A3 Ty->Prop where
 |n:Mc [] []|c {τ:Ty} {l:A3 Ty} {ps:A3 Bt} (r:Mc ps l):Mc (.val τ::ps) (τ::l)
def Mc.ok(h:Mc ps l):∀{cs:A3 AV},J2 B a w H ps cs->DT H l cs:=by induction h with|n=>exact λe=>e|c r ih=>rintro cs ⟨v,rest,e,_,hv,hr⟩;exact⟨v,rest,e,hv,ih hr⟩
def zb(hp:FI Γ p t 0)(ht:look Γ t=some (.D7 T true ps))(hl:Mc ps l)(hT:Bp P T (CR l) true=true):Ay P Γ ⟨d,.load T<| .tmp p,ty,pos,af,g⟩ (.val<|DB l):=
 Di λ_ _ _ a w _ hs=>by
  let⟨b,cs,e,ep,hb,_,_,Aw,_⟩:=hp.ok ht hs;have h1:=hl.ok Aw;have h2:cs.size=CR l:=by have:=Mo h1;simpa using this
  have h3:=RI (off:=0) hT hb (by omega);rw[Pa,D5 (by simp[h2])] at h3;exact⟨.agg cs,by simp[execOp,ep,Instr.loadAt,Instr.sureAddr,h3,Gp],⟨cs,rfl,h1⟩,rfl⟩
open Classical in
theorem akp{w0:Aj P}{i:Nat}{gg:Bool}(ht:look Γ t=some (.D7 T gg ps))(hi:ps[i]? =some (.buf E sz l)):II w0 N Γ ((t,.D7 T gg<|ps.set i<| .val<|G3 l)::BF t Γ):=λH0 a w H hs=>by
 let⟨b,cs,e,hb,hnb,hm,Aw,IU,hx⟩:=hs.holds _<|B6 ht
 simp only at e;let⟨_,h3,h4,_⟩:=Ql Aw hi;have jT:=gK Aw hi
 generalize hv:pv (.buf E sz l) (Bl ps i) cs.toList=v at*
 obtain⟨S,hS⟩:∃S:Nat->Prop,∀c,S c↔v.ownBlock=some c:=⟨_,λ_=>Iff.rfl⟩;have hlt:=(FH.1 hi).1;have hown:∀c,v.ownBlock=some c->G9 w c ps cs.toList:=λc hc=>PF.2 ⟨i,_,hi,by rw[hv];exact hc⟩
 let⟨Dv,hcs,k1,k2,k3⟩:=Vn (q:= .any 1 false) (x:=v) Aw IU hi h3 rfl h3<|λc hc=>hc.elim
 rw[show Dv=cs.toList by rw[hcs];exact jT] at k1 k2 k3;have hle:HV.le H (λr=>if S r then w.heap[r]? else H r):=by
  intro r o ho;by_cases e:S r
  .rw[(QG Aw<|hown r<|(hS r).1 e).2.2.1] at ho;cases ho
  .simp[e,ho]
 have no:∀c,G9 w c (ps.set i<| .any 1 false) cs.toList->G9 w c ps cs.toList/\ ¬S c:=λc hc=>by
  rcases k3 c hc with h|h
  .exact h.elim
  .exact⟨h.1,λh'=>h.2 (by rw[hv];exact(hS c).1 h')⟩
 let⟨f1,f2,f3⟩:=gW (w':=w) hle k1 (λc hc=>⟨rfl,by simp[(no c hc).2]⟩);have hi':(ps.set i<| .any 1 false)[i]? =some (.any 1 false):=WK hlt;have sB:Bl (ps.set i<| .any 1 false) i=Bl ps i:=(pY (q:= .any 1 false) Aw hi h3 rfl h3).2.1;have KD:(G3 l).ok (λr=>if S r then w.heap[r]? else H r) v:=WS (a:=a) h4 hle (λc hc _ o ho=>by have:S c:=(hS c).2 hc;simp[this,ho]);let⟨cs2,sG,m1,m2,m3⟩:=Vn (q:= .val<|G3 l) (x:=v) f1 (f3 k2) hi' ((G3 l).shape KD) rfl KD<|λc hc=>hc.elim
 rw[show cs2=cs.toList by rw[sG,sB];exact jT,List.set_set] at m1 m2 m3;have nw:∀c,G9 w c (ps.set i<| .val<|G3 l) cs.toList->G9 w c ps cs.toList:=λc hc=>by
  rcases m3 c hc with h|h
  .exact h.elim
  .grind
 have hSb: ¬S b:=λh=>hx<|hown b<|(hS b).1 h
 refine⟨_,uy hs (B6 ht) S (λc hc=>⟨⟨b,e,.inr ⟨cs,hb,hown c<|(hS c).1 hc⟩⟩,(QG Aw<|hown c<|(hS c).1 hc).2.1⟩) ⟨b,cs,e,hb,by simp[hSb,hnb],hm,m1,m2,λhc=>hx<|nw b hc⟩ ?_⟩;rintro c ⟨c',e',hc⟩;rw[e] at e';cases e';refine⟨b,e,?_⟩;rcases hc with hc|⟨cs3,hb3,hc⟩
 .exact .inl hc
 .grind
def qE{w0:Aj P}{α:Type}{f:α->Ty}{l:A3 α}{i:Nat}{gg:Bool}(ht:look Γ t=some (.D7 T gg ps))(hi:ps[i]? =some (.buf E sz<|lT f l)):II w0 N Γ ((t,.D7 T gg<|ps.set i<| .val<|TL f l)::BF t Γ):=akp ht hi
def am8{w0:Aj P}{K:Am}{EZ:A3 (Ty×DC)}{M:A3 (Ty×Ty)}(ht:look Γ t=some (.Gm K E Eb sz EZ))(hn:∀p∈EZ,p.2.isAny=false)(hM:EZ.map jx=M):II w0 N Γ ((t,.val<|kJ M)::BF t Γ):=λH0 a w H hs=>by
 subst hM;have Aw:=hs.holds _<|B6 ht
 obtain⟨S,hS⟩:∃S:Nat->Prop,∀c,S c↔PU w EZ (Ae a t) c:=⟨_,λ_=>Iff.rfl⟩;refine⟨_,eC hs (B6 ht) S (λc hc=>⟨(hS c).1 hc,(Rz Aw<|(hS c).1 hc).2.1⟩) ?_⟩;refine aj1 ?_ Aw hn λb hb=>by have:S b:=(hS b).2 hb;simp[this]
 intro r o ho;by_cases e:S r
 .rw[(Rz Aw<|(hS r).1 e).2.2.1] at ho;cases ho
 .simp[e,ho]
end
section
variable[D:DR]
variable{P:Program}{w0:Aj P}{H0:HV}{N:Nat}{ops:Array Oper}{Q:Exit->Act->World->Prop}{Γ An:Ctx}{d:Option Tmp}{ty:TypeId}{pos:String}{af:Array Edge}{g:Option (Nat×Bool)}
variable{α β:Type}[DecidableEq α]
def mix(x:α):A3 (α×β)->AA Nat
 |[]=>none|p::l=>bif decide (x=p.1) then some 0 else(mix x l).map (· +1)
def X2(l:A3 (α×β))(x:α)(v:β):A3 (α×β):=match mix x l with|none=>l++[(x,v)]|some j=>l.set j (x,v)
def oV{x:α}:∀{l:A3 (α×β)} {j:Nat},mix x l=some j->∃v,l[j]? =some (x,v)
 |[],_,h=>by simp[mix] at h
 |p::l,j,h=>by
  simp[mix] at h;by_cases e:x=p.1
  .simp[e] at h;subst h;subst e;exact⟨p.2,rfl⟩
  .simp[e] at h;obtain⟨k,hk,rfl⟩:=h;let⟨v,hv⟩:=oV hk;exact⟨v,by simpa using hv⟩
end
section
variable[D:DR]
variable{P:Program}{w0:Aj P}{H0:HV}{N:Nat}{ops:Array Oper}{Q:Exit->Act->World->Prop}{Γ An:Ctx}{d:Option Tmp}{ty:TypeId}{pos:String}{af:Array Edge}{g:Option (Nat×Bool)}
variable{B:Aj P}{w:AR}{H:HV}{Eb:Am}{sz:Nat}
@[reducible] def mM{α β:Type}(fK:α->Ty)(fV:β->DC)(l:A3 (α×β)):A3 (Ty×DC):=l.map λp=>(fK p.1,fV p.2)
def Ud(P:CF)(T K E:Am):Bool:=match P.underlying T with|some (.map k e)=>Nat.beq k K&&Nat.beq e E|_=>false
def Yp{T K E:Am}(h:Ud P T K E=true):P.underlying T=some (.map K E):=by
 unfold Ud at h;split at h
 .rename_i k e hu;simp only[C4] at h;rw[hu,E9 h.1,E9 h.2]
 .cases h
structure SF{α:Type}[DecidableEq α](P:CF)(K:Am)(f:α->Ty):Prop where
 eq:∀(H:HV) (u v:AV) (x y:α),(f x).ok H u->(f y).ok H v->∀w:AR,(Op.equal K u v).run P w= .ok (decide<|x=y) w
 check:∀(H:HV) (u:AV) (x:α),(f x).ok H u->∀(e:Bool) (w:AR),(Instr.checkKey e 10000 K u).run P w= .ok () w
 kind:∃ud,P.underlying K=some ud/\∀u v,Instr.sameNow ud u v=none
 bits:∀(H:HV) (u v:AV) (x:α),(f x).ok H u->(f x).ok H v->Instr.sameBits 10000 u v=true
def aA{B:Aj P}{w:AR}{H:HV}{Eb:Am}{sz:Nat}:∀{i:Nat} {l:A3 (Ty×DC)} {es:A3 MapEntry} {j:Nat} {k:Ty} {e:DC},KN B w H Eb sz i l es->l[j]? =some (k,e)->∃x,es[j]? =some x/\k.ok H x.key/\e.holds B w H Eb sz x.val/\x.born=i+j
 |_,[],_,_,_,_,_,h=>by simp at h|_,(_,_)::_,[],_,_,_,h,_=>h.elim
 |i,(k',e')::l,x::xs,0,k,e,⟨h1,h2,h3,h4⟩,h=>by simp at h;obtain⟨rfl,rfl⟩:=h;exact⟨x,rfl,h1,h2,by simpa using h3⟩
 |i,(k',e')::l,x::xs,j+1,k,e,⟨h1,h2,h3,h4⟩,h=>by obtain⟨y,g1,g2,g3,g4⟩:=aA h4 (by simpa using h);exact⟨y,by simpa using g1,g2,g3,by omega⟩
def zg{B:Aj P}{w:AR}{H:HV}{Eb:Am}{sz:Nat}:∀{i:Nat} {l:A3 (Ty×DC)} {es:A3 MapEntry},KN B w H Eb sz i l es->es.length=l.length
 |_,[],[],_=>rfl|_,[],_::_,h=>h.elim|_,(_,_)::_,[],h=>h.elim|_,(_,_)::_,_::_,⟨_,_,_,h⟩=>by simp[zg h]
def ze{B:Aj P}{w:AR}{H:HV}{Eb:Am}{sz:Nat}:∀{i:Nat} {l:A3 (Ty×DC)} {es:A3 MapEntry} {j:Nat} {k:Ty} {e:DC} {x:MapEntry},KN B w H Eb sz i l es->k.ok H x.key->e.holds B w H Eb sz x.val->x.born=i+j->KN B w H Eb sz i (l.set j (k,e)) (es.set j x)
 |_,[],[],_,_,_,_,_,_,_,_=>trivial|_,[],_::_,_,_,_,_,h,_,_,_=>h.elim|_,(_,_)::_,[],_,_,_,_,h,_,_,_=>h.elim|i,(k',e')::l,x::xs,0,k,e,y,⟨h1,h2,h3,h4⟩,g1,g2,g3=>⟨g1,g2,g3,h4⟩|i,(k',e')::l,x::xs,j+1,k,e,y,⟨h1,h2,h3,h4⟩,g1,g2,g3=>⟨h1,h2,h3,ze h4 g1 g2 (by omega)⟩
def yN{B:Aj P}{w:AR}{H:HV}{Eb:Am}{sz:Nat}:∀{i:Nat} {l:A3 (Ty×DC)} {es:A3 MapEntry} {k:Ty} {e:DC} {x:MapEntry},KN B w H Eb sz i l es->k.ok H x.key->e.holds B w H Eb sz x.val->x.born=i+l.length->KN B w H Eb sz i (l++[(k,e)]) (es++[x])
 |_,[],[],_,_,_,_,g1,g2,g3=>⟨g1,g2,by simpa using g3,trivial⟩|_,[],_::_,_,_,_,h,_,_,_=>h.elim|_,(_,_)::_,[],_,_,_,h,_,_,_=>h.elim|i,(k',e')::l,x::xs,k,e,y,⟨h1,h2,h3,h4⟩,g1,g2,g3=>⟨h1,h2,h3,yN h4 g1 g2 (by simp at g3;omega)⟩
def PG{b:Nat}:∀{l:A3 (Ty×DC)} {es:A3 MapEntry},Hn b l es↔∃(j:Nat) (k:Ty) (e:DC) (x:MapEntry),l[j]? =some (k,e)/\es[j]? =some x/\e.owns x.val b
 |[],es=>by simp[Hn]|(k,e)::l,[]=>by simp[Hn]
 |(k,e)::l,x::xs=>by
  simp only[Hn,PG (l:=l)];constructor
  .rintro(h|⟨j,k',e',y,h1,h2,h3⟩)
   .exact⟨0,k,e,x,rfl,rfl,h⟩
   .exact⟨j+1,k',e',y,by simpa using h1,by simpa using h2,h3⟩
  .rintro⟨j,k',e',y,h1,h2,h3⟩;cases j with|zero=>simp at h1 h2;obtain⟨rfl,rfl⟩:=h1;subst h2;exact .inl h3|succ j=>exact .inr ⟨j,k',e',y,by simpa using h1,by simpa using h2,h3⟩
def Yj:∀{l:A3 (Ty×DC)} {es:A3 MapEntry},l.length=es.length->(Om l es↔∀(i j:Nat) (k k':Ty) (e e':DC) (x y:MapEntry),i<j->l[i]? =some (k,e)->l[j]? =some (k',e')->es[i]? =some x->es[j]? =some y->∀b,e.owns x.val b-> ¬e'.owns y.val b)
 |[],[],_=>by simp[Om]|[],_::_,h=>by simp at h|(_,_)::_,[],h=>by simp at h
 |(k,e)::l,x::xs,h=>by
  simp[Om,Yj (l:=l) (es:=xs) (by simpa using h)];constructor
  .rintro⟨h1,h2⟩ i j k1 k2 e1 e2 y z KT hi hj hx hy b hb Ba;cases j with
   |zero=>omega
   |succ j=>
    cases i with
    |zero=>simp at hi hx;obtain⟨rfl,rfl⟩:=hi;subst hx;exact h1 b hb (PG.2 ⟨j,k2,e2,z,by simpa using hj,by simpa using hy,Ba⟩)
    |succ i=>exact h2 i j k1 k2 e1 e2 y z (by omega) (by simpa using hi) (by simpa using hj) (by simpa using hx) (by simpa using hy) b hb Ba
  .intro hh;refine⟨λb hb ho=>?_,λi j k1 k2 e1 e2 y z KT hi hj hx hy b hb Ba=>?_⟩
   .let⟨j,k',e',y,h1,h2,h3⟩:=PG.1 ho;exact hh 0 (j+1) k k' e e' x y (by omega) rfl (by simpa using h1) rfl (by simpa using h2) b hb h3
   .exact hh (i+1) (j+1) k1 k2 e1 e2 y z (by omega) (by simpa using hi) (by simpa using hj) (by simpa using hx) (by simpa using hy) b hb Ba
end
section
variable[D:DR]
variable{P:Program}{w0:Aj P}{H0:HV}{N:Nat}{ops:Array Oper}{Q:Exit->Act->World->Prop}{Γ An:Ctx}{d:Option Tmp}{ty:TypeId}{pos:String}{af:Array Edge}{g:Option (Nat×Bool)}
variable{α β:Type}[DecidableEq α]{K:TypeId}{fK:α->Ty}{fV:β->DC}
def uF(hk:SF P K fK){H:HV}{u:AV}{x:α}(hu:(fK x).ok H u){w:AR}:∀{l:A3 (α×β)} {es:A3 MapEntry} (i:Nat),(∀(j:Nat) (p:α×β),l[j]? =some p->∃y,es[j]? =some y/\(fK p.1).ok H y.key)->es.length=l.length->(Instr.findAsking K u es i).run P w= .ok ((mix x l).map λj=>(i+j,((es[j]?).map (·.val)).getD undef)) w
 |[],[],i,_,_=>by simp[Instr.findAsking,mix]|[],_::_,_,_,h=>by simp at h|_::_,[],_,_,h=>by simp at h
 |p::l,y::es,i,h,hl=>by
  let⟨y',h1,h2⟩:=h 0 p rfl;simp at h1;subst h1;have ih:=uF hk hu (l:=l) (es:=es) (w:=w) (i+1) (λj q hq=>by simpa using h (j+1) q (by simpa using hq)) (by simpa using hl);have he:=hk.eq H u y.key x p.1 hu h2 w;simp[Instr.findAsking,mix,E0,he,Dm];by_cases e:x=p.1
  .simp[e]
  .simp[e,decide_false,U7,if_false,As,ih];cases hm:mix x l with|none=>simp|some j=>simp;omega
def run_findKey(hk:SF P K fK){H:HV}{u:AV}{x:α}(hu:(fK x).ok H u){w:AR}{l:A3 (α×β)}{es:A3 MapEntry}(h:∀(j:Nat) (p:α×β),l[j]? =some p->∃y,es[j]? =some y/\(fK p.1).ok H y.key)(hl:es.length=l.length):(Instr.findKey K u es).run P w= .ok ((mix x l).map λj=>(j,((es[j]?).map (·.val)).getD undef)) w:=by
 let⟨ud,hud,F6⟩:=hk.kind;have hf:=uF hk hu (w:=w) 0 h hl;unfold Instr.findKey;simp[E0,Et hud,Dm];cases es with
 |nil=>cases l with|nil=>simp[Instr.findNow,mix]|cons p l=>simp at hl
 |cons y es=>simp[Instr.findNow,F6];simpa using hf
end
section
variable[D:DR]
variable{P:Program}{w0:Aj P}{H0:HV}{N:Nat}{ops:Array Oper}{Q:Exit->Act->World->Prop}{Γ An:Ctx}{d:Option Tmp}{ty:TypeId}{pos:String}{af:Array Edge}{g:Option (Nat×Bool)}
inductive Qx(Γ:Ctx):CD->Nat->Prop where
 |own {t:Nat}:Qx Γ (.tmp t) t|same {u t:Nat} (h:look Γ u=some (.same t)):Qx Γ (.tmp u) t
def Qx.ok{x:CD}{t:Nat}(h:Qx Γ x t){a:Act}{w:AR}{H:HV}(hs:Sat w0 H0 N Γ a w H):a.eval x=Ae a t:=by cases h with|own=>rfl|same h=>exact hs.holds _<|B6 h
def ahA{T K E Eb:Am}{sz:Nat}:Ay P Γ ⟨d,.makeMap T none,ty,pos,af,g⟩ (.Gm K E Eb sz []):=
 MC λw0 _ _ a w H hs=>by
  refine⟨.map<|some w.heap.size,w.alloc<| .map #[] 0,H,?_,Ext.alloc hs.sub _,?_,?_⟩
  .simp[execOp,Instr.makeMap,newObj];rfl
  .refine⟨w.heap.size,#[],rfl,Lt w _,?_,.inl hs.below.size,trivial,trivial⟩;cases hh:H w.heap.size with|none=>rfl|some o=>have:=HG hs.sub hh;omega
  .rintro b (h|⟨r,es,e,hr,hb⟩)
   .cases h;exact BK _
   .simp[Hn] at hb
end
section
variable[D:DR]
variable{P:Program}{w0:Aj P}{H0:HV}{N:Nat}{ops:Array Oper}{Q:Exit->Act->World->Prop}{Γ An:Ctx}{d:Option Tmp}{ty:TypeId}{pos:String}{af:Array Edge}{g:Option (Nat×Bool)}
variable{α β:Type}[DecidableEq α]{K E Eb T:TypeId}{sz:Nat}{fK:α->Ty}
def aAO{B:Aj P}{w:AR}{H:HV}{fV:β->DC}{l:A3 (α×β)}{es:A3 MapEntry}(h:KN B w H Eb sz 0 (mM fK fV l) es):(∀(j:Nat) (p:α×β),l[j]? =some p->∃y,es[j]? =some y/\(fK p.1).ok H y.key)/\es.length=l.length:=
 ⟨λj p hp=>by let⟨y,h1,h2,_⟩:=aA h (j:=j) (k:=fK p.1) (e:=fV p.2) (by simp[hp]);exact⟨y,h1,h2⟩,by simpa using zg h⟩
def run_getObj_map{w:AR}{r:Nat}{es:B8 MapEntry}{c:Nat}(h:w.heap[r]? =some (.map es c)):(getObj r).run P w= .ok (.map es c) w:=by simp[getObj,Sem.run,h]
end
section
variable[D:DR]
variable{P:Program}{w0:Aj P}{H0:HV}{N:Nat}{ops:Array Oper}{Q:Exit->Act->World->Prop}{Γ An:Ctx}{d:Option Tmp}{ty:TypeId}{pos:String}{af:Array Edge}{g:Option (Nat×Bool)}
variable{w:AR}{c:Nat}{es:B8 MapEntry}{B:Aj P}{H:HV}{sz:Nat}
def w6{r:Nat}{o:Obj}(h:w.heap[r]? =some (.map es c)):(setObj r o).run P w= .ok () (w.putObj r o):=by simp[setObj,Sem.run,h];rfl
def agE{E:Am}{l:A3 Ty}{v:AV}(h:Ke B w H E sz l v){b:Nat}(hb:v.ownBlock=some b):w.heap[b]? ≠some (.map es c):=by
 let⟨xs,⟨_,hr⟩,_,_⟩:=h;rcases hr with⟨e,_⟩|⟨g,cap,cur,e,_,hc,_⟩
 .subst e;simp[Value.ownBlock] at hb
 .subst e;simp[Value.ownBlock] at hb;subst hb;rw[hc];intro e;cases e
def aez{Eb:Am}{l:A3 (Ty×DC)}{es:A3 MapEntry}(h:KN B w H Eb sz 0 l es){b:Nat}(hb:Hn b l es){I4:B8 MapEntry}:w.heap[b]? ≠some (.map I4 c):=by let⟨j,k,e,x,h1,h2,h3⟩:=PG.1 hb;let⟨y,g1,_,g3,_⟩:=aA h h1;rw[h2] at g1;cases g1;cases e with|val τ=>exact h3.elim|any=>exact h3.elim|buf bl=>exact agE g3 h3
def amU{Eb:Am}{r:Nat}{I4:B8 MapEntry}{l':A3 (Ty×DC)}(hr:w.heap[r]? =some (.map es c))(hn:H r=none)(hm:B.EC r)(ho:KN B w H Eb sz 0 l' I4.toList)(hs:Om l' I4.toList):Qs B (w.putObj r<| .map I4 I4.size) H Eb sz l' (.map<|some r)/\∀b,PU (w.putObj r<| .map I4 I4.size) l' (.map<|some r) b↔b=r\/Hn b l' I4.toList:=by
 have Ku:(w.putObj r<| .map I4 I4.size).heap[r]? =some (.map I4 I4.size):=qA<|lt_of_heap hr
 refine⟨⟨r,I4,rfl,Ku,hn,hm,pb (HV.le.refl H) ho<|λb hb=>⟨Zd<|λe=>?_,rfl⟩,hs⟩,λb=>?_⟩
 .subst e;exact aez ho hb hr
 .constructor
  .rintro(h|⟨r1,es1,e1,h1,h2⟩)
   .cases h;exact .inl rfl
   .cases e1;rw[Ku] at h1;cases h1;exact .inr h2
  .rintro(h|h)
   .subst h;exact .inl rfl
   .exact .inr ⟨r,I4,rfl,Ku,h⟩
end
section
variable[D:DR]
variable{P:Program}{w0:Aj P}{H0:HV}{N:Nat}{ops:Array Oper}{Q:Exit->Act->World->Prop}{Γ An:Ctx}{d:Option Tmp}{ty:TypeId}{pos:String}{af:Array Edge}{g:Option (Nat×Bool)}
variable{α β:Type}[DecidableEq α]{K E Eb T:TypeId}{sz:Nat}{fK:α->Ty}{fV:β->DC}
def y6{l:A3 (Ty×DC)}{es:A3 MapEntry}{j:Nat}{k k0:Ty}{e e0:DC}{x x0:MapEntry}(hlen:l.length=es.length)(hl:l[j]? =some (k0,e0))(hx:es[j]? =some x0)(h:Om l es)(hn:∀b,e.owns x.val b->e0.owns x0.val b\/ ¬Hn b l es):Om (l.set j (k,e)) (es.set j x)/\∀b,Hn b (l.set j (k,e)) (es.set j x)->e.owns x.val b\/(Hn b l es/\ ¬e0.owns x0.val b):=by
 have hj:=(FH.1 hl).1;have hj':j<es.length:=hlen▸hj;have hs:=(Yj hlen).1 h;have at':∀i k' e' y,(l.set j (k,e))[i]? =some (k',e')->(es.set j x)[i]? =some y->(i=j/\k'=k/\e'=e/\y=x)\/(i≠j/\l[i]? =some (k',e')/\es[i]? =some y):=λi k' e' y h1 h2=>by
  by_cases ei:i=j
  .subst ei;rw[WK hj] at h1;rw[WK hj'] at h2;cases h1;cases h2;exact .inl ⟨rfl,rfl,rfl,rfl⟩
  .rw[pz<|Ne.symm ei] at h1 h2;exact .inr ⟨ei,h1,h2⟩
 have one:∀i k' e' y,i≠j->l[i]? =some (k',e')->es[i]? =some y->∀b,e'.owns y.val b-> ¬e.owns x.val b/\ ¬e0.owns x0.val b:=λi k' e' y hi h1 h2 b hb=>by
  have k2: ¬e0.owns x0.val b:=λh0=>by
   rcases Nat.lt_or_gt_of_ne hi with hlt|hlt
   .exact hs i j k' k0 e' e0 y x0 hlt h1 hl h2 hx b hb h0
   .exact hs j i k0 k' e0 e' x0 y hlt hl h1 hx h2 b h0 hb
  refine⟨λh3=>?_,k2⟩;rcases hn b h3 with h4|h4
  .exact k2 h4
  .exact h4<|PG.2 ⟨i,k',e',y,h1,h2,hb⟩
 refine⟨(Yj (by simpa using hlen)).2 ?_,λb hb=>?_⟩
 .intro i i' k1 k2 e1 e2 y z KT hi hi' hy hz b hb Ba;rcases at' i k1 e1 y hi hy with⟨rfl,rfl,rfl,rfl⟩|⟨n1,g1,g2⟩<;>rcases at' i' k2 e2 z hi' hz with⟨rfl,rfl,rfl,rfl⟩|⟨n2,g3,g4⟩
  .omega
  .exact(one i' k2 e2 z n2 g3 g4 b Ba).1 hb
  .exact(one i k1 e1 y n1 g1 g2 b hb).1 Ba
  .exact hs i i' k1 k2 e1 e2 y z KT g1 g3 g2 g4 b hb Ba
 .let⟨i,k1,e1,y,h1,h2,h3⟩:=PG.1 hb;rcases at' i k1 e1 y h1 h2 with⟨rfl,rfl,rfl,rfl⟩|⟨n1,g1,g2⟩
  .exact .inl h3
  .exact .inr ⟨PG.2 ⟨i,k1,e1,y,g1,g2,h3⟩,(one i k1 e1 y n1 g1 g2 b h3).2⟩
def xC{l:A3 (Ty×DC)}{es:A3 MapEntry}{k:Ty}{e:DC}{x:MapEntry}(hlen:l.length=es.length)(h:Om l es)(hn:∀b,¬e.owns x.val b):Om (l++[(k,e)]) (es++[x])/\∀b,Hn b (l++[(k,e)]) (es++[x])->Hn b l es:=by
 have at':∀(i:Nat) (k':Ty) (e':DC) (y:MapEntry) (b:Nat),(l++[(k,e)])[i]? =some (k',e')->(es++[x])[i]? =some y->e'.owns y.val b->l[i]? =some (k',e')/\es[i]? =some y:=λi k' e' y b h1 h2 h3=>by
  by_cases hi:i<l.length
  .rw[MT hi] at h1;rw[MT<|hlen▸hi] at h2;exact⟨h1,h2⟩
  .have:i=l.length:=by have:=(FH.1 h1).1;simp at this;omega
   subst this;rw[My<|BK _] at h1;rw[My (by omega)] at h2;simp[hlen] at h1 h2;obtain⟨rfl,rfl⟩:=h1;subst h2;exact absurd h3<|hn b
 refine⟨(Yj (by simp[hlen])).2 λi j k1 k2 e1 e2 y z KT hi hj hy hz b hb Ba=>?_,λb hb=>?_⟩
 .let⟨g1,g2⟩:=at' i k1 e1 y b hi hy hb;let⟨g3,g4⟩:=at' j k2 e2 z b hj hz Ba;exact(Yj hlen).1 h i j k1 k2 e1 e2 y z KT g1 g3 g2 g4 b hb Ba
 .let⟨i,k1,e1,y,h1,h2,h3⟩:=PG.1 hb;let⟨g1,g2⟩:=at' i k1 e1 y b h1 h2 h3;exact PG.2 ⟨i,k1,e1,y,g1,g2,h3⟩
def run_keyThatStays(hk:SF P K fK){H:HV}{u v:AV}{x:α}(hu:(fK x).ok H u)(hv:(fK x).ok H v)(w:AR):(Instr.keyThatStays u v).run P w= .ok v w:=by simp[Instr.keyThatStays,hk.bits H u v x hu hv]
def af0{γ:Type}(es:B8 γ)(j:Nat)(f:γ->γ):(es.modify j f).toList=es.toList.modify j f:=by simp
def xT{γ:Type}:∀{l:A3 γ} {j:Nat} {f:γ->γ} {x:γ},l[j]? =some x->l.modify j f=l.set j (f x)
 |[],_,_,_,h=>by simp at h|y::l,0,f,x,h=>by simp at h;subst h;rfl
 |y::l,j+1,f,x,h=>by have:=xT (l:=l) (j:=j) (f:=f) (x:=x) (by simpa using h);simpa using this
def afR{F:β->Ty}{m k v:CD}{t:Nat}{l:A3 (α×β)}{x:α}{y:β}{Ai:Ctx}(BC:∀q∈Ai,q∈Γ)(hT:Ud P T K E=true)(hk:SF P K fK)(hm:Qx Ai m t)(ht:look Ai t=some (.Gm K E Eb sz<|mM fK (λv=> .val<|F v) l))(hx:Arg Ai k (fK x))(hy:Arg Ai v (F y)):Step P N ops ⟨none,.mapUpdate T m k v,ty,pos,af,none⟩ Γ ((t,.Gm K E Eb sz<|mM fK (λv=> .val<|F v)<|X2 l x y)::BF t Γ):=by
 intro w0 H0 a w H hs K' Q kk;simp[Region.wanted,if_true];let⟨r,es,e,hr,hn,hmi,ho,IU⟩:=hs.holds _<|BC _<|B6 ht
 simp only at e;have hsi:=hs.weaken BC;have em:a.eval m= .map (some r):=by rw[hm.ok hsi];exact e
 have Hx:=hx.ok hsi;have hyv:=hy.ok hsi;let⟨k1,k2⟩:=aAO ho;have hf:=run_findKey hk Hx (w:=w) k1 k2;have hc:=hk.check H _ x Hx false w;have hlen:(mM fK (λv=>DC.val<|F v) l).length=es.toList.length:=by simp[k2,mM]
 have hown:∀b,¬Hn b (mM fK (λv=>DC.val<|F v) l) es.toList:=λb h=>by let⟨j,k',e',z,h1,_,h3⟩:=PG.1 h;simp only[mM,Gy,Option.map_eq_some_iff] at h1;let⟨p,_,h1⟩:=h1;cases h1;exact h3
 have fin:∀(I4:B8 MapEntry) (l':A3 (Ty×DC)),l'=mM fK (λv=>DC.val<|F v) (X2 l x y)->KN w0 w H Eb sz 0 l' I4.toList->Om l' I4.toList->(∀b,¬Hn b l' I4.toList)->K' (a.put none undef) (w.putObj r<| .map I4 I4.size):=λI4 l' el h1 h2 h3=>by
  subst el;let⟨g1,g2⟩:=amU hr hn hmi h1 h2;refine kk a _ H (P5 hs (BC _<|B6 ht) (Ed.putObj w r _) hmi (by simp[e];exact .inl rfl) (by simp[e];exact g1) λc hc=> .inl ?_);simp[e] at hc⊢;rcases(g2 c).1 hc with h|h
  .subst h;exact .inl rfl
  .exact absurd h<|h3 c
 unfold Oper.wp;cases hmx:mix x l with
 |none=>
  rw[hmx] at hf;have er:(execOp a.eval ⟨none,.mapUpdate T m k v,ty,pos,af,none⟩).run P w= .ok .skip (w.putObj r<| .map (es.push {key:=a.eval k,val:=a.eval v,born:=es.size})<|es.size+1):=by simp[execOp,em,Instr.mapUpdate,Et<|Yp hT,run_getObj_map hr,hc,hf,w6 hr]
  rw[er,QZ];have:=fin (es.push {key:=a.eval k,val:=a.eval v,born:=es.size}) (mM fK (λv=>DC.val<|F v) l++[(fK x,.val<|F y)]) (by simp[mM,X2,hmx])
   (by simpa using yN (k:=fK x) (e:= .val<|F y) (x:={key:=a.eval k,val:=a.eval v,born:=es.size}) ho Hx hyv (by simp[<-k2]))
   (by simpa using(xC (k:=fK x) (e:= .val<|F y) hlen IU<|λ_ h=>h).1)
   (λb hb=>hown b ((xC (k:=fK x) (e:= .val<|F y) (x:={key:=a.eval k,val:=a.eval v,born:=es.size}) hlen IU<|λ_ h=>h).2 b (by simpa using hb)))
  simpa using this
 |some j=>
  rw[hmx] at hf;let⟨v0,Hy⟩:=oV hmx;let⟨z,h1,h2,h3,h4⟩:=aA ho (j:=j) (k:=fK x) (e:= .val<|F v0) (by simp[Hy]);have h1':es[j]? =some z:=by simpa using h1
  have Es:=run_keyThatStays hk h2 Hx w;have er:(execOp a.eval ⟨none,.mapUpdate T m k v,ty,pos,af,none⟩).run P w= .ok .skip (w.putObj r<| .map (es.modify j λe=>{e with key:=a.eval k,val:=a.eval v}) es.size):=by simp[execOp,em,Instr.mapUpdate,Et<|Yp hT,run_getObj_map hr,hc,hf,w6 hr,h1',Es]
  rw[er,QZ];have hml:(es.modify j λe=>{e with key:=a.eval k,val:=a.eval v}).toList=es.toList.set j {z with key:=a.eval k,val:=a.eval v}:=by rw[af0,xT h1]
  have hl0:(mM fK (λv=>DC.val<|F v) l)[j]? =some (fK x,.val<|F v0):=by simp[Hy]
  have:=fin (es.modify j λe=>{e with key:=a.eval k,val:=a.eval v}) ((mM fK (λv=>DC.val<|F v) l).set j (fK x,.val<|F y)) (by simp[mM,X2,hmx,Tv])
   (by rw[hml];exact ze (k:=fK x) (e:= .val<|F y) (x:={z with key:=a.eval k,val:=a.eval v}) ho Hx hyv (by simpa using h4))
   (by rw[hml];exact(y6 (k:=fK x) (e:= .val<|F y) hlen hl0 h1 IU<|λ_ h=>h.elim).1)
   (λb hb=>by
    rw[hml] at hb;rcases(y6 (k:=fK x) (e:= .val<|F y) hlen hl0 h1 IU<|λ_ h=>h.elim).2 b hb with h|h
    .exact h
    .exact hown b h.1)
  simpa using this
end
section
variable[D:DR]
variable{P:Program}{w0:Aj P}{H0:HV}{N:Nat}{ops:Array Oper}{Q:Exit->Act->World->Prop}{Γ An:Ctx}{d:Option Tmp}{ty:TypeId}{pos:String}{af:Array Edge}{g:Option (Nat×Bool)}
variable{H:HV}{w:AR}{L:A3 (Ty×Ty)}{α:Type}{t r m it:Nat}{seen:A3 Nat}{s s':AQ}
def uG{n:Nat}(hn:0<n)(w:AR):∃(i:Nat) (k:Nat),w.drawn<=k/\i<n/\(choose<| .mapNext n).run P w= .ok i {w with drawn:=k}:=by
 by_cases h:n<=1
 .refine⟨0,w.drawn,BK _,hn,?_⟩;simp[choose,Sem.run,Question.forced,h]
 .refine⟨w.tape w.drawn (.mapNext n)%n,w.drawn+1,QW _,OL _ hn,?_⟩;simp[choose,Sem.run,Question.forced,h,Question.cut]
def akR{T:Am}{K E:Am}{m:CD}(hT:Ud P T K E=true)(hm:Arg Γ m (kJ L)):Ay P Γ ⟨d,.range T m,ty,pos,af,g⟩ (.JL L []):=
 MC λw0 _ _ a w H hs=>by
  let⟨r,es,e,hr,ho⟩:=hm.ok hs;have Ku:=hs.sub _ _ hr;refine⟨.pointer<|some ⟨w.heap.size,0,none⟩,w.alloc<| .mapIter (some r) es.size #[] es.size,H,?_,Ext.alloc hs.sub _,?_,?_⟩
  .simp[execOp,Instr.range,e,Et<|Yp hT,run_getObj_map Ku,newObj];rfl
  .refine⟨w.heap.size,r,es,#[],rfl,Lt w _,?_,.inl hs.below.size,hr,ho,rfl⟩;cases hh:H w.heap.size with|none=>rfl|some o=>have:=HG hs.sub hh;omega
  .rintro b ⟨ad,e,hb⟩;cases e;simp at hb;omega
def pZ{H:HV}:∀{i:Nat} {l:A3 (Ty×Ty)} {es:A3 MapEntry},okM H i l es->es.length=l.length
 |_,[],[],_=>rfl|_,[],_::_,h=>h.elim|_,(_,_)::_,[],h=>h.elim|_,(_,_)::_,_::_,⟨_,_,_,h⟩=>by simp[pZ h]
def j7{H:HV}:∀{i:Nat} {l:A3 (Ty×Ty)} {es:A3 MapEntry} {j:Nat} {x:MapEntry},okM H i l es->es[j]? =some x->∃k e,l[j]? =some (k,e)/\k.ok H x.key/\e.ok H x.val/\x.born=i+j
 |_,[],[],_,_,_,h=>by simp at h|_,[],_::_,_,_,h,_=>h.elim|_,(_,_)::_,[],_,_,h,_=>h.elim
 |i,(k,e)::l,x::xs,0,y,⟨h1,h2,h3,h4⟩,h=>by simp at h;subst h;exact⟨k,e,rfl,h1,h2,by simpa using h3⟩
 |i,(k,e)::l,x::xs,j+1,y,⟨h1,h2,h3,h4⟩,h=>by obtain⟨k',e',g1,g2,g3,g4⟩:=j7 h4 (by simpa using h);exact⟨k',e',by simpa using g1,g2,g3,by omega⟩
def td{since last:Nat}{seen:B8 Nat}(h:w.heap[r]? =some (.mapIter (some m) since seen last)):(getObj r).run P w= .ok (.mapIter (some m) since seen last) w:=by simp[getObj,Sem.run,h]
def adv{o:Obj}{since last:Nat}{seen:B8 Nat}(h:w.heap[r]? =some (.mapIter (some m) since seen last)):(setObj r o).run P w= .ok () (w.putObj r o):=by simp[setObj,Sem.run,h];rfl
theorem akd{es:B8 MapEntry}{sn:B8 Nat}{ty:Am}(hr:w.heap[r]? =some (.mapIter (some m) es.size sn es.size))(hm:w.heap[m]? =some (.map es es.size))(ho:okM H 0 L es.toList):((∀j,j<L.length->j∈sn.toList)/\∃k,w.drawn<=k/\(Instr.next (.pointer<|some ⟨r,0,none⟩) false ty).run P w= .ok (.tuple #[.bool false]) {w with drawn:=k})\/
  ∃j x k,j<L.length/\j∉sn.toList/\es[j]? =some x/\w.drawn<=k/\(Instr.next (.pointer<|some ⟨r,0,none⟩) false ty).run P w= .ok (.tuple #[.bool true,x.key,x.val]) (World.putObj {w with drawn:=k} r<| .mapIter (some m) es.size (sn.push j) es.size):=by
 have hlen:=pZ ho;have Wn:∀(j:Nat) (x:MapEntry),es[j]? =some x->x.born=j:=λj x hx=>by let⟨_,_,_,_,_,h⟩:=j7 ho (j:=j) (x:=x) (by simpa using hx);simpa using h
 have hbl:∀e∈es,e.born<es.size:=λe he=>by let⟨j,hj,e1⟩:=Array.getElem_of_mem he;have:=Wn j e (by simp[hj,e1]);omega
 have abl:(!sn.isEmpty&& !es.isEmpty&&es.all (·.born>=es.size))=false:=by
  cases hes:es.isEmpty
  .simp only[Bool.not_false,gq];have hpos:0<es.size:=by grind
   have:es.all (·.born>=es.size)=false:=by grind
   simp[this]
  .simp
 generalize jW:es.filter (λe=> !sn.contains e.born)=left
 have hlm:∀e∈left,e∈es/\sn.contains e.born=false:=λe he=>by rw[<-jW] at he;simpa using Array.mem_filter.1 he
 have hold:left.filter (·.born<es.size)=left:=by rw[Array.filter_eq_self];exact λe he=>by simpa using hbl e (hlm e he).1
 have Nz:left.filter (·.born>=es.size)= #[]:=by rw[Array.filter_eq_empty_iff];intro e he;have:=hbl e (hlm e he).1;simp;omega
 have kU:=td (P:=P) hr;have hg2:=run_getObj_map (P:=P) hm;by_cases acV:left= #[]
 .left;refine⟨λj hj=>?_,?_⟩
  .have hj':j<es.size:=by rw[<-hlen] at hj;simpa using hj
   have hb:=Wn j es[j] (by simp[hj']);apply Co;intro hn;have:es[j]∈left:=by grind
   rw[acV] at this;simp at this
  .let⟨i,k,hk,hi,hc⟩:=uG (P:=P) (n:=1) (by omega) w;have:i=0:=by omega
   subst this;refine⟨k,hk,?_⟩;unfold Instr.next
   simp only[E0,kU,Dm,hg2,abl,U7,if_false,jW,hold,Nz];rw[acV];simp only[Array.isEmpty_empty,if_true,Array.append_empty,Array.map_empty,iH,E6,ZO,PX,hc,Dm]
   rfl
 .right;have hpos:0<left.size:=by grind
  let⟨i,k,hk,hi,hc⟩:=uG (P:=P) (n:=left.size) hpos w;have IN:=hlm left[i] (by simp);let⟨j,hj,e1⟩:=Array.getElem_of_mem IN.1;have hb:=Wn j left[i] (by simp[hj,e1]);have Ku:World.heap {w with drawn:=k}=w.heap:=rfl;refine⟨j,left[i],k,by rw[<-hlen];simpa using hj,?_,by simp[hj,e1],hk,?_⟩
  .grind
  .have hne:left.isEmpty=false:=by
    cases h:left.isEmpty
    .rfl
    .grind
   have Mb:=adv (P:=P) (w:={w with drawn:=k}) (o:= .mapIter (some m) es.size (sn.push left[i].born) es.size) hr;rw[hb] at Mb;unfold Instr.next
   simp only[E0,kU,Dm,hg2,abl,U7,if_false,jW,hold,Nz,hne,Array.append_empty,Array.empty_append,Array.size_map,hc,Dm];have:(Array.map some left)[i]? =some (some left[i]):=by simp[hi]
   simp only[this,hb,E0,Mb,Dm]
   rfl
def aod{dn de id:Nat}{ts:A3 Nat}{GZ:Ctx}{ty KH:Am}{pos pos':String}{af LX:B8 Edge}(hit:look Γ it=some (.JL L seen))(Kl:ES Γ ts GZ)
 (hN:(Nat.blt dn N&&Nat.blt de N&&(dn !=it)&&(de !=it)&&(de !=dn))=true)(hf:(GZ.all λp=>p.1 !=it&&p.1 !=dn&&p.1 !=de&&p.2.C8.all (λt=>t !=dn&&t !=de&&t !=it))=true)
 (kt:∀j,j<L.length->j∉seen->EJ w0 H0 N (Q .normal) ((de,.val<|Av true)::(it,.JL L<|seen++[j])::GZ))(kf:(∀j,j<L.length->j∈seen)->EJ w0 H0 N (Q .normal) ((de,.val<|Av false)::GZ)):Goal P w0 H0 N (.region id #[⟨some dn,.next (.tmp it) false,ty,pos,af,none⟩,⟨some de,.extract (.tmp dn) 0,KH,pos',LX,none⟩] false) Q Γ:=by
 intro a w H hs;simp only[C4,MI,ne_eq] at hN;let⟨⟨⟨⟨h1,h2⟩,h3⟩,h4⟩,h5⟩:=hN;have hdn:=Ad h1;have hde:=Ad h2;let⟨r,m,es,sn,e,hr,hn,hmi,hm,ho,hsn⟩:=hs.holds _<|B6 hit
 simp only at e;have fr:∀q∈GZ,q∈Γ/\q.1≠it/\q.1≠dn/\q.1≠de/\dn∉q.2.C8/\de∉q.2.C8/\it∉q.2.C8:=λq hq=>by have:=Dj.1 hf q hq;simp[C4,MI,ne_eq,Dj] at this;let⟨⟨⟨k1,k2⟩,k3⟩,k4⟩:=this;exact⟨Kl.sub q hq,k1,k2,k3,λh=>(k4 _ h).1.1 rfl,λh=>(k4 _ h).1.2 rfl,λh=>(k4 _ h).2 rfl⟩
 have ei:a.eval (.tmp it)= .pointer (some ⟨r,0,none⟩):=e;refine wpIn_region_lit ?_;have fin:∀(vs:A3 AV) (b:Bool) (w':AR) (G:Ctx),(∀q∈G,q.1≠dn/\q.1≠de/\dn∉q.2.C8/\de∉q.2.C8)->Sat w0 H0 N G a w' H->vs.head?=some (.bool b)->EJ w0 H0 N (Q .normal) ((de,.val<|Av b)::G)->wpListIn (Fb w0.rd) 0 P #[⟨some dn,.next (.tmp it) false,ty,pos,af,none⟩,⟨some de,.extract (.tmp dn) 0,KH,pos',LX,none⟩] Q [⟨some de,.extract (.tmp dn) 0,KH,pos',LX,none⟩] (a.put (some dn)<| .tuple vs.toArray) w':=by
  intro vs b w' G hG hS hv kk;unfold wpListIn;have hw:Region.wanted (⟨some de,.extract (.tmp dn) 0,KH,pos',LX,none⟩:Oper) (yielded #[⟨some dn,.next (.tmp it) false,ty,pos,af,none⟩,⟨some de,.extract (.tmp dn) 0,KH,pos',LX,none⟩] (a.put (some dn)<| .tuple vs.toArray).tmps)=true:=rfl;rw[if_pos hw];refine Z5 (λc e=>by cases e) ?_;unfold Oper.wp;have ed:(a.put (some dn)<| .tuple vs.toArray).eval (.tmp dn)= .tuple vs.toArray:=VT (by rw[hs.sz];exact hdn);have JY:vs[0]? =some (.bool b):=by rw[<-List.head?_eq_getElem?];exact hv
  have er:(execOp (a.put (some dn)<| .tuple vs.toArray).eval ⟨some de,.extract (.tmp dn) 0,KH,pos',LX,none⟩).run P w'= .ok (.value<| .bool b) w':=by simp[execOp,ed,Instr.extract,JY]
  rw[er,OO];unfold wpListIn;have KQ:=QK (s:= .gone) (v:= .tuple vs.toArray) hS hdn (by simp only[Jl,Dj,C4,MI,ne_eq];exact λq hq=>⟨(hG q hq).1,by simpa using(hG q hq).2.2.1⟩) (by simp[AQ.C8]) trivial<|λb h=>h.elim
  have hs3:=QK (s:= .val<|Av b) (v:= .bool b) (KQ.weaken (An:=G) λq hq=>By _ hq) hde (by simp only[Jl,Dj,C4,MI,ne_eq];exact λq hq=>⟨(hG q hq).2.1,by simpa using(hG q hq).2.2.2⟩) (by simp[AQ.C8]) rfl<|λb h=>h.elim
  exact kk _ w' H hs3
 unfold wpListIn;have hw:Region.wanted (⟨some dn,.next (.tmp it) false,ty,pos,af,none⟩:Oper) (yielded #[⟨some dn,.next (.tmp it) false,ty,pos,af,none⟩,⟨some de,.extract (.tmp dn) 0,KH,pos',LX,none⟩] a.tmps)=true:=rfl;rw[if_pos hw];refine Z5 (λc e=>by cases e) ?_;unfold Oper.wp;rcases akd (P:=P) (ty:=ty) hr (hs.sub _ _ hm) ho with⟨hall,k,hk,F1⟩|⟨j,x,k,hj,hjn,hx,hk,F1⟩
 .have er:(execOp a.eval ⟨some dn,.next (.tmp it) false,ty,pos,af,none⟩).run P w= .ok (.value<| .tuple #[.bool false]) {w with drawn:=k}:=by simp only[execOp,ei,E0,F1,Dm];rfl
  rw[er,OO];have he:Ext w H {w with drawn:=k} H:=⟨⟨⟨rfl,rfl,rfl,BK _,λ_ _=>rfl⟩,Gv.of hk⟩,HV.le.refl _,λ_ _=>rfl,hs.sub⟩;exact fin [.bool false] false _ GZ (λq hq=>⟨(fr q hq).2.2.1,(fr q hq).2.2.2.1,(fr q hq).2.2.2.2.1,(fr q hq).2.2.2.2.2.1⟩) (fQ (hs.weaken Kl.sub) he) rfl (kf (by rw[<-hsn];exact hall))
 .have er:(execOp a.eval ⟨some dn,.next (.tmp it) false,ty,pos,af,none⟩).run P w= .ok (.value<| .tuple #[.bool true,x.key,x.val]) (World.putObj {w with drawn:=k} r<| .mapIter (some m) es.size (sn.push j) es.size):=by simp only[execOp,ei,E0,F1,Dm];rfl
  rw[er,OO];have hg:Ed w (World.putObj {w with drawn:=k} r<| .mapIter (some m) es.size (sn.push j) es.size) (some r):=⟨⟨rfl,rfl,rfl,by simp,λi _ hi=>by rw[Zd (λe=>hi (by rw[e]))]⟩,Gv.of hk⟩
  have Ku:(World.putObj {w with drawn:=k} r<| .mapIter (some m) es.size (sn.push j) es.size).heap[r]? =some (.mapIter (some m) es.size (sn.push j) es.size):=qA<|lt_of_heap hr
  have KQ:=P5 (s':= .JL L<|seen++[j]) hs (B6 hit) hg hmi ⟨_,e,rfl⟩ ⟨r,m,es,sn.push j,e,Ku,hn,hmi,hm,ho,by simp[hsn]⟩<|λc hc=> .inl hc
  exact fin [.bool true,x.key,x.val] true _ ((it,.JL L<|seen++[j])::GZ) (λq hq=>by
    rcases Aq.1 hq with e|hq
    .subst e;exact⟨λe=>h3 e.symm,λe=>h4 e.symm,by simp[AQ.C8],by simp[AQ.C8]⟩
    .exact⟨(fr q hq).2.2.1,(fr q hq).2.2.2.1,(fr q hq).2.2.2.2.1,(fr q hq).2.2.2.2.2.1⟩)
   (KQ.weaken λq hq=>by
    rcases Aq.1 hq with e|hq
    .subst e;simp
    .exact By _<|PL (fr q hq).1 (fr q hq).2.1) rfl (kt j hj (by rw[<-hsn];exact hjn))
def akS{j:Nat}{k e:Ty}(hit:look Γ it=some (.JL L<|seen++[j]))(hj:L[j]? =some (k,e)):Ay P Γ ⟨d,.entry<| .tmp it,ty,pos,af,g⟩ (.LY [k,e]):=
 Di λw0 _ _ a w H hs=>by
  let⟨r,m,es,sn,ev,hr,hn,hmi,hm,ho,hsn⟩:=hs.holds _<|B6 hit
  simp only at ev;have ei:a.eval (.tmp it)= .pointer (some ⟨r,0,none⟩):=ev;have KS:=hs.sub _ _ hm;have Wn:∀(i:Nat) (x:MapEntry),es[i]? =some x->x.born=i:=λi x hx=>by let⟨_,_,_,_,_,h⟩:=j7 ho (j:=i) (x:=x) (by simpa using hx);simpa using h
  have hlt:j<es.size:=by have:=(FH.1 hj).1;rw[<-pZ ho] at this;simpa using this
  let⟨k',e',h1,h2,h3,_⟩:=j7 ho (j:=j) (x:=es[j]) (by simp[hlt]);rw[hj] at h1;cases h1;have rA:sn.back?=some j:=by
   have:sn=(seen++[j]).toArray:=by rw[<-hsn]
   rw[this];simp
  have aqt:es.find? (λx=>x.born==j)=some es[j]:=by rw[Array.find?_eq_some_iff_getElem];refine⟨by simpa using Wn j es[j] (by simp[hlt]),j,hlt,rfl,λi hi=>?_⟩;have:=Wn i es[i] (by simp[Nat.lt_trans hi hlt]);simp[this];omega
  refine⟨.tuple #[es[j].key,es[j].val],?_,⟨_,rfl,_,_,rfl,h2,_,[],rfl,h3,rfl⟩,rfl⟩;simp[execOp,ei,Instr.entry,td hr,run_getObj_map KS,rA,aqt]
def Pu{α σ:Type}(f:α->σ->AA σ):A3 α->σ->AA σ
 |[],s=>some s|x::l,s=>bd (f x s)<|Pu f l
def Sp{α σ ρ:Type}(f:α->σ->AA σ)(l:A3 α)(s:σ)(K:σ->AA ρ):AA ρ:=bd (Pu f l s) K
def av0{P:CF}{α σ:Type}(w0:Aj P)(H0:HV)(N it:Nat)(l:A3 α)(enc:α->Ty×Ty)(f:α->σ->AA σ)(Ai:σ->Ctx)(seen:A3 Nat)(s:σ)(a:Act)(w:AR):Prop:=∃j x s',l[j]? =some x/\j∉seen/\f x s=some s'/\∃H,Sat w0 H0 N ((it,.JL (l.map enc)<|seen++[j])::Ai s') a w H
def Pv{α:Type}(l:A3 α)(seen:A3 Nat):A3 α:=((List.range l.length).filter λj=> !seen.contains j).filterMap λj=>l[j]?
def nI{l:A3 α}{j:Nat}{x:α}(hj:l[j]? =some x)(hn:j∉seen):(x::Pv l (seen++[j])).Perm (Pv l seen):=by
 have hlt:=(FH.1 hj).1;have key:((List.range l.length).filter λi=> !seen.contains i).Perm (j::(List.range l.length).filter λi=> !(seen++[j]).contains i):=by
  have IV:((List.range l.length).filter λi=> !seen.contains i).Nodup:=List.nodup_range.filter _;have IN:j∈(List.range l.length).filter λi=> !seen.contains i:=by simp[hlt,hn]
  have h1:=List.perm_cons_erase IN;refine h1.trans<|List.Perm.cons _ ?_
  rw[IV.erase_eq_filter,List.filter_filter];refine List.Perm.of_eq<|List.filter_congr λi _=>?_
  by_cases e:i=j
  .subst e;simp
  .simp[e]
 have h2:=(key.filterMap λi=>l[i]?).symm;simpa[Pv,hj] using h2
def xL{α:Type}:∀(l pre:A3 α),(List.range' pre.length l.length).filterMap (λj=>(pre++l)[j]?)=l
 |[],_=>rfl
 |x::l,pre=>by
  have ih:=xL l<|pre++[x]
  simp[E7,JG,HY,List.singleton_append] at ih;simp only[E6,List.range'_succ,List.filterMap_cons];rw[My<|BK _,Nat.sub_self];simp[List.getElem?_cons_zero,ih]
def aj4(l:A3 α):Pv l []=l:=by
 have:=xL l [];simp[ZO,K7] at this;unfold Pv;have e:List.filter (λj=> !([]:A3 Nat).contains j) (List.range l.length)=List.range l.length:=List.filter_eq_self.2<|λj _=>rfl
 rw[e,List.range_eq_range'];exact this
def anJ{σ ρ:Type}{l:A3 α}(enc:α->Ty×Ty){f:α->σ->AA σ}{K:σ->AA ρ}{s0:σ}{r:ρ}(Ai:σ->Ctx){c:Code}{ts:A3 Nat}(hall:∀π,π.Perm l->Sp f π s0 K=some r)(h0:ES Γ ts ((it,.JL (l.map enc) [])::Ai s0))
 (round:∀(seen:A3 Nat) (s:σ),(∀j x,l[j]? =some x->j∉seen->∃s',f x s=some s')->((∀j,j<(l.map enc).length->j∈seen)->K s=some r)->Goal P w0 H0 N c (Exit.then (av0 w0 H0 N it l enc f Ai seen s) Q) ((it,.JL (l.map enc) seen)::Ai s)):Goal P w0 H0 N (.loop c) Q Γ:=by
 intro a w H hs;refine wp_loop_ghost (λ(i:A3 Nat×σ) a w=>(∀π,π.Perm (Pv l i.1)->Sp f π i.2 K=some r)/\∃H,Sat w0 H0 N ((it,.JL (l.map enc) i.1)::Ai i.2) a w H) (λi=>(Pv l i.1).length) ([],s0) ⟨λπ hπ=>hall π (hπ.trans (by rw[aj4])),H,hs.weaken h0.sub⟩ ?_
 .rintro⟨seen,s⟩ a w ⟨hI,H,hs⟩;refine Vx (round seen s (λj x hj hn=>?_) (λhd=>?_) a w H hs) λe a' w' q=>?_
  .have h1:=hI (x::Pv l (seen++[j])) (nI hj hn);unfold Sp at h1;simp[Pu] at h1;let⟨s1,h2,_⟩:=Ax h1;let⟨s2,h3,_⟩:=Ax h2;exact⟨s2,h3⟩
  .have:Pv l seen=[]:=by
    unfold Pv;have:((List.range l.length).filter λj=> !seen.contains j)=[]:=List.filter_eq_nil_iff.2 λj hj=>by have:=hd j (by simpa using hj);simp[this]
    rw[this];rfl
   have h1:=hI [] (by rw[this]);exact h1
  .cases e with
   |normal=>
    let⟨j,x,s',hj,hn,hf,H',DO⟩:=q;refine⟨(seen++[j],s'),⟨λπ hπ=>?_,H',DO⟩,?_⟩
    .have h1:=hI (x::π) ((hπ.cons x).trans<|nI hj hn);unfold Sp at h1⊢;simp[Pu] at h1;rw[hf] at h1;exact h1
    .have:=(nI hj hn).length_eq;simp at this;simp only;omega
   |_=>exact q
def Aj.Oo(P:CF)(w:AR)(X:Nat->Prop):Aj P:=⟨w,X,none,false,[],0,FQ _,λ_ _=>FQ _⟩
def RB:Act:=⟨#[],[]⟩
structure JB(P:CF)(f:FuncId)(pre:A3 Ty)(s s':AQ)(post:A3 Ty)(Bk:A3 Ty):Prop where
 can:Gd P f=true
 run:∀(w:AR) (H:HV) (v:AV) (ps qs:A3 AV),(∀r o,H r=some o->w.heap[r]? =some o)->LP P H->Ec H pre ps->Ec H post qs->s.holds (Aj.Oo P w λb=>s.owns w v b) RB w H v->Calls P f (ps++v::qs).toArray w λe w'=>∃r,e= .returned r/\∃H',Qv (λb=>s.owns w v b) w H w' H'/\s'.holds (Aj.Oo P w λb=>s.owns w v b) RB w' H' v/\(∀b,s'.owns w' v b->s.owns w v b\/w.heap.size<=b)/\LQ H' Bk r
inductive Eo(Γ:Ctx):CD->Nat->Prop where
 |own {t:Nat}:Eo Γ (.tmp t) t|same {u t:Nat} (h:look Γ u=some (.same t)):Eo Γ (.tmp u) t|ptr {u t:Nat} (h:look Γ u=some (.ptr t 0)):Eo Γ (.tmp u) t
def Eo.ok{x:CD}(h:Eo Γ x t){a:Act}(hs:Sat w0 H0 N Γ a w H):a.eval x=Ae a t:=by
 cases h with
 |own=>rfl|same h=>exact hs.holds _<|B6 h
 |ptr h=>
  let⟨b,e1,e2⟩:=hs.holds _<|B6 h
  simp only at e1 e2;rw[e1];exact e2
theorem y8{a:Act}{w':AR}{H':HV}(hs:Sat w0 H0 N Γ a w H)(ht:(t,s)∈Γ)(hi:s.Ev=false)(hi':s'.Ev=false)(F6:∀q∈BF t Γ,q.2.Ev=true->∀b,s.owns w (Ae a t) b->w0.lo<=b)
 (hy:Qv (λb=>s.owns w (Ae a t) b) w H w' H')(DO:s'.holds w0 a w' H' (Ae a t))(ho:∀b,s'.owns w' (Ae a t) b->s.owns w (Ae a t) b\/w.heap.size<=b):Sat w0 H0 N ((t,s')::BF t Γ) a w' H':=by
 have Es:=hs.holds _ ht;have EC:∀b,s.owns w (Ae a t) b->w0.EC b:=λb hb=>AQ.PI hi Es hb
 have other:∀q∈BF t Γ,∀b,q.2.owns w (Ae a q.1) b-> ¬s.owns w (Ae a t) b:=λq hq b hb Ba=>hs.sep _ ht q (DL q hq).1 (λe=>(DL q hq).2 e.symm) b Ba hb
 have key:∀q∈BF t Γ,q.2.holds w0 a w' H' (Ae a q.1)/\∀b,q.2.owns w' (Ae a q.1) b↔q.2.owns w (Ae a q.1) b:=λq hq=>by
  refine AQ.VZ (n:=w0.lo) (hs.holds q (DL q hq).1) (λ_=>rfl) ?_;have kp:∀b,b<w.heap.size->(b<w0.lo\/q.2.owns w (Ae a q.1) b)->w'.heap[b]? =w.heap[b]? /\H' b=H b:=λb hb h=>hy.E3 b hb (λh2=>by
   rcases h with h|h
   .have:=Aj.QS (EC b h2);omega
   .exact other q hq b h h2)
  exact⟨hy.size,hy.os,hy.tape,hy.output,hy.drawn,hy.le,λb hb h=>(kp b hb h).1,λb hb h=>(kp b hb h).2,hy.sub⟩
 refine⟨?_,hs.sz,?_,?_,hy.sub,?_,?_,hs.gl.mono hy.le⟩
 .refine hs.nd.kept λD _ h1 h2=>?_
  have hn: ¬s.owns w (Ae a t) D:=λhm=>by let⟨_,_,o,ho,Jw⟩:=AQ.JC Es hm;rw[h1] at ho;cases ho;exact Jw
  have:=hy.E3 D (lt_of_heap h1) hn;exact⟨by rw[this.1];exact h1,by rw[this.2];exact h2⟩
 .refine⟨hy.os.trans hs.below.os,hy.tape.trans hs.below.tape,hy.output.trans hs.below.output,Ct hs.below.drawn hy.drawn,Ct hs.below.size hy.size,λhv k hk hx=>?_⟩;rw[(hy.E3 k (Jj hk hs.below.size) (λh=>by
   rcases EC k h with h|h
   .omega
   .exact hx h)).1]
  exact hs.below.block hv k hk hx
 .intro hv r hr hx;rw[(hy.E3 r (Jj hr hs.below.size) (λh=>by
   rcases EC r h with h|h
   .omega
   .exact hx h)).2]
  exact hs.FW hv r hr hx
 .grind
 .have low:∀q∈BF t Γ,∀b,q.2.owns w' (Ae a q.1) b-> ¬s'.owns w' (Ae a t) b:=λq hq b hb hm=>by
   have hb:=((key q hq).2 b).1 hb;rcases ho b hm with h|h
   .grind
   .have:=(AQ.JC (hs.holds q (DL q hq).1) hb).1;omega
  intro q hq r hr hne b hb Ba;rcases Aq.1 hq with e|hq<;>rcases Aq.1 hr with e'|hr
  .grind
  .grind
  .grind
  .exact hs.sep q (DL q hq).1 r (DL r hr).1 hne b (((key q hq).2 b).1 hb)<|((key r hr).2 b).1 Ba
def ahP{o:Oper}{f:FuncId}{xs ys:A3 CD}{pre post Bk:A3 Ty}{dd:Nat}{Ai:Ctx}(BC:∀q∈Ai,q∈Γ)(hf:JB P f pre s s' post Bk)(hod:(o.dst,o.guard)=(some dd,none))(hoe:∀{w0:Aj P} {H0:HV} {N:Nat} {a:Act} {w:AR} {H:HV},Sat w0 H0 N Ai a w H->execOp a.eval o=callFunc f (xs.map a.eval++Ae a t::ys.map a.eval).toArray)(ht:look Ai t=some s)(hi:(s.Ev||s'.Ev)=false)(hl:s.C8=[])(hl':s'.C8=[])
 (ha:AT Ai xs pre)(hb:AT Ai ys post)(DJ:dd<N)(hne:dd≠t):Step P N ops o Γ ((dd,Ip Bk)::(t,s')::del dd (BF t Γ)):=by
 intro w0 H0 a w H hs K Q k;have hg:o.guard=none:=congrArg Prod.snd hod;have hd:o.dst=some dd:=congrArg Prod.fst hod;simp[Region.wanted,hg,if_true];simp[MS] at hi;have hsi:=hs.weaken BC;have Es:=hs.holds _<|BC _<|B6 ht
 simp only at Es;unfold Oper.wp;rw[hoe hsi,P6 hf.can,W8,hd];have atH:s.holds (Aj.Oo P w λb=>s.owns w (Ae a t) b) RB w H (Ae a t):=AQ.PH (a:=a) (λt h=>by rw[hl] at h;cases h) (AQ.Rc hi.1 Es λb hb=> .inr hb)
 refine(hf.run w H _ _ _ hs.sub hs.gl (ha.ok hsi) (hb.ok hsi) atH).mono ?_;rintro e w' ⟨r,rfl,H',hy,DO,ho,hr⟩;have atI:s'.holds w0 a w' H' (Ae a t):=AQ.PH (a:=RB) (λt h=>by rw[hl'] at h;cases h) (AQ.Rc hi.2 DO λb hb=>by
  rcases ho b hb with h|h
  .exact AQ.PI hi.1 Es h
  .exact .inl<|Ct hs.below.size h)
 have h1:=y8 hs (BC _<|B6 ht) hi.1 hi.2 (λq hq _ b hb=>Aj.QS<|AQ.PI hi.1 Es hb) hy atI ho;have h2:=QK (h1.weaken (An:=del dd ((t,s')::BF t Γ)) ML) DJ PN (s:=Ip Bk) (v:=r) (by match Bk with|[]=>simp[Ip,AQ.C8]|[_]=>simp[Ip,AQ.C8]|_::_::_=>simp[Ip,AQ.C8]) (VV hr)<|λb e=>absurd e<|AQ.free_spec Vd
 refine k _ w' H'<|h2.weaken λq hq=>?_
 simp[Aq] at hq⊢;rcases hq with h|h|h
 .exact .inl h
 .subst h;exact .inr (Ry (by simp) (λe=>hne e.symm) (by simp only;rw[hl'];simp))
 .have:=qi h;exact .inr<|Ry (By _<|ML _ h) this.1 this.2
def xW{f:FuncId}{x:CD}{xs ys:A3 CD}{Ex:B8 Am}{pre post Bk:A3 Ty}{dd:Nat}{Ai:Ctx}(BC:∀q∈Ai,q∈Γ)(hf:JB P f pre s s' post Bk)(hx:Eo Ai x t)(ht:look Ai t=some s)(hi:(s.Ev||s'.Ev)=false)(hl:s.C8=[])(hl':s'.C8=[])
 (ha:AT Ai xs pre)(hb:AT Ai ys post)(DJ:dd<N)(hne:dd≠t):Step P N ops ⟨some dd,.call ⟨.value<| .func f,(xs++x::ys).toArray,Ex⟩,ty,pos,af,none⟩ Γ ((dd,Ip Bk)::(t,s')::del dd (BF t Γ)):=by
 refine ahP BC hf rfl (λ{_ _ _ a _ _} hsi=>?_) ht hi hl hl' ha hb DJ hne;have e:execOp a.eval ⟨some dd,.call ⟨.value<| .func f,(xs++x::ys).toArray,Ex⟩,ty,pos,af,none⟩=callFunc f (#[]++(xs++x::ys).toArray.map a.eval++ #[]):=rfl;rw[e]
 congr 1
 simp[hx.ok hsi]
end
section
variable[D:DR]
variable{P:Program}{w0:Aj P}{H0:HV}{N:Nat}{Q:Exit->Act->World->Prop}{Γ An:Ctx}
variable{fn:Func}{Bk:A3 Ty}{s s':AQ}
def aci(P:CF)(w:AR)(H:HV)(v:AV)(s s':AQ)(Bk:A3 Ty)(e:Ending)(w':AR):Prop:=∃r,e= .returned r/\∃H',Qv (λb=>s.owns w v b) w H w' H'/\s'.holds (Aj.Oo P w λb=>s.owns w v b) RB w' H' v/\(∀b,s'.owns w' v b->s.owns w v b\/w.heap.size<=b)/\LQ H' Bk r
def rR(P:CF)(fn:Func)(w:AR)(H:HV)(v:AV)(s s':AQ)(Bk:A3 Ty):Exit->Act->AR->Prop:=bodyPostM (Fb none) 0 P fn<|aci P w H v s s' Bk
def aj3{rs:A3 ResultVar}{w1:AR}{v:AV}{i:Nat}(hw0:w0=Aj.Oo P w1 λb=>s.owns w1 v b)(F6:∀b,s.owns w1 v b->H0 b=none)(hlt:∀r o,H0 r=some o->r<w1.heap.size)(hr:fn.results=rs.toArray)(h:AZ P Γ rs Bk)(DO:look Γ i=some s')(hp:look Γ N=some (.KM i v))(hi:s'.Ev=false)(hl:s'.C8=[])
 {a:Act}{w:AR}{H:HV}(hs:Sat w0 H0 N Γ a w H):LeavesInM (Fb none) 0 P fn a.tmps (aci P w1 H0 v s s' Bk) a.defers .returning w:=by
 subst hw0;refine VR rfl rfl (a:=a) (ds:=a.defers) hs λw H hs=>?_
 let⟨vs,h1,h2⟩:=h.run hs;have hlen:=Rw h2;rw[YO hr];simp only[E0,Sem.run_map,h1,Dm,K6];have hv:Ae a i=v:=hs.holds _<|B6 hp
 have Es:=hs.holds _<|B6 DO
 simp only at Es;have ea:Ae {a with defers:=[]} i=v:=hv;rw[ea] at Es;refine⟨_,rfl,_,rfl,H,⟨hs.below.size,hs.below.os,hs.below.tape,hs.below.output,hs.below.drawn,?_,?_,hs.sub⟩,AQ.PH (λt h=>by rw[hl] at h;cases h) Es,?_,?_⟩
 .intro r o ho;rw[hs.FW rfl r (hlt r o ho) (λhx=>by have:=F6 r hx;rw[this] at ho;cases ho)];exact ho
 .exact λb hb hx=>⟨hs.below.block rfl b hb hx,hs.FW rfl b hb hx⟩
 .intro b hb;rcases AQ.PI hi Es hb with h|h
  .exact .inr h
  .exact .inl h
 .match Bk,h2,hlen with
  |[],h2,hl=>have:vs=[]:=h2;subst this;exact⟨#[],rfl,rfl⟩
  |[τ],h2,hl=>let⟨v,rest,e,hv,hr⟩:=h2;have:rest=[]:=hr;subst this;subst e;exact hv
  |τ::Gk::l,h2,hl=>
   have: ¬vs.toArray.size=1:=by simp[hl]
   rw[dif_neg this];exact⟨vs.toArray,rfl,by simpa using h2⟩
structure jK(P:CF)(w0:Aj P)(H0:HV)(w1:AR)(v:AV)(s:AQ):Prop where
 eq:w0=Aj.Oo P w1 λb=>s.owns w1 v b
 no:∀b,s.owns w1 v b->H0 b=none
 lt:∀r o,H0 r=some o->r<w1.heap.size
def abJ{rs:A3 ResultVar}{w1:AR}{v:AV}{i:Nat}(hk:jK P w0 H0 w1 v s)(hr:fn.results=rs.toArray)(h:AZ P Γ rs Bk)(DO:look Γ i=some s')(hp:look Γ N=some (.KM i v))(hi:s'.Ev=false)(hl:s'.C8=[]):EJ w0 H0 N (λa w=>rR P fn w1 H0 v s s' Bk .ret a w) Γ:=λ_ _ _ hs=>aj3 hk.eq hk.no hk.lt hr h DO hp hi hl hs
def nO:∀{l:A3 Ty} {i:Nat},∀p∈HZ i l,i<=p.1/\p.1<i+l.length/\p.2.free=true/\p.2.Ev=false
 |[],_,p,hp=>by simp[HZ] at hp
 |τ::l,i,p,hp=>by
  simp only[HZ,Aq] at hp;rcases hp with e|hp
  .subst e;exact⟨BK _,by simp,rfl,rfl⟩
  .have:=nO p hp;refine⟨by omega,by simp;omega,this.2.2.1,this.2.2.2⟩
def nH{f:FuncId}{c:Code}{pre post:A3 Ty}{N:Nat}(hf:P.funcs[f]? =some fn)(hb:fn.body=some c)(hN:fn.ntmps=N)(hn:pre.length+1+post.length<=N)(hc:Gd P f=true)(hl:s.C8=[])(hi:s.Ev=false)
 (h:∀(w1:AR) (v:AV) (w0:Aj P) (H0:HV),jK P w0 H0 w1 v s->Goal P w0 H0 N c (rR P fn w1 H0 v s s' Bk) ((N,.KM pre.length v)::(pre.length,s)::(HZ 0 pre++HZ (pre.length+1) post))):JB P f pre s s' post Bk:=by
 subst hN;refine⟨hc,λw H v ps qs sub gl hps hqs hs=>?_⟩;have Aw:Ec H (pre++post) (ps++qs):=YP hps hqs;have KR:=Rw hps;have hql:=Rw hqs;have aqd:jK P (Aj.Oo P w λb=>s.owns w v b) H w v s:=⟨rfl,λb hb=>(AQ.JC hs hb).2.1,λr o ho=>HG sub ho⟩;refine(callsIn_wide (n:=0)).1<|callsIn_of_wp_marks (F:=Fence.wide) hf hb trivial<|h w v _ H aqd _ w H ?_
 obtain⟨a,ha⟩:∃a:Act,a={tmps:=(ps++v::qs).toArray++Array.replicate (fn.ntmps-(ps++v::qs).toArray.size) undef,defers:=[]}:=⟨_,rfl⟩;rw[<-ha];have sC:∀j x,(ps++v::qs)[j]? =some x->Ae a j=x:=λj x hj=>by
  have Jz:=(FH.1 hj).1;have e:((ps++v::qs).toArray++Array.replicate (fn.ntmps-(ps++v::qs).toArray.size) undef)[j]? =some x:=by rw[Array.getElem?_append_left (by simpa using Jz)];simpa using hj
  rw[ha];simp only[Ae,UD,e,ZS]
 have hvv:Ae a pre.length=v:=sC _ _ (by rw[<-KR];simp);have e1:∀p∈HZ 0 pre,p.2.holds (Aj.Oo P w λb=>s.owns w v b) a w H (Ae a p.1):=eL 0 hps λj x hj=>sC _ _ (by rw[PX,MT (FH.1 hj).1];exact hj)
 have e2:∀p∈HZ (pre.length+1) post,p.2.holds (Aj.Oo P w λb=>s.owns w v b) a w H (Ae a p.1):=eL (pre.length+1) hqs λj x hj=>sC _ _ (by rw[My (by omega),<-KR,show ps.length+1+j-ps.length=j+1 by omega];simpa using hj)
 have KA:∀p∈(fn.ntmps,AQ.KM pre.length v)::(pre.length,s)::(HZ 0 pre++HZ (pre.length+1) post),p.1≠pre.length->∀b,¬p.2.owns w (Ae a p.1) b:=by
  intro p hp hne b hb;simp only[Aq,C3] at hp;rcases hp with e|e|hp|hp
  .subst e;exact hb
  .subst e;exact hne rfl
  .exact AQ.free_spec (nO p hp).2.2.1 hb
  .exact AQ.free_spec (nO p hp).2.2.1 hb
 refine⟨by rw[ha];trivial,by rw[ha];simp;omega,⟨rfl,rfl,rfl,BK _,BK _,λ_ _ _ _=>rfl⟩,λ_ _ _ _=>rfl,sub,?_,?_,gl⟩
 .intro p hp;simp only[Aq,C3] at hp;rcases hp with e|e|hp|hp
  .subst e;exact hvv
  .subst e;simp only;rw[hvv];exact AQ.PH (λt h=>by rw[hl] at h;cases h) hs
  .exact e1 p hp
  .exact e2 p hp
 .intro p hp q hq hne b hb Ba;by_cases h1:p.1=pre.length
  .exact KA q hq (λe=>hne<|h1.trans e.symm) b Ba
  .exact KA p hp h1 b hb
end
@[reducible] def sY(_:Unit):Ty:=TEq .nilIface rfl
def GK:Int:=18446744073709551616
def Gz(x:Int):Bool:=decide (0<=x)&&decide (x<18446744073709551616)
def Lm(x y c:Int):AA (Int×Int):=bif (Gz x&&Gz y)&&(decide (c=0)||decide (c=1)) then some ((x+y+c)%GK,(x+y+c)/GK) else none
def S1(x y b:Int):AA (Int×Int):=bif (Gz x&&Gz y)&&(decide (b=0)||decide (b=1)) then some ((x-y-b)%GK,bif decide (x<y+b) then 1 else 0) else none
def D9(z:Int):Bool:=Nat.blt (Nat.log2 z.natAbs) 1099511627776
def EL{α:Type}(b:Bool)(x:α):AA α:=bif b then some x else none
def Um(x y:Int):Int:=bif decide (x<y) then -1 else bif decide (y<x) then 1 else 0
def rL(z:Int):AA Int:=some z.sign
def acf(z:Int):AA Int:=some<| -z
def sX(z:Int):AA Int:=some (z.natAbs:Int)
def bK(x y:Int):AA Int:=EL (D9 x&&D9 y)<|Um x y
def Su(x y:Int):AA Int:=EL (D9 x&&D9 y)<|x+y
def KF(x y:Int):AA Int:=EL (D9 x&&D9 y)<|x*y
def ace(x y:Int):AA Int:=EL (D9 x&&D9 y&& !decide (y=0))<|x.fdiv y
def Ou(x y:Int):AA Int:=EL (D9 x&&D9 y) (Int.gcd x y:Int)
def aOf(x:Int):AA Int:=AH x
def Pn(z:Int):AA (Int×Bool):=EL (!decide (z= -9223372036854775808))<|bif Hb z then(z,true) else(z.sign,false)
def rM(z:Int):AA Int:=EL (D9 z)<|bif decide (z=0) then 0 else(Nat.log2 z.natAbs:Int)+1
def bH:Nat->Nat->A3 UInt8->A3 UInt8
 |0,_,acc=>acc|f+1,n,acc=>bif Nat.blt n 10 then UInt8.ofNat (48+n)::acc else bH f (n/10) (UInt8.ofNat (48+n%10)::acc)
def B2(n:Nat):A3 UInt8:=bH (n+1) n []
def Cf(z:Int):A3 UInt8:=bif decide (z<0) then 45::B2 z.natAbs else B2 z.natAbs
def aF(z:Int):AA (A3 UInt8):=bif Hb z then some (Cf z) else none
def jB(z b:Int):AA (A3 UInt8):=EL (Gz z&&decide (b=10))<|B2 z.toNat
def ju(l:A3 UInt8):Nat->A3 UInt8
 |0=>[]|c+1=>l++ju l c
def jA(s:A3 UInt8)(c:Int):AA (A3 UInt8):=EL (decide (0<=c)&&decide (c<=64)&&decide (s=[48]))<|ju s c.toNat
def Pf(z:Int):AA (A3 UInt8):=EL (D9 z)<|Cf z
def F4(q:Rat):Bool:=Nat.blt (Nat.log2 q.num.natAbs) 68719476736&&Nat.blt (Nat.log2 q.den) 68719476736
def Oh(x y:Int):AA Rat:=EL (D9 x&&D9 y&& !decide (y=0))<|(x:Rat)/(y:Rat)
def Lj(q:Rat):AA Bool:=some<|decide<|q.den=1
def We(x:Int):AA Rat:=some (x:Rat)
def Sl(q:Rat):AA Rat:=some<| -q
def M0(x y:Rat):AA Rat:=EL (F4 x&&F4 y)<|x+y
def Nv(x y:Rat):AA Rat:=EL (F4 x&&F4 y)<|x-y
def GB(x y:Rat):AA Rat:=EL (F4 x&&F4 y)<|x*y
def Sm(x y:Rat):AA Rat:=EL (F4 x&&F4 y&& !decide (y=0))<|x/y
def ay(x:Rat):AA Rat:=EL (F4 x&& !decide (x=0)) x⁻¹
def On(x y:Rat):AA Int:=EL (F4 x&&F4 y)<|bif decide (x<y) then -1 else bif decide (y<x) then 1 else 0
def SV(x y:Rat):AA Bool:=EL (F4 x&&F4 y)<|decide<|x=y
def JK(x:Rat):AA Int:=some x.num.sign
def qF(x:Int):AA Rat:=(AH x).map λz=>(z:Rat)
def mkq(a b:Int):AA Rat:=match b with| .ofNat (d+1)=>EL (Nat.beq (Nat.gcd a.natAbs<|d+1) 1)<|mkRat a<|d+1|_=>none
def yW{a b:Int}{r:Rat}(h:mkq a b=some r):r.num=a/\(r.den:Int)=b:=by
 unfold mkq at h;split at h
 .rename_i d;unfold EL at h;cases hc:Nat.beq (Nat.gcd a.natAbs<|d+1) 1
  .rw[hc] at h;cases h
  .rw[hc] at h;have h:=(E8 h).symm;subst h;have hg:Nat.gcd a.natAbs (d+1)=1:=E9 hc;rw[Rat.num_mkRat,Rat.den_mkRat];rw[S3] at hg;simp[hg]
 .cases h
def qb[D:DR]{a b:Int}{r:Rat}(h:mkq a b=some r):(AQ.val<|DB [EI a,EI b])= .val (Bw r):=by let⟨h1,h2⟩:=yW h;rw[<-h1,<-h2]
def Ds(b:UInt8):Bool:=Nat.ble 48 b.toNat&&Nat.ble b.toNat 57
def BR(l:A3 UInt8):Nat:=l.foldl (λn b=>10*n+(b.toNat-48)) 0
def aG(s:A3 UInt8):AA (Int×Unit):=EL (!s.isEmpty&&Nat.ble s.length 18&&s.all Ds) ((BR s:Int),())
def cutAt(sep:UInt8):A3 UInt8->A3 UInt8->A3 UInt8×A3 UInt8×Bool
 |pre,[]=>(pre.reverse,[],false)|pre,b::l=>bif b==sep then(pre.reverse,l,true) else cutAt sep (b::pre) l
def jO(s sep:A3 UInt8):AA (A3 UInt8×A3 UInt8×Bool):=match sep with|[c]=>EL (Nat.blt s.length 4294967281)<|cutAt c [] s|_=>none
def Hq(s:A3 UInt8):AA Int:=match s with|45::ds=>EL (ds.all Ds&&Nat.blt ds.length 1000000)<| -(BR ds:Int)|ds=>EL (ds.all Ds&&Nat.blt ds.length 1000000) (BR ds:Int)
abbrev V3:=Rat×Rat×Rat
abbrev BZ:=(Int×Int×Int)×A3 UInt8
def Rv{α:Type}:A3 α->A3 (α×α)
 |[]=>[]|a::l=>(a::l).zip<|l++[a]
def Nx{α:Type}(c:α->α->AA Int)(x:α):A3 α->AA (A3 α)
 |[]=>some [x]|y::l=>bd (c x y) λk=>cond (decide<|k<0) (bd (Nx c x l) λr=>some (y::r))<|some (x::y::l)
def jF{α:Type}(c:α->α->AA Int)(l:A3 α):AA (A3 α):=JX l (λnext x s=>bd (Nx c x s) next) [] λs=>some s.reverse
def Wq{α:Type}(e:α->α->AA Bool):α->A3 α->AA (A3 α)
 |_,[]=>some []|x,y::l=>bd (e y x) λb=>bd (Wq e y l) λr=>some<|cond b r (y::r)
def alK{α:Type}(e:α->α->AA Bool):A3 α->AA (A3 α)
 |[]=>some []|x::l=>bd (Wq e x l) λr=>some (x::r)
def XB{α:Type}[DecidableEq α](c:α×α->AA Int)(x:α):A3 α->Bool
 |[]=>true
 |y::l=>(bif decide (x=y) then true else match c (x,y),c (y,x) with|some i,some j=>decide (i<0)&&decide (0<=j)|_,_=>false)&&XB c x l
def Og{α:Type}[DecidableEq α](c:α×α->AA Int):A3 α->Bool
 |[]=>true
 |x::l=>(match c (x,x) with|some i=>decide<|0<=i|none=>false)&&(XB c x l&&Og c l)
def totB{α:Type}(c:α×α->AA Int)(l:A3 α):Bool:=l.all λx=>l.all λy=>(c (x,y)).isSome
def Ic{α:Type}[DecidableEq α](l:A3 α)(c:α×α->AA Int):AA (A3 α):=bd (jF (λa b=>c (a,b)) l) λs=>EL (Nat.blt l.length 4611686018427387904&&(totB c l&&Og c s)) s
def YZ{α:Type}(l:A3 α)(e:α×α->AA Bool):AA (A3 α):=alK (λa b=>e (a,b)) l
def Vj(l:A3 V3):AA (A3<|V3×V3):=EL (Nat.blt l.length 1000000000)<|Rv l
section
variable[D:DR]
variable{P:Program}{w0:Aj P}{H0:HV}{N:Nat}{ops:Array Oper}{Q:Exit->Act->World->Prop}{Γ An:Ctx}{d:Option Tmp}{ty:TypeId}{pos:String}{af:Array Edge}{g:Option (Nat×Bool)}
variable{T:Am}{ps:A3 Bt}{τ:Ty}{t:Nat}
@[reducible] def TMp{α β:Type}(fK:α->Ty)(F:β->Ty)(l:A3 (α×β)):Ty:=kJ<|l.map λp=>(fK p.1,F p.2)
def nr{l:A3 Ty}(gg:Bool)(h:Dn P T τ)(hτ:∀H v,τ.ok H v->DT H l v.cells.toList)(ho:Gj l ps):Ay P Γ ⟨d,.alloc T,ty,pos,af,g⟩ (.D7 T gg ps):=
 MC λw0 _ _ a w H hs=>by
  let⟨z,hr,hz⟩:=h.run w;have he:=Ext.alloc hs.sub<| .cells z.cells T (0,0)
  let⟨h1,h2,h3⟩:=ho.ok (B:=w0) (a:=a) (w:=w.alloc<| .cells z.cells T (0,0))<|hτ H z<|hz H
  refine⟨.pointer<|some ⟨w.heap.size,0,none⟩,w.alloc<| .cells z.cells T,H,?_,he,?_,?_⟩
  .simp[execOp,Instr.alloc,hr,newVar,newRow]
  .refine⟨w.heap.size,z.cells,rfl,Lt w _,?_,.inl hs.below.size,h1,h3,h2 _⟩;cases hh:H w.heap.size with|none=>rfl|some o=>have:=HG hs.sub hh;omega
  .rintro b ⟨c,e,hb⟩;cases e;rcases hb with hb|⟨cs,hc,hb⟩
   .omega
   .rw[Lt] at hc;cases hc;exact absurd hb<|h2 b
def amN{x:CD}{l:A3 Ty}(gg:Bool)(hx:Arg Γ x τ)(hτ:∀H v,τ.ok H v->DT H l v.cells.toList)(ho:Gj l ps):Ay P Γ ⟨d,.box T x,ty,pos,af,g⟩ (.D7 T gg ps):=
 MC λw0 _ _ a w H hs=>by
  have he:=Ext.alloc hs.sub<| .cells (a.eval x).cells T (0,0)
  let⟨h1,h2,h3⟩:=ho.ok (B:=w0) (a:=a) (w:=w.alloc<| .cells (a.eval x).cells T (0,0))<|hτ H _<|hx.ok hs
  refine⟨.pointer<|some ⟨w.heap.size,0,none⟩,w.alloc<| .cells (a.eval x).cells T,H,?_,he,?_,?_⟩
  .simp[execOp,Instr.box,newVar,newRow]
  .refine⟨w.heap.size,(a.eval x).cells,rfl,Lt w _,?_,.inl hs.below.size,h1,h3,h2 _⟩;cases hh:H w.heap.size with|none=>rfl|some o=>have:=HG hs.sub hh;omega
  .rintro b ⟨c,e,hb⟩;cases e;rcases hb with hb|⟨cs,hc,hb⟩
   .omega
   .rw[Lt] at hc;cases hc;exact absurd hb<|h2 b
def aqC{u:Nat}(hu:look Γ u=some (.same t))(ht:look Γ t=some (.val τ)):II w0 N Γ ((u,.val τ)::BF u Γ):=λH0 a w H hs=>by
 have e:=hs.holds _<|B6 hu
 have hv:=hs.holds _<|B6 ht
 exact⟨H,nC (us:=[]) hs (λq hq=>DL q hq) (by rw[show Ae a u=Ae a t from e];exact hv) (λb h=>h.elim) (λ_ _ h=>by cases h)⟩
def Zv{p off i dd:Nat}{T':Am}{gg:Bool}{pp:Bt}(sm:Bool)(hp:FI Γ p t off)(ht:look Γ t=some (.D7 T' gg ps))(hi:ps[i]? =some pp)(ho:Bl ps i=off)(h1:(pp.n,pp.agg)=(1,false))(hT:Bp P T 1 false=true)(DJ:dd<N)(hd:(dd !=t&& !(Qq ps).contains dd)=true):Step P N ops ⟨some dd,.load T<| .tmp p,ty,pos,af,none⟩ Γ ((dd,pp.sty)::(t,.D7 T' gg<|ps.set i<|SY dd sm)::del dd (BF t Γ)):=by simp[C4,MI,ne_eq,G5,q9,Ij] at hd;exact aA3 (λ_ h=>h) sm hp ht hi ho (congrArg Prod.fst h1) (congrArg Prod.snd h1) hT DJ hd.1 hd.2
def aad{p off i dd:Nat}{T':Am}{gg:Bool}{pp:Bt}(sm:Bool)(hp:FI Γ p t off)(ht:look Γ t=some (.D7 T' gg ps))(hi:ps[i]? =some pp)(ho:Bl ps i=off)(h1:(pp.n,pp.agg)=(1,false))(hT:Bp P T 1 false=true)(DJ:dd<N)(hd:(dd !=t&& !(Qq ps).contains dd)=true):kI P N ops Γ ⟨some dd,.load T<| .tmp p,ty,pos,af,none⟩ t (.D7 T' gg<|ps.set i<|SY dd sm) dd pp.sty:=λEK BC=>by simp[C4,MI,ne_eq,G5,q9,Ij] at hd;exact aA3 BC sm hp ht hi ho (congrArg Prod.fst h1) (congrArg Prod.snd h1) hT DJ hd.1 hd.2
end
section
variable[D:DR]
variable{P:Program}{w0:Aj P}{H0:HV}{N:Nat}{ops:Array Oper}{Q:Exit->Act->World->Prop}{Γ An:Ctx}{d:Option Tmp}{ty:TypeId}{pos:String}{af:Array Edge}{g:Option (Nat×Bool)}
variable{α β:Type}[DecidableEq α]{K E Eb T:TypeId}{sz:Nat}{fK:α->Ty}
def als{F:β->Ty}{m k v:CD}{t:Nat}{l:A3 (α×β)}{x:α}{y:β}(hT:Ud P T K E=true)(hk:SF P K fK)(hm:Qx Γ m t)(ht:look Γ t=some (.Gm K E Eb sz<|mM fK (λv=> .val<|F v) l))(hx:Arg Γ k (fK x))(hy:Arg Γ v (F y)):Ov P N ops Γ ⟨none,.mapUpdate T m k v,ty,pos,af,none⟩ t (.Gm K E Eb sz<|mM fK (λv=> .val<|F v)<|X2 l x y):=λ_ BC=>afR BC hT hk hm ht hx hy
def aoB{K E Eb T:Am}{sz:Nat}{α β:Type}(fK:α->Ty)(fV:β->DC):Ay P Γ ⟨d,.makeMap T none,ty,pos,af,g⟩ (.Gm K E Eb sz<|mM fK fV ([]:A3 (α×β))):=ahA
def akE{t:Nat}{F:β->Ty}{l:A3 (α×β)}(ht:look Γ t=some (.Gm K E Eb sz<|mM fK (λv=> .val<|F v) l)):II w0 N Γ ((t,.val<|TMp fK F l)::BF t Γ):=am8 ht (λp hp=>by obtain⟨q,_,rfl⟩:=BU.1 hp;rfl) (by simp[mM,jx,DC.pub])
end
section
variable[D:DR]
variable{P:Program}{w0:Aj P}{H0:HV}{N:Nat}{ops:Array Oper}{Q:Exit->Act->World->Prop}{Γ An:Ctx}{d:Option Tmp}{ty:TypeId}{pos:String}{af:Array Edge}{g:Option (Nat×Bool)}
variable{t:Nat}
def Rl{f:FuncId}{x:CD}{xs ys:A3 CD}{Ex:B8 Am}{pre post Bk:A3 Ty}{s s':AQ}{dd:Nat}(hf:JB P f pre s s' post Bk)(hx:Eo Γ x t)(ht:look Γ t=some s)(hi:(s.Ev||s'.Ev)=false)(hl:(s.C8,s'.C8)=([],[]))
 (ha:AT Γ xs pre)(hb:AT Γ ys post)(DJ:dd<N)(hne:(dd !=t)=true):Step P N ops ⟨some dd,.call ⟨.value<| .func f,(xs++x::ys).toArray,Ex⟩,ty,pos,af,none⟩ Γ ((dd,Ip Bk)::(t,s')::del dd (BF t Γ)):=xW (λ_ h=>h) hf hx ht hi (congrArg Prod.fst hl) (congrArg Prod.snd hl) ha hb DJ (by simpa using hne)
def ajn{f:FuncId}{x:CD}{xs ys:A3 CD}{Ex:B8 Am}{pre post Bk:A3 Ty}{s s':AQ}{dd:Nat}(hf:JB P f pre s s' post Bk)(hx:Eo Γ x t)(ht:look Γ t=some s)(hi:(s.Ev||s'.Ev)=false)(hl:(s.C8,s'.C8)=([],[]))
 (ha:AT Γ xs pre)(hb:AT Γ ys post)(DJ:dd<N)(hne:(dd !=t)=true):kI P N ops Γ ⟨some dd,.call ⟨.value<| .func f,(xs++x::ys).toArray,Ex⟩,ty,pos,af,none⟩ t s' dd (Ip Bk):=λ_ BC=>xW BC hf hx ht hi (congrArg Prod.fst hl) (congrArg Prod.snd hl) ha hb DJ (by simpa using hne)
def Vs{w0:Aj P}{u i:Nat}{T':Am}{gg:Bool}{ps:A3 Bt}{E:Am}{sz:Nat}{l:A3 Ty}(ht:look Γ t=some (.D7 T' gg ps))(hi:ps[i]? =some (.sm u))(hu:look Γ u=some (.buf E sz l))(hne:(u !=t)=true):II w0 N Γ ((t,.D7 T' gg<|ps.set i<| .buf E sz l)::BF t (BF u Γ)):=anF (.buf E sz l) ht hi hu hne rfl (λe=>by cases e)
end
section
variable[D:DR]
variable{P:Program}{w0:Aj P}{H0:HV}{N:Nat}{Q:Exit->Act->World->Prop}{Γ An:Ctx}{d:Option Tmp}{ty:TypeId}{pos:String}{af:Array Edge}{g:Option (Nat×Bool)}
theorem aum{α β:Type}{f:α->β}{l:A3 α}{j:Nat}(h:j<(l.map f).length):∃x,l[j]? =some x:=by simp_all
def aoc{t i k:Nat}{c:Code}{T:Am}{gg:Bool}{ps:A3 Bt}{E:Am}{sz:Nat}{l:A3 Ty}(ht:look Γ t=some (.D7 T gg ps))(hi:ps[i]? =some (.buf E sz l))(hk:Nat.ble N k=true)(h:∀x (hx:x.oneCell'=true),Goal P w0 H0 N c Q ((k,.Nt x E sz l)::(t,.D7 T gg<|ps.set i<| .val<|TEq x hx)::BF k (BF t Γ))):Goal P w0 H0 N c Q Γ:=λa w H hs=>by
 let⟨b,cs,e,hb,hnb,hm,Aw,IU,hx⟩:=hs.holds _<|B6 ht
 simp only at e;let⟨_,h3,h4,_⟩:=Ql Aw hi;have jT:=gK Aw hi;have hown:∀c,(pv (.buf E sz l) (Bl ps i) cs.toList).ownBlock=some c->G9 w c ps cs.toList:=λc hc=>PF.2 ⟨i,_,hi,hc⟩
 generalize hv:pv (.buf E sz l) (Bl ps i) cs.toList=v at*
 have h1:v.oneCell'=true:=(mL h3).1;let⟨Dv,hcs,k1,k2,k3⟩:=Vn (q:= .val<|TEq v h1) (x:=v) Aw IU hi h3 rfl rfl<|λc hc=>hc.elim
 rw[show Dv=cs.toList by rw[hcs];exact jT,hv] at*;have nw:∀c,G9 w c (ps.set i<| .val<|TEq v h1) cs.toList->G9 w c ps cs.toList/\ ¬v.ownBlock=some c:=λc hc=>by
  rcases k3 c hc with h|h
  .exact h.elim
  .exact h
 have hb1:∀c,(AQ.D7 T gg<|ps.set i<| .val<|TEq v h1).owns w (Ae a t) c->(AQ.D7 T gg ps).owns w (Ae a t) c/\ ¬v.ownBlock=some c:=by
  rintro c ⟨c',e',hc⟩;rw[e] at e';cases e';rcases hc with hc|⟨cs3,hb3,hc⟩
  .subst hc;exact⟨⟨c,e,.inl rfl⟩,λh=>hx<|hown c h⟩
  .rw[hb] at hb3;cases hb3;exact⟨⟨b,e,.inr ⟨cs,hb,(nw c hc).1⟩⟩,(nw c hc).2⟩
 have hb2:∀c,v.ownBlock=some c->(AQ.D7 T gg ps).owns w (Ae a t) c:=λc hc=>⟨b,e,.inr ⟨cs,hb,hown c hc⟩⟩
 have sub:∀q∈BF k (BF t Γ),q∈Γ/\q.1≠t/\q.1≠k:=λq hq=>⟨(DL q (DL q hq).1).1,(DL q (DL q hq).1).2,(DL q hq).2⟩
 refine h v h1 a w H ⟨hs.nd,hs.sz,hs.below,hs.FW,hs.sub,?_,?_,hs.gl⟩
 .intro p hp;rcases Aq.1 hp with e1|hp
  .subst e1;exact h4
  rcases Aq.1 hp with e1|hp
  .subst e1;exact⟨b,cs,e,hb,hnb,hm,k1,k2,λhc=>hx (nw b hc).1⟩
  .exact hs.holds p (sub p hp).1
 .intro p hp q hq hne c hc FC;rcases Aq.1 hp with e1|hp
  .subst e1;rcases Aq.1 hq with e2|hq
   .subst e2;exact hne rfl
   rcases Aq.1 hq with e2|hq
   .subst e2;exact(hb1 c FC).2 hc
   .exact hs.sep _ (B6 ht) q (sub q hq).1 (λe=>(sub q hq).2.1 e.symm) c (hb2 c hc) FC
  rcases Aq.1 hp with e1|hp
  .subst e1;rcases Aq.1 hq with e2|hq
   .subst e2;exact(hb1 c hc).2 FC
   rcases Aq.1 hq with e2|hq
   .subst e2;exact hne rfl
   .exact hs.sep _ (B6 ht) q (sub q hq).1 (λe=>(sub q hq).2.1 e.symm) c (hb1 c hc).1 FC
  .rcases Aq.1 hq with e2|hq
   .subst e2;exact hs.sep p (sub p hp).1 _ (B6 ht) (sub p hp).2.1 c hc<|hb2 c FC
   rcases Aq.1 hq with e2|hq
   .subst e2;exact hs.sep p (sub p hp).1 _ (B6 ht) (sub p hp).2.1 c hc (hb1 c FC).1
   .exact hs.sep p (sub p hp).1 q (sub q hq).1 hne c hc FC
def aaP{fn:Func}{rs:A3 ResultVar}{Bk:A3 Ty}{w1:AR}{v:AV}{s:AQ}(hk:jK P w0 H0 w1 v s)(hr:fn.results=rs.toArray)(h:AZ P Γ rs Bk):EJ w0 H0 N (λa w=>rR P fn w1 H0 v s .gone Bk .ret a w) Γ:=λa w H hs=>by
 let⟨e1,e2,e3⟩:=hk;subst e1;refine VR rfl rfl (a:=a) (ds:=a.defers) hs λw H hs=>?_
 let⟨vs,h1,h2⟩:=h.run hs;have hlen:=Rw h2;rw[YO hr];simp only[E0,Sem.run_map,h1,Dm,K6];refine⟨_,rfl,_,rfl,H,⟨hs.below.size,hs.below.os,hs.below.tape,hs.below.output,hs.below.drawn,?_,?_,hs.sub⟩,trivial,(λb hb=>hb.elim),?_⟩
 .intro r o ho;rw[hs.FW rfl r (e3 r o ho) (λhx=>by have:=e2 r hx;rw[this] at ho;cases ho)];exact ho
 .exact λb hb hx=>⟨hs.below.block rfl b hb hx,hs.FW rfl b hb hx⟩
 .match Bk,h2,hlen with
  |[],h2,hl=>have:vs=[]:=h2;subst this;exact⟨#[],rfl,rfl⟩
  |[τ],h2,hl=>let⟨v,rest,e,hv,hr⟩:=h2;have:rest=[]:=hr;subst this;subst e;exact hv
  |τ::Gk::l,h2,hl=>
   have: ¬vs.toArray.size=1:=by simp[hl]
   rw[dif_neg this];exact⟨vs.toArray,rfl,by simpa using h2⟩
end
section
variable{p:CF}
def ads{w w':AR}{at_:Addr}{u:Am}{k:Addr}{v:AV}{b:Bool}{l:A3 Addr}(h:w.viewStore p at_ u k v b= .ok (w',l)):w'.drawn=w.drawn:=by
 unfold World.viewStore at h;simp only[bind,Except.bind,pure,Except.pure,MonadExcept.throw,throwThe,MonadExceptOf.throw] at h
 repeat' (split at h)
 all_goals first|(cases h;done)|skip
 all_goals (cases h;rfl)
def aeV{w w':AR}{a:Addr}{v:AV}{b:Bool}{l:A3 Addr}(h:w.farStore p a v b= .ok (w',l)):w'.drawn=w.drawn:=by
 unfold World.farStore at h;split at h
 .split at h
  .cases h;rename_i h2;exact ads h2
  .cases h
 .cases h
def o7{α:Type}:∀(q:Ask α) (w:AR),w.drawn<=(w.ask q).2.drawn
 | .done a,w=>by simp[World.ask]
 | .ask avH range k,w=>by
  unfold World.ask;simp only;split
  .exact o7 _ w
  .exact Ct (QW w.drawn)<|o7 _ {w with drawn:=w.drawn+1}
def aiG(w:AR)(c:Sys):w.drawn<=(w.sys c).2.drawn:=by
 unfold World.sys;split
 .exact BK _
 .rename_i h;have:=o7 (Kernel.perform c w.os) w;rw[h] at this;exact this
def aib{α:Type}:∀(s:Sem α) {w w':AR} {v:α},s.run p w= .ok v w'->w.drawn<=w'.drawn:=by
 intro s
 induction s with
 |pure a=>intro w w' v h;simp only[Sem.run] at h;cases h;exact BK _
 |load m a k ih=>
  intro w w' v h;simp only[Sem.run] at h;split at h
  .exact ih _ h
  .split at h
   .exact ih _ h
   .cases h
 |store m a u k ih=>
  intro w w' v h;have key:∀r:Result α,(match w.cell? a with
   |some _=>if w.frozen? a then Result.halt (.unsupported<| .unsafePointer "a write to bytes that a string shares") w else k.run p (w.setCell a u)
   |none=>match w.farStore p a u (m== .atomic) with
    | .ok (w,_)=>k.run p w
    | .error h=>Result.halt h w)=r->r= .ok v w'->w.drawn<=w'.drawn:=by
   intro r hr e;subst e;split at hr
   .split at hr
    .cases hr
    .have:= @ih _ _ _ hr;exact this
   .split at hr
    .rename_i w2 l h2;have:=ih hr;rwa [aeV h2] at this
    .cases hr
  cases u<;>first|(unfold Sem.run at h;cases h;done)|(unfold Sem.run at h;exact key _ rfl h)
 |new o k ih=>intro w w' v h;simp only[Sem.run] at h;have:= @ih _ _ _ _ h;exact this|shape r k ih=>intro w w' v h;simp only[Sem.run] at h;exact ih _ h
 |freeze a n k ih=>
  intro w w' v h;simp only[Sem.run] at h;have:=ih h;have e:(w.freeze a n).drawn=w.drawn:=by unfold World.freeze;split<;>rfl
  rwa [e] at this
 |frozen a k ih=>intro w w' v h;simp only[Sem.run] at h;exact ih _ h
 |getObj r k ih=>intro w w' v h;simp only[Sem.run] at h;split at h<;>first|(cases h;done)|exact ih _ h
 |setObj r o k ih=>
  intro w w' v h;simp only[Sem.run] at h;split at h
  .cases h
  .have:= @ih _ _ _ h;exact this
  .cases h
 |choose q k ih=>
  intro w w' v h;simp only[Sem.run] at h;split at h
  .exact ih _ h
  .have:= @ih _ _ _ _ h;exact Ct (QW _) this
 |sys c k ih=>intro w w' v h;simp only[Sem.run] at h;exact Ct (aiG w c)<|ih _ h
 |program k ih=>intro w w' v h;simp only[Sem.run] at h;exact ih _ h|mark m k ih=>intro w w' v h;simp only[Sem.run] at h;exact ih h|halt h=>intro w w' v e;simp only[Sem.run] at e;cases e
end
section
variable[D:DR]
variable{P:Program}{w0:Aj P}{H0:HV}{N:Nat}{ops:Array Oper}{Q:Exit->Act->World->Prop}{Γ An:Ctx}{d:Option Tmp}{ty:TypeId}{pos:String}{af:Array Edge}{g:Option (Nat×Bool)}
def Rg{f:FuncId}{args Bk:A3 Ty}(hc:Gd P f=true)
  (h:∀(w:AR) (H:HV) (vs:A3 AV),(∀r o,H r=some o->w.heap[r]? =some o)->LP P H->Ec H args vs->Calls P f vs.toArray w λe w'=>∃v,e= .returned v/\FO w.heap.size w w'/\LQ H Bk v):Ef P f args (.vs Bk):=
 ⟨hc,λw H vs sub gl ha=>(h w H vs sub gl ha).mono λe w' ⟨v,he,hb,hv⟩=>⟨v,he,hb,H,λ_ _=>rfl,λr o hr=>by have:=sub r o hr;rw[hb.block r<|lt_of_heap this];exact this,hv⟩⟩
def lB(l:A3 UInt8):A3 Ty:=l.map λb=>TI .u8 (b.toNat:Int)
def a8{H:HV}:∀{l:A3 UInt8} {xs:A3 AV},DT H (lB l) xs↔xs=Lib.byteCells l
 |[],xs=>Iff.rfl
 |b::l,xs=>by
  show DT H (TI .u8 (b.toNat:Int)::lB l) xs↔_;constructor
  .rintro⟨v,rest,e,hv,hr⟩;have hv:v= .int .u8 b.toNat:=hv;subst hv;rw[a8] at hr;subst hr;exact e
  .intro e;exact⟨.int .u8 b.toNat,Lib.byteCells l,e,rfl,a8.2 rfl⟩
def nv(l:A3 UInt8):(lB l).length=l.length:=by simp[lB]
def agN{T E:Am}(h:(P.info? T).bind (·.zero)=some (.agg #[.pointer none,.slice none 0 0])):Ay P Γ ⟨d,.alloc T,ty,pos,af,g⟩ (.I5 T E<|lB []):=
 MC λw0 _ _ a w H hs=>by
  have hz:Dn P T (Ir 2 true):=FZ _ h<|λ_=>Ki rfl rfl
  have hr:(zeroValue T).run P w= .ok (.agg #[.pointer none,.slice none 0 0]) w:=by cases hi:P.info? T with|none=>rw[hi] at h;cases h|some i=>rw[hi] at h;exact ub hi h w
  refine⟨.pointer<|some ⟨w.heap.size,0,none⟩,w.alloc<| .cells #[.pointer none,.slice none 0 0] T,H,?_,Ext.alloc hs.sub _,?_,?_⟩
  .simp[execOp,Instr.alloc,hr,newVar,newRow,Value.cells]
  .refine⟨w.heap.size,_,_,rfl,Lt w _,.inl rfl,?_,.inl hs.below.size,xF,by simp[Value.ownBlock]⟩;cases hh:H w.heap.size with|none=>rfl|some o=>have:=HG hs.sub hh;omega
  .rintro b ⟨c,e,hb⟩;cases e;rcases hb with hb|⟨p,r,hc,hb⟩
   .omega
   .rw[Lt] at hc;simp at hc;obtain⟨rfl,rfl⟩:=hc;simp[Value.ownBlock] at hb
def anb{w:AR}{t u ty e:Am}{i:TypeInfo}(ht:P.underlying t=some (.slice e))(hu:P.underlying u=some .string)(hi:P.info? e=some i)(hz:i.zero=some (.int .u8 0))(UW:i.size=1)(hby:i.bytes=1)
  {v:AV}{n:Nat}{xs:A3 AV}(hown:w.ownsRow 0 e 1 v n xs)(s:ByteArray)(hlen:n+s.size<=140737488355328):∃v' w',(Builtin.append_ #[t,u] ty #[v,.string s]).run P w= .ok v' w'/\w'.ownsRow 0 e 1 v' (n+s.size) (xs++Lib.strCells s)/\Ed w w' v.ownBlock/\
   ∀b,v'.ownBlock=some b->v.ownBlock=some b\/w.heap.size<=b:=by
 have Gq:n+s.size<=maxLen:=by unfold maxLen;omega
 let⟨v',w',hr,h2,h3,h4⟩:=Lib.run_append_own_string (P:=P) w 0 t u ty e i ht hu hi hz UW hby v n xs hown s Gq hlen<|FQ _
 refine⟨v',w',hr,h2,⟨h3,Gv.of<|aib _ hr⟩,λb hb=>?_⟩;have GN:xs.length=n:=by simpa using hown.1
 rcases hown.2 with⟨rfl,rfl⟩|⟨g,cap,cur,rfl,hbg,hg,hnc,hcm,hcs,htake⟩
 .by_cases hm:s.size=0
  .rw[h4.2 ⟨rfl,hm⟩] at hb;simp[Value.ownBlock] at hb
  .have H7:=run_append_nil_string (P:=P) w t u ty e i (.int .u8 0) ht hu hi hz s (by omega) (by omega) (by rw[hby];omega);rw[hr] at H7;cases H7;simp[Value.ownBlock] at hb;exact .inr (by omega)
 .by_cases Sb:n+s.size<=cap
  .have H7:=Lib.run_append_room_string (P:=P) w t u ty e i ht hu hi UW g n cap cur hg s Sb (by omega);rw[hr] at H7;cases H7;exact .inl hb
  .have holds:∀j u,xs[j]? =some u->w.cell? ((⟨g,0,none⟩:Addr).add j)=some u:=hown.cells (g:=g) rfl;have H7:=Lib.run_append_grow_string (P:=P) w t u ty e i (.int .u8 0) ht hu hi hz ⟨g,0,none⟩ n cap xs (by rw[UW];simpa using GN) holds s (by omega) (by omega) (by rw[hby];exact growslice_fits (by omega) (by omega));rw[hr] at H7;cases H7;simp[Value.ownBlock] at hb;exact .inr (by omega)
def ani{w:AR}{ops:B8 Oper}{rest:A3 Oper}{o:Oper}{a:Act}{Q:Exit->Act->AR->Prop}(hgd:o.guard=none)(sl x:CD)(t u:Am)
  (ho:o.op= .call {callee:= .builtin .append,args:= #[sl,x],argTypes:= #[t,u]})
  (e:Am)(i:TypeInfo)(ht:P.underlying t=some (.slice e))(hu:P.underlying u=some .string)(hi:P.info? e=some i)(hz:i.zero=some (.int .u8 0))(UW:i.size=1)(hby:i.bytes=1)
  (v:AV)(n:Nat)(xs:A3 AV)(hs:a.eval sl=v)(hown:w.ownsRow 0 e 1 v n xs)(s:ByteArray)(hx:a.eval x= .string s)(hlen:n+s.size<=140737488355328)
  (h:∀v' w',w'.ownsRow 0 e 1 v' (n+s.size) (xs++Lib.strCells s)->Ed w w' v.ownBlock->(∀b,v'.ownBlock=some b->v.ownBlock=some b\/w.heap.size<=b)->wpList P ops Q rest (a.put o.dst v') w'):wpList P ops Q (o::rest) a w:=by
 refine wpList_plain hgd λK hK=>?_
 let⟨v',w',hr,h2,h3,h4⟩:=anb (P:=P) (ty:=o.type) ht hu hi hz UW hby hown s hlen;unfold Oper.wp execOp;simp only[ho,resolve,invoke,builtin,E0,K6,Dm,List.map_toArray,MK,ZH,hs,hx,hr];exact hK _ _<|h v' w' h2 h3 h4
end
section
open Go.Shelf
variable[D:DR]
variable{P:Program}{ρ:Ren}
variable{w:AR}{M:Nat->Prop}{b:Nat}{p v:AV}{w':AR}{H:HV}{T:Am}{l:A3 UInt8}{vs:A3 AV}
structure Tr(M:Nat->Prop)(w w':AR):Prop where
 size:w.heap.size<=w'.heap.size
 os:w'.os=w.os
 tape:w'.tape=w.tape
 output:w'.output=w.output
 drawn:Gv w w'
 E3:∀k,k<w.heap.size-> ¬M k->w'.heap[k]? =w.heap[k]?
def Tr.refl(M:Nat->Prop)(w:AR):Tr M w w:=⟨BK _,rfl,rfl,rfl,BK _,λ_ _ _=>rfl⟩
def Tr.trans{M:Nat->Prop}{w w' w'':AR}(h:Tr M w w')(k:Tr M w' w''):Tr M w w'':=⟨Ct h.size k.size,k.os.trans h.os,k.tape.trans h.tape,k.output.trans h.output,Ct h.drawn k.drawn,λi hi hm=>(k.E3 i (Jj hi h.size) hm).trans<|h.E3 i hi hm⟩
def Tr.setCell{M:Nat->Prop}(w:AR)(a:Addr)(x:AV)(h:M a.block):Tr M w (w.setCell a x):=⟨by simp[World.setCell],rfl,rfl,rfl,BK _,λk _ hk=>Below.heap_setCell _ _ _ _<|λe=>hk<|e▸h⟩
def Tr.grown{row:AA Nat}(h:Ed w w' row)(hr:∀k,row=some k->M k):Tr M w w':=⟨h.size,h.os,h.tape,h.output,h.drawn,λk hk hm=>h.block k hk<|λe=>hm<|hr k e.symm⟩
def Tr.mono{M2:Nat->Prop}{w2:AR}(h:Tr M w w2)(k:∀b,M b->M2 b):Tr M2 w w2:=⟨h.size,h.os,h.tape,h.output,h.drawn,λi hi hm=>h.E3 i hi<|λx=>hm<|k i x⟩
def Tr.drew{M:Nat->Prop}(w:AR):Tr M w w.drew:=⟨BK _,rfl,rfl,rfl,Gv.of<|QW _,λ_ _ _=>rfl⟩
def Tr.LS(h:Tr M w w')(sub:∀r o,H r=some o->w.heap[r]? =some o)(hM:∀b,M b->H b=none):Qv M w H w' H:=
 ⟨h.size,h.os,h.tape,h.output,h.drawn,HV.le.refl _,λb hb hm=>⟨h.E3 b hb hm,rfl⟩,λr o hr=>by have hw:=sub r o hr;rw[h.E3 r (lt_of_heap hw) (λhm=>by rw[hM r hm] at hr;cases hr)];exact hw⟩
def nh(hb:w.heap[b]? =some (.cells #[p,v] T (0,0))):w.cell? ⟨b,0,none⟩=some p/\w.cell? ⟨b,1,none⟩=some v/\w.shape? b=some (T,2)/\(∀j,w.frozen? ⟨b,j,none⟩=false):=⟨by rw[ZR hb];rfl,by rw[ZR hb];rfl,by simp[World.shape?,hb],λj=>Lib.frozen_of_heap hb j⟩
def ajA{x:AV}(hb:w.heap[b]? =some (.cells #[p,v] T (0,0))):(w.setCell ⟨b,1,none⟩ x).heap[b]? =some (.cells #[p,x] T (0,0)):=by simp[World.setCell,U9,hb]
def ajB{x:AV}(hb:w.heap[b]? =some (.cells #[p,v] T (0,0))):(w.setCell ⟨b,0,none⟩ x).heap[b]? =some (.cells #[x,v] T (0,0)):=by simp[World.setCell,U9,hb]
def ajS(L:Lays.n240 P ρ)(X:Builder.X72 P ρ)(hb:w.heap[b]? =some (.cells #[p,v] (ρ.t 72) (0,0)))(hp:p= .pointer none\/p= .pointer (some ⟨b,0,none⟩)):Calls P (ρ.f 240) #[.pointer<|some ⟨b,0,none⟩] w λe w'=>e= .returned (.tuple #[])/\w'.heap[b]? =some (.cells #[.pointer<|some ⟨b,0,none⟩,v] (ρ.t 72) (0,0))/\Tr (λk=>k=b) w w'/\w'.heap.size=w.heap.size:=by
 let⟨c0,c1,CS,hfz⟩:=nh hb;rcases hp with rfl|rfl
 .refine(Any.Builder_copyCheck_fresh L X b w c0 CS<|hfz 0).mono ?_;rintro e w' ⟨rfl,rfl⟩;exact⟨rfl,ajB hb,Tr.setCell w _ _ rfl,by simp[World.setCell]⟩
 .refine(Any.Builder_copyCheck_used L X b w c0).mono ?_;rintro e w' ⟨rfl,rfl⟩;exact⟨rfl,hb,Tr.refl _ _,rfl⟩
def yC{e:Am}{n:Nat}{xs:A3 AV}(h:w.ownsRow 0 e 1 v n xs)(hk:∀g,v.ownBlock=some g->w'.heap[g]? =w.heap[g]?):w'.ownsRow 0 e 1 v n xs:=by
 refine⟨h.1,?_⟩;rcases h.2 with h|⟨g,cap,cur,e1,h1,hc,h2⟩
 .exact .inl h
 .exact .inr ⟨g,cap,cur,e1,h1,by rw[hk g (by rw[e1];rfl)];exact hc,h2⟩
set_option maxHeartbeats 2000000 in
set_option maxRecDepth 100000 in
def ady(L:Lays.n166 P ρ)(X:Builder.Extra P ρ){bs:A3 AV}(s:ByteArray)(hb:w.heap[b]? =some (.cells #[p,v] (ρ.t 72) (0,0)))(hp:p= .pointer none\/p= .pointer (some ⟨b,0,none⟩))
 (hown:w.ownsRow 0 (ρ.t 5) 1 v bs.length bs)(hne:v.ownBlock≠some b)(hlen:bs.length+s.size<=140737488355328):Calls P (ρ.f 166) #[.pointer<|some ⟨b,0,none⟩,.string s] w λe w'=>e= .returned (.tuple #[.int .i64 s.size,.nilIface])/\∃v',w'.heap[b]? =some (.cells #[.pointer<|some ⟨b,0,none⟩,v'] (ρ.t 72) (0,0))/\w'.ownsRow 0 (ρ.t 5) 1 v' (bs.length+s.size) (bs++Lib.strCells s)/\v'.ownBlock≠some b/\
   (∀g,v'.ownBlock=some g->v.ownBlock=some g\/w.heap.size<=g)/\Tr (λk=>k=b\/v.ownBlock=some k) w w':=by
 let⟨i0,hi,hz0,hz1,hz2⟩:=info_parts X.infoByte;have hblt:b<w.heap.size:=lt_of_heap hb;have mixed:=L.mixed;have t72:=L.t72;have a72:=L.a72;have z72:=L.z72;have v72:=L.v72;have u72:=Kb L.t72;have t70:=L.t70;have a70:=L.a70;have z70:=L.z70;have v70:=L.v70;have u70:=Kb L.t70;have t37:=L.t37;have a37:=L.a37;have z37:=L.z37;have v37:=L.v37;have u37:=Kb L.t37;have t3:=L.t3;have a3:=L.a3;have z3:=L.z3;have v3:=L.v3;have u3:=Kb L.t3;have t9:=L.t9;have a9:=L.a9;have z9:=L.z9;have v9:=L.v9;have u9:=Kb L.t9;have t4:=L.t4;have a4:=L.a4;have z4:=L.z4;have v4:=L.v4;have u4:=Kb L.t4;have t164:=L.t164;have a164:=L.a164;have z164:=L.z164;have v164:=L.v164;have u164:=Kb L.t164;have t5:=X.t5;have a5:=X.a5;have z5:=X.z5;have v5:=X.v5;have u5:=Kb X.t5;have e240:∀args w,(callFunc (ρ.f 240) args).run P w= .ok (.enter (ρ.f 240) args) w:=enters_of L.f240 A7 rfl
 go_enter L.f166,Body.n166_ntmps ρ
 go_wp2_with (go_at_fn (ρ.f 240);refine(ajS {L with} X.toX72 hb hp).mono ?_)
 rintro e w1 ⟨rfl,hb1,ht1,hs1⟩;have hown1:w1.ownsRow 0 (ρ.t 5) 1 v bs.length bs:=yC hown λg hg=>ht1.E3 g (hown.lt g hg).2 (λe=>hne (by rw[hg,e]))
 let⟨c0,c1,_,_⟩:=nh hb1
 go_wp2_with (at_builtin;refine ani rfl _ _ (ρ.t 37) (ρ.t 9) rfl (ρ.t 5) i0 L.t37 L.t9 hi hz0 hz1 hz2 _ _ _ rfl hown1 s rfl hlen ?_)
 intro v' w2 hown' hgrow hfr;have hb2:w2.heap[b]? =some (.cells #[.pointer<|some ⟨b,0,none⟩,v] (ρ.t 72) (0,0)):=by rw[hgrow.block b (by omega)<|λe=>hne e.symm];exact hb1
 let⟨d0,d1,_,hf⟩:=nh hb2;have f1:=hf 1;have hne':v'.ownBlock≠some b:=λe=>by
  rcases hfr b e with h|h
  .exact hne h
  .omega
 obtain⟨ao,n',cap,rfl⟩:∃ao n' cap,v'= .slice ao n' cap:=by
  rcases hown'.2 with⟨hv,_⟩|⟨g,cap,cur,hv,_⟩
  .exact⟨_,_,_,hv⟩
  .exact⟨_,_,_,hv⟩
 go_wp2
 go_ret2
 refine⟨rfl,_,ajA hb2,yC hown' λg hg=>?_,hne',λg hg=>by have:=hfr g hg;omega,?_⟩
 .exact Below.heap_setCell _ _ _ _ (λe=>hne' (by rw[hg,e]))
 .exact((ht1.mono<|λk h=> .inl h).trans<|Tr.grown hgrow<|λk h=> .inr h).trans<|Tr.setCell _ _ _<| .inl rfl
def Tr.freeze{M:Nat->Prop}(w:AR)(a:Addr)(n:Nat)(h:M a.block):Tr M w (w.freeze a n):=by
 unfold World.freeze;split
 .exact Tr.refl _ _
 .refine⟨by simp,rfl,rfl,rfl,BK _,λk _ hk=>?_⟩;simp only[U9];rw[if_neg (λ(e:a.block=k)=>hk (by rw[<-e];exact h))]
set_option maxHeartbeats 1000000 in
set_option maxRecDepth 100000 in
def adW(L:Lays.n169 P ρ)(X:Builder.Extra P ρ)(hbk:w.heap[b]? =some (.cells #[p,v] (ρ.t 72) (0,0)))(hown:w.ownsRow 0 (ρ.t 5) 1 v l.length (Lib.byteCells l))(h0:l≠[]):Calls P (ρ.f 169) #[.pointer<|some ⟨b,0,none⟩] w λe w'=>e= .returned (.string ⟨l.toArray⟩)/\Tr (λk=>v.ownBlock=some k) w w':=by
 have hl0:l.length≠0:=by simpa using h0
 obtain⟨g,cap,cur,rfl,hg,hnc,hcm,hcs,htake⟩:∃g cap cur,v= .slice (some ⟨g,0,none⟩) l.length cap/\w.heap[g]? =some (.cells cur (ρ.t 5) (0,0))/\l.length<=cap/\cap<=maxLen/\cur.size=cap*1/\cur.toList.take (l.length*1)=Lib.byteCells l:=by
  rcases hown.2 with⟨_,hz⟩|⟨g,cap,cur,hv,_,r⟩
  .exact absurd hz hl0
  .exact⟨g,cap,cur,hv,r⟩
 have c1:w.drew.cell? ⟨b,1,none⟩=some (.slice (some ⟨g,0,none⟩) l.length cap):=by have:w.drew.heap[b]? =some (.cells #[p,.slice (some ⟨g,0,none⟩) l.length cap] (ρ.t 72) (0,0)):=hbk;rw[ZR this];rfl
 have hSD:(Builtin.unsafeSliceData_ #[(ρ.t 37)] (ρ.t 127) #[.slice (some ⟨g,0,none⟩) l.length cap]).run P w.drew= .ok (.pointer<|some ⟨g,0,none⟩) w.drew:=Lib.run_unsafeSliceData_row _ _ _ _ _ _ (by omega)
 have hUS:(Builtin.unsafeString_ #[(ρ.t 127),(ρ.t 3)] (ρ.t 9) #[.pointer<|some ⟨g,0,none⟩,.int .i64 l.length]).run P w.drew= .ok (.string ⟨l.toArray⟩) (w.drew.freeze ⟨g,0,none⟩ l.length):=by refine Lib.run_unsafeString_row w.drew (ρ.t 127) (ρ.t 3) (ρ.t 9) (ρ.t 5) L.t127 X.cellsByte g cur.size (by have hg':w.drew.heap[g]? =some (.cells cur (ρ.t 5) (0,0)):=hg;simp[World.shape?,hg']) l h0 (by omega) (by unfold maxLen at hcm;omega) ?_;intro j x hx;exact hown.cells (g:=g) rfl j (.int .u8 x.toNat) (by simp[Lib.byteCells,hx])
 have mixed:=L.mixed;have t72:=L.t72;have a72:=L.a72;have z72:=L.z72;have v72:=L.v72;have u72:=Kb L.t72;have t70:=L.t70;have a70:=L.a70;have z70:=L.z70;have v70:=L.v70;have u70:=Kb L.t70;have t37:=L.t37;have a37:=L.a37;have z37:=L.z37;have v37:=L.v37;have u37:=Kb L.t37;have t127:=L.t127;have a127:=L.a127;have z127:=L.z127;have v127:=L.v127;have u127:=Kb L.t127;have t3:=L.t3;have a3:=L.a3;have z3:=L.z3;have v3:=L.v3;have u3:=Kb L.t3;have t9:=L.t9;have a9:=L.a9;have z9:=L.z9;have v9:=L.v9;have u9:=Kb L.t9;have t5:=X.t5;have a5:=X.a5;have z5:=X.z5;have v5:=X.v5;have u5:=Kb X.t5
 go_enter L.f169,Body.n169_ntmps ρ
 go_wp2
 go_region_o
 all_goals (go_wp2;go_ret;exact⟨rfl,(Tr.drew w).trans<|Tr.freeze _ _ _ rfl⟩)
def Vq(l s:A3 UInt8):AA (A3 UInt8×Int×Unit):=EL (Nat.ble (l.length+s.length) 140737488355328) (l++s,(s.length:Int),())
def YW(l:A3 UInt8):AA (A3 UInt8):=EL (!l.isEmpty) l
theorem HC{α:Type}{b:Bool}{x r:α}(h:EL b x=some r):b=true/\x=r:=by grind [EL]
def Z8(h:Ec H [] vs):vs=[]:=h
theorem PT{τ:Ty}(h:Ec H [τ] vs):∃v,vs=[v]/\τ.ok H v:=by simp_all [Ec,Ty.ok]
theorem Tn{τ σ:Ty}(h:Ec H [τ,σ] vs):∃v u,vs=[v,u]/\τ.ok H v/\σ.ok H u:=by(simp_all [Ec,Ty.ok]<;>grind)
def byteCells_append(l s:A3 UInt8):Lib.byteCells (l++s)=Lib.byteCells l++Lib.byteCells s:=by simp[Lib.byteCells]
def ajR(L:Lays.n166 P ρ)(X:Builder.Extra P ρ)(hc:Gd P (ρ.f 166)=true){s:A3 UInt8}{r:A3 UInt8×Int×Unit}(hm:Vq l s=some r):JB P (ρ.f 166) [] (.I5 (ρ.t 72) (ρ.t 5)<|lB l) (.I5 (ρ.t 72) (ρ.t 5)<|lB r.1) [TS s] [TI .i64 r.2.1,sY r.2.2]:=by
 obtain⟨hb,rfl⟩:=HC hm;have hb:=FT hb;refine⟨hc,λw H v ps qs sub gl hp hq hs=>?_⟩;have hp:=Z8 hp;subst hp;obtain⟨x,rfl,hx⟩:=PT hq;have hx:x= .string ⟨s.toArray⟩:=hx;subst hx;obtain⟨b,p,row,rfl,hbk,hpp,hn,hB,⟨xs,hown,Aw,hH⟩,hne⟩:=hs;rw[a8] at Aw;subst Aw;rw[nv] at hown;refine(ady L X (bs:=Lib.byteCells l) ⟨s.toArray⟩ hbk hpp (by simpa[Lib.byteCells] using hown) hne (by simpa[Lib.byteCells,ByteArray.size] using hb)).mono ?_;rintro e w' ⟨rfl,v',Ba,Jw,hne',hfr,ht⟩;have Es:Lib.strCells ⟨s.toArray⟩=Lib.byteCells s:=rfl;have hmo:∀k,k=b\/row.ownBlock=some k->(AQ.I5 (ρ.t 72) (ρ.t 5)<|lB l).owns w (.pointer<|some ⟨b,0,none⟩) k:=λk h=>⟨b,rfl,h.imp id λh=>⟨p,row,hbk,h⟩⟩
 have hMn:∀k,(AQ.I5 (ρ.t 72) (ρ.t 5)<|lB l).owns w (.pointer<|some ⟨b,0,none⟩) k->k=b\/row.ownBlock=some k:=by
  rintro k ⟨c,e,h⟩;cases e;rcases h with h|⟨p',r',FC,h⟩
  .exact .inl h
  .have e2:=hbk.symm.trans FC;simp at e2;obtain⟨rfl,rfl⟩:=e2;exact .inr h
 refine⟨_,rfl,H,(ht.mono hmo).LS sub<|λk hk=>?_,⟨b,_,v',rfl,Ba,.inr rfl,hn,hB,⟨_,?_,a8.2 rfl,λg hg=>?_⟩,hne'⟩,?_,⟨#[.int .i64 s.length,.nilIface],?_,_,_,rfl,rfl,_,_,rfl,rfl,rfl⟩⟩
 .rcases hMn k hk with rfl|h
  .exact hn
  .exact(hH k h).1
 .rw[nv,byteCells_append,E7];exact(by simpa[Lib.byteCells,ByteArray.size,Es] using Jw)
 .rcases hfr g hg with h|h
  .exact hH g h
  .refine⟨?_,.inl h⟩;cases hh:H g with|none=>rfl|some o=>have:=HG sub hh;omega
 .rintro k ⟨c,e,h⟩;cases e;rcases h with h|⟨p',r',FC,h⟩
  .exact .inl<|hmo k<| .inl h
  .have e2:=Ba.symm.trans FC;simp at e2;obtain⟨rfl,rfl⟩:=e2;exact(hfr k h).imp (λh=>hmo k<| .inr h) id
 .simp[ByteArray.size]
theorem z6{E:Am}{l:A3 Ty}{row:AV}(hbk:w.heap[b]? =some (.cells #[p,row] T (0,0)))(k:Nat):(AQ.I5 T E l).owns w (.pointer<|some ⟨b,0,none⟩) k↔k=b\/row.ownBlock=some k:=by grind [AQ.owns]
def ahp(L:Lays.n169 P ρ)(X:Builder.Extra P ρ)(hc:Gd P (ρ.f 169)=true){r:A3 UInt8}(hm:YW l=some r):JB P (ρ.f 169) [] (.I5 (ρ.t 72) (ρ.t 5)<|lB l) .gone [] [TS r]:=by
 obtain⟨h0,rfl⟩:=HC hm;refine⟨hc,λw H v ps qs sub gl hp hq hs=>?_⟩;have hp:=Z8 hp;subst hp;have hq:=Z8 hq;subst hq;obtain⟨b,p,row,rfl,hbk,hpp,hn,hB,⟨xs,hown,Aw,hH⟩,hne⟩:=hs;rw[a8] at Aw;subst Aw;rw[nv] at hown;refine(adW L X hbk hown (by rintro rfl;simp at h0)).mono ?_;rintro e w' ⟨rfl,ht⟩;exact⟨_,rfl,H,(ht.mono λk h=>(z6 hbk k).2<| .inr h).LS sub (λk hk=>by
  rcases(z6 hbk k).1 hk with rfl|h
  .exact hn
  .exact(hH k h).1),trivial,λk hk=>hk.elim,rfl⟩
instance instDecAVec:DecidableEq (A3 UInt8×A3 UInt8×A3 UInt8):=inferInstance
end
section
open Go.Shelf
variable[D:DR]
variable{P:Program}{ρ:Ren}
variable{P:Program}{N:Nat}{ops:Array Oper}{Γ:Ctx}{ty:TypeId}{pos:String}{af:Array Edge}
def oI{u t dd:Nat}{s:AQ}(hu:look Γ u=some (.same t))(ht:look Γ t=some s)(hl:s.C8=[])(DJ:dd<N)(o:Op)(ho:o= .assign (.tmp u)\/o= .move (.tmp u)):Step P N ops ⟨some dd,o,ty,pos,af,none⟩ Γ ((dd,s)::del dd (BF t Γ)):=by
 intro w0 H0 a w H BD K Q k;simp[Region.wanted,if_true];have eu:Ae a u=Ae a t:=BD.holds _<|B6 hu
 have er:(execOp a.eval ⟨some dd,o,ty,pos,af,none⟩).run P w= .ok (.value<|Ae a t) w:=by rw[<-eu];rcases ho with rfl|rfl<;>rfl
 unfold Oper.wp;rw[er,OO];exact k _ w H (Vk BD (B6 ht) (nK w) (λ_ e=>by cases e) DJ (by rw[hl];simp) (BD.holds _<|B6 ht) λ_ h=> .inl h)
end
section
open Go.Shelf
variable[D:DR]
variable{P:Program}{ρ:Ren}
def Vc{α:Type}(l:A3 α):AA (A3 α):=EL (Nat.blt l.length 4000000000) l
def QT(x y:Int):AA (Int×Int):=bif Gz x&&Gz y then some (x*y/GK,x*y%GK) else none
def Nl(n:Nat):Nat:=bif Nat.beq n 0 then 0 else Nat.log2 n+1
def ZA(x:Int):AA Int:=bif Gz x then some (Nl x.toNat:Int) else none
def WW(x:Int):AA Int:=bif Gz x then some (64-(Nl x.toNat:Int)) else none
end
section
variable[D:DR]
variable{P:Program}{w0:Aj P}{H0:HV}{N:Nat}{ops:Array Oper}{Q:Exit->Act->World->Prop}{Γ An:Ctx}{d:Option Tmp}{ty:TypeId}{pos:String}{af:Array Edge}{g:Option (Nat×Bool)}
variable{α:Type}{f:α->Ty}{l:A3 α}{t:Nat}{T E:Am}{sz:Nat}{pre post:A3 AV}{y:α}{p j:Nat}{x:CD}{z:α}
def Mv{s ix:CD}{k:IntKind}{i:Int}(hT:G2 P T sz=true)(hs:Eo Γ s t)(ht:look Γ t=some (.Ew E pre post<|lT f l))(hi:Arg Γ ix (TI k i))(h:AB l i=some y):Ay P Γ ⟨d,.indexAddr T s ix,ty,pos,af,g⟩ (.N7 t i.toNat sz):=
 Di λw0 _ _ a w H BD=>by
  let⟨h0,h1,h3⟩:=I6 h;let⟨b,c,cur,xs,e,_⟩:=BD.holds _<|B6 ht
  simp only at e;have e3:a.eval s= .slice (some ⟨b,pre.length,none⟩) l.length c:=by rw[hs.ok BD,e,Be]
  have ei:a.eval ix= .int k i:=hi.ok BD;have hr:=lD (P:=P) hT b pre.length l.length c (k:=k) h0 h1 w;exact⟨.pointer<|some ⟨b,pre.length+i.toNat*sz,none⟩,by simp only[execOp,e3,ei,E0,hr,Dm];rfl,⟨b,pre.length,_,c,e,rfl⟩,rfl⟩
def Qk(hf:∀z,(f z).n=sz)(hp:look Γ p=some (.N7 t j sz))(ht:look Γ t=some (.Ew E pre post<|lT f l))(h:l[j]? =some y)(hT:Bp P T (f y).n (f y).agg=true):Ay P Γ ⟨d,.load T<| .tmp p,ty,pos,af,g⟩ (.val<|f y):=
 Di λw0 _ _ a w H BD=>by
  let⟨b,c,cur,xs,e,hb,M3,ho,hH,hB⟩:=BD.holds _<|B6 ht
  let⟨b',o,n',c',e1,e2⟩:=BD.holds _<|B6 hp
  simp only at e e1 e2;rw[e] at e1;cases e1;have hj:(lT f l)[j]? =some (f y):=by rw[Gy,h];rfl
  have Jz:=(FH.1 hj).1;have hu:Fj sz (lT f l):=K4 hf l;have e3:a.eval (.tmp p)= .pointer (some ⟨b,pre.length+j*sz,none⟩):=e2;let⟨p1,p2⟩:=NO ho hj;have hc:CR ((lT f l).take j)=j*sz:=by rw[KW<|hu.take _,E1,EU (by omega)]
  rw[hc] at p1 p2;have Ny:List.take (f y).n (List.drop (pre.length+j*sz) cur.toList)=List.take (f y).n (List.drop (j*sz) xs):=by rw[M3,<-FR,ZJ,List.drop_append_of_le_length (by omega),List.take_append_of_le_length (by simp;omega)]
  have UW:cur.size=pre.length+(xs.length+post.length):=by rw[<-Fa,M3];simp
  refine⟨_,?_,p2,rfl⟩;have hr:=RI (P:=P) hT hb (off:=pre.length+j*sz) (by omega);rw[Ny] at hr;simp[execOp,e3,Instr.loadAt,Instr.sureAddr,hr]
def zO{Ai:Ctx}(BC:∀q∈Ai,q∈Γ)(hf:∀z,(f z).n=sz)(hp:look Ai p=some (.N7 t j sz))(ht:look Ai t=some (.Ew E pre post<|lT f l))(h:l[j]? =some z)(hx:Arg Ai x (f y))(hT:Bp P T (f y).n (f y).agg=true):Step P N ops ⟨none,.store T (.tmp p) x,ty,pos,af,none⟩ Γ ((t,.Ew E pre post<|lT f<|l.set j y)::BF t Γ):=by
 intro w0 H0 a w H BD K Q k;simp[Region.wanted,if_true];let⟨b,c,cur,xs,e,hb,M3,ho,hH,hB⟩:=BD.holds _ (BC _<|B6 ht);let⟨b',o,n',c',e1,e2⟩:=BD.holds _ (BC _<|B6 hp);simp only at e e1 e2;rw[e] at e1;cases e1;have hj:(lT f l)[j]? =some (f z):=by rw[Gy,h];rfl
 have Jz:=(FH.1 hj).1;have hu:Fj sz (lT f l):=K4 hf l;have ep:a.eval (.tmp p)= .pointer (some ⟨b,pre.length+j*sz,none⟩):=e2;have Hx:=hx.ok<|BD.weaken BC
 have CS:=(f y).shape Hx;have hc:CR ((lT f l).take j)=j*sz:=by rw[KW<|hu.take _,E1,EU (by omega)]
 let⟨p1,_⟩:=NO ho hj;rw[hc,hf] at p1;have Mb:=Tp ho hj ((hf y).trans (hf z).symm) Hx;rw[hc,hf] at Mb;have UW:cur.size=pre.length+(xs.length+post.length):=by rw[<-Fa,M3];simp
 have F1:=T4 (P:=P) (off:=pre.length+j*sz) (Tj hT) CS.size hb (by rw[hf];omega) CS.cell;rw[hf] at F1;unfold Oper.wp;have er:(execOp a.eval ⟨none,.store T (.tmp p) x,ty,pos,af,none⟩).run P w= .ok .skip (w.setRow b (cur.toList.take (pre.length+j*sz)++(a.eval x).cells.toList++cur.toList.drop (pre.length+j*sz+sz)).toArray):=by simp[execOp,ep,Instr.storeAt,Instr.sureAddr,F1]
 rw[er,QZ];have aqc:cur.toList.take (pre.length+j*sz)++(a.eval x).cells.toList++cur.toList.drop (pre.length+j*sz+sz)=pre++((xs.take (j*sz)++(a.eval x).cells.toList++xs.drop (j*sz+sz))++post):=by
  have t1:(pre++(xs++post)).take (pre.length+j*sz)=pre++xs.take (j*sz):=by
   rw[WA,D5 (by omega)]
   congr 1
   rw[show pre.length+j*sz-pre.length=j*sz from by omega,List.take_append_of_le_length (by omega)]
  have t2:(pre++(xs++post)).drop (pre.length+j*sz+sz)=xs.drop (j*sz+sz)++post:=by rw[LD,<-FR,ZJ,List.drop_append_of_le_length (by omega)]
  rw[M3,t1,t2];simp
 rw[aqc];have hg:Ed w (w.setRow b (pre++((xs.take (j*sz)++(a.eval x).cells.toList++xs.drop (j*sz+sz))++post)).toArray) (some b):=Ed.setRow w b _;refine k a _ H (P5 BD (BC _<|B6 ht) hg hB (by simp[AQ.owns,e,Value.ownBlock]) ?_ λc hc=> .inl hc);refine⟨b,c,_,_,by rw[e];simp[lT],Ts w b _ _ _ _ hb,rfl,?_,hH,hB⟩;rw[show lT f (l.set j y)=(lT f l).set j (f y) from by simp[lT,Tv]];exact Mb
def qP(hf:∀z,(f z).n=sz)(hp:look Γ p=some (.N7 t j sz))(ht:look Γ t=some (.Ew E pre post<|lT f l))(h:l[j]? =some z)(hx:Arg Γ x (f y))(hT:Bp P T (f y).n (f y).agg=true):Step P N ops ⟨none,.store T (.tmp p) x,ty,pos,af,none⟩ Γ ((t,.Ew E pre post<|lT f<|l.set j y)::BF t Γ):=zO (λ_ h=>h) hf hp ht h hx hT
def alr(hf:∀z,(f z).n=sz)(hp:look Γ p=some (.N7 t j sz))(ht:look Γ t=some (.Ew E pre post<|lT f l))(h:l[j]? =some z)(hx:Arg Γ x (f y))(hT:Bp P T (f y).n (f y).agg=true):Ov P N ops Γ ⟨none,.store T (.tmp p) x,ty,pos,af,none⟩ t (.Ew E pre post<|lT f<|l.set j y):=λ_ BC=>zO BC hf hp ht h hx hT
end
section
variable[D:DR]
variable{P:Program}{w0:Aj P}{H0:HV}{N:Nat}{ops:Array Oper}{Γ An:Ctx}{d:Option Tmp}{ty:TypeId}{pos:String}{af:Array Edge}{g:Option (Nat×Bool)}
variable{E:Am}{sz t:Nat}{α:Type}{f:α->Ty}{l:A3 α}{xs:A3 CD}{Ex:B8 Am}{dd:Nat}{x:CD}{i n u:Nat}
def xQ{T:Am}{lo hi:AA CD}{i j:Int}(hT:G2 P T sz=true)(hs:Eo Γ x t)(ht:look Γ t=some (.buf E sz<|lT f l))(Fi:Lo Γ lo 0 i)(Kv:Lo Γ hi l.length j)(h:(decide (0<=i)&&decide (i<j)&&decide (j<=l.length))=true):Ay P Γ ⟨d,.slice T x lo hi none,ty,pos,af,g⟩ (.win t i.toNat (j-i).toNat sz):=
 Di λw0 _ _ a w H BD=>by
  rw[C4,C4,Hl,Hl,Hl] at h;let⟨⟨h1,h2⟩,h3⟩:=h;let⟨b,cap,cs,xs,e,hb,hcap,_⟩:=Vu (BD.holds _<|B6 ht) (λe=>by have:l=[]:=List.map_eq_nil_iff.1 e;rw[this] at h3;simp at h3;omega)
  simp only at e;rw[Be] at e hcap;let⟨el,ii,hue,hii,hsz⟩:=pL hT;have IM:∀w,(Go.sizeOf el).run P w= .ok sz w:=λw=>by simp[Go.sizeOf,typeInfo,program,Sem.run,hii,hsz]
  have hbd:=tY (P:=P) (b:=true) (cap:=cap) (w:=w) Fi Kv h1 (by omega) h3 hcap BD;have e3:a.eval x= .slice (some ⟨b,0,none⟩) l.length cap:=by rw[hs.ok BD];exact e
  refine⟨.slice (some ⟨b,i.toNat*sz,none⟩) (j-i).toNat<|cap-i.toNat,?_,⟨b,_,cap,cap-i.toNat,e,rfl⟩,rfl⟩;have hne: ¬cap=i.toNat:=by omega
  have hn:j.toNat-i.toNat=(j-i).toNat:=by omega
  simp[execOp,e3,Instr.sliceAt,Et hue,Instr.slice,hbd,IM,addr_add,hne,hn]
def am3{B:Aj P}{w:AR}{H:HV}{v:AV}(hf:∀z,(f z).n=sz)(h:Ke B w H E sz (lT f l) v)(hn:0<n)(hl:i+n<=l.length){b:Nat}{len cap:Nat}(hv:v= .slice (some ⟨b,0,none⟩) len cap)(c:Nat):∃pre post:A3 AV,pre.length=i*sz/\(AQ.Ew E pre post<|lT f<|(l.drop i).take n).holds B RB w H (.slice (some ⟨b,i*sz,none⟩) n c)/\
   ∀(w':AR) (H':HV) (r:A3 α),HV.le H H'->r.length=n->(AQ.Ew E pre post<|lT f r).holds B RB w' H' (.slice (some ⟨b,i*sz,none⟩) n c)->Ke B w' H' E sz (lT f<|l.take i++r++l.drop (i+n)) v:=by
 subst hv;let⟨xs,⟨GN,hr⟩,ho,hH⟩:=h;rcases hr with⟨e,_⟩|⟨g',bI,cur,e,h0,hb,hcap,hm,hcs,htake⟩
 .cases e
 cases e;have hu:Fj sz (lT f l):=K4 hf l;have GN:xs.length=l.length*sz:=by simpa using GN
 rw[Be] at htake hcap;have s1:i*sz+n*sz<=xs.length:=by rw[GN,<-Ka];exact LL _ hl
 have M3:cur.toList=xs++cur.toList.drop (l.length*sz):=by conv=>lhs;rw[<-Oc (l.length*sz) cur.toList,htake]
 have hx3:xs=xs.take (i*sz)++((xs.drop<|i*sz).take (n*sz)++xs.drop (i*sz+n*sz)):=by
  conv=>lhs;rw[<-Oc (i*sz) xs]
  congr 1
  conv=>lhs;rw[<-Oc (n*sz) (xs.drop<|i*sz),FR]
 have Ue:(xs.take<|i*sz).length=i*sz:=by rw[E1];omega
 have qX:∀(lo hi:Nat),DT H ((lT f l).take hi|>.drop lo) ((xs.take<|hi*sz).drop<|lo*sz):=λlo hi=>ui hu ho lo hi
 refine⟨xs.take<|i*sz,xs.drop (i*sz+n*sz)++cur.toList.drop (l.length*sz),Ue,?_,?_⟩
 .refine⟨b,c,cur,(xs.drop<|i*sz).take<|n*sz,?_,hb,?_,?_,(hH b rfl).1,(hH b rfl).2⟩
  .rw[Ue];simp;omega
  .have e0:xs++cur.toList.drop (l.length*sz)=(xs.take (i*sz)++((xs.drop<|i*sz).take (n*sz)++xs.drop (i*sz+n*sz)))++cur.toList.drop (l.length*sz):=by rw[<-hx3]
   exact M3.trans (e0.trans (by rw[HY,HY]))
  .have:=qX i (i+n);rw[show((lT f l).take<|i+n).drop i=lT f ((l.drop i).take n) from by simp[lT,<-List.map_take,<-List.map_drop,MP]] at this;rw[Ka,MP,show i*sz+n*sz-i*sz=n*sz from by omega] at this;exact this
 .rintro w' H' r hle hrl ⟨g2,c2,sT,xs2,e2,hb2,H8,ho2,IW,hB2⟩;have e3:g2=b:=by simp[Value.slice.injEq,Option.some.injEq,Addr.mk.injEq] at e2;exact e2.1.1.symm
  subst e3;have H7:DT H' (lT f<|l.take i++r++l.drop (i+n)) (xs.take (i*sz)++xs2++xs.drop (i*sz+n*sz)):=by
   have p1:=qX 0 i;have p2:=qX (i+n) l.length;rw[gn,Pa,Pa] at p1;rw[D5 (by simp[lT]),D5 (by omega),Ka] at p2;have:=Rb (Rb (QL hle p1) ho2)<|QL hle p2
   rwa [show(lT f l).take i++lT f r++(lT f l).drop (i+n)=lT f (l.take i++r++l.drop (i+n)) from by simp[lT,List.map_take,List.map_drop]] at this
  have UX:xs2.length=n*sz:=by have:=Mo ho2;rw[KW<|K4 hf r] at this;simpa[hrl] using this
  have hlen:(lT f<|l.take i++r++l.drop (i+n)).length=l.length:=by simp[hrl];omega
  have acP:(xs.take (i*sz)++xs2++xs.drop (i*sz+n*sz)).length=l.length*sz:=by rw[E7,E7,Ue,UX,Ih,GN];omega
  have hc3:sT.toList=(xs.take (i*sz)++xs2++xs.drop (i*sz+n*sz))++cur.toList.drop (l.length*sz):=by rw[H8];simp
  have htk:sT.toList.take (l.length*sz)=xs.take (i*sz)++xs2++xs.drop (i*sz+n*sz):=by rw[hc3,List.take_append_of_le_length (by omega),D5 (by omega)]
  refine⟨xs.take (i*sz)++xs2++xs.drop (i*sz+n*sz),⟨by rw[hlen];exact acP,.inr ⟨g2,cap,sT,by rw[hlen];simp,FQ _,hb2,by rw[hlen];exact hcap,hm,?_,by rw[hlen];exact htk⟩⟩,H7,λb' Ba=>?_⟩
  .have q1:cur.toList.length=cap*sz:=by rw[Fa];exact hcs
   have q2:l.length*sz<=cap*sz:=LL _ hcap;rw[<-Fa,hc3,E7,acP,Ih,q1];omega
  .have:g2=b':=by simpa[Value.ownBlock] using Ba
   subst this;exact⟨IW,hB2⟩
def akj{r:A3 α}{fn:FuncId}{ys:A3 CD}{pre post Bk:A3 Ty}{Ai:Ctx}(BC:∀q∈Ai,q∈Γ)(hf:∀z,(f z).n=sz)
 (hS:∀(ps qs:A3 AV),ps.length=i*sz->JB P fn pre (.Ew E ps qs<|lT f<|(l.drop i).take n) (.Ew E ps qs<|lT f r) post Bk)(hx:Eo Ai x u)(hu:look Ai u=some (.win t i n sz))(ht:look Ai t=some (.buf E sz<|lT f l))
 (hn:(Nat.blt 0 n&&Nat.ble (i+n) l.length&&Nat.beq r.length n)=true)(ha:AT Ai xs pre)(hb:AT Ai ys post)(DJ:dd<N)(hne:dd≠t):Step P N ops ⟨some dd,.call ⟨.value<| .func fn,(xs++x::ys).toArray,Ex⟩,ty,pos,af,none⟩ Γ ((dd,Ip Bk)::(t,.buf E sz<|lT f<|l.take i++r++l.drop (i+n))::del dd (BF t Γ)):=by
 rw[C4,C4] at hn;let⟨⟨hn1,IW⟩,hn3⟩:=hn;have hn1:=FT hn1;have IW:=FT IW;have hn3:=E9 hn3;intro w0 H0 a w H hs K Q k;simp[Region.wanted,if_true];have hsi:=hs.weaken BC;have Es:=hs.holds _<|BC _<|B6 ht
 simp only at Es;let⟨b,len,cap,c,ev,eu⟩:=hs.holds _<|BC _<|B6 hu
 simp only at ev eu;let⟨ps,qs,hps,hw,rA⟩:=am3 hf Es hn1 IW ev c;have can:Gd P fn=true:=(hS ps qs hps).can;have e:execOp a.eval ⟨some dd,.call ⟨.value<| .func fn,(xs++x::ys).toArray,Ex⟩,ty,pos,af,none⟩=callFunc fn (xs.map a.eval++Ae a u::ys.map a.eval).toArray:=by
  have e:execOp a.eval ⟨some dd,.call ⟨.value<| .func fn,(xs++x::ys).toArray,Ex⟩,ty,pos,af,none⟩=callFunc fn (#[]++(xs++x::ys).toArray.map a.eval++ #[]):=rfl;rw[e]
  congr 1
  simp[hx.ok hsi]
 unfold Oper.wp;rw[e,P6 can,W8,eu];have hw0:(AQ.Ew E ps qs<|lT f<|(l.drop i).take n).holds (Aj.Oo P w λb'=>(AQ.Ew E ps qs<|lT f<|(l.drop i).take n).owns w (.slice (some ⟨b,i*sz,none⟩) n c) b') RB w H (.slice (some ⟨b,i*sz,none⟩) n c):=AQ.Rc rfl hw λb' Ba=> .inr Ba
 have hown:∀b',(AQ.Ew E ps qs<|lT f<|(l.drop i).take n).owns w (.slice (some ⟨b,i*sz,none⟩) n c) b'↔(AQ.buf E sz<|lT f l).owns w (Ae a t) b':=λb'=>by rw[ev];exact Iff.rfl
 refine((hS ps qs hps).run w H _ _ _ hs.sub hs.gl (ha.ok hsi) (hb.ok hsi) hw0).mono ?_;rintro e w' ⟨rv,rfl,H',hy,DO,ho,hr⟩;have hy':Qv (λb'=>(AQ.buf E sz<|lT f l).owns w (Ae a t) b') w H w' H':=by
  have:(λb'=>(AQ.buf E sz<|lT f l).owns w (Ae a t) b')=λb'=>(AQ.Ew E ps qs<|lT f<|(l.drop i).take n).owns w (.slice (some ⟨b,i*sz,none⟩) n c) b':=funext λb'=>propext (hown b').symm
  rw[this];exact hy
 have KQ:(AQ.Ew E ps qs<|lT f r).holds w0 RB w' H' (.slice (some ⟨b,i*sz,none⟩) n c):=AQ.Rc rfl DO λb' Ba=>by
  have Ba:(AQ.buf E sz<|lT f l).owns w (Ae a t) b':=by rw[ev];exact Ba
  exact AQ.PI rfl Es Ba
 have Hd:(AQ.buf E sz<|lT f<|l.take i++r++l.drop (i+n)).holds w0 a w' H' (Ae a t):=rA w' H' r hy.le hn3 KQ;have h1:=y8 hs (BC _<|B6 ht) rfl rfl (λq hq _ b hb=>Aj.QS<|AQ.PI rfl Es hb) hy' Hd<|λb' Ba=> .inl Ba
 have h2:=QK (h1.weaken (An:=del dd ((t,.buf E sz<|lT f<|l.take i++r++l.drop (i+n))::BF t Γ)) ML) DJ PN (s:=Ip Bk) (v:=rv) (by match Bk with|[]=>simp[Ip,AQ.C8]|[_]=>simp[Ip,AQ.C8]|_::_::_=>simp[Ip,AQ.C8]) (VV hr)<|λb e=>absurd e<|AQ.free_spec Vd
 refine k _ w' H'<|h2.weaken λq hq=>?_
 simp[Aq] at hq⊢;rcases hq with h|h|h
 .exact .inl h
 .subst h;exact .inr (Ry (by simp) (λe=>hne e.symm) (by simp[AQ.C8]))
 .have:=qi h;exact .inr<|Ry (By _<|ML _ h) this.1 this.2
def xw{r:A3 α}{fn:FuncId}{ys:A3 CD}{pre post Bk:A3 Ty}(hf:∀z,(f z).n=sz)
 (hS:∀(ps qs:A3 AV),ps.length=i*sz->JB P fn pre (.Ew E ps qs<|lT f<|(l.drop i).take n) (.Ew E ps qs<|lT f r) post Bk)(hx:Eo Γ x u)(hu:look Γ u=some (.win t i n sz))(ht:look Γ t=some (.buf E sz<|lT f l))
 (hn:(Nat.blt 0 n&&Nat.ble (i+n) l.length&&Nat.beq r.length n)=true)(ha:AT Γ xs pre)(hb:AT Γ ys post)(DJ:dd<N)(hne:(dd !=t)=true):Step P N ops ⟨some dd,.call ⟨.value<| .func fn,(xs++x::ys).toArray,Ex⟩,ty,pos,af,none⟩ Γ ((dd,Ip Bk)::(t,.buf E sz<|lT f<|l.take i++r++l.drop (i+n))::del dd (BF t Γ)):=akj (λ_ h=>h) hf hS hx hu ht hn ha hb DJ (by simpa using hne)
structure j4(P:CF)(f:FuncId)(E:Am)(sz:Nat)(bl:A3 Ty)(args:A3 Ty)(l:A3 Ty):Prop where
 can:Gd P f=true
 run:∀(w:AR) (H:HV) (v:AV) (xs:A3 AV) (vs:A3 AV),(∀r o,H r=some o->w.heap[r]? =some o)->LP P H->w.ownsRow 0 E sz v bl.length xs->DT H bl xs->(∀b,v.ownBlock=some b->H b=none)->Ec H args vs->Calls P f (v::vs).toArray w λe w'=>∃r,e= .returned r/\Ed w w' v.ownBlock/\∃xs',w'.ownsRow 0 E sz r l.length xs'/\DT H l xs'/\∀b,r.ownBlock=some b->v.ownBlock=some b
def ajC{s:CD}{f:FuncId}{bl:A3 Ty}{args l:A3 Ty}(Wj:j4 P f E sz bl args l)(hs:s= .tmp t\/∃u,s= .tmp u/\look Γ u=some (.same t))(ht:look Γ t=some (.buf E sz bl))(ha:AT Γ xs args)(DJ:dd<N):Q2 P N ops Γ ⟨some dd,.call ⟨.value<| .func f,(s::xs).toArray,Ex⟩,ty,pos,af,none⟩ t dd (.buf E sz l):=by
 intro EK BC w0 H0 a w H BD K Q k;simp only[Region.wanted,if_true];have hb:=BD.holds _<|BC _<|B6 ht
 let⟨ys,hr,ho,hn⟩:=hb;have es:a.eval s=Ae a t:=by
  rcases hs with rfl|⟨u,rfl,hu⟩
  .rfl
  .exact BD.holds _<|BC _<|B6 hu
 have e0:execOp a.eval ⟨some dd,.call ⟨.value<| .func f,(s::xs).toArray,Ex⟩,ty,pos,af,none⟩=callFunc f (#[]++(s::xs).toArray.map a.eval++ #[]):=rfl;unfold Oper.wp;rw[e0,P6 Wj.can,W8];have e2:(#[]++(s::xs).toArray.map a.eval++ #[])=(Ae a t::xs.map a.eval).toArray:=by simp[es]
 rw[e2];refine(Wj.run w H _ ys _ BD.sub BD.gl hr ho (λb hb=>(hn b hb).1)<|ha.ok<|BD.weaken BC).mono ?_;rintro e w' ⟨r,rfl,hg,xs',h3,h4,h5⟩;have jV:∀b,(Ae a t).ownBlock=some b->w0.EC b/\H b=none/\∀l,w.heap[b]? ≠some (.deferred l):=λb hb=>⟨(hn b hb).2,(hn b hb).1,λl e=>by let⟨_,_,o,h3,h4⟩:=AQ.JC (s:= .buf E sz bl) (B:=w0) (a:=a) ⟨ys,hr,ho,hn⟩ hb;rw[h3] at e;cases e;exact h4⟩
 have jQ:∀b o,H b=some o->w'.heap[b]? =some o:=λc o hc=>by rw[hg.block c (lt_of_heap<|BD.sub c o hc) (λe2=>by rw[(hn c e2.symm).1] at hc;cases hc)];exact BD.sub c o hc
 have Ld:∀q∈del dd (BF t EK),∀c,q.2.owns w (Ae a q.1) c->(Ae a t).ownBlock≠some c:=λq hq c hc e=>BD.sep _ (BC _<|B6 ht) q (DL q<|ML q hq).1 (λe=>(DL q<|ML q hq).2 e.symm) c e hc
 have IE:Sat w0 H0 N (del dd<|BF t EK) a w' H:=ajz BD hg jV (HV.le.refl _) (λ_ _ _=>rfl) jQ λq hq=>⟨(DL q<|ML q hq).1,Ld q hq⟩
 refine k _ w' H (QK IE DJ PN (by simp[AQ.C8]) ⟨xs',h3,h4,λb hb=>⟨(hn b<|h5 b hb).1,(hn b<|h5 b hb).2⟩⟩ ?_);intro b hb q hq hq2;have hb:r.ownBlock=some b:=hb;have IN:=(DL q<|ML q hq).1;have F:Far w0.lo (λb=>q.2.owns w (Ae a q.1) b) w H w' H:=by
  have hk:∀c,c<w.heap.size->(c<w0.lo\/q.2.owns w (Ae a q.1) c)->(Ae a t).ownBlock≠some c:=λc _ h e=>by
   rcases h with h|h
   .have:=Aj.QS (hn c e).2;omega
   .exact Ld q hq c h e
  exact⟨hg.size,hg.os,hg.tape,hg.output,hg.drawn,HV.le.refl _,λc hc h=>hg.block c hc<|λe=>hk c hc h e.symm,λ_ _ _=>rfl,jQ⟩
 exact Ld q hq b (((AQ.YY (BD.holds q IN) F).2 b).1 hq2)<|h5 b hb
def aiJ{f:FuncId}{bl:A3 Ty}{args l:A3 Ty}(Wj:j4 P f E sz bl args l)(hu:look Γ u=some (.same t))(ht:look Γ t=some (.buf E sz bl))(ha:AT Γ xs args)(DJ:dd<N):Step P N ops ⟨some dd,.call ⟨.value<| .func f,(.tmp u::xs).toArray,Ex⟩,ty,pos,af,none⟩ Γ ((dd,.buf E sz l)::del dd (BF t Γ)):=ajC Wj (.inr ⟨u,rfl,hu⟩) ht ha DJ Γ<|λ_ h=>h
end
section
variable[D:DR]
variable{P:Program}{w0:Aj P}{H0:HV}{N:Nat}{Q:Exit->Act->World->Prop}{Γ An:Ctx}{d:Option Tmp}{ty:TypeId}{pos:String}{af:Array Edge}{g:Option (Nat×Bool)}
def aph{T:Am}{τ:Ty}(h:Dn P T τ):Dn P T (Ir τ.n τ.agg):=⟨λw=>by let⟨z,h1,h2⟩:=h.run w;exact⟨z,h1,λH=>τ.shape<|h2 H⟩⟩
def oT{β:Type}(F:β->Ty)(n:Nat)(agg:Bool)(h:∀x,(F x).n=n/\(F x).agg=agg)(o:AA β):Ty where
 n:=n
 agg:=agg
 ok:=λH v=>match o with|some x=>(F x).ok H v|none=>Shape n agg v
 mono:=λ{H H' v} hl k=>by cases o with|none=>exact k|some x=>exact(F x).mono hl k
 shape:=λ{H v} k=>by cases o with|none=>exact k|some x=>have:=(F x).shape k;rwa [(h x).1,(h x).2] at this
def mlk{α β:Type}[DecidableEq α](l:A3 (α×β))(x:α):AA β:=match mix x l with|none=>none|some j=>(l[j]?).map (·.2)
def akq{w0:Aj P}{β:Type}{F:β->Ty}{n:Nat}{agg:Bool}{h:∀x,(F x).n=n/\(F x).agg=agg}{o:AA β}{t:Nat}{T:Am}{z:β}(ht:look Γ t=some (.own T<|oT F n agg h o))(hs:(!o.isSome)=false):II w0 N Γ ((t,.own T<|F<|o.getD z)::BF t Γ):=λH0 a w H BD=>by
 let⟨b,x,e,hb,hx,hH,hB⟩:=BD.holds _<|B6 ht
 refine⟨H,nC (us:=[]) BD (λq hq=>DL q hq) ⟨b,x,e,hb,?_,hH,hB⟩ (λc hc=>⟨_,B6 ht,.inl rfl,hc⟩) (λ_ _ h=>by cases h)⟩;cases o with|none=>cases hs|some y=>exact hx
end
section
variable[D:DR]
variable{P:Program}{w0:Aj P}{H0:HV}{N:Nat}{Q:Exit->Act->World->Prop}{Γ An:Ctx}{d:Option Tmp}{ty:TypeId}{pos:String}{af:Array Edge}{g:Option (Nat×Bool)}
variable{α β:Type}[DecidableEq α]{K E Eb T:TypeId}{sz:Nat}{fK:α->Ty}
def aoC{F:β->Ty}{n:Nat}{agg:Bool}{hF:∀x,(F x).n=n/\(F x).agg=agg}{t:Nat}{m k:CD}{l:A3 (α×β)}{x:α}(hT:Ud P T K E=true)(hk:SF P K fK)(hz:Dn P E (Ir n agg))(hm:Qx Γ m t)(ht:look Γ t=some (.Gm K E Eb sz<|mM fK (λv=> .val<|F v) l))(hx:Arg Γ k (fK x)):Ay P Γ ⟨d,.lookup T m k true,ty,pos,af,g⟩ (.LY [oT F n agg hF<|mlk l x,Av (mlk l x).isSome]):=
 Di λ_ _ _ a w H hs=>by
  let⟨r,es,e,hr,hn,hmi,ho,IU⟩:=hs.holds _<|B6 ht
  have em:a.eval m= .map (some r):=by rw[hm.ok hs];exact e
  have Hx:=hx.ok hs;let⟨k1,k2⟩:=aAO ho;have hf:=run_findKey hk Hx (w:=w) k1 k2;have hc:=hk.check H _ x Hx es.isEmpty w;let⟨zv,hzr,hzo⟩:=hz.run w;cases hmx:mix x l with
  |none=>
   rw[hmx] at hf;refine⟨.tuple #[zv,.bool false],?_,⟨#[zv,.bool false],rfl,?_⟩,rfl⟩
   .simp[execOp,em,Instr.lookup,Et<|Yp hT,run_getObj_map hr,hc,hf,hzr]
   .have:mlk l x=none:=by simp[mlk,hmx]
    rw[this];exact⟨_,_,rfl,hzo H,_,_,rfl,rfl,rfl⟩
  |some j=>
   rw[hmx] at hf;let⟨v,hv⟩:=oV hmx;let⟨y,h1,_,h3,_⟩:=aA ho (j:=j) (k:=fK x) (e:= .val<|F v) (by simp[hv]);simp only[Pb,h1,ZS] at hf;refine⟨.tuple #[y.val,.bool true],?_,⟨#[y.val,.bool true],rfl,?_⟩,rfl⟩
   .simp[execOp,em,Instr.lookup,Et<|Yp hT,run_getObj_map hr,hc,hf]
   .have:mlk l x=some v:=by simp[mlk,hmx,hv]
    rw[this];exact⟨_,_,rfl,h3,_,_,rfl,rfl,rfl⟩
end
section
variable[D:DR]
variable{P:Program}{w0:Aj P}{H0:HV}{N:Nat}{Q:Exit->Act->World->Prop}{Γ An:Ctx}{d:Option Tmp}{ty:TypeId}{pos:String}{af:Array Edge}{g:Option (Nat×Bool)}
def aoa{α:Type}{f:α->Ty}{l:A3 α}{ops:B8 Oper}{o:Oper}{t dd:Nat}{E:Am}{sz:Nat}{s:AQ}(ht:look Γ t=some (.buf E sz<|lT f l))(h:Ay P ((t,.val<|TL f l)::BF t Γ) o s)(hg:o.guard=none)(hd:o.dst=some dd)(hN:dd<N)(hl:s.LO dd=false):Q2 P N ops Γ o t dd s:=λEK BC=>by
 intro w0 H0 a w H BD K Q k;simp only[Region.wanted,hg,if_true];have IN:=BC _<|B6 ht
 let⟨xs,hr,ho,hn⟩:=BD.holds _ IN;have DO:=eC (τ:=TL f l) BD IN (λb=>(Ae a t).ownBlock=some b) (λb h=>⟨h,(hn b h).2⟩) (WS (a:=a) ⟨xs,hr,ho,hn⟩ (λr o h=>by
  by_cases e:(Ae a t).ownBlock=some r
  .rw[(hn r e).1] at h;cases h
  .simp[e,h]) (λb hb _ o hbo=>by simp[hb,hbo]))
 refine h w0 H0 N a w _ (DO.weaken ?_) K Q λv w' H'' he hv hbb=>?_
 .intro q hq;rcases Aq.1 hq with e|hq
  .subst e;exact Dc
  .exact By _<|PL (BC q (DL q hq).1) (DL q hq).2
 .rw[hd];exact k _ _ _<|Ru (DO.weaken λq hq=>By _<|ML q hq) he hN PN (YR hl) hv hbb
end
section
variable[D:DR]
def ck(b:Bool)(p:Prop):Prop:=match b with|true=>p|false=>False
def ck_{b:Bool}{p:Prop}(h:ck b p):b=true/\p:=by
 cases b
 .exact h.elim
 .exact⟨rfl,h⟩
def lkV(o:AA AQ)(K:Ty->Prop):Prop:=match o with|some (.val τ)=>K τ|_=>False
theorem rZ{o:AA AQ}{K:Ty->Prop}(h:lkV o K):∃τ,o=some (.val τ)/\K τ:=by
 unfold lkV at h;split at h
 .grind
 .exact h.elim
def KL(Γ:Ctx):A3 Nat->AA Ctx
 |[]=>some []
 |t::ts=>match look Γ t,KL Γ ts with|some s,some An=>some ((t,s)::An)|_,_=>none
def N8{Γ:Ctx}:∀{ts:A3 Nat} {An:Ctx},KL Γ ts=some An->ES Γ ts An
 |[],_,h=>by cases h;exact .nil
 |t::ts,An,h=>by
  unfold KL at h;split at h
  .rename_i h1 h2;cases h;exact .cons h1<|N8 h2
  .cases h
end
section
variable[D:DR]
variable{P:Program}{w0:Aj P}{H0:HV}{N:Nat}{ops:Array Oper}{Γ An Em:Ctx}{l:List Oper}{d:Nat}{op:Op}{ty:TypeId}{pos:String}{af:Array Edge}{K:Ctx->Prop}{Q:Exit->Act->World->Prop}
variable{s:AQ}
structure CK(P:CF)(w0:Aj P)(N:Nat)(ops:B8 Oper)(l:A3 Oper)(Γ:Ctx)(K:Ctx->Prop):Prop where
 w:∃An,JN P w0 N ops l Γ An/\K An
def fr(N d:Nat)(s:AQ)(Γ:Ctx):Bool:=Nat.blt d N&&(Jl d Γ&& !s.LO d)
def fo(N d:Nat)(s:AQ):Bool:=Nat.blt d N&& !s.LO d
def fr_{N d:Nat}{Γ:Ctx}(h:fr N d s Γ=true):d<N/\Jl d Γ=true/\s.LO d=false:=by simp only[fr,C4,G5] at h;exact⟨Ad h.1,h.2.1,h.2.2⟩
def fo_{N d:Nat}(h:fo N d s=true):d<N/\s.LO d=false:=by simp only[fo,C4,G5] at h;exact⟨Ad h.1,h.2⟩
def cP(h:Ay P Γ ⟨some d,op,ty,pos,af,none⟩ s)(r:ck (fr N d s Γ) (CK P w0 N ops l ((d,s)::Γ) K)):CK P w0 N ops (⟨some d,op,ty,pos,af,none⟩::l) Γ K:=by let⟨hb,An,h1,h2⟩:=ck_ r;let⟨b1,b2,b3⟩:=fr_ hb;exact⟨An,.cons (Step.pure h rfl rfl b1 b2 b3) h1,h2⟩
def cO(h:Ay P Γ ⟨some d,op,ty,pos,af,none⟩ s)(r:ck (fo N d s) (CK P w0 N ops l ((d,s)::del d Γ) K)):CK P w0 N ops (⟨some d,op,ty,pos,af,none⟩::l) Γ K:=by let⟨hb,An,h1,h2⟩:=ck_ r;let⟨b1,b3⟩:=fo_ hb;exact⟨An,.cons (Step.over h rfl rfl b1 b3) h1,h2⟩
def cS{o:Oper}(h:Step P N ops o Γ Em)(r:CK P w0 N ops l Em K):CK P w0 N ops (o::l) Γ K:=by let⟨An,h1,h2⟩:=r;exact⟨An,.cons h h1,h2⟩
def cG(h:II w0 N Γ Em)(r:CK P w0 N ops l Em K):CK P w0 N ops l Γ K:=by let⟨An,h1,h2⟩:=r;exact⟨An,.ghost h h1,h2⟩
def cF(ts:A3 Nat)(h:KL Γ ts=some Em)(r:K Em):CK P w0 N ops [] Γ K:=⟨Em,.fin<|N8 h,r⟩
def cY{ts:A3 Nat}(h:ES Γ ts Em)(r:K Em):CK P w0 N ops [] Γ K:=⟨Em,.fin h,r⟩
def cPr(h:Ay P Γ ⟨some d,op,ty,pos,af,none⟩ s)(hb:fr N d s Γ=true)(r:CK P w0 N ops l ((d,s)::Γ) K):CK P w0 N ops (⟨some d,op,ty,pos,af,none⟩::l) Γ K:=cP h (by rw[hb];exact r)
def auu(m t:Nat):Bool:=Nat.beq (Nat.mod (Nat.div m<|Nat.pow 2 t) 2) 1
def fm(m:Nat):Ctx->AA Ctx
 |[]=>some []
 |(t,s)::Γ=>match auu m t with
  |true=>match fm m Γ with|some An=>some ((t,s)::An)|none=>none
  |false=>fm m Γ
def fm_{m:Nat}:∀{Γ An:Ctx},fm m Γ=some An->∀q∈An,q∈Γ
 |[],_,h,q,hq=>by cases h;exact hq
 |(t,s)::Γ,An,h,q,hq=>by
  unfold fm at h;split at h
  .split at h
   .rename_i h1;cases h;rcases Aq.1 hq with e|hq
    .rw[e];simp
    .exact By _<|fm_ h1 q hq
   .cases h
  .exact By _<|fm_ h q hq
def gm{m:Nat}(h:fm m Γ=some Em):II w0 N Γ Em:=λ_ _ _ H hs=>⟨H,hs.weaken<|fm_ h⟩
def A5(m:Nat)(h:fm m Γ=some Em)(r:K Em):CK P w0 N ops [] Γ K:=cG (gm h) ⟨Em,.done,r⟩
def cWm(m:Nat)(h:fm m Γ=some Em)(r:CK P w0 N ops l Em K):CK P w0 N ops l Γ K:=cG (gm h) r
def cD(r:K Γ):CK P w0 N ops [] Γ K:=⟨Γ,.done,r⟩
end
section
variable[D:DR]
variable{P:Program}{w0:Aj P}{H0:HV}{N:Nat}{ops:Array Oper}{Γ An Em:Ctx}{l:List Oper}{d:Nat}{op:Op}{ty:TypeId}{pos:String}{af:Array Edge}{K:Ctx->Prop}{Q:Exit->Act->World->Prop}
variable{x y:Operand}{t t':Nat}{T T':TypeId}{τ σ:Ty}{k:IntKind}{m n:Int}{b e:Bool}
variable{off:Nat}{L:A3 Ty}{g:AA (Nat×Bool)}{α:Type}{j dj:Nat}{want:Bool}{Ai:Ctx}{s:AQ}
abbrev G(P:CF)(w0:Aj P)(N:Nat)(ops:B8 Oper)(l:A3 Oper)(Γ:Ctx)(K:Ctx->Prop)(d:Nat)(s:AQ):Prop:=ck (fr N d s Γ)<|CK P w0 N ops l ((d,s)::Γ) K
def lkT(o:AA AQ)(K:A3 Ty->Prop):Prop:=match o with|some (.LY l)=>K l|_=>False
theorem acH{o:AA AQ}{K:A3 Ty->Prop}(h:lkT o K):∃l,o=some (.LY l)/\K l:=by
 unfold lkT at h;split at h
 .grind
 .exact h.elim
def lkO{α:Type}(o:AA α)(K:α->Prop):Prop:=match o with|some x=>K x|_=>False
theorem arx{o:AA α}{K:α->Prop}(h:lkO o K):∃x,o=some x/\K x:=by
 unfold lkO at h;split at h
 .grind
 .exact h.elim
def cM(r:lkV (look Γ t) λτ=>G P w0 N ops l Γ K d<| .val τ):CK P w0 N ops (⟨some d,.move<| .tmp t,ty,pos,af,none⟩::l) Γ K:=by let⟨τ,h1,h2⟩:=rZ r;exact cP (gS<| .t h1) h2
def cA(r:lkV (look Γ t) λτ=>G P w0 N ops l Γ K d<| .val τ):CK P w0 N ops (⟨some d,.assign<| .tmp t,ty,pos,af,none⟩::l) Γ K:=by let⟨τ,h1,h2⟩:=rZ r;exact cP (BM<| .t h1) h2
def cI(r:G P w0 N ops l Γ K d (.val<|TI k n)):CK P w0 N ops (⟨some d,.assign<| .const<| .int k n,ty,pos,af,none⟩::l) Γ K:=cP (BM .int) r
def cB(r:G P w0 N ops l Γ K d (.val<|Av b)):CK P w0 N ops (⟨some d,.assign<| .const<| .bool b,ty,pos,af,none⟩::l) Γ K:=cP (BM .bool) r
def cN(r:G P w0 N ops l Γ K d (.val<|TI k n)):CK P w0 N ops (⟨some d,.move<| .const<| .int k n,ty,pos,af,none⟩::l) Γ K:=cP (gS .int) r
def cX(r:lkV (look Γ t) λτ=>G P w0 N ops l Γ K d<| .own T τ):CK P w0 N ops (⟨some d,.box T<| .tmp t,ty,pos,af,none⟩::l) Γ K:=by let⟨τ,h1,h2⟩:=rZ r;exact cP (aoG<| .t h1) h2
def cE{i:Nat}(r:lkT (look Γ t) λL=>lkO L[i]? λτ=>G P w0 N ops l Γ K d<| .val τ):CK P w0 N ops (⟨some d,.extract (.tmp t) i,ty,pos,af,none⟩::l) Γ K:=by let⟨L,h1,h2⟩:=acH r;let⟨τ,h3,h4⟩:=arx h2;exact cP (GH h1 h3) h4
def cZ(r:lkT (look Γ t) λL=>G P w0 N ops l Γ K d<| .LY L):CK P w0 N ops (⟨some d,.move<| .tmp t,ty,pos,af,none⟩::l) Γ K:=by let⟨L,h1,h2⟩:=acH r;exact cP (Mm h1) h2
def cQ(r:G P w0 N ops l Γ K d (.same t)):CK P w0 N ops (⟨some d,.move<| .tmp t,ty,pos,af,none⟩::l) Γ K:=cP Dr r
def cU(h:look Γ t=some (.own T' τ))(hT:Bp P T τ.n τ.agg=true)(r:G P w0 N ops l Γ K d (.val τ)):CK P w0 N ops (⟨some d,.load T<| .tmp t,ty,pos,af,none⟩::l) Γ K:=cP (Au h hT) r
def cR(h:look Γ t=some (.val<|Jp τ))(hT:Bp P T τ.n τ.agg=true)(r:G P w0 N ops l Γ K d (.val τ)):CK P w0 N ops (⟨some d,.load T<| .tmp t,ty,pos,af,none⟩::l) Γ K:=cP (Bj (.t h) hT) r
def cRc(h0:(look Γ t,Bp P T τ.n τ.agg)=(some<| .val<|Jp τ,true))(r:G P w0 N ops l Γ K d (.val τ)):CK P w0 N ops (⟨some d,.load T<| .tmp t,ty,pos,af,none⟩::l) Γ K:=cR (congrArg (·.1) h0) (congrArg (·.2) h0) r
def lk2(Γ:Ctx)(t:Nat):AA (Nat×Ty):=match look Γ t with
 |some (.ptr t' off)=>match look Γ t' with|some (.own _ τ)=>some (off,τ)|_=>none
 |_=>none
theorem ary{Γ:Ctx}{t:Nat}{τ:Ty}(h:lk2 Γ t=some (off,τ)):∃t' T,look Γ t=some (.ptr t' off)/\look Γ t'=some (.own T τ):=by
 unfold lk2 at h;split at h
 .grind
 .cases h
def pick(L:A3 Ty)(i off:Nat):AA Ty:=match Nat.beq (CR<|L.take i) off with|true=>L[i]?|false=>none
def qt{i:Nat}{σ:Ty}(h:pick L i off=some σ):BL (DB L) off σ:=by
 unfold pick at h;split at h
 .rename_i e;exact .agg h<|E9 e
 .cases h
def oP{d:AA Tmp}(i:Nat)(h:lk2 Γ t=some (off,DB L))(h1:pick L i off=some σ)(hT:Bp P T σ.n σ.agg=true):Ay P Γ ⟨d,.load T<| .tmp t,ty,pos,af,g⟩ (.val σ):=by let⟨t',T',k1,k2⟩:=ary h;exact FP k1 k2 (qt h1) hT
def BQ{d:AA Tmp}(i:Nat)(h0:(lk2 Γ t,pick L i off)=(some (off,DB L),some σ))(hT:Bp P T σ.n σ.agg=true):Ay P Γ ⟨d,.load T<| .tmp t,ty,pos,af,g⟩ (.val σ):=oP i (congrArg (·.1) h0) (congrArg (·.2) h0) hT
def cV(i:Nat)(h:lk2 Γ t=some (off,DB L))(h1:pick L i off=some σ)(hT:Bp P T σ.n σ.agg=true)(r:G P w0 N ops l Γ K d (.val σ)):CK P w0 N ops (⟨some d,.load T<| .tmp t,ty,pos,af,none⟩::l) Γ K:=cP (oP i h h1 hT) r
def cK{k':Nat}(h:look Γ t=some (.own T' τ))(hf:GX P T k' off=true)(r:G P w0 N ops l Γ K d (.ptr t off)):CK P w0 N ops (⟨some d,.fieldAddr T (.tmp t) k',ty,pos,af,none⟩::l) Γ K:=cP (FA h hf) r
def cJ{f:α->Ty}{L:A3 α}(hT:Du P T=true)(h:look Γ t=some (.val<|TL f L))(r:G P w0 N ops l Γ K d (.val<|TI .i64 L.length)):CK P w0 N ops (⟨some d,.call ⟨.builtin .len,#[.tmp t],#[T]⟩,ty,pos,af,none⟩::l) Γ K:=cP (KY hT<| .t h) r
def cT(h:Dn P T τ)(r:G P w0 N ops l Γ K d (.own T τ)):CK P w0 N ops (⟨some d,.alloc T,ty,pos,af,none⟩::l) Γ K:=cP (L7 h) r
def cH{r':Int}(h:look Γ t=some (.val<|TI .i64 m))(h1:AH (m+n)=some r')(r:G P w0 N ops l Γ K d (.val<|TI .i64 r')):CK P w0 N ops (⟨some d,.binOp .add T (.tmp t) (.const<| .int .i64 n) T',ty,pos,af,none⟩::l) Γ K:=cP (Cq (.t h) .int h1) r
def cL(h:look Γ t=some (.val<|TI k m))(h':look Γ t'=some (.val<|TI k n))(r:G P w0 N ops l Γ K d (.val<|Av<|decide<|m<n)):CK P w0 N ops (⟨some d,.binOp .lss T (.tmp t) (.tmp t') T',ty,pos,af,none⟩::l) Γ K:=cP (D4 (.t h)<| .t h') r
def B7(h0:(look Γ t,look Γ t')=(some<| .val<|TI k m,some<| .val<|TI k n))(r:G P w0 N ops l Γ K d (.val<|Av<|decide<|m<n)):CK P w0 N ops (⟨some d,.binOp .lss T (.tmp t) (.tmp t') T',ty,pos,af,none⟩::l) Γ K:=cL (congrArg (·.1) h0) (congrArg (·.2) h0) r
def oX{f:α->Ty}{L:A3 α}{d:AA Tmp}{i:Int}{sz:Nat}{y:α}(hT:G2 P T sz=true)(hf:∀z,(f z).n=sz)(hx:look Γ t=some (.val<|TL f L))(hi:look Γ t'=some (.val<|TI k i))(h:AB L i=some y):Ay P Γ ⟨d,.indexAddr T (.tmp t)<| .tmp t',ty,pos,af,g⟩ (.val<|Jp<|f y):=FF hT hf (.t hx) (.t hi) h
def Pz(Γ:Ctx):A3 CD->AA (A3 Ty)
 |[]=>some []
 | .tmp t::xs=>match look Γ t,Pz Γ xs with|some (.val τ),some l=>some (τ::l)|_,_=>none
 | .const (.int k n)::xs=>match Pz Γ xs with|some l=>some (TI k n::l)|_=>none
 | .const (.bool b)::xs=>match Pz Γ xs with|some l=>some (Av b::l)|_=>none
 |_=>none
def an{Γ:Ctx}:∀{xs:A3 CD} {l:A3 Ty},Pz Γ xs=some l->AT Γ xs l
 |[],_,h=>by cases h;exact .nil
 | .tmp t::xs,l,h=>by
  unfold Pz at h;split at h
  .rename_i h1 h2;cases h;exact .cons (.t h1)<|an h2
  .cases h
 | .const (.int k n)::xs,l,h=>by
  unfold Pz at h;split at h
  .rename_i h2;cases h;exact .cons .int<|an h2
  .cases h
 | .const (.bool b)::xs,l,h=>by
  unfold Pz at h;split at h
  .rename_i h2;cases h;exact .cons .bool<|an h2
  .cases h
def oC{f:FuncId}{xs:A3 CD}{Ex:B8 Am}{args:A3 Ty}{Bk:Res}{d:AA Tmp}(hf:Ef P f args Bk)(ha:Pz Γ xs=some args):Ay P Γ ⟨d,.call ⟨.value<| .func f,xs.toArray,Ex⟩,ty,pos,af,g⟩ (rX Bk):=Fm hf<|an ha
def cC{f:FuncId}{xs:A3 CD}{Ex:B8 Am}{args:A3 Ty}{Bk:Res}(hf:Ef P f args Bk)(ha:Pz Γ xs=some args)(r:G P w0 N ops l Γ K d (rX Bk)):CK P w0 N ops (⟨some d,.call ⟨.value<| .func f,xs.toArray,Ex⟩,ty,pos,af,none⟩::l) Γ K:=cP (oC hf ha) r
def gV(hj:(ops[j]?).bind (·.dst)=some dj)(hl:look Γ dj=some (.val<|Av b))(ho:Is Γ (gd b want) Ai)(h:gd b want=true->Ay P Ai ⟨some d,op,ty,pos,af,some (j,want)⟩ s)(r:ck (Nat.blt dj N&&fr N d s Γ) (CK P w0 N ops l ((d,.opt (gd b want) s)::Γ) K)):CK P w0 N ops (⟨some d,op,ty,pos,af,some (j,want)⟩::l) Γ K:=by let⟨hb,An,h1,h2⟩:=ck_ r;rw[C4] at hb;let⟨b1,b2,b3⟩:=fr_ hb.2;exact⟨An,.cons (Step.guarded (.v rfl hj hl<|Ad hb.1) (opO ho h) rfl b1 b2 b3) h1,h2⟩
def AI(h0:((ops[j]?).bind (·.dst),look Γ dj)=(some dj,some<| .val<|Av b))(ho:Is Γ (gd b want) Ai)(h:gd b want=true->Ay P Ai ⟨some d,op,ty,pos,af,some (j,want)⟩ s)(r:ck (Nat.blt dj N&&fr N d s Γ) (CK P w0 N ops l ((d,.opt (gd b want) s)::Γ) K)):CK P w0 N ops (⟨some d,op,ty,pos,af,some (j,want)⟩::l) Γ K:=gV (congrArg (·.1) h0) (congrArg (·.2) h0) ho h r
def gO(hj:(ops[j]?).bind (·.dst)=some dj)(hl:look Γ dj=some (.opt e<| .val<|Av b))(ho:Is Γ (e&&gd b want) Ai)(h:(e&&gd b want)=true->Ay P Ai ⟨some d,op,ty,pos,af,some (j,want)⟩ s)(r:ck (Nat.blt dj N&&fr N d s Γ) (CK P w0 N ops l ((d,.opt (e&&gd b want) s)::Γ) K)):CK P w0 N ops (⟨some d,op,ty,pos,af,some (j,want)⟩::l) Γ K:=by let⟨hb,An,h1,h2⟩:=ck_ r;rw[C4] at hb;let⟨b1,b2,b3⟩:=fr_ hb.2;exact⟨An,.cons (Step.guarded (.o rfl hj hl<|Ad hb.1) (opO ho h) rfl b1 b2 b3) h1,h2⟩
end
section
variable[D:DR]
variable{P:Program}{w0:Aj P}{H0:HV}{N:Nat}{ops:Array Oper}{Γ An Em:Ctx}{l:List Oper}{d:Nat}{op:Op}{ty:TypeId}{pos:String}{af:Array Edge}{K:Ctx->Prop}{Q:Exit->Act->World->Prop}
def rS{id:Nat}{y:Code}(r:ck (Jn l) (CK P w0 N l.toArray l Γ λAn=>Goal P w0 H0 N y Q An)):Goal P w0 H0 N (.seq (.region id l.toArray false) y) Q Γ:=by let⟨Aw,An,h1,h2⟩:=ck_ r;exact A9<|ym Aw h1<|A8 h2
def rK{id:Nat}(r:ck (Jn l) (CK P w0 N l.toArray l Γ λAn=>EJ w0 H0 N (Q .normal) An)):Goal P w0 H0 N (.region id l.toArray false) Q Γ:=by let⟨Aw,An,h1,h2⟩:=ck_ r;exact ym Aw h1 h2
structure PK(P:CF)(N:Nat)(ops:B8 Oper)(Γ:Ctx)(acc:A3 Ctx)(l:A3 Oper)(K:A3 (A3 Nat)->A3 Bool->A3 Ctx->Prop):Prop where
 w:∃Dq Dp S,Er P N ops Γ acc l Dq Dp S/\K Dq Dp S
end
section
variable[D:DR]
variable{P:Program}{w0:Aj P}{H0:HV}{N:Nat}{ops:Array Oper}{Γ An Em:Ctx}{l:List Oper}{d:Nat}{op:Op}{ty:TypeId}{pos:String}{af:Array Edge}{K:Ctx->Prop}{Q:Exit->Act->World->Prop}
variable{acc:List Ctx}{ts:List Nat}{Ai:Ctx}{s s' su:AQ}{t u:Nat}{o:Oper}{R:List (List Nat)->List Bool->List Ctx->Prop}
def dN(r:R [] [] acc):PK P N ops Γ acc [] R:=⟨_,_,_,.nil,r⟩
def dP(ts:A3 Nat)(hs:KL (acc.flatten++Γ) ts=some Ai)(h:Ay P Ai ⟨some d,op,ty,pos,af,none⟩ s)(r:ck (Nat.blt d N) (PK P N ops Γ ([(d,s)]::acc) l λn p S=>R (ts::n) (true::p) S)):PK P N ops Γ acc (⟨some d,op,ty,pos,af,none⟩::l) R:=by let⟨hb,n,p,S,h1,h2⟩:=ck_ r;exact⟨_,_,S,.cons (N8 hs) h rfl rfl (Ad hb) h1,h2⟩
def dM{τ:Ty}(i:Nat)(h0:(KL (acc.flatten++Γ) [i],look Ai t)=(some Ai,some<| .val τ))(r:ck (Nat.blt d N) (PK P N ops Γ ([(d,.val τ)]::acc) l λn p S=>R ([i]::n) (true::p) S)):PK P N ops Γ acc (⟨some d,.move<| .tmp t,ty,pos,af,none⟩::l) R:=dP [i] (congrArg (·.1) h0) (gS<| .t<|congrArg (·.2) h0) r
def dV{j dj:Nat}{want b:Bool}{Γj:Ctx}(ts:A3 Nat)(hs:KL (acc.flatten++Γ) ts=some Ai)(hj:(ops[j]?).bind (·.dst)=some dj)(hl:look Ai dj=some (.val<|Av b))(ho:Is Ai (gd b want) Γj)(h:gd b want=true->Ay P Γj ⟨some d,op,ty,pos,af,some (j,want)⟩ s)(r:ck (Nat.blt dj N&&Nat.blt d N) (PK P N ops Γ ([(d,.opt (gd b want) s)]::acc) l λn p S=>R (ts::n) (true::p) S)):PK P N ops Γ acc (⟨some d,op,ty,pos,af,some (j,want)⟩::l) R:=by let⟨hb,n,p,S,h1,h2⟩:=ck_ r;rw[C4] at hb;exact⟨_,_,S,.guarded (N8 hs) (.v rfl hj hl<|Ad hb.1) (opO ho h) rfl (Ad hb.2) h1,h2⟩
def dS(ts:A3 Nat)(hs:KL (acc.flatten++Γ) ts=some Ai)(h:Ov P N ops Ai o t s)(r:PK P N ops Γ ([(t,s)]::acc) l λn p S=>R (ts::n) (false::p) S):PK P N ops Γ acc (o::l) R:=by let⟨n,p,S,h1,h2⟩:=r;exact⟨_,_,S,.store (N8 hs) h h1,h2⟩
def dG(gs ts:A3 Nat)(hs:KL (acc.flatten++Γ) ts=some Ai)(h:Q2 P N ops Ai o t d s)(r:PK P N ops Γ (((d,s)::(t,.gone)::gs.map λu=>(u,.gone))::acc) l λn p S=>R (ts::n) (true::p) S):PK P N ops Γ acc (o::l) R:=by let⟨n,p,S,h1,h2⟩:=r;exact⟨_,_,S,.auk gs (N8 hs) h h1,h2⟩
def dT(ts:A3 Nat)(hs:KL (acc.flatten++Γ) ts=some Ai)(h:kI P N ops Ai o t s' d s)(r:PK P N ops Γ ([(d,s),(t,s')]::acc) l λn p S=>R (ts::n) (true::p) S):PK P N ops Γ acc (o::l) R:=by let⟨n,p,S,h1,h2⟩:=r;exact⟨_,_,S,.two (N8 hs) h h1,h2⟩
end
section
variable[D:DR]
variable{P:Program}{w0:Aj P}{H0:HV}{N:Nat}{ops:Array Oper}{Γ An Em:Ctx}{l:List Oper}{d:Nat}{op:Op}{ty:TypeId}{pos:String}{af:Array Edge}{K:Ctx->Prop}{Q:Exit->Act->World->Prop}
def XA(ops:A3 Oper):A3 (A3 Nat):=ops.foldl (λav o=>av++[(List.range av.length).filter λj=>(SE o).any λe=>e.on==j||(av.getD e.on []).contains j]) []
def DE(P:CF)(w0:Aj P)(N:Nat)(ops:A3 Oper)(k:Nat)(Γ:Ctx)(K:Ctx->Prop)(Dq:A3 (A3 Nat))(Dp:A3 Bool)(S:A3 Ctx):Prop:=∃ts Fy,(Np ops.toArray (XA ops)&&St k (S.reverse.map Kk) Dq Dp (OQ Γ) (XA ops)&&Qg ops.toArray k (XA ops))=true/\KL (S.flatten++Γ) ts=some Fy/\CK P w0 N ops.toArray (ops.drop k) Fy K
def dE{Dq:A3 (A3 Nat)}{Dp:A3 Bool}{S:A3 Ctx}{k:Nat}{Fy:Ctx}(ts:A3 Nat)(hs:KL (S.flatten++Γ) ts=some Fy)(hc:(Np l.toArray (XA l)&&St k (S.reverse.map Kk) Dq Dp (OQ Γ) (XA l)&&Qg l.toArray k (XA l))=true)(r:CK P w0 N l.toArray (l.drop k) Fy K):DE P w0 N l k Γ K Dq Dp S:=⟨ts,Fy,hc,hs,r⟩
def gD{id:Nat}(k:Nat)(hm:P.follows .mixedOrders=true)(r:ck (Jn l) (PK P N l.toArray Γ [] (l.take k)<|DE P w0 N l k Γ λAn=>EJ w0 H0 N (Q .normal) An)):Goal P w0 H0 N (.region id l.toArray true) Q Γ:=by let⟨Aw,n,p,S,h1,ts,Fy,hc,hs,An,h2,h3⟩:=ck_ r;exact aoe (k:=k) Aw _ _ _ _ _ hm hc h1 rfl rfl (N8 hs) h2 h3
def gE{id:Nat}{y:Code}(k:Nat)(hm:P.follows .mixedOrders=true)(r:ck (Jn l) (PK P N l.toArray Γ [] (l.take k)<|DE P w0 N l k Γ λAn=>Goal P w0 H0 N y Q An)):Goal P w0 H0 N (.seq (.region id l.toArray true) y) Q Γ:=
 A9 (gD k hm (by let⟨Aw,r⟩:=ck_ r;rw[Aw];let⟨n,p,S,h1,ts,Fy,hc,hs,An,h2,h3⟩:=r;exact⟨n,p,S,h1,ts,Fy,hc,hs,An,h2,A8 h3⟩))
end
section
variable[D:DR]
variable{P:Program}{w0:Aj P}{H0:HV}{N:Nat}{ops:Array Oper}{Γ An Em:Ctx}{l:List Oper}{d:Nat}{op:Op}{ty:TypeId}{pos:String}{af:Array Edge}{K:Ctx->Prop}{Q:Exit->Act->World->Prop}
variable{x y:Operand}{t t':Nat}{T T':TypeId}{τ σ:Ty}{k:IntKind}{m n:Int}{b e:Bool}{g:Option (Nat×Bool)}{dd:Option Tmp}
variable{s:AQ}{sz:Nat}{ps:A3 (Nat×CD)}{l':A3 Ty}
def aT(h:look Γ t=some (.val τ)):Arg Γ (.tmp t) τ:= .t h
def aI:Arg Γ (.const<| .int k n) (TI k n):= .int
def aB:Arg Γ (.const<| .bool b) (Av b):= .bool
def sS(ts:A3 Nat)(h:KL Γ ts=some An):ES Γ ts An:=N8 h
def oM(h:look Γ t=some (.val τ)):Ay P Γ ⟨dd,.move<| .tmp t,ty,pos,af,g⟩ (.val τ):=gS<| .t h
def oA(h:look Γ t=some (.val τ)):Ay P Γ ⟨dd,.assign<| .tmp t,ty,pos,af,g⟩ (.val τ):=BM<| .t h
def iO{i:Int}{len:Nat}(h:look Γ t=some (.own T' τ))(hT:LV P T len sz=true)(hc:(decide (0<=i)&&decide (i<(len:Int)))=true):Ay P Γ ⟨dd,.indexAddr T (.tmp t)<| .const<| .int k i,ty,pos,af,g⟩ (.ptr t<|i.toNat*sz):=by rw[C4,WD,WD] at hc;exact v8 h hT .int hc.1 hc.2
def Wh(Γ:Ctx):A3 (Nat×CD)->A3 Ty->AA (A3 Ty)
 |[],l=>some l
 |(i,x)::ps,l=>match Pz Γ [x],l[i]? with
  |some [σ],some τ=>match Nat.beq σ.n τ.n with|true=>Wh Γ ps<|l.set i σ|false=>none
  |_,_=>none
def pV{Γ:Ctx}:∀{ps:A3 (Nat×CD)} {l l':A3 Ty},Wh Γ ps l=some l'->E2 P Γ ps l l'
 |[],_,_,h=>by cases h;exact .nil
 |(i,x)::ps,l,l',h=>by
  unfold Wh at h;split at h
  .rename_i σ τ h1 h2;split at h
   .rename_i h3;cases an h1 with|cons ha _=>exact .cons ha h2 (E9 h3)<|pV h
   .cases h
  .cases h
def bB{l:A3 Ty}(hz:Dn P T (DB l))(hT:NS P T (FJ l)=true)(hp:Wh Γ ps l=some l'):Ay P Γ ⟨dd,.build T ps.toArray,ty,pos,af,g⟩ (.val<|DB l'):=fY hz hT<|pV hp
def bA{n:Nat}{l:A3 Ty}(hz:Dn P T (DB l))(hT:LV P T n sz=true)(hu:(l.all λτ=>Nat.beq τ.n sz)=true)(hp:Wh Γ ps l=some l'):Ay P Γ ⟨dd,.build T ps.toArray,ty,pos,af,g⟩ (.val<|DB l'):=YF hz hT (λτ h=>E9<|Dj.1 hu τ h) (pV hp)
def bS{E:Am}{n:Nat}(hz:Dn P E τ)(hT:Gi P T E sz=true)(hp:Wh Γ ps (List.replicate n τ)=some l')(hc:(Nat.beq τ.n sz&&(Nat.blt 0 (n*sz)&&(Nat.ble (n*sz) 16777216&&Nat.beq l'.length n)))=true):Ay P Γ ⟨dd,.buildSlice T n ps.toArray,ty,pos,af,g⟩ (.val<|G3 l'):=by simp only[C4] at hc;exact uh hz hT (E9 hc.1) hc.2.1 hc.2.2.1 (pV hp)<|E9 hc.2.2.2
def cs(ht:look Γ t=some (.own T' τ))(hx:look Γ t'=some (.val σ))(hn:σ.n=τ.n)(hT:Bp P T σ.n σ.agg=true)(r:CK P w0 N ops l ((t,.own T' σ)::BF t Γ) K):CK P w0 N ops (⟨none,.store T (.tmp t)<| .tmp t',ty,pos,af,none⟩::l) Γ K:=cS (afE ht (.t hx) hn hT) r
def Ak(h0:(look Γ t,look Γ t',σ.n)=(some<| .own T' τ,some<| .val σ,τ.n))(hT:Bp P T σ.n σ.agg=true)(r:CK P w0 N ops l ((t,.own T' σ)::BF t Γ) K):CK P w0 N ops (⟨none,.store T (.tmp t)<| .tmp t',ty,pos,af,none⟩::l) Γ K:=cs (congrArg (·.1) h0) (congrArg (·.2.1) h0) (congrArg (·.2.2) h0) hT r
def ds(ht:look Γ t=some (.own T' τ))(hx:look Γ t'=some (.val σ))(hn:σ.n=τ.n)(hT:Bp P T σ.n σ.agg=true):Ov P N ops Γ ⟨none,.store T (.tmp t)<| .tmp t',ty,pos,af,none⟩ t (.own T' σ):=aen ht (.t hx) hn hT
def C9(h0:(look Γ t,look Γ t',σ.n)=(some<| .own T' τ,some<| .val σ,τ.n))(hT:Bp P T σ.n σ.agg=true):Ov P N ops Γ ⟨none,.store T (.tmp t)<| .tmp t',ty,pos,af,none⟩ t (.own T' σ):=ds (congrArg (·.1) h0) (congrArg (·.2.1) h0) (congrArg (·.2.2) h0) hT
def ov(t:Nat)(h:look Γ t=some s)(r:Is Γ e An):Is Γ e ((t,s)::An):= .v h r
def oo(t:Nat){c:Bool}(h:look Γ t=some (.opt c s))(k:e=true->c=true)(r:Is Γ e An):Is Γ e ((t,s)::An):= .o h k r
def on:Is Γ e []:= .nil
def AW(t:Nat)(h:look Γ t=some s):Is Γ e [(t,s)]:= .v h .nil
def AP(t:Nat)(h:look Γ t=some (.opt e s)):Is Γ e [(t,s)]:= .o h id .nil
end
section
variable[D:DR]
variable{P:Program}{w0:Aj P}{H0:HV}{N:Nat}{ops:Array Oper}{Γ An Em:Ctx}{l:List Oper}{d:Nat}{op:Op}{ty:TypeId}{pos:String}{af:Array Edge}{K:Ctx->Prop}{Q:Exit->Act->World->Prop}
variable{α β γ δ ε ζ ρ:Type}{r:ρ}{e:Option α}{f:α->Option β}{g:α->β->Option γ}{h:α->β->γ->Option δ}{i:α->β->γ->δ->Option ε}{j:α->β->γ->δ->ε->Option ζ}
def b2{K:α->β->AA ρ}(q:(bd e λx=>bd (f x)<|K x)=some r):∃x,e=some x/\∃y,f x=some y/\K x y=some r:=by let⟨x,h1,q⟩:=Ax q;let⟨y,h2,q⟩:=Ax q;exact⟨x,h1,y,h2,q⟩
def b3{K:α->β->γ->AA ρ}(q:(bd e λx=>bd (f x) λy=>bd (g x y)<|K x y)=some r):∃x,e=some x/\∃y,f x=some y/\∃z,g x y=some z/\K x y z=some r:=by let⟨x,h1,y,h2,q⟩:=b2 q;let⟨z,h3,q⟩:=Ax q;exact⟨x,h1,y,h2,z,h3,q⟩
def b4{K:α->β->γ->δ->AA ρ}(q:(bd e λx=>bd (f x) λy=>bd (g x y) λz=>bd (h x y z)<|K x y z)=some r):∃x,e=some x/\∃y,f x=some y/\∃z,g x y=some z/\∃u,h x y z=some u/\K x y z u=some r:=by let⟨x,h1,y,h2,z,h3,q⟩:=b3 q;let⟨u,h4,q⟩:=Ax q;exact⟨x,h1,y,h2,z,h3,u,h4,q⟩
def b5{K:α->β->γ->δ->ε->AA ρ}(q:(bd e λx=>bd (f x) λy=>bd (g x y) λz=>bd (h x y z) λu=>bd (i x y z u)<|K x y z u)=some r):∃x,e=some x/\∃y,f x=some y/\∃z,g x y=some z/\∃u,h x y z=some u/\∃v,i x y z u=some v/\K x y z u v=some r:=by let⟨x,h1,y,h2,z,h3,u,h4,q⟩:=b4 q;let⟨v,h5,q⟩:=Ax q;exact⟨x,h1,y,h2,z,h3,u,h4,v,h5,q⟩
def b6{K:α->β->γ->δ->ε->ζ->AA ρ}(q:(bd e λx=>bd (f x) λy=>bd (g x y) λz=>bd (h x y z) λu=>bd (i x y z u) λv=>bd (j x y z u v)<|K x y z u v)=some r):∃x,e=some x/\∃y,f x=some y/\∃z,g x y=some z/\∃u,h x y z=some u/\∃v,i x y z u=some v/\∃w,j x y z u v=some w/\K x y z u v w=some r:=by let⟨x,h1,y,h2,z,h3,u,h4,v,h5,q⟩:=b5 q;let⟨w,h6,q⟩:=Ax q;exact⟨x,h1,y,h2,z,h3,u,h4,v,h5,w,h6,q⟩
end
section
variable[D:DR]
variable{P:Program}{w0:Aj P}{H0:HV}{N:Nat}{ops:Array Oper}{Γ An Em:Ctx}{l:List Oper}{d:Nat}{op:Op}{ty:TypeId}{pos:String}{af:Array Edge}{K:Ctx->Prop}{Q:Exit->Act->World->Prop}
variable{α β γ δ ε ζ ρ:Type}{r:ρ}{e:Option α}{f:α->Option β}{g:α->β->Option γ}{h:α->β->γ->Option δ}{i:α->β->γ->δ->Option ε}{j:α->β->γ->δ->ε->Option ζ}
variable{P:Program}{w0:Aj P}{H0:HV}{N:Nat}{c:Code}{Q:Exit->Act->World->Prop}{Γ:Ctx}
def AE{e:AA α}{K:α->AA ρ}(q:bd e K=some r)(k:∀x,e=some x->K x=some r->Goal P w0 H0 N c Q Γ):Goal P w0 H0 N c Q Γ:=by let⟨x,h,q⟩:=Ax q;exact k x h q
def BW{b:Bool}{d:α}{e:AA α}{K:α->AA ρ}(q:B1 b d e K=some r)(k:∀x,(b=true->e=some x)->K x=some r->Goal P w0 H0 N c Q Γ):Goal P w0 H0 N c Q Γ:=by let⟨x,h,q⟩:=Lg q;exact k x h q
def gcI{b:Bool}{K:AA ρ}(q:gC b K=some r)(k:b=true->K=some r->Goal P w0 H0 N c Q Γ):Goal P w0 H0 N c Q Γ:=k (WM q).1 (WM q).2
def BP{K:α->β->AA ρ}(q:(bd e λx=>bd (f x)<|K x)=some r)(k:∀x,e=some x->∀y,f x=some y->K x y=some r->Goal P w0 H0 N c Q Γ):Goal P w0 H0 N c Q Γ:=AE q λx h1 q=>AE q λy h2 q=>k x h1 y h2 q
def Cx{K:α->β->γ->AA ρ}(q:(bd e λx=>bd (f x) λy=>bd (g x y)<|K x y)=some r)(k:∀x,e=some x->∀y,f x=some y->∀z,g x y=some z->K x y z=some r->Goal P w0 H0 N c Q Γ):Goal P w0 H0 N c Q Γ:=BP q λx h1 y h2 q=>AE q λz h3 q=>k x h1 y h2 z h3 q
def IY{K:α->β->γ->δ->AA ρ}(q:(bd e λx=>bd (f x) λy=>bd (g x y) λz=>bd (h x y z)<|K x y z)=some r)(k:∀x,e=some x->∀y,f x=some y->∀z,g x y=some z->∀u,h x y z=some u->K x y z u=some r->Goal P w0 H0 N c Q Γ):Goal P w0 H0 N c Q Γ:=Cx q λx h1 y h2 z h3 q=>AE q λu h4 q=>k x h1 y h2 z h3 u h4 q
def L0{K:α->β->γ->δ->ε->AA ρ}(q:(bd e λx=>bd (f x) λy=>bd (g x y) λz=>bd (h x y z) λu=>bd (i x y z u)<|K x y z u)=some r)(k:∀x,e=some x->∀y,f x=some y->∀z,g x y=some z->∀u,h x y z=some u->∀v,i x y z u=some v->K x y z u v=some r->Goal P w0 H0 N c Q Γ):Goal P w0 H0 N c Q Γ:=IY q λx h1 y h2 z h3 u h4 q=>AE q λv h5 q=>k x h1 y h2 z h3 u h4 v h5 q
def Ja{K:α->β->γ->δ->ε->ζ->AA ρ}(q:(bd e λx=>bd (f x) λy=>bd (g x y) λz=>bd (h x y z) λu=>bd (i x y z u) λv=>bd (j x y z u v)<|K x y z u v)=some r)(k:∀x,e=some x->∀y,f x=some y->∀z,g x y=some z->∀u,h x y z=some u->∀v,i x y z u=some v->∀w,j x y z u v=some w->K x y z u v w=some r->Goal P w0 H0 N c Q Γ):Goal P w0 H0 N c Q Γ:=L0 q λx h1 y h2 z h3 u h4 v h5 q=>AE q λw h6 q=>k x h1 y h2 z h3 u h4 v h5 w h6 q
end
section
variable[D:DR]
variable{P:Program}{w0:Aj P}{H0:HV}{N:Nat}{ops:Array Oper}{Γ An Em:Ctx}{l:List Oper}{d:Nat}{op:Op}{ty:TypeId}{pos:String}{af:Array Edge}{K:Ctx->Prop}{Q:Exit->Act->World->Prop}
variable{t:Nat}{x y:Code}{b:Bool}{ρ α:Type}{r:ρ}
def gc{X Y:AA ρ}(hl:look Γ t=some (.val<|Av b))(hm:cond b X Y=some r)(hx:b=true->X=some r->Goal P w0 H0 N x Q Γ)(hy:b=false->Y=some r->Goal P w0 H0 N y Q Γ):Goal P w0 H0 N (.cond (.tmp t) x y) Q Γ:=UQ hl (λh=>hx h<|ap1 hm h) (λh=>hy h<|ap2 hm h)
def gQ{X Y:AA ρ}(hl:look Γ t=some (.val<|Av b))(hm:cond b X Y=some r)(hx:X=some r->Goal P w0 H0 N x Q Γ)(hy:Y=some r->Goal P w0 H0 N y Q Γ):Goal P w0 H0 N (.cond (.tmp t) x y) Q Γ:=gc hl hm (λ_=>hx) λ_=>hy
def cm{JT:α->Ctx}{k:α->AA ρ}{i:α}(hm:k i=some r)(h:KL Γ ((JT i).map (·.1))=some (JT i)):EJ w0 H0 N (λa w=>Mid w0 H0 N JT k r a w) Γ:=arH hm<|N8 h
def gl{σ:Type}(Ai:σ->Ctx){n:Nat}{B:(σ->AA ρ)->σ->AA ρ}{s0:σ}{c:Code}(hm:lp n B s0=some r)(h0:KL Γ ((Ai s0).map (·.1))=some (Ai s0))
  (round:∀(k:σ->AA ρ) (s:σ),B k s=some r->Goal P w0 H0 N c (Exit.then (Mid w0 H0 N Ai k r) Q) (Ai s)):Goal P w0 H0 N (.loop c) Q Γ:=abB Ai hm (N8 h0) round
end
section
variable[D:DR]
variable{P:Program}{w0:Aj P}{H0:HV}{N:Nat}{ops:Array Oper}{Γ An Em:Ctx}{l:List Oper}{d:Nat}{op:Op}{ty:TypeId}{pos:String}{af:Array Edge}{K:Ctx->Prop}{Q:Exit->Act->World->Prop}
variable{f:FuncId}{fn:Func}{t t' T:Nat}{T':TypeId}{τ Gk σ σ':Ty}{Q:Exit->Act->World->Prop}
def AY{c:Code}{args:A3 Ty}{Bk:Res}{N:Nat}(hf:P.funcs[f]? =some fn)(hb:(fn.body,fn.ntmps)=(some c,N))(hc:(Gd P f&&Nat.ble args.length N)=true)
  (h:∀{w0 H0},Goal P (Aj.call P w0) H0 N c (Qo P fn (Aj.call P w0) H0 Bk)<|HZ 0 args):Ef P f args Bk:=by
 rw[C4] at hc;rw[Lp] at hb;exact agx hf hb.1 hb.2 (FT hc.2) hc.1 λ_ _=>h
def r1(h:(((w0.X,w0.Iw,w0.ds,w0.rd),fn.results),look Γ t)=(((KO,false,[],none),[.tmp t].toArray),some<| .val τ)):EJ w0 H0 N (λa w=>Qo P fn w0 H0 (.vs [τ]) .ret a w) Γ:=by simp[Lp] at h;exact CZ (by simp[h]) h.1.2<| .tmp h.2 rfl .nil
def Ab{ρ:Type}{r x:ρ}{F:ρ->Ty}(q:some x=some r)(h:(((w0.X,w0.Iw,w0.ds,w0.rd),fn.results),look Γ t)=(((KO,false,[],none),[.tmp t].toArray),some<| .val<|F x)):EJ w0 H0 N (λa w=>Qo P fn w0 H0 (.vs [F r]) .ret a w) Γ:=by cases q;exact r1 h
def r2(h:(((w0.X,w0.Iw,w0.ds,w0.rd),fn.results),look Γ t,look Γ t')=(((KO,false,[],none),[.tmp t,.tmp t'].toArray),some<| .val τ,some<| .val σ)):EJ w0 H0 N (λa w=>Qo P fn w0 H0 (.vs [τ,σ]) .ret a w) Γ:=by simp[Lp] at h;exact CZ (by simp[h]) h.1.2<| .tmp h.2.1 rfl<| .tmp h.2.2 rfl .nil
def q1(h:(((w0.X,w0.Iw,w0.ds,w0.rd),fn.results),look Γ t)=(((KO,false,[],none),[.cell t T].toArray),some<| .own T' τ))(hT:Bp P T τ.n τ.agg=true):EJ w0 H0 N (λa w=>Qo P fn w0 H0 (.vs [τ]) .ret a w) Γ:=by simp[Lp] at h;exact CZ (by simp[h]) h.1.2<| .cell h.2 (FU hT) rfl .nil
def CT{ρ:Type}{r x:ρ}{F:ρ->Ty}(q:some x=some r)(h:(((w0.X,w0.Iw,w0.ds,w0.rd),fn.results),look Γ t)=(((KO,false,[],none),[.cell t T].toArray),some<| .own T'<|F x))(hT:Bp P T (F x).n (F x).agg=true):EJ w0 H0 N (λa w=>Qo P fn w0 H0 (.vs [F r]) .ret a w) Γ:=by cases q;exact q1 h hT
end
section
variable[D:DR]
variable{P:Program}{w0:Aj P}{H0:HV}{N:Nat}{ops:Array Oper}{Γ An Em:Ctx}{l:List Oper}{d:Nat}{op:Op}{ty:TypeId}{pos:String}{af:Array Edge}{K:Ctx->Prop}{Q:Exit->Act->World->Prop}
variable{t d' k' off:Nat}{T T' T2 KH:TypeId}{σ:Ty}{L:List Ty}{pos':String}{LX:Array Edge}{acc:List Ctx}{R:List (List Nat)->List Bool->List Ctx->Prop}
def ZC{Γ:Ctx}{t:Nat}{s:AQ}:look ((t,s)::Γ) t=some s:=by simp[look]
def pj{Γ:Ctx}{d t:Nat}{s s':AQ}(h:Nat.beq d t=false)(k:look Γ t=some s'):look ((d,s)::Γ) t=some s':=by unfold look;rw[h];exact k
def C2(i:Nat)(h:look Γ t=some (.own T'<|DB L))(hf:GX P T k' off=true)(h1:pick L i off=some σ)(hT:Bp P T2 σ.n σ.agg=true)(r:ck (fr N d (.ptr t off) Γ&&(!Nat.beq d t&&fr N d' (.val σ) ((d,.ptr t off)::Γ))) (CK P w0 N ops l ((d',.val σ)::(d,.ptr t off)::Γ) K)):CK P w0 N ops (⟨some d,.fieldAddr T (.tmp t) k',ty,pos,af,none⟩::⟨some d',.load T2<| .tmp d,KH,pos',LX,none⟩::l) Γ K:=by let⟨hb,hk⟩:=ck_ r;simp[C4,G5] at hb;refine cP (FA h hf) ?_;rw[hb.1];refine cP (FP ZC (pj hb.2.1 h) (qt h1) hT) ?_;rw[hb.2.2];exact hk
def dQ(i:Nat)(h:look (acc.flatten++Γ) t=some (.own T'<|DB L))(hf:GX P T k' off=true)(h1:pick L i off=some σ)(hT:Bp P T2 σ.n σ.agg=true)(r:ck (Nat.blt d N&&(Nat.blt d' N&& !Nat.beq d t)) (PK P N ops Γ ([(d',.val σ)]::[(d,.ptr t off)]::acc) l λn p S=>R ([t]::[d,t]::n) (true::true::p) S)):PK P N ops Γ acc (⟨some d,.fieldAddr T (.tmp t) k',ty,pos,af,none⟩::⟨some d',.load T2<| .tmp d,KH,pos',LX,none⟩::l) R:=by
 let⟨hb,n,p,S,k1,k2⟩:=ck_ r;simp only[C4,G5] at hb;have e:look (([(d,AQ.ptr t off)]::acc).flatten++Γ) d=some (.ptr t off):=by simpa using ZC
 have e':look (([(d,AQ.ptr t off)]::acc).flatten++Γ) t=some (.own T'<|DB L):=by simpa using pj hb.2.2 h
 exact⟨_,_,S,.cons (.cons h .nil) (FA ZC hf) rfl rfl (Ad hb.1)<| .cons (.cons e<| .cons e' .nil) (FP ZC (pj hb.2.2 ZC) (qt h1) hT) rfl rfl (Ad hb.2.1) k1,k2⟩
end
section
variable[D:DR]
variable{P:Program}{w0:Aj P}{H0:HV}{N:Nat}{ops:Array Oper}{Γ An Em:Ctx}{l:List Oper}{d:Nat}{op:Op}{ty:TypeId}{pos:String}{af:Array Edge}{K:Ctx->Prop}{Q:Exit->Act->World->Prop}
variable{ρ:Type}{r:ρ}
def alx{A B:Ctx}{ts us:A3 Nat}(h:ES Γ ts A)(k:ES Γ us B):ES Γ (ts++us) (A++B):=by induction h with|nil=>exact k|cons h _ ih=>exact .cons h ih
def B3{σ:Type}(ks:A3 Nat){Γ0:Ctx}(hk:KL Γ ks=some Γ0)(Ai:σ->Ctx){n:Nat}{B:(σ->AA ρ)->σ->AA ρ}{s0:σ}{c:Code}(hm:lp n B s0=some r)(h0:KL Γ ((Ai s0).map (·.1))=some (Ai s0))
  (round:∀(k:σ->AA ρ) (s:σ),B k s=some r->Goal P w0 H0 N c (Exit.then (Mid w0 H0 N (λs=>Ai s++Γ0) k r) Q) (Ai s++Γ0)):Goal P w0 H0 N (.loop c) Q Γ:=abB (λs=>Ai s++Γ0) hm (alx (N8 h0)<|N8 hk) round
def Cw{α:Type}(ks:A3 Nat){Γ0:Ctx}(hk:KL Γ ks=some Γ0)(JT:α->Ctx){K:α->AA ρ}{E:(α->AA ρ)->AA ρ}{x:Code}(hm:jn K E=some r)
  (h:∀k,E k=some r->Goal P w0 H0 N x (Exit.then (Mid w0 H0 N (λs=>JT s++Γ0) k r) Q) Γ)(kk:∀i,K i=some r->EJ w0 H0 N (Q .normal) (JT i++Γ0)):Goal P w0 H0 N x Q Γ:=SM (λs=>JT s++Γ0) hm h kk
end
section
variable{α:Type}{c:α->α->Option Int}
theorem Ng{α ρ:Type}{e:AA α}{K:α->AA ρ}{r:ρ}(h:bd e K=some r):∃x,e=some x/\K x=some r:=by(simp_all [bd]<;>grind)
def fI:∀{l r:A3 α} {x:α},Nx c x l=some r->r.Perm (x::l)
 |[],r,x,h=>by cases h;exact .refl _
 |y::l,r,x,h=>by
  let⟨k,_,h⟩:=Ng h;cases hb:decide (k<0) with
  |true=>rw[hb] at h;let⟨r',hr,h⟩:=Ng (K:=λr=>some (y::r)) h;cases h;exact((fI hr).cons y).trans<| .swap x y l
  |false=>rw[hb] at h;have h:some (x::y::l)=some r:=h;cases h;exact .refl _
def xc:∀(l:A3 α) (s r:A3 α),JX l (λnext x s=>bd (Nx c x s) next) s (λs=>some s.reverse)=some r->r.Perm (s++l)
 |[],s,r,h=>by have h:some s.reverse=some r:=h;cases h;simpa using s.reverse_perm
 |x::l,s,r,h=>by let⟨s',hs,h⟩:=Ng h;refine(xc l s' r h).trans ?_;refine((fI hs).append_right l).trans ?_;exact List.perm_middle.symm
def vY{l r:A3 α}(h:jF c l=some r):r.Perm l:=by simpa using xc l [] r h
end
section
variable{α:Type}[DecidableEq α]{c:α×α->Option Int}
variable{s:A3 α}
def xm:∀{l:A3 α} {x:α},XB c x l=true->∀y∈l,x=y\/∃i j,c (x,y)=some i/\c (y,x)=some j/\i<0/\0<=j
 |[],_,_,y,hy=>by cases hy
 |z::l,x,h,y,hy=>by
  unfold XB at h;rw[C4] at h;rcases Aq.1 hy with e|hy
  .subst e;cases hd:decide (x=y) with
   |true=>exact .inl<|Ar hd
   |false=>
    rw[hd] at h;refine .inr ?_;have h:=h.1;simp only[As] at h;split at h
    .rename_i i j e1 e2;rw[C4,Hl,Hl] at h;exact⟨i,j,e1,e2,h.1,h.2⟩
    .cases h
  .exact xm h.2 y hy
def nT:∀{s:A3 α},Og c s=true->(∀x∈s,∃i,c (x,x)=some i/\0<=i)/\s.Pairwise λx y=>x=y\/∃i j,c (x,y)=some i/\c (y,x)=some j/\i<0/\0<=j
 |[],_=>⟨λx h=>(by cases h),.nil⟩
 |x::s,h=>by
  unfold Og at h;rw[C4,C4] at h;let⟨h1,h2,h3⟩:=h;let⟨k1,k2⟩:=nT h3;refine⟨λy hy=>?_,.cons (xm h2) k2⟩;rcases Aq.1 hy with e|hy
  .subst e;split at h1
   .rename_i i e;exact⟨i,e,Ar h1⟩
   .cases h1
  .exact k1 y hy
theorem jG{x:α}(h:x∈s):∃hl:s.idxOf x<s.length,s[s.idxOf x]=x:=by grind
def fR(h:Og c s=true){x y:α}(hx:x∈s)(hy:y∈s){v:Int}(hv:c (x,y)=some v):v<0↔s.idxOf x<s.idxOf y:=by
 let⟨k1,k2⟩:=nT h;let⟨lx,ex⟩:=jG hx;let⟨ly,ey⟩:=jG hy;have pw:=Ze.1 k2;rcases Nat.lt_trichotomy (s.idxOf x) (s.idxOf y) with hlt|heq|hgt
 .have:=pw _ _ lx ly hlt;rw[ex,ey] at this;rcases this with e|⟨i,j,e1,e2,h1,h2⟩
  .subst e;omega
  .rw[hv] at e1;cases e1;exact⟨λ_=>hlt,λ_=>h1⟩
 .have:x=y:=by rw[<-ex,<-ey];congr 1
  subst this;let⟨i,e,hi⟩:=k1 x hx;rw[hv] at e;cases e;omega
 .have:=pw _ _ ly lx hgt;rw[ex,ey] at this;rcases this with e|⟨i,j,e1,e2,h1,h2⟩
  .subst e;omega
  .rw[hv] at e2;cases e2;omega
def ag9(h:Og c s=true):s.Pairwise λx y=>s.idxOf x<=s.idxOf y:=by
 let⟨k1,k2⟩:=nT h;refine Ze.2 λi j hi hj KT=>?_
 rcases Ze.1 k2 i j hi hj KT with e|⟨a,b,e1,e2,h1,h2⟩
 .rw[e];exact BK _
 .have:=(fR h (Lv hi) (Lv hj) e1).1 h1;omega
def wy{r:A3 α}(h:Og c s=true)(hp:r.Perm s)(hr:r.Pairwise λx y=>s.idxOf x<=s.idxOf y):r=s:=by
 refine List.Perm.eq_of_pairwise (le:=λx y=>s.idxOf x<=s.idxOf y) ?_ hr (ag9 h) hp;intro a b ha hb h1 h2;let⟨la,ea⟩:=jG<|hp.mem_iff.1 ha
 let⟨lb,eb⟩:=jG hb;have e:s.idxOf a=s.idxOf b:=by omega
 rw[<-ea,<-eb]
 congr 1
def YD{l:A3 α}(h:Ic l c=some s):s.Perm l/\Og c s=true/\(∀x∈l,∀y∈l,∃v,c (x,y)=some v)/\l.length<4611686018427387904:=by
 let⟨s',hs,h⟩:=Ng h;unfold EL at h;cases hb:Nat.blt l.length 4611686018427387904&&(totB c l&&Og c s') with
 |false=>rw[hb] at h;cases h
 |true=>rw[hb] at h;cases h;rw[C4,C4] at hb;refine⟨vY hs,hb.2.2,λx hx y hy=>?_,FT hb.1⟩;have:=Dj.1 hb.2.1 x hx;have:=Dj.1 this y hy;exact Option.isSome_iff_exists.1 this
end
def O{α:Sort _}{a:α}:a=a:=rfl
def AO{α:Type}{f:α->Ty}{sz:Nat}(h:(λz=>(f z).n)=λ_=>sz):∀z,(f z).n=sz:=congrFun h
abbrev TiZ(n:Int):Ty:=TI .i64 n
abbrev AD:=List UInt8
abbrev CV:=AD×AD×AD
abbrev HfZ:=(Int×Int×Int)×List UInt8
abbrev PlZ:=(Rat×Rat×Rat)×Rat
abbrev FcZ:=((Rat×Rat×Rat)×Rat)×List (Rat×Rat×Rat)
abbrev BdZ:=List ((Int×Int×Int)×List UInt8)
abbrev SpZ:=List (((Rat×Rat×Rat)×Rat)×List (Rat×Rat×Rat))
abbrev ShZ:=List ((Int×Int×Int)×List UInt8)×List (List UInt8×List UInt8×List UInt8)×List (List Int)
end Trn
