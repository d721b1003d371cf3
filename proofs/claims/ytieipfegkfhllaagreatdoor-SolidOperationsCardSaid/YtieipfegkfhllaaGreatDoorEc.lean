/-
  Part of the proof of SolidOperations.
-/
import Derived.Test.YtieipfegkfhllaaGreatDoorEb
set_option maxRecDepth 100000
set_option maxHeartbeats 20000000
set_option linter.all false
open Go Go.RowKit Go.Proofs
namespace Trn
section
variable[D:DR]
variable{P:Program}{w0:Aj P}{H0:HV}{N:Nat}{ops:Array Oper}{Q:Exit->Act->World->Prop}{Γ An:Ctx}{d:Option Tmp}{ty:TypeId}{pos:String}{af:Array Edge}{g:Option (Nat×Bool)}
variable{l:A3 Ty}{ps:A3 Bv}{t:Nat}{w:AR}{H:HV}{sz:Nat}{T:Ap}{B:Aj P}{a:Act}{Eb:Ap}{p:Nat}{E:Ap}
theorem Gn.ok(h:Gn l ps):∀{cs:A3 AW},DQ H l cs->J6 B a w H ps cs/\(∀b,¬GF w b ps cs)/\Ny w ps cs:=by
 induction h with
 |nil=>exact λe=>⟨e,λ_ h=>h,trivial⟩
 | @val τ l ps r ih=>
  rintro cs ⟨v,rest,e,hv,hr⟩;subst e;let⟨h1,h2,h3⟩:=ih hr;have hd:=(QQ (p:= .val τ) (rest:=rest)<|τ.shape hv).2;refine⟨⟨v,rest,rfl,τ.shape hv,hv,h1⟩,λb h=>?_,λb h=>h.elim,?_⟩
  ·rcases h with h|h
   ·exact h
   ·grind
  ·rw[hd];exact h3
 | @buf α f x E sz l ps hx r ih=>
  rintro cs ⟨v,rest,e,hv,hr⟩;subst e;subst hx;let⟨h1,h2,h3⟩:=ih hr;have ev:=hv.2 rfl;subst ev;have CT:Shape (Bv.buf E sz []).n (Bv.buf E sz []).agg (.slice none 0 0):=Shape.one rfl;let⟨e1,hd⟩:=QQ (p:= .buf E sz []) (rest:=rest) CT;refine⟨⟨_,rest,rfl,CT,xY,h1⟩,λb h=>?_,λb h=>?_,?_⟩
  ·rcases h with h|h
   ·rw[e1] at h;simp[Bv.owns,Value.ownBlock] at h
   ·grind
  ·grind
  ·rw[hd];exact h3
def aAb:∀H v,(DF l).ok H v->DQ H l v.cells.toList:=λ_ _ ⟨cs,e,h⟩=>by subst e;exact h
def aAa{τ:Ty}:∀H v,τ.ok H v->DQ H [τ] v.cells.toList:=λ_ v h=>⟨v,[],by simp,h,rfl⟩
def DG.pub:DG->Ty
 | .val τ=>τ
 | .buf l=>G6 l
 | .any=>T6 ⟨#[]⟩
def DG.isAny:DG->Bool
 | .any=>true
 |_=>false
def kG(p:Ty×DG):Ty×Ty:=(p.1,p.2.pub)
def aBj{B:Aj P}{w:AR}{H H':HV}{Eb:Ap}{sz:Nat}(hle:HV.le H H'):∀{i:Nat} {l:A3 (Ty×DG)} {es:A3 MapEntry},KQ B w H Eb sz i l es->(∀p∈l,p.2.isAny=false)->(∀b,Hp b l es->H' b=w.heap[b]?)->okM H' i (l.map kG) es
 |_,[],[],_,_,_=>trivial
 |_,[],_::_,h,_,_=>h.elim
 |_,(_,_)::_,[],h,_,_=>h.elim
 |i,(k,e)::l,x::xs,⟨h1,h2,h3,h4⟩,hn,hw=>by
  refine⟨k.mono hle h1,?_,h3,aBj hle h4 (λp hp=>hn p (by simp[hp])) λb hb=>hw b<| .inr hb⟩;cases e with
  |val τ=>exact τ.mono hle h2
  |any=>have:=hn (k,.any) (by simp);cases this
  |buf bl=>exact WY (a:=⟨#[],[]⟩) (B:=B) h2 hle λb hb _ o ho=>by rw[hw b<| .inl hb];exact ho
def aiw{H':HV}{Ea:A3 (Ty×DG)}{v:AW}(hle:HV.le H H')(h:Qx B w H Eb sz Ea v)(hn:∀p∈Ea,p.2.isAny=false)(hw:∀b,PZ w Ea v b->H' b=w.heap[b]?):(kR<|Ea.map kG).ok H' v:=by let⟨r,es,e,hr,_,_,ho,_⟩:=h;subst e;exact⟨r,es,rfl,by rw[hw r<| .inl rfl];exact hr,aBj hle ho hn λb hb=>hw b<| .inr ⟨r,es,rfl,hr,hb⟩⟩
theorem aje{Ai:Ctx}(BE:∀q∈Ai,q∈Γ){ps':A3 Bv}{x:CH}(hp:FQ Ai p t 0)(ht:look Ai t=some (.D8 T true ps))(hx:Arg Ai x (DF l))(hl:Gn l ps')(hn:(ps.map Bv.n).sum=CS l)(hT:Bq P T (CS l) true=true)
 (BF:Sat w0 H0 N Γ a w H){K:Act->AR->Prop}(k:∀w',Sat w0 H0 N ((t,.D8 T true ps')::BI t Γ) a w' H->K a w'):(⟨none,.store T (.tmp p) x,ty,pos,af,none⟩:Oper).wp P a w K Q:=by
 let⟨b,cs,e,ep,hb,hnb,hm,Ax,IT,hx'⟩:=hp.ok ht<|BF.weaken BE
 have hxo:=hx.ok<|BF.weaken BE
 have CT:=(DF l).shape hxo;let⟨ys,ey,hy⟩:=hxo;have hcs:cs.size=CS l:=by have:=aAo Ax;simpa[hn] using this
 have hsz:(a.eval x).cells.size=CS l:=CT.size;have F4:=TC (P:=P) (x:=a.eval x) (off:=0) (Ts hT) hsz hb (by omega) CT.cell;rw[List.take_zero,N2 (by simp[hcs]),KC,Ih,Array.toArray_toList] at F4;rw[ey] at F4;unfold Oper.wp;have er:(execOp a.eval ⟨none,.store T (.tmp p) x,ty,pos,af,none⟩).run P w= .ok .skip (w.setRow b ys):=by simp[execOp,ep,Instr.storeAt,Instr.sureAddr,ey,F4,Value.cells]
 rw[er,Qf];have hg:Ee w (w.setRow b ys) (some b):=Ee.setRow w b _;have Ba:(w.setRow b ys).heap[b]? =some (.cells ys T (0,0)):=U4 w b _ _ _ _ hb;let⟨k1,k2,k3⟩:=hl.ok (B:=w0) (a:=a) (w:=w.setRow b ys) hy;refine k _<|PD BF (BE _<|B6 ht) hg hm ⟨b,e,.inl rfl⟩ ⟨b,ys,e,Ba,hnb,hm,k1,k3,k2 _⟩ ?_
 rintro c ⟨c',e',hc⟩;simp[e] at e';cases e';rcases hc with hc|⟨cs2,hb2,hc⟩
 ·subst hc;exact .inl ⟨c,e,.inl rfl⟩
 ·grind
def am2(ps':A3 Bv){x:CH}(hp:FQ Γ p t 0)(ht:look Γ t=some (.D8 T true ps))(hx:Arg Γ x (DF l))(hl:Gn l ps')(hn:(ps.map Bv.n).sum=CS l)(hT:Bq P T (CS l) true=true):Step P N ops ⟨none,.store T (.tmp p) x,ty,pos,af,none⟩ Γ ((t,.D8 T true ps')::BI t Γ):=by intro w0 H0 a w H hs K Q k;simp[Region.wanted,if_true];exact aje (λ_ h=>h) hp ht hx hl hn hT hs λw' DN=>k a w' H DN
inductive Mg:A3 Bv->A3 Ty->Prop where
 |n:Mg [] []
 |c {τ:Ty} {l:A3 Ty} {ps:A3 Bv} (r:Mg ps l):Mg (.val τ::ps) (τ::l)
def Mg.ok(h:Mg ps l):∀{cs:A3 AW},J6 B a w H ps cs->DQ H l cs:=by
 induction h with
 |n=>exact λe=>e
 |c r ih=>rintro cs ⟨v,rest,e,_,hv,hr⟩;exact⟨v,rest,e,hv,ih hr⟩
def aAl(hp:FQ Γ p t 0)(ht:look Γ t=some (.D8 T true ps))(hl:Mg ps l)(hT:Bq P T (CS l) true=true):Az P Γ ⟨d,.load T<| .tmp p,ty,pos,af,g⟩ (.val<|DF l):=
 Dj λ_ _ _ a w _ hs=>by
  let⟨b,cs,e,ep,hb,_,_,Ax,_⟩:=hp.ok ht hs;have h1:=hl.ok Ax;have h2:cs.size=CS l:=by have:=Mt h1;simpa using this
  have h3:=RQ (off:=0) hT hb (by omega);rw[Pe,Cz (by simp[h2])] at h3;exact⟨.agg cs,by simp[execOp,ep,Instr.loadAt,Instr.sureAddr,h3,Gu],⟨cs,rfl,h1⟩,rfl⟩
open Classical in
theorem ako{w0:Aj P}{i:Nat}{gg:Bool}(ht:look Γ t=some (.D8 T gg ps))(hi:ps[i]? =some (.buf E sz l)):II w0 N Γ ((t,.D8 T gg<|ps.set i<| .val<|G6 l)::BI t Γ):=λH0 a w H hs=>by
 let⟨b,cs,e,hb,hnb,hm,Ax,IT,hx⟩:=hs.holds _<|B6 ht
 simp only at e;let⟨_,h3,h4,_⟩:=Qr Ax hi;have ja:=gX Ax hi
 generalize hv:pv (.buf E sz l) (Bn ps i) cs.toList=v at*
 obtain⟨S,hS⟩:∃S:Nat->Prop,∀c,S c↔v.ownBlock=some c:=⟨_,λ_=>Iff.rfl⟩;have hlt:=(FP.1 hi).1;have hown:∀c,v.ownBlock=some c->GF w c ps cs.toList:=λc hc=>PN.2 ⟨i,_,hi,by rw[hv];exact hc⟩
 let⟨E8,hcs,k1,k2,k3⟩:=Vr (q:= .any 1 false) (x:=v) Ax IT hi h3 rfl h3<|λc hc=>hc.elim
 rw[show E8=cs.toList by rw[hcs];exact ja] at k1 k2 k3;have hle:HV.le H (λr=>if S r then w.heap[r]? else H r):=by
  intro r o ho;by_cases e:S r
  ·rw[(QK Ax<|hown r<|(hS r).1 e).2.2.1] at ho;cases ho
  ·simp[e,ho]
 have no:∀c,GF w c (ps.set i<| .any 1 false) cs.toList->GF w c ps cs.toList/\ ¬S c:=λc hc=>by
  rcases k3 c hc with h|h
  ·exact h.elim
  ·exact⟨h.1,λh'=>h.2 (by rw[hv];exact(hS c).1 h')⟩
 let⟨f1,f2,f3⟩:=gk (w':=w) hle k1 (λc hc=>⟨rfl,by simp[(no c hc).2]⟩);have hi':(ps.set i<| .any 1 false)[i]? =some (.any 1 false):=WQ hlt;have sT:Bn (ps.set i<| .any 1 false) i=Bn ps i:=(q9 (q:= .any 1 false) Ax hi h3 rfl h3).2.1;have Km:(G6 l).ok (λr=>if S r then w.heap[r]? else H r) v:=WY (a:=a) h4 hle (λc hc _ o ho=>by have:S c:=(hS c).2 hc;simp[this,ho]);let⟨cs2,sY,m1,m2,m3⟩:=Vr (q:= .val<|G6 l) (x:=v) f1 (f3 k2) hi' ((G6 l).shape Km) rfl Km<|λc hc=>hc.elim
 rw[show cs2=cs.toList by rw[sY,sT];exact ja,List.set_set] at m1 m2 m3;have nw:∀c,GF w c (ps.set i<| .val<|G6 l) cs.toList->GF w c ps cs.toList:=λc hc=>by
  rcases m3 c hc with h|h
  ·exact h.elim
  ·grind
 have hSb: ¬S b:=λh=>hx<|hown b<|(hS b).1 h
 refine⟨_,vM hs (B6 ht) S (λc hc=>⟨⟨b,e,.inr ⟨cs,hb,hown c<|(hS c).1 hc⟩⟩,(QK Ax<|hown c<|(hS c).1 hc).2.1⟩) ⟨b,cs,e,hb,by simp[hSb,hnb],hm,m1,m2,λhc=>hx<|nw b hc⟩ ?_⟩;rintro c ⟨c',e',hc⟩;rw[e] at e';cases e';refine⟨b,e,?_⟩;rcases hc with hc|⟨cs3,hb3,hc⟩
 ·exact .inl hc
 ·grind
def qU{w0:Aj P}{α:Type}{f:α->Ty}{l:A3 α}{i:Nat}{gg:Bool}(ht:look Γ t=some (.D8 T gg ps))(hi:ps[i]? =some (.buf E sz<|lT f l)):II w0 N Γ ((t,.D8 T gg<|ps.set i<| .val<|TL f l)::BI t Γ):=ako ht hi
def amH{w0:Aj P}{K:Ap}{Ea:A3 (Ty×DG)}{M:A3 (Ty×Ty)}(ht:look Γ t=some (.Gs K E Eb sz Ea))(hn:∀p∈Ea,p.2.isAny=false)(hM:Ea.map kG=M):II w0 N Γ ((t,.val<|kR M)::BI t Γ):=λH0 a w H hs=>by
 subst hM;have Ax:=hs.holds _<|B6 ht
 obtain⟨S,hS⟩:∃S:Nat->Prop,∀c,S c↔PZ w Ea (Ae a t) c:=⟨_,λ_=>Iff.rfl⟩;refine⟨_,eM hs (B6 ht) S (λc hc=>⟨(hS c).1 hc,(S7 Ax<|(hS c).1 hc).2.1⟩) ?_⟩;refine aiw ?_ Ax hn λb hb=>by have:S b:=(hS b).2 hb;simp[this]
 intro r o ho;by_cases e:S r
 ·rw[(S7 Ax<|(hS r).1 e).2.2.1] at ho;cases ho
 ·simp[e,ho]
end
section
variable[D:DR]
variable{P:Program}{w0:Aj P}{H0:HV}{N:Nat}{ops:Array Oper}{Q:Exit->Act->World->Prop}{Γ An:Ctx}{d:Option Tmp}{ty:TypeId}{pos:String}{af:Array Edge}{g:Option (Nat×Bool)}
variable{α β:Type}[DecidableEq α]
def mix(x:α):A3 (α×β)->AA Nat
 |[]=>none
 |p::l=>bif decide (x=p.1) then some 0 else(mix x l).map (· +1)
def XA(l:A3 (α×β))(x:α)(v:β):A3 (α×β):=match mix x l with
 |none=>l++[(x,v)]
 |some j=>l.set j (x,v)
def ow{x:α}:∀{l:A3 (α×β)} {j:Nat},mix x l=some j->∃v,l[j]? =some (x,v)
 |[],_,h=>by simp[mix] at h
 |p::l,j,h=>by
  simp[mix] at h;by_cases e:x=p.1
  ·simp[e] at h;subst h;subst e;exact⟨p.2,rfl⟩
  ·simp[e] at h;obtain⟨k,hk,rfl⟩:=h;let⟨v,hv⟩:=ow hk;exact⟨v,by simpa using hv⟩
end
section
variable[D:DR]
variable{P:Program}{w0:Aj P}{H0:HV}{N:Nat}{ops:Array Oper}{Q:Exit->Act->World->Prop}{Γ An:Ctx}{d:Option Tmp}{ty:TypeId}{pos:String}{af:Array Edge}{g:Option (Nat×Bool)}
variable{B:Aj P}{w:AR}{H:HV}{Eb:Ap}{sz:Nat}
@[reducible] def mM{α β:Type}(fK:α->Ty)(fV:β->DG)(l:A3 (α×β)):A3 (Ty×DG):=l.map λp=>(fK p.1,fV p.2)
def Uj(P:CO)(T K E:Ap):Bool:=match P.underlying T with
 |some (.map k e)=>Nat.beq k K&&Nat.beq e E
 |_=>false
def Yv{T K E:Ap}(h:Uj P T K E=true):P.underlying T=some (.map K E):=by
 unfold Uj at h;split at h
 ·rename_i k e hu;simp only[C6] at h;rw[hu,EA h.1,EA h.2]
 ·cases h
structure SO{α:Type}[DecidableEq α](P:CO)(K:Ap)(f:α->Ty):Prop where
 eq:∀(H:HV) (u v:AW) (x y:α),(f x).ok H u->(f y).ok H v->∀w:AR,(Op.equal K u v).run P w= .ok (decide<|x=y) w
 check:∀(H:HV) (u:AW) (x:α),(f x).ok H u->∀(e:Bool) (w:AR),(Instr.checkKey e 10000 K u).run P w= .ok () w
 kind:∃ud,P.underlying K=some ud/\∀u v,Instr.sameNow ud u v=none
 bits:∀(H:HV) (u v:AW) (x:α),(f x).ok H u->(f x).ok H v->Instr.sameBits 10000 u v=true
def aH{B:Aj P}{w:AR}{H:HV}{Eb:Ap}{sz:Nat}:∀{i:Nat} {l:A3 (Ty×DG)} {es:A3 MapEntry} {j:Nat} {k:Ty} {e:DG},KQ B w H Eb sz i l es->l[j]? =some (k,e)->∃x,es[j]? =some x/\k.ok H x.key/\e.holds B w H Eb sz x.val/\x.born=i+j
 |_,[],_,_,_,_,_,h=>by simp at h
 |_,(_,_)::_,[],_,_,_,h,_=>h.elim
 |i,(k',e')::l,x::xs,0,k,e,⟨h1,h2,h3,h4⟩,h=>by simp at h;obtain⟨rfl,rfl⟩:=h;exact⟨x,rfl,h1,h2,by simpa using h3⟩
 |i,(k',e')::l,x::xs,j+1,k,e,⟨h1,h2,h3,h4⟩,h=>by obtain⟨y,g1,g2,g3,g4⟩:=aH h4 (by simpa using h);exact⟨y,by simpa using g1,g2,g3,by omega⟩
def aBk{B:Aj P}{w:AR}{H:HV}{Eb:Ap}{sz:Nat}:∀{i:Nat} {l:A3 (Ty×DG)} {es:A3 MapEntry},KQ B w H Eb sz i l es->es.length=l.length
 |_,[],[],_=>rfl
 |_,[],_::_,h=>h.elim
 |_,(_,_)::_,[],h=>h.elim
 |_,(_,_)::_,_::_,⟨_,_,_,h⟩=>by simp[aBk h]
def aBg{B:Aj P}{w:AR}{H:HV}{Eb:Ap}{sz:Nat}:∀{i:Nat} {l:A3 (Ty×DG)} {es:A3 MapEntry} {j:Nat} {k:Ty} {e:DG} {x:MapEntry},KQ B w H Eb sz i l es->k.ok H x.key->e.holds B w H Eb sz x.val->x.born=i+j->KQ B w H Eb sz i (l.set j (k,e)) (es.set j x)
 |_,[],[],_,_,_,_,_,_,_,_=>trivial
 |_,[],_::_,_,_,_,_,h,_,_,_=>h.elim
 |_,(_,_)::_,[],_,_,_,_,h,_,_,_=>h.elim
 |i,(k',e')::l,x::xs,0,k,e,y,⟨h1,h2,h3,h4⟩,g1,g2,g3=>⟨g1,g2,g3,h4⟩
 |i,(k',e')::l,x::xs,j+1,k,e,y,⟨h1,h2,h3,h4⟩,g1,g2,g3=>⟨h1,h2,h3,aBg h4 g1 g2 (by omega)⟩
def yh{B:Aj P}{w:AR}{H:HV}{Eb:Ap}{sz:Nat}:∀{i:Nat} {l:A3 (Ty×DG)} {es:A3 MapEntry} {k:Ty} {e:DG} {x:MapEntry},KQ B w H Eb sz i l es->k.ok H x.key->e.holds B w H Eb sz x.val->x.born=i+l.length->KQ B w H Eb sz i (l++[(k,e)]) (es++[x])
 |_,[],[],_,_,_,_,g1,g2,g3=>⟨g1,g2,by simpa using g3,trivial⟩
 |_,[],_::_,_,_,_,h,_,_,_=>h.elim
 |_,(_,_)::_,[],_,_,_,h,_,_,_=>h.elim
 |i,(k',e')::l,x::xs,k,e,y,⟨h1,h2,h3,h4⟩,g1,g2,g3=>⟨h1,h2,h3,yh h4 g1 g2 (by simp at g3;omega)⟩
def PO{b:Nat}:∀{l:A3 (Ty×DG)} {es:A3 MapEntry},Hp b l es↔∃(j:Nat) (k:Ty) (e:DG) (x:MapEntry),l[j]? =some (k,e)/\es[j]? =some x/\e.owns x.val b
 |[],es=>by simp[Hp]
 |(k,e)::l,[]=>by simp[Hp]
 |(k,e)::l,x::xs=>by
  simp only[Hp,PO (l:=l)];constructor
  ·rintro(h|⟨j,k',e',y,h1,h2,h3⟩)
   ·exact⟨0,k,e,x,rfl,rfl,h⟩
   ·exact⟨j+1,k',e',y,by simpa using h1,by simpa using h2,h3⟩
  ·rintro⟨j,k',e',y,h1,h2,h3⟩;cases j with
   |zero=>simp at h1 h2;obtain⟨rfl,rfl⟩:=h1;subst h2;exact .inl h3
   |succ j=>exact .inr ⟨j,k',e',y,by simpa using h1,by simpa using h2,h3⟩
def Yo:∀{l:A3 (Ty×DG)} {es:A3 MapEntry},l.length=es.length->(Ox l es↔∀(i j:Nat) (k k':Ty) (e e':DG) (x y:MapEntry),i<j->l[i]? =some (k,e)->l[j]? =some (k',e')->es[i]? =some x->es[j]? =some y->∀b,e.owns x.val b-> ¬e'.owns y.val b)
 |[],[],_=>by simp[Ox]
 |[],_::_,h=>by simp at h
 |(_,_)::_,[],h=>by simp at h
 |(k,e)::l,x::xs,h=>by
  simp[Ox,Yo (l:=l) (es:=xs) (by simpa using h)];constructor
  ·rintro⟨h1,h2⟩ i j k1 k2 e1 e2 y z KW hi hj hx hy b hb Ba;cases j with
   |zero=>omega
   |succ j=>
    cases i with
    |zero=>simp at hi hx;obtain⟨rfl,rfl⟩:=hi;subst hx;exact h1 b hb (PO.2 ⟨j,k2,e2,z,by simpa using hj,by simpa using hy,Ba⟩)
    |succ i=>exact h2 i j k1 k2 e1 e2 y z (by omega) (by simpa using hi) (by simpa using hj) (by simpa using hx) (by simpa using hy) b hb Ba
  ·intro hh;refine⟨λb hb ho=>?_,λi j k1 k2 e1 e2 y z KW hi hj hx hy b hb Ba=>?_⟩
   ·let⟨j,k',e',y,h1,h2,h3⟩:=PO.1 ho;exact hh 0 (j+1) k k' e e' x y (by omega) rfl (by simpa using h1) rfl (by simpa using h2) b hb h3
   ·exact hh (i+1) (j+1) k1 k2 e1 e2 y z (by omega) (by simpa using hi) (by simpa using hj) (by simpa using hx) (by simpa using hy) b hb Ba
end
section
variable[D:DR]
variable{P:Program}{w0:Aj P}{H0:HV}{N:Nat}{ops:Array Oper}{Q:Exit->Act->World->Prop}{Γ An:Ctx}{d:Option Tmp}{ty:TypeId}{pos:String}{af:Array Edge}{g:Option (Nat×Bool)}
variable{α β:Type}[DecidableEq α]{K:TypeId}{fK:α->Ty}{fV:β->DG}
def uT(hk:SO P K fK){H:HV}{u:AW}{x:α}(hu:(fK x).ok H u){w:AR}:∀{l:A3 (α×β)} {es:A3 MapEntry} (i:Nat),(∀(j:Nat) (p:α×β),l[j]? =some p->∃y,es[j]? =some y/\(fK p.1).ok H y.key)->es.length=l.length->(Instr.findAsking K u es i).run P w= .ok ((mix x l).map λj=>(i+j,((es[j]?).map (·.val)).getD undef)) w
 |[],[],i,_,_=>by simp[Instr.findAsking,mix]
 |[],_::_,_,_,h=>by simp at h
 |_::_,[],_,_,h=>by simp at h
 |p::l,y::es,i,h,hl=>by
  let⟨y',h1,h2⟩:=h 0 p rfl;simp at h1;subst h1;have ih:=uT hk hu (l:=l) (es:=es) (w:=w) (i+1) (λj q hq=>by simpa using h (j+1) q (by simpa using hq)) (by simpa using hl);have he:=hk.eq H u y.key x p.1 hu h2 w;simp[Instr.findAsking,mix,E0,he,Dn];by_cases e:x=p.1
  ·simp[e]
  ·simp[e,decide_false,UE,if_false,Ar,ih];cases hm:mix x l with
   |none=>simp
   |some j=>simp;omega
def run_findKey(hk:SO P K fK){H:HV}{u:AW}{x:α}(hu:(fK x).ok H u){w:AR}{l:A3 (α×β)}{es:A3 MapEntry}(h:∀(j:Nat) (p:α×β),l[j]? =some p->∃y,es[j]? =some y/\(fK p.1).ok H y.key)(hl:es.length=l.length):(Instr.findKey K u es).run P w= .ok ((mix x l).map λj=>(j,((es[j]?).map (·.val)).getD undef)) w:=by
 let⟨ud,hud,FA⟩:=hk.kind;have hf:=uT hk hu (w:=w) 0 h hl;unfold Instr.findKey;simp[E0,Ev hud,Dn];cases es with
 |nil=>
  cases l with
  |nil=>simp[Instr.findNow,mix]
  |cons p l=>simp at hl
 |cons y es=>simp[Instr.findNow,FA];simpa using hf
end
section
variable[D:DR]
variable{P:Program}{w0:Aj P}{H0:HV}{N:Nat}{ops:Array Oper}{Q:Exit->Act->World->Prop}{Γ An:Ctx}{d:Option Tmp}{ty:TypeId}{pos:String}{af:Array Edge}{g:Option (Nat×Bool)}
inductive R3(Γ:Ctx):CH->Nat->Prop where
 |own {t:Nat}:R3 Γ (.tmp t) t
 |same {u t:Nat} (h:look Γ u=some (.same t)):R3 Γ (.tmp u) t
def R3.ok{x:CH}{t:Nat}(h:R3 Γ x t){a:Act}{w:AR}{H:HV}(hs:Sat w0 H0 N Γ a w H):a.eval x=Ae a t:=by
 cases h with
 |own=>rfl
 |same h=>exact hs.holds _<|B6 h
def ahL{T K E Eb:Ap}{sz:Nat}:Az P Γ ⟨d,.makeMap T none,ty,pos,af,g⟩ (.Gs K E Eb sz []):=
 MG λw0 _ _ a w H hs=>by
  refine⟨.map<|some w.heap.size,w.alloc<| .map #[] 0,H,?_,Ext.alloc hs.sub _,?_,?_⟩
  ·simp[execOp,Instr.makeMap,newObj];rfl
  ·refine⟨w.heap.size,#[],rfl,Lv w _,?_,.inl hs.below.size,trivial,trivial⟩;cases hh:H w.heap.size with
   |none=>rfl
   |some o=>have:=HO hs.sub hh;omega
  ·rintro b (h|⟨r,es,e,hr,hb⟩)
   ·cases h;exact BM _
   ·simp[Hp] at hb
end
section
variable[D:DR]
variable{P:Program}{w0:Aj P}{H0:HV}{N:Nat}{ops:Array Oper}{Q:Exit->Act->World->Prop}{Γ An:Ctx}{d:Option Tmp}{ty:TypeId}{pos:String}{af:Array Edge}{g:Option (Nat×Bool)}
variable{α β:Type}[DecidableEq α]{K E Eb T:TypeId}{sz:Nat}{fK:α->Ty}
def aaE{B:Aj P}{w:AR}{H:HV}{fV:β->DG}{l:A3 (α×β)}{es:A3 MapEntry}(h:KQ B w H Eb sz 0 (mM fK fV l) es):(∀(j:Nat) (p:α×β),l[j]? =some p->∃y,es[j]? =some y/\(fK p.1).ok H y.key)/\es.length=l.length:=
 ⟨λj p hp=>by let⟨y,h1,h2,_⟩:=aH h (j:=j) (k:=fK p.1) (e:=fV p.2) (by simp[hp]);exact⟨y,h1,h2⟩,by simpa using aBk h⟩
def run_getObj_map{w:AR}{r:Nat}{es:BA MapEntry}{c:Nat}(h:w.heap[r]? =some (.map es c)):(getObj r).run P w= .ok (.map es c) w:=by simp[getObj,Sem.run,h]
end
section
variable[D:DR]
variable{P:Program}{w0:Aj P}{H0:HV}{N:Nat}{ops:Array Oper}{Q:Exit->Act->World->Prop}{Γ An:Ctx}{d:Option Tmp}{ty:TypeId}{pos:String}{af:Array Edge}{g:Option (Nat×Bool)}
variable{w:AR}{c:Nat}{es:BA MapEntry}{B:Aj P}{H:HV}{sz:Nat}
def wM{r:Nat}{o:Obj}(h:w.heap[r]? =some (.map es c)):(setObj r o).run P w= .ok () (w.putObj r o):=by simp[setObj,Sem.run,h];rfl
def agO{E:Ap}{l:A3 Ty}{v:AW}(h:Kf B w H E sz l v){b:Nat}(hb:v.ownBlock=some b):w.heap[b]? ≠some (.map es c):=by
 let⟨xs,⟨_,hr⟩,_,_⟩:=h;rcases hr with⟨e,_⟩|⟨g,cap,cur,e,_,hc,_⟩
 ·subst e;simp[Value.ownBlock] at hb
 ·subst e;simp[Value.ownBlock] at hb;subst hb;rw[hc];intro e;cases e
def afT{Eb:Ap}{l:A3 (Ty×DG)}{es:A3 MapEntry}(h:KQ B w H Eb sz 0 l es){b:Nat}(hb:Hp b l es){I7:BA MapEntry}:w.heap[b]? ≠some (.map I7 c):=by
 let⟨j,k,e,x,h1,h2,h3⟩:=PO.1 hb;let⟨y,g1,_,g3,_⟩:=aH h h1;rw[h2] at g1;cases g1;cases e with
 |val τ=>exact h3.elim
 |any=>exact h3.elim
 |buf bl=>exact agO g3 h3
def amh{Eb:Ap}{r:Nat}{I7:BA MapEntry}{l':A3 (Ty×DG)}(hr:w.heap[r]? =some (.map es c))(hn:H r=none)(hm:B.ED r)(ho:KQ B w H Eb sz 0 l' I7.toList)(hs:Ox l' I7.toList):Qx B (w.putObj r<| .map I7 I7.size) H Eb sz l' (.map<|some r)/\∀b,PZ (w.putObj r<| .map I7 I7.size) l' (.map<|some r) b↔b=r\/Hp b l' I7.toList:=by
 have Kw:(w.putObj r<| .map I7 I7.size).heap[r]? =some (.map I7 I7.size):=qR<|lt_of_heap hr
 refine⟨⟨r,I7,rfl,Kw,hn,hm,qB (HV.le.refl H) ho<|λb hb=>⟨Zi<|λe=>?_,rfl⟩,hs⟩,λb=>?_⟩
 ·subst e;exact afT ho hb hr
 ·constructor
  ·rintro(h|⟨r1,es1,e1,h1,h2⟩)
   ·cases h;exact .inl rfl
   ·cases e1;rw[Kw] at h1;cases h1;exact .inr h2
  ·rintro(h|h)
   ·subst h;exact .inl rfl
   ·exact .inr ⟨r,I7,rfl,Kw,h⟩
end
section
variable[D:DR]
variable{P:Program}{w0:Aj P}{H0:HV}{N:Nat}{ops:Array Oper}{Q:Exit->Act->World->Prop}{Γ An:Ctx}{d:Option Tmp}{ty:TypeId}{pos:String}{af:Array Edge}{g:Option (Nat×Bool)}
variable{α β:Type}[DecidableEq α]{K E Eb T:TypeId}{sz:Nat}{fK:α->Ty}{fV:β->DG}
def yP{l:A3 (Ty×DG)}{es:A3 MapEntry}{j:Nat}{k k0:Ty}{e e0:DG}{x x0:MapEntry}(hlen:l.length=es.length)(hl:l[j]? =some (k0,e0))(hx:es[j]? =some x0)(h:Ox l es)(hn:∀b,e.owns x.val b->e0.owns x0.val b\/ ¬Hp b l es):Ox (l.set j (k,e)) (es.set j x)/\∀b,Hp b (l.set j (k,e)) (es.set j x)->e.owns x.val b\/(Hp b l es/\ ¬e0.owns x0.val b):=by
 have hj:=(FP.1 hl).1;have hj':j<es.length:=hlen▸hj;have hs:=(Yo hlen).1 h;have at':∀i k' e' y,(l.set j (k,e))[i]? =some (k',e')->(es.set j x)[i]? =some y->(i=j/\k'=k/\e'=e/\y=x)\/(i≠j/\l[i]? =some (k',e')/\es[i]? =some y):=λi k' e' y h1 h2=>by
  by_cases ei:i=j
  ·subst ei;rw[WQ hj] at h1;rw[WQ hj'] at h2;cases h1;cases h2;exact .inl ⟨rfl,rfl,rfl,rfl⟩
  ·rw[qN<|Ne.symm ei] at h1 h2;exact .inr ⟨ei,h1,h2⟩
 have one:∀i k' e' y,i≠j->l[i]? =some (k',e')->es[i]? =some y->∀b,e'.owns y.val b-> ¬e.owns x.val b/\ ¬e0.owns x0.val b:=λi k' e' y hi h1 h2 b hb=>by
  have k2: ¬e0.owns x0.val b:=λh0=>by
   rcases Nat.lt_or_gt_of_ne hi with hlt|hlt
   ·exact hs i j k' k0 e' e0 y x0 hlt h1 hl h2 hx b hb h0
   ·exact hs j i k0 k' e0 e' x0 y hlt hl h1 hx h2 b h0 hb
  refine⟨λh3=>?_,k2⟩;rcases hn b h3 with h4|h4
  ·exact k2 h4
  ·exact h4<|PO.2 ⟨i,k',e',y,h1,h2,hb⟩
 refine⟨(Yo (by simpa using hlen)).2 ?_,λb hb=>?_⟩
 ·intro i i' k1 k2 e1 e2 y z KW hi hi' hy hz b hb Ba;rcases at' i k1 e1 y hi hy with⟨rfl,rfl,rfl,rfl⟩|⟨n1,g1,g2⟩<;>rcases at' i' k2 e2 z hi' hz with⟨rfl,rfl,rfl,rfl⟩|⟨n2,g3,g4⟩
  ·omega
  ·exact(one i' k2 e2 z n2 g3 g4 b Ba).1 hb
  ·exact(one i k1 e1 y n1 g1 g2 b hb).1 Ba
  ·exact hs i i' k1 k2 e1 e2 y z KW g1 g3 g2 g4 b hb Ba
 ·let⟨i,k1,e1,y,h1,h2,h3⟩:=PO.1 hb;rcases at' i k1 e1 y h1 h2 with⟨rfl,rfl,rfl,rfl⟩|⟨n1,g1,g2⟩
  ·exact .inl h3
  ·exact .inr ⟨PO.2 ⟨i,k1,e1,y,g1,g2,h3⟩,(one i k1 e1 y n1 g1 g2 b h3).2⟩
def xV{l:A3 (Ty×DG)}{es:A3 MapEntry}{k:Ty}{e:DG}{x:MapEntry}(hlen:l.length=es.length)(h:Ox l es)(hn:∀b,¬e.owns x.val b):Ox (l++[(k,e)]) (es++[x])/\∀b,Hp b (l++[(k,e)]) (es++[x])->Hp b l es:=by
 have at':∀(i:Nat) (k':Ty) (e':DG) (y:MapEntry) (b:Nat),(l++[(k,e)])[i]? =some (k',e')->(es++[x])[i]? =some y->e'.owns y.val b->l[i]? =some (k',e')/\es[i]? =some y:=λi k' e' y b h1 h2 h3=>by
  by_cases hi:i<l.length
  ·rw[MX hi] at h1;rw[MX<|hlen▸hi] at h2;exact⟨h1,h2⟩
  ·have:i=l.length:=by have:=(FP.1 h1).1;simp at this;omega
   subst this;rw[N4<|BM _] at h1;rw[N4 (by omega)] at h2;simp[hlen] at h1 h2;obtain⟨rfl,rfl⟩:=h1;subst h2;exact absurd h3<|hn b
 refine⟨(Yo (by simp[hlen])).2 λi j k1 k2 e1 e2 y z KW hi hj hy hz b hb Ba=>?_,λb hb=>?_⟩
 ·let⟨g1,g2⟩:=at' i k1 e1 y b hi hy hb;let⟨g3,g4⟩:=at' j k2 e2 z b hj hz Ba;exact(Yo hlen).1 h i j k1 k2 e1 e2 y z KW g1 g3 g2 g4 b hb Ba
 ·let⟨i,k1,e1,y,h1,h2,h3⟩:=PO.1 hb;let⟨g1,g2⟩:=at' i k1 e1 y b h1 h2 h3;exact PO.2 ⟨i,k1,e1,y,g1,g2,h3⟩
def run_keyThatStays(hk:SO P K fK){H:HV}{u v:AW}{x:α}(hu:(fK x).ok H u)(hv:(fK x).ok H v)(w:AR):(Instr.keyThatStays u v).run P w= .ok v w:=by simp[Instr.keyThatStays,hk.bits H u v x hu hv]
def afW{γ:Type}(es:BA γ)(j:Nat)(f:γ->γ):(es.modify j f).toList=es.toList.modify j f:=by simp
def xn{γ:Type}:∀{l:A3 γ} {j:Nat} {f:γ->γ} {x:γ},l[j]? =some x->l.modify j f=l.set j (f x)
 |[],_,_,_,h=>by simp at h
 |y::l,0,f,x,h=>by simp at h;subst h;rfl
 |y::l,j+1,f,x,h=>by have:=xn (l:=l) (j:=j) (f:=f) (x:=x) (by simpa using h);simpa using this
def afn{F:β->Ty}{m k v:CH}{t:Nat}{l:A3 (α×β)}{x:α}{y:β}{Ai:Ctx}(BE:∀q∈Ai,q∈Γ)(hT:Uj P T K E=true)(hk:SO P K fK)(hm:R3 Ai m t)(ht:look Ai t=some (.Gs K E Eb sz<|mM fK (λv=> .val<|F v) l))(hx:Arg Ai k (fK x))(hy:Arg Ai v (F y)):Step P N ops ⟨none,.mapUpdate T m k v,ty,pos,af,none⟩ Γ ((t,.Gs K E Eb sz<|mM fK (λv=> .val<|F v)<|XA l x y)::BI t Γ):=by
 intro w0 H0 a w H hs K' Q kk;simp[Region.wanted,if_true];let⟨r,es,e,hr,hn,hmi,ho,IT⟩:=hs.holds _<|BE _<|B6 ht
 simp only at e;have hsi:=hs.weaken BE;have em:a.eval m= .map (some r):=by rw[hm.ok hsi];exact e
 have I2:=hx.ok hsi;have hyv:=hy.ok hsi;let⟨k1,k2⟩:=aaE ho;have hf:=run_findKey hk I2 (w:=w) k1 k2;have hc:=hk.check H _ x I2 false w;have hlen:(mM fK (λv=>DG.val<|F v) l).length=es.toList.length:=by simp[k2,mM]
 have hown:∀b,¬Hp b (mM fK (λv=>DG.val<|F v) l) es.toList:=λb h=>by let⟨j,k',e',z,h1,_,h3⟩:=PO.1 h;simp only[mM,H9,Option.map_eq_some_iff] at h1;let⟨p,_,h1⟩:=h1;cases h1;exact h3
 have fin:∀(I7:BA MapEntry) (l':A3 (Ty×DG)),l'=mM fK (λv=>DG.val<|F v) (XA l x y)->KQ w0 w H Eb sz 0 l' I7.toList->Ox l' I7.toList->(∀b,¬Hp b l' I7.toList)->K' (a.put none undef) (w.putObj r<| .map I7 I7.size):=λI7 l' el h1 h2 h3=>by
  subst el;let⟨g1,g2⟩:=amh hr hn hmi h1 h2;refine kk a _ H (PD hs (BE _<|B6 ht) (Ee.putObj w r _) hmi (by simp[e];exact .inl rfl) (by simp[e];exact g1) λc hc=> .inl ?_);simp[e] at hc⊢;rcases(g2 c).1 hc with h|h
  ·subst h;exact .inl rfl
  ·exact absurd h<|h3 c
 unfold Oper.wp;cases hmx:mix x l with
 |none=>
  rw[hmx] at hf;have er:(execOp a.eval ⟨none,.mapUpdate T m k v,ty,pos,af,none⟩).run P w= .ok .skip (w.putObj r<| .map (es.push {key:=a.eval k,val:=a.eval v,born:=es.size})<|es.size+1):=by simp[execOp,em,Instr.mapUpdate,Ev<|Yv hT,run_getObj_map hr,hc,hf,wM hr]
  rw[er,Qf];have:=fin (es.push {key:=a.eval k,val:=a.eval v,born:=es.size}) (mM fK (λv=>DG.val<|F v) l++[(fK x,.val<|F y)]) (by simp[mM,XA,hmx])
   (by simpa using yh (k:=fK x) (e:= .val<|F y) (x:={key:=a.eval k,val:=a.eval v,born:=es.size}) ho I2 hyv (by simp[<-k2]))
   (by simpa using(xV (k:=fK x) (e:= .val<|F y) hlen IT<|λ_ h=>h).1)
   (λb hb=>hown b ((xV (k:=fK x) (e:= .val<|F y) (x:={key:=a.eval k,val:=a.eval v,born:=es.size}) hlen IT<|λ_ h=>h).2 b (by simpa using hb)))
  simpa using this
 |some j=>
  rw[hmx] at hf;let⟨v0,I3⟩:=ow hmx;let⟨z,h1,h2,h3,h4⟩:=aH ho (j:=j) (k:=fK x) (e:= .val<|F v0) (by simp[I3]);have h1':es[j]? =some z:=by simpa using h1
  have Et:=run_keyThatStays hk h2 I2 w;have er:(execOp a.eval ⟨none,.mapUpdate T m k v,ty,pos,af,none⟩).run P w= .ok .skip (w.putObj r<| .map (es.modify j λe=>{e with key:=a.eval k,val:=a.eval v}) es.size):=by simp[execOp,em,Instr.mapUpdate,Ev<|Yv hT,run_getObj_map hr,hc,hf,wM hr,h1',Et]
  rw[er,Qf];have hml:(es.modify j λe=>{e with key:=a.eval k,val:=a.eval v}).toList=es.toList.set j {z with key:=a.eval k,val:=a.eval v}:=by rw[afW,xn h1]
  have hl0:(mM fK (λv=>DG.val<|F v) l)[j]? =some (fK x,.val<|F v0):=by simp[I3]
  have:=fin (es.modify j λe=>{e with key:=a.eval k,val:=a.eval v}) ((mM fK (λv=>DG.val<|F v) l).set j (fK x,.val<|F y)) (by simp[mM,XA,hmx,U7])
   (by rw[hml];exact aBg (k:=fK x) (e:= .val<|F y) (x:={z with key:=a.eval k,val:=a.eval v}) ho I2 hyv (by simpa using h4))
   (by rw[hml];exact(yP (k:=fK x) (e:= .val<|F y) hlen hl0 h1 IT<|λ_ h=>h.elim).1)
   (λb hb=>by
    rw[hml] at hb;rcases(yP (k:=fK x) (e:= .val<|F y) hlen hl0 h1 IT<|λ_ h=>h.elim).2 b hb with h|h
    ·exact h
    ·exact hown b h.1)
  simpa using this
end
section
variable[D:DR]
variable{P:Program}{w0:Aj P}{H0:HV}{N:Nat}{ops:Array Oper}{Q:Exit->Act->World->Prop}{Γ An:Ctx}{d:Option Tmp}{ty:TypeId}{pos:String}{af:Array Edge}{g:Option (Nat×Bool)}
variable{H:HV}{w:AR}{L:A3 (Ty×Ty)}{α:Type}{t r m it:Nat}{seen:A3 Nat}{s s':AQ}
def uU{n:Nat}(hn:0<n)(w:AR):∃(i:Nat) (k:Nat),w.drawn<=k/\i<n/\(choose<| .mapNext n).run P w= .ok i {w with drawn:=k}:=by
 by_cases h:n<=1
 ·refine⟨0,w.drawn,BM _,hn,?_⟩;simp[choose,Sem.run,Question.forced,h]
 ·refine⟨w.tape w.drawn (.mapNext n)%n,w.drawn+1,Qb _,OS _ hn,?_⟩;simp[choose,Sem.run,Question.forced,h,Question.cut]
def akV{T:Ap}{K E:Ap}{m:CH}(hT:Uj P T K E=true)(hm:Arg Γ m (kR L)):Az P Γ ⟨d,.range T m,ty,pos,af,g⟩ (.JQ L []):=
 MG λw0 _ _ a w H hs=>by
  let⟨r,es,e,hr,ho⟩:=hm.ok hs;have Kw:=hs.sub _ _ hr;refine⟨.pointer<|some ⟨w.heap.size,0,none⟩,w.alloc<| .mapIter (some r) es.size #[] es.size,H,?_,Ext.alloc hs.sub _,?_,?_⟩
  ·simp[execOp,Instr.range,e,Ev<|Yv hT,run_getObj_map Kw,newObj];rfl
  ·refine⟨w.heap.size,r,es,#[],rfl,Lv w _,?_,.inl hs.below.size,hr,ho,rfl⟩;cases hh:H w.heap.size with
   |none=>rfl
   |some o=>have:=HO hs.sub hh;omega
  ·rintro b ⟨ad,e,hb⟩;cases e;simp at hb;omega
def qA{H:HV}:∀{i:Nat} {l:A3 (Ty×Ty)} {es:A3 MapEntry},okM H i l es->es.length=l.length
 |_,[],[],_=>rfl
 |_,[],_::_,h=>h.elim
 |_,(_,_)::_,[],h=>h.elim
 |_,(_,_)::_,_::_,⟨_,_,_,h⟩=>by simp[qA h]
def jE{H:HV}:∀{i:Nat} {l:A3 (Ty×Ty)} {es:A3 MapEntry} {j:Nat} {x:MapEntry},okM H i l es->es[j]? =some x->∃k e,l[j]? =some (k,e)/\k.ok H x.key/\e.ok H x.val/\x.born=i+j
 |_,[],[],_,_,_,h=>by simp at h
 |_,[],_::_,_,_,h,_=>h.elim
 |_,(_,_)::_,[],_,_,h,_=>h.elim
 |i,(k,e)::l,x::xs,0,y,⟨h1,h2,h3,h4⟩,h=>by simp at h;subst h;exact⟨k,e,rfl,h1,h2,by simpa using h3⟩
 |i,(k,e)::l,x::xs,j+1,y,⟨h1,h2,h3,h4⟩,h=>by obtain⟨k',e',g1,g2,g3,g4⟩:=jE h4 (by simpa using h);exact⟨k',e',by simpa using g1,g2,g3,by omega⟩
def uE{since last:Nat}{seen:BA Nat}(h:w.heap[r]? =some (.mapIter (some m) since seen last)):(getObj r).run P w= .ok (.mapIter (some m) since seen last) w:=by simp[getObj,Sem.run,h]
def aeD{o:Obj}{since last:Nat}{seen:BA Nat}(h:w.heap[r]? =some (.mapIter (some m) since seen last)):(setObj r o).run P w= .ok () (w.putObj r o):=by simp[setObj,Sem.run,h];rfl
theorem akc{es:BA MapEntry}{sn:BA Nat}{ty:Ap}(hr:w.heap[r]? =some (.mapIter (some m) es.size sn es.size))(hm:w.heap[m]? =some (.map es es.size))(ho:okM H 0 L es.toList):((∀j,j<L.length->j∈sn.toList)/\∃k,w.drawn<=k/\(Instr.next (.pointer<|some ⟨r,0,none⟩) false ty).run P w= .ok (.tuple #[.bool false]) {w with drawn:=k})\/
  ∃j x k,j<L.length/\j∉sn.toList/\es[j]? =some x/\w.drawn<=k/\(Instr.next (.pointer<|some ⟨r,0,none⟩) false ty).run P w= .ok (.tuple #[.bool true,x.key,x.val]) (World.putObj {w with drawn:=k} r<| .mapIter (some m) es.size (sn.push j) es.size):=by
 have hlen:=qA ho;have Wv:∀(j:Nat) (x:MapEntry),es[j]? =some x->x.born=j:=λj x hx=>by let⟨_,_,_,_,_,h⟩:=jE ho (j:=j) (x:=x) (by simpa using hx);simpa using h
 have hbl:∀e∈es,e.born<es.size:=λe he=>by let⟨j,hj,e1⟩:=Array.getElem_of_mem he;have:=Wv j e (by simp[hj,e1]);omega
 have ac0:(!sn.isEmpty&& !es.isEmpty&&es.all (·.born>=es.size))=false:=by
  cases hes:es.isEmpty
  ·simp only[Bool.not_false,iC];have hpos:0<es.size:=by grind
   have:es.all (·.born>=es.size)=false:=by grind
   simp[this]
  ·simp
 generalize je:es.filter (λe=> !sn.contains e.born)=left
 have hlm:∀e∈left,e∈es/\sn.contains e.born=false:=λe he=>by rw[<-je] at he;simpa using Array.mem_filter.1 he
 have hold:left.filter (·.born<es.size)=left:=by rw[Array.filter_eq_self];exact λe he=>by simpa using hbl e (hlm e he).1
 have O5:left.filter (·.born>=es.size)= #[]:=by rw[Array.filter_eq_empty_iff];intro e he;have:=hbl e (hlm e he).1;simp;omega
 have ke:=uE (P:=P) hr;have hg2:=run_getObj_map (P:=P) hm;by_cases aci:left= #[]
 ·left;refine⟨λj hj=>?_,?_⟩
  ·have hj':j<es.size:=by rw[<-hlen] at hj;simpa using hj
   have hb:=Wv j es[j] (by simp[hj']);apply Cr;intro hn;have:es[j]∈left:=by grind
   rw[aci] at this;simp at this
  ·let⟨i,k,hk,hi,hc⟩:=uU (P:=P) (n:=1) (by omega) w;have:i=0:=by omega
   subst this;refine⟨k,hk,?_⟩;unfold Instr.next
   simp only[E0,ke,Dn,hg2,ac0,UE,if_false,je,hold,O5];rw[aci];simp only[Array.isEmpty_empty,if_true,Array.append_empty,Array.map_empty,iN,E7,ZS,Pc,hc,Dn]
   rfl
 ·right;have hpos:0<left.size:=by grind
  let⟨i,k,hk,hi,hc⟩:=uU (P:=P) (n:=left.size) hpos w;have IN:=hlm left[i] (by simp);let⟨j,hj,e1⟩:=Array.getElem_of_mem IN.1;have hb:=Wv j left[i] (by simp[hj,e1]);have Kw:World.heap {w with drawn:=k}=w.heap:=rfl;refine⟨j,left[i],k,by rw[<-hlen];simpa using hj,?_,by simp[hj,e1],hk,?_⟩
  ·grind
  ·have hne:left.isEmpty=false:=by
    cases h:left.isEmpty
    ·rfl
    ·grind
   have Mf:=aeD (P:=P) (w:={w with drawn:=k}) (o:= .mapIter (some m) es.size (sn.push left[i].born) es.size) hr;rw[hb] at Mf;unfold Instr.next
   simp only[E0,ke,Dn,hg2,ac0,UE,if_false,je,hold,O5,hne,Array.append_empty,Array.empty_append,Array.size_map,hc,Dn];have:(Array.map some left)[i]? =some (some left[i]):=by simp[hi]
   simp only[this,hb,E0,Mf,Dn]
   rfl
def aov{dn de id:Nat}{ts:A3 Nat}{Ge:Ctx}{ty KL:Ap}{pos pos':String}{af LZ:BA Edge}(hit:look Γ it=some (.JQ L seen))(Kn:ES Γ ts Ge)
 (hN:(Nat.blt dn N&&Nat.blt de N&&(dn !=it)&&(de !=it)&&(de !=dn))=true)(hf:(Ge.all λp=>p.1 !=it&&p.1 !=dn&&p.1 !=de&&p.2.CA.all (λt=>t !=dn&&t !=de&&t !=it))=true)
 (kt:∀j,j<L.length->j∉seen->EJ w0 H0 N (Q .normal) ((de,.val<|Aw true)::(it,.JQ L<|seen++[j])::Ge))(kf:(∀j,j<L.length->j∈seen)->EJ w0 H0 N (Q .normal) ((de,.val<|Aw false)::Ge)):Goal P w0 H0 N (.region id #[⟨some dn,.next (.tmp it) false,ty,pos,af,none⟩,⟨some de,.extract (.tmp dn) 0,KL,pos',LZ,none⟩] false) Q Γ:=by
 intro a w H hs;simp only[C6,MM,ne_eq] at hN;let⟨⟨⟨⟨h1,h2⟩,h3⟩,h4⟩,h5⟩:=hN;have hdn:=Ac h1;have hde:=Ac h2;let⟨r,m,es,sn,e,hr,hn,hmi,hm,ho,hsn⟩:=hs.holds _<|B6 hit
 simp only at e;have fr:∀q∈Ge,q∈Γ/\q.1≠it/\q.1≠dn/\q.1≠de/\dn∉q.2.CA/\de∉q.2.CA/\it∉q.2.CA:=λq hq=>by have:=Dk.1 hf q hq;simp[C6,MM,ne_eq,Dk] at this;let⟨⟨⟨k1,k2⟩,k3⟩,k4⟩:=this;exact⟨Kn.sub q hq,k1,k2,k3,λh=>(k4 _ h).1.1 rfl,λh=>(k4 _ h).1.2 rfl,λh=>(k4 _ h).2 rfl⟩
 have ei:a.eval (.tmp it)= .pointer (some ⟨r,0,none⟩):=e;refine wpIn_region_lit ?_;have fin:∀(vs:A3 AW) (b:Bool) (w':AR) (G:Ctx),(∀q∈G,q.1≠dn/\q.1≠de/\dn∉q.2.CA/\de∉q.2.CA)->Sat w0 H0 N G a w' H->vs.head?=some (.bool b)->EJ w0 H0 N (Q .normal) ((de,.val<|Aw b)::G)->wpListIn (Fh w0.rd) 0 P #[⟨some dn,.next (.tmp it) false,ty,pos,af,none⟩,⟨some de,.extract (.tmp dn) 0,KL,pos',LZ,none⟩] Q [⟨some de,.extract (.tmp dn) 0,KL,pos',LZ,none⟩] (a.put (some dn)<| .tuple vs.toArray) w':=by
  intro vs b w' G hG hS hv kk;unfold wpListIn;have hw:Region.wanted (⟨some de,.extract (.tmp dn) 0,KL,pos',LZ,none⟩:Oper) (yielded #[⟨some dn,.next (.tmp it) false,ty,pos,af,none⟩,⟨some de,.extract (.tmp dn) 0,KL,pos',LZ,none⟩] (a.put (some dn)<| .tuple vs.toArray).tmps)=true:=rfl;rw[if_pos hw];refine Z9 (λc e=>by cases e) ?_;unfold Oper.wp;have ed:(a.put (some dn)<| .tuple vs.toArray).eval (.tmp dn)= .tuple vs.toArray:=VY (by rw[hs.sz];exact hdn);have Jd:vs[0]? =some (.bool b):=by rw[<-List.head?_eq_getElem?];exact hv
  have er:(execOp (a.put (some dn)<| .tuple vs.toArray).eval ⟨some de,.extract (.tmp dn) 0,KL,pos',LZ,none⟩).run P w'= .ok (.value<| .bool b) w':=by simp[execOp,ed,Instr.extract,Jd]
  rw[er,OV];unfold wpListIn;have KT:=QO (s:= .gone) (v:= .tuple vs.toArray) hS hdn (by simp only[Jp,Dk,C6,MM,ne_eq];exact λq hq=>⟨(hG q hq).1,by simpa using(hG q hq).2.2.1⟩) (by simp[AQ.CA]) trivial<|λb h=>h.elim
  have hs3:=QO (s:= .val<|Aw b) (v:= .bool b) (KT.weaken (An:=G) λq hq=>C2 _ hq) hde (by simp only[Jp,Dk,C6,MM,ne_eq];exact λq hq=>⟨(hG q hq).2.1,by simpa using(hG q hq).2.2.2⟩) (by simp[AQ.CA]) rfl<|λb h=>h.elim
  exact kk _ w' H hs3
 unfold wpListIn;have hw:Region.wanted (⟨some dn,.next (.tmp it) false,ty,pos,af,none⟩:Oper) (yielded #[⟨some dn,.next (.tmp it) false,ty,pos,af,none⟩,⟨some de,.extract (.tmp dn) 0,KL,pos',LZ,none⟩] a.tmps)=true:=rfl;rw[if_pos hw];refine Z9 (λc e=>by cases e) ?_;unfold Oper.wp;rcases akc (P:=P) (ty:=ty) hr (hs.sub _ _ hm) ho with⟨hall,k,hk,F4⟩|⟨j,x,k,hj,hjn,hx,hk,F4⟩
 ·have er:(execOp a.eval ⟨some dn,.next (.tmp it) false,ty,pos,af,none⟩).run P w= .ok (.value<| .tuple #[.bool false]) {w with drawn:=k}:=by simp only[execOp,ei,E0,F4,Dn];rfl
  rw[er,OV];have he:Ext w H {w with drawn:=k} H:=⟨⟨⟨rfl,rfl,rfl,BM _,λ_ _=>rfl⟩,H5.of hk⟩,HV.le.refl _,λ_ _=>rfl,hs.sub⟩;exact fin [.bool false] false _ Ge (λq hq=>⟨(fr q hq).2.2.1,(fr q hq).2.2.2.1,(fr q hq).2.2.2.2.1,(fr q hq).2.2.2.2.2.1⟩) (fY (hs.weaken Kn.sub) he) rfl (kf (by rw[<-hsn];exact hall))
 ·have er:(execOp a.eval ⟨some dn,.next (.tmp it) false,ty,pos,af,none⟩).run P w= .ok (.value<| .tuple #[.bool true,x.key,x.val]) (World.putObj {w with drawn:=k} r<| .mapIter (some m) es.size (sn.push j) es.size):=by simp only[execOp,ei,E0,F4,Dn];rfl
  rw[er,OV];have hg:Ee w (World.putObj {w with drawn:=k} r<| .mapIter (some m) es.size (sn.push j) es.size) (some r):=⟨⟨rfl,rfl,rfl,by simp,λi _ hi=>by rw[Zi (λe=>hi (by rw[e]))]⟩,H5.of hk⟩
  have Kw:(World.putObj {w with drawn:=k} r<| .mapIter (some m) es.size (sn.push j) es.size).heap[r]? =some (.mapIter (some m) es.size (sn.push j) es.size):=qR<|lt_of_heap hr
  have KT:=PD (s':= .JQ L<|seen++[j]) hs (B6 hit) hg hmi ⟨_,e,rfl⟩ ⟨r,m,es,sn.push j,e,Kw,hn,hmi,hm,ho,by simp[hsn]⟩<|λc hc=> .inl hc
  exact fin [.bool true,x.key,x.val] true _ ((it,.JQ L<|seen++[j])::Ge) (λq hq=>by
    rcases Ao.1 hq with e|hq
    ·subst e;exact⟨λe=>h3 e.symm,λe=>h4 e.symm,by simp[AQ.CA],by simp[AQ.CA]⟩
    ·exact⟨(fr q hq).2.2.1,(fr q hq).2.2.2.1,(fr q hq).2.2.2.2.1,(fr q hq).2.2.2.2.2.1⟩)
   (KT.weaken λq hq=>by
    rcases Ao.1 hq with e|hq
    ·subst e;simp
    ·exact C2 _<|PU (fr q hq).1 (fr q hq).2.1) rfl (kt j hj (by rw[<-hsn];exact hjn))
def akW{j:Nat}{k e:Ty}(hit:look Γ it=some (.JQ L<|seen++[j]))(hj:L[j]? =some (k,e)):Az P Γ ⟨d,.entry<| .tmp it,ty,pos,af,g⟩ (.La [k,e]):=
 Dj λw0 _ _ a w H hs=>by
  let⟨r,m,es,sn,ev,hr,hn,hmi,hm,ho,hsn⟩:=hs.holds _<|B6 hit
  simp only at ev;have ei:a.eval (.tmp it)= .pointer (some ⟨r,0,none⟩):=ev;have KV:=hs.sub _ _ hm;have Wv:∀(i:Nat) (x:MapEntry),es[i]? =some x->x.born=i:=λi x hx=>by let⟨_,_,_,_,_,h⟩:=jE ho (j:=i) (x:=x) (by simpa using hx);simpa using h
  have hlt:j<es.size:=by have:=(FP.1 hj).1;rw[<-qA ho] at this;simpa using this
  let⟨k',e',h1,h2,h3,_⟩:=jE ho (j:=j) (x:=es[j]) (by simp[hlt]);rw[hj] at h1;cases h1;have rU:sn.back?=some j:=by
   have:sn=(seen++[j]).toArray:=by rw[<-hsn]
   rw[this];simp
  have aqx:es.find? (λx=>x.born==j)=some es[j]:=by rw[Array.find?_eq_some_iff_getElem];refine⟨by simpa using Wv j es[j] (by simp[hlt]),j,hlt,rfl,λi hi=>?_⟩;have:=Wv i es[i] (by simp[Nat.lt_trans hi hlt]);simp[this];omega
  refine⟨.tuple #[es[j].key,es[j].val],?_,⟨_,rfl,_,_,rfl,h2,_,[],rfl,h3,rfl⟩,rfl⟩;simp[execOp,ei,Instr.entry,uE hr,run_getObj_map KV,rU,aqx]
def Py{α σ:Type}(f:α->σ->AA σ):A3 α->σ->AA σ
 |[],s=>some s
 |x::l,s=>bd (f x s)<|Py f l
def Sx{α σ ρ:Type}(f:α->σ->AA σ)(l:A3 α)(s:σ)(K:σ->AA ρ):AA ρ:=bd (Py f l s) K
def avF{P:CO}{α σ:Type}(w0:Aj P)(H0:HV)(N it:Nat)(l:A3 α)(enc:α->Ty×Ty)(f:α->σ->AA σ)(Ai:σ->Ctx)(seen:A3 Nat)(s:σ)(a:Act)(w:AR):Prop:=∃j x s',l[j]? =some x/\j∉seen/\f x s=some s'/\∃H,Sat w0 H0 N ((it,.JQ (l.map enc)<|seen++[j])::Ai s') a w H
def Pz{α:Type}(l:A3 α)(seen:A3 Nat):A3 α:=((List.range l.length).filter λj=> !seen.contains j).filterMap λj=>l[j]?
def nR{l:A3 α}{j:Nat}{x:α}(hj:l[j]? =some x)(hn:j∉seen):(x::Pz l (seen++[j])).Perm (Pz l seen):=by
 have hlt:=(FP.1 hj).1;have key:((List.range l.length).filter λi=> !seen.contains i).Perm (j::(List.range l.length).filter λi=> !(seen++[j]).contains i):=by
  have IU:((List.range l.length).filter λi=> !seen.contains i).Nodup:=List.nodup_range.filter _;have IN:j∈(List.range l.length).filter λi=> !seen.contains i:=by simp[hlt,hn]
  have h1:=List.perm_cons_erase IN;refine h1.trans<|List.Perm.cons _ ?_
  rw[IU.erase_eq_filter,List.filter_filter];refine List.Perm.of_eq<|List.filter_congr λi _=>?_
  by_cases e:i=j
  ·subst e;simp
  ·simp[e]
 have h2:=(key.filterMap λi=>l[i]?).symm;simpa[Pz,hj] using h2
def xf{α:Type}:∀(l pre:A3 α),(List.range' pre.length l.length).filterMap (λj=>(pre++l)[j]?)=l
 |[],_=>rfl
 |x::l,pre=>by
  have ih:=xf l<|pre++[x]
  simp[Dg,IE,Hm,List.singleton_append] at ih;simp only[E7,List.range'_succ,List.filterMap_cons];rw[N4<|BM _,Nat.sub_self];simp[List.getElem?_cons_zero,ih]
def aiz(l:A3 α):Pz l []=l:=by
 have:=xf l [];simp[ZS,KC] at this;unfold Pz;have e:List.filter (λj=> !([]:A3 Nat).contains j) (List.range l.length)=List.range l.length:=List.filter_eq_self.2<|λj _=>rfl
 rw[e,List.range_eq_range'];exact this
def anL{σ ρ:Type}{l:A3 α}(enc:α->Ty×Ty){f:α->σ->AA σ}{K:σ->AA ρ}{s0:σ}{r:ρ}(Ai:σ->Ctx){c:Code}{ts:A3 Nat}(hall:∀π,π.Perm l->Sx f π s0 K=some r)(h0:ES Γ ts ((it,.JQ (l.map enc) [])::Ai s0))
 (round:∀(seen:A3 Nat) (s:σ),(∀j x,l[j]? =some x->j∉seen->∃s',f x s=some s')->((∀j,j<(l.map enc).length->j∈seen)->K s=some r)->Goal P w0 H0 N c (Exit.then (avF w0 H0 N it l enc f Ai seen s) Q) ((it,.JQ (l.map enc) seen)::Ai s)):Goal P w0 H0 N (.loop c) Q Γ:=by
 intro a w H hs;refine wp_loop_ghost (λ(i:A3 Nat×σ) a w=>(∀π,π.Perm (Pz l i.1)->Sx f π i.2 K=some r)/\∃H,Sat w0 H0 N ((it,.JQ (l.map enc) i.1)::Ai i.2) a w H) (λi=>(Pz l i.1).length) ([],s0) ⟨λπ hπ=>hall π (hπ.trans (by rw[aiz])),H,hs.weaken h0.sub⟩ ?_
 ·rintro⟨seen,s⟩ a w ⟨hI,H,hs⟩;refine W5 (round seen s (λj x hj hn=>?_) (λhd=>?_) a w H hs) λe a' w' q=>?_
  ·have h1:=hI (x::Pz l (seen++[j])) (nR hj hn);unfold Sx at h1;simp[Py] at h1;let⟨s1,h2,_⟩:=Ay h1;let⟨s2,h3,_⟩:=Ay h2;exact⟨s2,h3⟩
  ·have:Pz l seen=[]:=by
    unfold Pz;have:((List.range l.length).filter λj=> !seen.contains j)=[]:=List.filter_eq_nil_iff.2 λj hj=>by have:=hd j (by simpa using hj);simp[this]
    rw[this];rfl
   have h1:=hI [] (by rw[this]);exact h1
  ·cases e with
   |normal=>
    let⟨j,x,s',hj,hn,hf,H',DN⟩:=q;refine⟨(seen++[j],s'),⟨λπ hπ=>?_,H',DN⟩,?_⟩
    ·have h1:=hI (x::π) ((hπ.cons x).trans<|nR hj hn);unfold Sx at h1⊢;simp[Py] at h1;rw[hf] at h1;exact h1
    ·have:=(nR hj hn).length_eq;simp at this;simp only;omega
   |_=>exact q
def Aj.Oz(P:CO)(w:AR)(X:Nat->Prop):Aj P:=⟨w,X,none,false,[],0,FY _,λ_ _=>FY _⟩
def RH:Act:=⟨#[],[]⟩
structure JG(P:CO)(f:FuncId)(pre:A3 Ty)(s s':AQ)(post:A3 Ty)(Bm:A3 Ty):Prop where
 can:Gi P f=true
 run:∀(w:AR) (H:HV) (v:AW) (ps qs:A3 AW),(∀r o,H r=some o->w.heap[r]? =some o)->LR P H->Ed H pre ps->Ed H post qs->s.holds (Aj.Oz P w λb=>s.owns w v b) RH w H v->Calls P f (ps++v::qs).toArray w λe w'=>∃r,e= .returned r/\∃H',R0 (λb=>s.owns w v b) w H w' H'/\s'.holds (Aj.Oz P w λb=>s.owns w v b) RH w' H' v/\(∀b,s'.owns w' v b->s.owns w v b\/w.heap.size<=b)/\LS H' Bm r
inductive Ep(Γ:Ctx):CH->Nat->Prop where
 |own {t:Nat}:Ep Γ (.tmp t) t
 |same {u t:Nat} (h:look Γ u=some (.same t)):Ep Γ (.tmp u) t
 |ptr {u t:Nat} (h:look Γ u=some (.ptr t 0)):Ep Γ (.tmp u) t
def Ep.ok{x:CH}(h:Ep Γ x t){a:Act}(hs:Sat w0 H0 N Γ a w H):a.eval x=Ae a t:=by
 cases h with
 |own=>rfl
 |same h=>exact hs.holds _<|B6 h
 |ptr h=>
  let⟨b,e1,e2⟩:=hs.holds _<|B6 h
  simp only at e1 e2;rw[e1];exact e2
theorem yR{a:Act}{w':AR}{H':HV}(hs:Sat w0 H0 N Γ a w H)(ht:(t,s)∈Γ)(hi:s.Ey=false)(hi':s'.Ey=false)(FA:∀q∈BI t Γ,q.2.Ey=true->∀b,s.owns w (Ae a t) b->w0.lo<=b)
 (hy:R0 (λb=>s.owns w (Ae a t) b) w H w' H')(DN:s'.holds w0 a w' H' (Ae a t))(ho:∀b,s'.owns w' (Ae a t) b->s.owns w (Ae a t) b\/w.heap.size<=b):Sat w0 H0 N ((t,s')::BI t Γ) a w' H':=by
 have Et:=hs.holds _ ht;have ED:∀b,s.owns w (Ae a t) b->w0.ED b:=λb hb=>AQ.PR hi Et hb
 have other:∀q∈BI t Γ,∀b,q.2.owns w (Ae a q.1) b-> ¬s.owns w (Ae a t) b:=λq hq b hb Ba=>hs.sep _ ht q (DM q hq).1 (λe=>(DM q hq).2 e.symm) b Ba hb
 have key:∀q∈BI t Γ,q.2.holds w0 a w' H' (Ae a q.1)/\∀b,q.2.owns w' (Ae a q.1) b↔q.2.owns w (Ae a q.1) b:=λq hq=>by
  refine AQ.Ve (n:=w0.lo) (hs.holds q (DM q hq).1) (λ_=>rfl) ?_;have kp:∀b,b<w.heap.size->(b<w0.lo\/q.2.owns w (Ae a q.1) b)->w'.heap[b]? =w.heap[b]? /\H' b=H b:=λb hb h=>hy.E3 b hb (λh2=>by
   rcases h with h|h
   ·have:=Aj.QX (ED b h2);omega
   ·exact other q hq b h h2)
  exact⟨hy.size,hy.os,hy.tape,hy.output,hy.drawn,hy.le,λb hb h=>(kp b hb h).1,λb hb h=>(kp b hb h).2,hy.sub⟩
 refine⟨?_,hs.sz,?_,?_,hy.sub,?_,?_,hs.gl.mono hy.le⟩
 ·refine hs.nd.kept λD _ h1 h2=>?_
  have hn: ¬s.owns w (Ae a t) D:=λhm=>by let⟨_,_,o,ho,K1⟩:=AQ.JH Et hm;rw[h1] at ho;cases ho;exact K1
  have:=hy.E3 D (lt_of_heap h1) hn;exact⟨by rw[this.1];exact h1,by rw[this.2];exact h2⟩
 ·refine⟨hy.os.trans hs.below.os,hy.tape.trans hs.below.tape,hy.output.trans hs.below.output,Cu hs.below.drawn hy.drawn,Cu hs.below.size hy.size,λhv k hk hx=>?_⟩;rw[(hy.E3 k (Jn hk hs.below.size) (λh=>by
   rcases ED k h with h|h
   ·omega
   ·exact hx h)).1]
  exact hs.below.block hv k hk hx
 ·intro hv r hr hx;rw[(hy.E3 r (Jn hr hs.below.size) (λh=>by
   rcases ED r h with h|h
   ·omega
   ·exact hx h)).2]
  exact hs.Fe hv r hr hx
 ·grind
 ·have low:∀q∈BI t Γ,∀b,q.2.owns w' (Ae a q.1) b-> ¬s'.owns w' (Ae a t) b:=λq hq b hb hm=>by
   have hb:=((key q hq).2 b).1 hb;rcases ho b hm with h|h
   ·grind
   ·have:=(AQ.JH (hs.holds q (DM q hq).1) hb).1;omega
  intro q hq r hr hne b hb Ba;rcases Ao.1 hq with e|hq<;>rcases Ao.1 hr with e'|hr
  ·grind
  ·grind
  ·grind
  ·exact hs.sep q (DM q hq).1 r (DM r hr).1 hne b (((key q hq).2 b).1 hb)<|((key r hr).2 b).1 Ba
def ahZ{o:Oper}{f:FuncId}{xs ys:A3 CH}{pre post Bm:A3 Ty}{dd:Nat}{Ai:Ctx}(BE:∀q∈Ai,q∈Γ)(hf:JG P f pre s s' post Bm)(hod:(o.dst,o.guard)=(some dd,none))(hoe:∀{w0:Aj P} {H0:HV} {N:Nat} {a:Act} {w:AR} {H:HV},Sat w0 H0 N Ai a w H->execOp a.eval o=callFunc f (xs.map a.eval++Ae a t::ys.map a.eval).toArray)(ht:look Ai t=some s)(hi:(s.Ey||s'.Ey)=false)(hl:s.CA=[])(hl':s'.CA=[])
 (ha:AP Ai xs pre)(hb:AP Ai ys post)(DK:dd<N)(hne:dd≠t):Step P N ops o Γ ((dd,Is Bm)::(t,s')::del dd (BI t Γ)):=by
 intro w0 H0 a w H hs K Q k;have hg:o.guard=none:=congrArg Prod.snd hod;have hd:o.dst=some dd:=congrArg Prod.fst hod;simp[Region.wanted,hg,if_true];simp[MW] at hi;have hsi:=hs.weaken BE;have Et:=hs.holds _<|BE _<|B6 ht
 simp only at Et;unfold Oper.wp;rw[hoe hsi,PE hf.can,WD,hd];have at6:s.holds (Aj.Oz P w λb=>s.owns w (Ae a t) b) RH w H (Ae a t):=AQ.PQ (a:=a) (λt h=>by rw[hl] at h;cases h) (AQ.Rl hi.1 Et λb hb=> .inr hb)
 refine(hf.run w H _ _ _ hs.sub hs.gl (ha.ok hsi) (hb.ok hsi) at6).mono ?_;rintro e w' ⟨r,rfl,H',hy,DN,ho,hr⟩;have at7:s'.holds w0 a w' H' (Ae a t):=AQ.PQ (a:=RH) (λt h=>by rw[hl'] at h;cases h) (AQ.Rl hi.2 DN λb hb=>by
  rcases ho b hb with h|h
  ·exact AQ.PR hi.1 Et h
  ·exact .inl<|Cu hs.below.size h)
 have h1:=yR hs (BE _<|B6 ht) hi.1 hi.2 (λq hq _ b hb=>Aj.QX<|AQ.PR hi.1 Et hb) hy at7 ho;have h2:=QO (h1.weaken (An:=del dd ((t,s')::BI t Γ)) MQ) DK PW (s:=Is Bm) (v:=r) (by
  match Bm with
  |[]=>simp[Is,AQ.CA]
  |[_]=>simp[Is,AQ.CA]
  |_::_::_=>simp[Is,AQ.CA]) (Va hr)<|λb e=>absurd e<|AQ.free_spec Vi
 refine k _ w' H'<|h2.weaken λq hq=>?_
 simp[Ao] at hq⊢;rcases hq with h|h|h
 ·exact .inl h
 ·subst h;exact .inr (S6 (by simp) (λe=>hne e.symm) (by simp only;rw[hl'];simp))
 ·have:=r8 h;exact .inr<|S6 (C2 _<|MQ _ h) this.1 this.2
def xp{f:FuncId}{x:CH}{xs ys:A3 CH}{F0:BA Ap}{pre post Bm:A3 Ty}{dd:Nat}{Ai:Ctx}(BE:∀q∈Ai,q∈Γ)(hf:JG P f pre s s' post Bm)(hx:Ep Ai x t)(ht:look Ai t=some s)(hi:(s.Ey||s'.Ey)=false)(hl:s.CA=[])(hl':s'.CA=[])
 (ha:AP Ai xs pre)(hb:AP Ai ys post)(DK:dd<N)(hne:dd≠t):Step P N ops ⟨some dd,.call ⟨.value<| .func f,(xs++x::ys).toArray,F0⟩,ty,pos,af,none⟩ Γ ((dd,Is Bm)::(t,s')::del dd (BI t Γ)):=by
 refine ahZ BE hf rfl (λ{_ _ _ a _ _} hsi=>?_) ht hi hl hl' ha hb DK hne;have e:execOp a.eval ⟨some dd,.call ⟨.value<| .func f,(xs++x::ys).toArray,F0⟩,ty,pos,af,none⟩=callFunc f (#[]++(xs++x::ys).toArray.map a.eval++ #[]):=rfl;rw[e]
 congr 1
 simp[hx.ok hsi]
end
section
variable[D:DR]
variable{P:Program}{w0:Aj P}{H0:HV}{N:Nat}{Q:Exit->Act->World->Prop}{Γ An:Ctx}
variable{fn:Func}{Bm:A3 Ty}{s s':AQ}
def acx(P:CO)(w:AR)(H:HV)(v:AW)(s s':AQ)(Bm:A3 Ty)(e:Ending)(w':AR):Prop:=∃r,e= .returned r/\∃H',R0 (λb=>s.owns w v b) w H w' H'/\s'.holds (Aj.Oz P w λb=>s.owns w v b) RH w' H' v/\(∀b,s'.owns w' v b->s.owns w v b\/w.heap.size<=b)/\LS H' Bm r
def rz(P:CO)(fn:Func)(w:AR)(H:HV)(v:AW)(s s':AQ)(Bm:A3 Ty):Exit->Act->AR->Prop:=bodyPostM (Fh none) 0 P fn<|acx P w H v s s' Bm
def aiy{rs:A3 ResultVar}{w1:AR}{v:AW}{i:Nat}(hw0:w0=Aj.Oz P w1 λb=>s.owns w1 v b)(FA:∀b,s.owns w1 v b->H0 b=none)(hlt:∀r o,H0 r=some o->r<w1.heap.size)(hr:fn.results=rs.toArray)(h:AZ P Γ rs Bm)(DN:look Γ i=some s')(hp:look Γ N=some (.KP i v))(hi:s'.Ey=false)(hl:s'.CA=[])
 {a:Act}{w:AR}{H:HV}(hs:Sat w0 H0 N Γ a w H):LeavesInM (Fh none) 0 P fn a.tmps (acx P w1 H0 v s s' Bm) a.defers .returning w:=by
 subst hw0;refine VW rfl rfl (a:=a) (ds:=a.defers) hs λw H hs=>?_
 let⟨vs,h1,h2⟩:=h.run hs;have hlen:=S4 h2;rw[YU hr];simp only[E0,Sem.run_map,h1,Dn,KB];have hv:Ae a i=v:=hs.holds _<|B6 hp
 have Et:=hs.holds _<|B6 DN
 simp only at Et;have ea:Ae {a with defers:=[]} i=v:=hv;rw[ea] at Et;refine⟨_,rfl,_,rfl,H,⟨hs.below.size,hs.below.os,hs.below.tape,hs.below.output,hs.below.drawn,?_,?_,hs.sub⟩,AQ.PQ (λt h=>by rw[hl] at h;cases h) Et,?_,?_⟩
 ·intro r o ho;rw[hs.Fe rfl r (hlt r o ho) (λhx=>by have:=FA r hx;rw[this] at ho;cases ho)];exact ho
 ·exact λb hb hx=>⟨hs.below.block rfl b hb hx,hs.Fe rfl b hb hx⟩
 ·intro b hb;rcases AQ.PR hi Et hb with h|h
  ·exact .inr h
  ·exact .inl h
 ·match Bm,h2,hlen with
  |[],h2,hl=>have:vs=[]:=h2;subst this;exact⟨#[],rfl,rfl⟩
  |[τ],h2,hl=>let⟨v,rest,e,hv,hr⟩:=h2;have:rest=[]:=hr;subst this;subst e;exact hv
  |τ::Gp::l,h2,hl=>
   have: ¬vs.toArray.size=1:=by simp[hl]
   rw[dif_neg this];exact⟨vs.toArray,rfl,by simpa using h2⟩
structure jR(P:CO)(w0:Aj P)(H0:HV)(w1:AR)(v:AW)(s:AQ):Prop where
 eq:w0=Aj.Oz P w1 λb=>s.owns w1 v b
 no:∀b,s.owns w1 v b->H0 b=none
 lt:∀r o,H0 r=some o->r<w1.heap.size
def abZ{rs:A3 ResultVar}{w1:AR}{v:AW}{i:Nat}(hk:jR P w0 H0 w1 v s)(hr:fn.results=rs.toArray)(h:AZ P Γ rs Bm)(DN:look Γ i=some s')(hp:look Γ N=some (.KP i v))(hi:s'.Ey=false)(hl:s'.CA=[]):EJ w0 H0 N (λa w=>rz P fn w1 H0 v s s' Bm .ret a w) Γ:=λ_ _ _ hs=>aiy hk.eq hk.no hk.lt hr h DN hp hi hl hs
def nY:∀{l:A3 Ty} {i:Nat},∀p∈Hb i l,i<=p.1/\p.1<i+l.length/\p.2.free=true/\p.2.Ey=false
 |[],_,p,hp=>by simp[Hb] at hp
 |τ::l,i,p,hp=>by
  simp only[Hb,Ao] at hp;rcases hp with e|hp
  ·subst e;exact⟨BM _,by simp,rfl,rfl⟩
  ·have:=nY p hp;refine⟨by omega,by simp;omega,this.2.2.1,this.2.2.2⟩
def nQ{f:FuncId}{c:Code}{pre post:A3 Ty}{N:Nat}(hf:P.funcs[f]? =some fn)(hb:fn.body=some c)(hN:fn.ntmps=N)(hn:pre.length+1+post.length<=N)(hc:Gi P f=true)(hl:s.CA=[])(hi:s.Ey=false)
 (h:∀(w1:AR) (v:AW) (w0:Aj P) (H0:HV),jR P w0 H0 w1 v s->Goal P w0 H0 N c (rz P fn w1 H0 v s s' Bm) ((N,.KP pre.length v)::(pre.length,s)::(Hb 0 pre++Hb (pre.length+1) post))):JG P f pre s s' post Bm:=by
 subst hN;refine⟨hc,λw H v ps qs sub gl hps hqs hs=>?_⟩;have Ax:Ed H (pre++post) (ps++qs):=YV hps hqs;have KU:=S4 hps;have hql:=S4 hqs;have aqj:jR P (Aj.Oz P w λb=>s.owns w v b) H w v s:=⟨rfl,λb hb=>(AQ.JH hs hb).2.1,λr o ho=>HO sub ho⟩;refine(callsIn_wide (n:=0)).1<|callsIn_of_wp_marks (F:=Fence.wide) hf hb trivial<|h w v _ H aqj _ w H ?_
 obtain⟨a,ha⟩:∃a:Act,a={tmps:=(ps++v::qs).toArray++Array.replicate (fn.ntmps-(ps++v::qs).toArray.size) undef,defers:=[]}:=⟨_,rfl⟩;rw[<-ha];have sU:∀j x,(ps++v::qs)[j]? =some x->Ae a j=x:=λj x hj=>by
  have K3:=(FP.1 hj).1;have e:((ps++v::qs).toArray++Array.replicate (fn.ntmps-(ps++v::qs).toArray.size) undef)[j]? =some x:=by rw[Array.getElem?_append_left (by simpa using K3)];simpa using hj
  rw[ha];simp only[Ae,UM,e,ZW]
 have hvv:Ae a pre.length=v:=sU _ _ (by rw[<-KU];simp);have e1:∀p∈Hb 0 pre,p.2.holds (Aj.Oz P w λb=>s.owns w v b) a w H (Ae a p.1):=eX 0 hps λj x hj=>sU _ _ (by rw[Pc,MX (FP.1 hj).1];exact hj)
 have e2:∀p∈Hb (pre.length+1) post,p.2.holds (Aj.Oz P w λb=>s.owns w v b) a w H (Ae a p.1):=eX (pre.length+1) hqs λj x hj=>sU _ _ (by rw[N4 (by omega),<-KU,show ps.length+1+j-ps.length=j+1 by omega];simpa using hj)
 have KF:∀p∈(fn.ntmps,AQ.KP pre.length v)::(pre.length,s)::(Hb 0 pre++Hb (pre.length+1) post),p.1≠pre.length->∀b,¬p.2.owns w (Ae a p.1) b:=by
  intro p hp hne b hb;simp only[Ao,Bs] at hp;rcases hp with e|e|hp|hp
  ·subst e;exact hb
  ·subst e;exact hne rfl
  ·exact AQ.free_spec (nY p hp).2.2.1 hb
  ·exact AQ.free_spec (nY p hp).2.2.1 hb
 refine⟨by rw[ha];trivial,by rw[ha];simp;omega,⟨rfl,rfl,rfl,BM _,BM _,λ_ _ _ _=>rfl⟩,λ_ _ _ _=>rfl,sub,?_,?_,gl⟩
 ·intro p hp;simp only[Ao,Bs] at hp;rcases hp with e|e|hp|hp
  ·subst e;exact hvv
  ·subst e;simp only;rw[hvv];exact AQ.PQ (λt h=>by rw[hl] at h;cases h) hs
  ·exact e1 p hp
  ·exact e2 p hp
 ·intro p hp q hq hne b hb Ba;by_cases h1:p.1=pre.length
  ·exact KF q hq (λe=>hne<|h1.trans e.symm) b Ba
  ·exact KF p hp h1 b hb
end
@[reducible] def tF(_:Unit):Ty:=TEq .nilIface rfl
def GP:Int:=18446744073709551616
def HB(x:Int):Bool:=decide (0<=x)&&decide (x<18446744073709551616)
def Lq(x y c:Int):AA (Int×Int):=bif (HB x&&HB y)&&(decide (c=0)||decide (c=1)) then some ((x+y+c)%GP,(x+y+c)/GP) else none
def S8(x y b:Int):AA (Int×Int):=bif (HB x&&HB y)&&(decide (b=0)||decide (b=1)) then some ((x-y-b)%GP,bif decide (x<y+b) then 1 else 0) else none
def DB(z:Int):Bool:=Nat.blt (Nat.log2 z.natAbs) 1099511627776
def EN{α:Type}(b:Bool)(x:α):AA α:=bif b then some x else none
def Us(x y:Int):Int:=bif decide (x<y) then -1 else bif decide (y<x) then 1 else 0
def ri(z:Int):AA Int:=some z.sign
def acu(z:Int):AA Int:=some<| -z
def tE(z:Int):AA Int:=some (z.natAbs:Int)
def bP(x y:Int):AA Int:=EN (DB x&&DB y)<|Us x y
def T5(x y:Int):AA Int:=EN (DB x&&DB y)<|x+y
def KJ(x y:Int):AA Int:=EN (DB x&&DB y)<|x*y
def acs(x y:Int):AA Int:=EN (DB x&&DB y&& !decide (y=0))<|x.fdiv y
def P2(x y:Int):AA Int:=EN (DB x&&DB y) (Int.gcd x y:Int)
def aOf(x:Int):AA Int:=AH x
def Pr(z:Int):AA (Int×Bool):=EN (!decide (z= -9223372036854775808))<|bif He z then(z,true) else(z.sign,false)
def rj(z:Int):AA Int:=EN (DB z)<|bif decide (z=0) then 0 else(Nat.log2 z.natAbs:Int)+1
def bM:Nat->Nat->A3 UInt8->A3 UInt8
 |0,_,acc=>acc
 |f+1,n,acc=>bif Nat.blt n 10 then UInt8.ofNat (48+n)::acc else bM f (n/10) (UInt8.ofNat (48+n%10)::acc)
def B2(n:Nat):A3 UInt8:=bM (n+1) n []
def Cd(z:Int):A3 UInt8:=bif decide (z<0) then 45::B2 z.natAbs else B2 z.natAbs
def aK(z:Int):AA (A3 UInt8):=bif He z then some (Cd z) else none
def jI(z b:Int):AA (A3 UInt8):=EN (HB z&&decide (b=10))<|B2 z.toNat
def kE(l:A3 UInt8):Nat->A3 UInt8
 |0=>[]
 |c+1=>l++kE l c
def jH(s:A3 UInt8)(c:Int):AA (A3 UInt8):=EN (decide (0<=c)&&decide (c<=64)&&decide (s=[48]))<|kE s c.toNat
def Pk(z:Int):AA (A3 UInt8):=EN (DB z)<|Cd z
def F8(q:Rat):Bool:=Nat.blt (Nat.log2 q.num.natAbs) 68719476736&&Nat.blt (Nat.log2 q.den) 68719476736
def Ot(x y:Int):AA Rat:=EN (DB x&&DB y&& !decide (y=0))<|(x:Rat)/(y:Rat)
def Ll(q:Rat):AA Bool:=some<|decide<|q.den=1
def Wo(x:Int):AA Rat:=some (x:Rat)
def Su(q:Rat):AA Rat:=some<| -q
def M4(x y:Rat):AA Rat:=EN (F8 x&&F8 y)<|x+y
def O1(x y:Rat):AA Rat:=EN (F8 x&&F8 y)<|x-y
def GH(x y:Rat):AA Rat:=EN (F8 x&&F8 y)<|x*y
def Sv(x y:Rat):AA Rat:=EN (F8 x&&F8 y&& !decide (y=0))<|x/y
def bE(x:Rat):AA Rat:=EN (F8 x&& !decide (x=0)) x⁻¹
def Oy(x y:Rat):AA Int:=EN (F8 x&&F8 y)<|bif decide (x<y) then -1 else bif decide (y<x) then 1 else 0
def Se(x y:Rat):AA Bool:=EN (F8 x&&F8 y)<|decide<|x=y
def JP(x:Rat):AA Int:=some x.num.sign
def qF(x:Int):AA Rat:=(AH x).map λz=>(z:Rat)
def mkq(a b:Int):AA Rat:=match b with
 | .ofNat (d+1)=>EN (Nat.beq (Nat.gcd a.natAbs<|d+1) 1)<|mkRat a<|d+1
 |_=>none
def yq{a b:Int}{r:Rat}(h:mkq a b=some r):r.num=a/\(r.den:Int)=b:=by
 unfold mkq at h;split at h
 ·rename_i d;unfold EN at h;cases hc:Nat.beq (Nat.gcd a.natAbs<|d+1) 1
  ·rw[hc] at h;cases h
  ·rw[hc] at h;have h:=(E9 h).symm;subst h;have hg:Nat.gcd a.natAbs (d+1)=1:=EA hc;rw[Rat.num_mkRat,Rat.den_mkRat];rw[SB] at hg;simp[hg]
 ·cases h
def qu[D:DR]{a b:Int}{r:Rat}(h:mkq a b=some r):(AQ.val<|DF [EI a,EI b])= .val (By r):=by let⟨h1,h2⟩:=yq h;rw[<-h1,<-h2]
def Du(b:UInt8):Bool:=Nat.ble 48 b.toNat&&Nat.ble b.toNat 57
def BS(l:A3 UInt8):Nat:=l.foldl (λn b=>10*n+(b.toNat-48)) 0
def aM(s:A3 UInt8):AA (Int×Unit):=EN (!s.isEmpty&&Nat.ble s.length 18&&s.all Du) ((BS s:Int),())
def cutAt(sep:UInt8):A3 UInt8->A3 UInt8->A3 UInt8×A3 UInt8×Bool
 |pre,[]=>(pre.reverse,[],false)
 |pre,b::l=>bif b==sep then(pre.reverse,l,true) else cutAt sep (b::pre) l
def jV(s sep:A3 UInt8):AA (A3 UInt8×A3 UInt8×Bool):=match sep with
 |[c]=>EN (Nat.blt s.length 4294967281)<|cutAt c [] s
 |_=>none
def Ht(s:A3 UInt8):AA Int:=match s with
 |45::ds=>EN (ds.all Du&&Nat.blt ds.length 1000000)<| -(BS ds:Int)
 |ds=>EN (ds.all Du&&Nat.blt ds.length 1000000) (BS ds:Int)
abbrev V3:=Rat×Rat×Rat
abbrev Bc:=(Int×Int×Int)×A3 UInt8
def S3{α:Type}:A3 α->A3 (α×α)
 |[]=>[]
 |a::l=>(a::l).zip<|l++[a]
def O3{α:Type}(c:α->α->AA Int)(x:α):A3 α->AA (A3 α)
 |[]=>some [x]
 |y::l=>bd (c x y) λk=>cond (decide<|k<0) (bd (O3 c x l) λr=>some (y::r))<|some (x::y::l)
def jM{α:Type}(c:α->α->AA Int)(l:A3 α):AA (A3 α):=Jc l (λnext x s=>bd (O3 c x s) next) [] λs=>some s.reverse
def Wy{α:Type}(e:α->α->AA Bool):α->A3 α->AA (A3 α)
 |_,[]=>some []
 |x,y::l=>bd (e y x) λb=>bd (Wy e y l) λr=>some<|cond b r (y::r)
def alL{α:Type}(e:α->α->AA Bool):A3 α->AA (A3 α)
 |[]=>some []
 |x::l=>bd (Wy e x l) λr=>some (x::r)
def XJ{α:Type}[DecidableEq α](c:α×α->AA Int)(x:α):A3 α->Bool
 |[]=>true
 |y::l=>(bif decide (x=y) then true else match c (x,y),c (y,x) with
  |some i,some j=>decide (i<0)&&decide (0<=j)
  |_,_=>false)&&XJ c x l
def Oq{α:Type}[DecidableEq α](c:α×α->AA Int):A3 α->Bool
 |[]=>true
 |x::l=>(match c (x,x) with
  |some i=>decide<|0<=i
  |none=>false)&&(XJ c x l&&Oq c l)
def totB{α:Type}(c:α×α->AA Int)(l:A3 α):Bool:=l.all λx=>l.all λy=>(c (x,y)).isSome
def Ie{α:Type}[DecidableEq α](l:A3 α)(c:α×α->AA Int):AA (A3 α):=bd (jM (λa b=>c (a,b)) l) λs=>EN (Nat.blt l.length 4611686018427387904&&(totB c l&&Oq c s)) s
def Yg{α:Type}(l:A3 α)(e:α×α->AA Bool):AA (A3 α):=alL (λa b=>e (a,b)) l
def Vn(l:A3 V3):AA (A3<|V3×V3):=EN (Nat.blt l.length 1000000000)<|S3 l
section
variable[D:DR]
variable{P:Program}{w0:Aj P}{H0:HV}{N:Nat}{ops:Array Oper}{Q:Exit->Act->World->Prop}{Γ An:Ctx}{d:Option Tmp}{ty:TypeId}{pos:String}{af:Array Edge}{g:Option (Nat×Bool)}
variable{T:Ap}{ps:A3 Bv}{τ:Ty}{t:Nat}
@[reducible] def TMp{α β:Type}(fK:α->Ty)(F:β->Ty)(l:A3 (α×β)):Ty:=kR<|l.map λp=>(fK p.1,F p.2)
def oD{l:A3 Ty}(gg:Bool)(h:Dp P T τ)(hτ:∀H v,τ.ok H v->DQ H l v.cells.toList)(ho:Gn l ps):Az P Γ ⟨d,.alloc T,ty,pos,af,g⟩ (.D8 T gg ps):=
 MG λw0 _ _ a w H hs=>by
  let⟨z,hr,hz⟩:=h.run w;have he:=Ext.alloc hs.sub<| .cells z.cells T (0,0)
  let⟨h1,h2,h3⟩:=ho.ok (B:=w0) (a:=a) (w:=w.alloc<| .cells z.cells T (0,0))<|hτ H z<|hz H
  refine⟨.pointer<|some ⟨w.heap.size,0,none⟩,w.alloc<| .cells z.cells T,H,?_,he,?_,?_⟩
  ·simp[execOp,Instr.alloc,hr,newVar,newRow]
  ·refine⟨w.heap.size,z.cells,rfl,Lv w _,?_,.inl hs.below.size,h1,h3,h2 _⟩;cases hh:H w.heap.size with
   |none=>rfl
   |some o=>have:=HO hs.sub hh;omega
  ·rintro b ⟨c,e,hb⟩;cases e;rcases hb with hb|⟨cs,hc,hb⟩
   ·omega
   ·rw[Lv] at hc;cases hc;exact absurd hb<|h2 b
def amY{x:CH}{l:A3 Ty}(gg:Bool)(hx:Arg Γ x τ)(hτ:∀H v,τ.ok H v->DQ H l v.cells.toList)(ho:Gn l ps):Az P Γ ⟨d,.box T x,ty,pos,af,g⟩ (.D8 T gg ps):=
 MG λw0 _ _ a w H hs=>by
  have he:=Ext.alloc hs.sub<| .cells (a.eval x).cells T (0,0)
  let⟨h1,h2,h3⟩:=ho.ok (B:=w0) (a:=a) (w:=w.alloc<| .cells (a.eval x).cells T (0,0))<|hτ H _<|hx.ok hs
  refine⟨.pointer<|some ⟨w.heap.size,0,none⟩,w.alloc<| .cells (a.eval x).cells T,H,?_,he,?_,?_⟩
  ·simp[execOp,Instr.box,newVar,newRow]
  ·refine⟨w.heap.size,(a.eval x).cells,rfl,Lv w _,?_,.inl hs.below.size,h1,h3,h2 _⟩;cases hh:H w.heap.size with
   |none=>rfl
   |some o=>have:=HO hs.sub hh;omega
  ·rintro b ⟨c,e,hb⟩;cases e;rcases hb with hb|⟨cs,hc,hb⟩
   ·omega
   ·rw[Lv] at hc;cases hc;exact absurd hb<|h2 b
def aqN{u:Nat}(hu:look Γ u=some (.same t))(ht:look Γ t=some (.val τ)):II w0 N Γ ((u,.val τ)::BI u Γ):=λH0 a w H hs=>by
 have e:=hs.holds _<|B6 hu
 have hv:=hs.holds _<|B6 ht
 exact⟨H,nL (us:=[]) hs (λq hq=>DM q hq) (by rw[show Ae a u=Ae a t from e];exact hv) (λb h=>h.elim) (λ_ _ h=>by cases h)⟩
def Zz{p off i dd:Nat}{T':Ap}{gg:Bool}{pp:Bv}(sm:Bool)(hp:FQ Γ p t off)(ht:look Γ t=some (.D8 T' gg ps))(hi:ps[i]? =some pp)(ho:Bn ps i=off)(h1:(pp.n,pp.agg)=(1,false))(hT:Bq P T 1 false=true)(DK:dd<N)(hd:(dd !=t&& !(Qw ps).contains dd)=true):Step P N ops ⟨some dd,.load T<| .tmp p,ty,pos,af,none⟩ Γ ((dd,pp.sty)::(t,.D8 T' gg<|ps.set i<|Sg dd sm)::del dd (BI t Γ)):=by simp[C6,MM,ne_eq,GA,qO,Il] at hd;exact aaB (λ_ h=>h) sm hp ht hi ho (congrArg Prod.fst h1) (congrArg Prod.snd h1) hT DK hd.1 hd.2
def aat{p off i dd:Nat}{T':Ap}{gg:Bool}{pp:Bv}(sm:Bool)(hp:FQ Γ p t off)(ht:look Γ t=some (.D8 T' gg ps))(hi:ps[i]? =some pp)(ho:Bn ps i=off)(h1:(pp.n,pp.agg)=(1,false))(hT:Bq P T 1 false=true)(DK:dd<N)(hd:(dd !=t&& !(Qw ps).contains dd)=true):kQ P N ops Γ ⟨some dd,.load T<| .tmp p,ty,pos,af,none⟩ t (.D8 T' gg<|ps.set i<|Sg dd sm) dd pp.sty:=λEM BE=>by simp[C6,MM,ne_eq,GA,qO,Il] at hd;exact aaB BE sm hp ht hi ho (congrArg Prod.fst h1) (congrArg Prod.snd h1) hT DK hd.1 hd.2
end
section
variable[D:DR]
variable{P:Program}{w0:Aj P}{H0:HV}{N:Nat}{ops:Array Oper}{Q:Exit->Act->World->Prop}{Γ An:Ctx}{d:Option Tmp}{ty:TypeId}{pos:String}{af:Array Edge}{g:Option (Nat×Bool)}
variable{α β:Type}[DecidableEq α]{K E Eb T:TypeId}{sz:Nat}{fK:α->Ty}
def alz{F:β->Ty}{m k v:CH}{t:Nat}{l:A3 (α×β)}{x:α}{y:β}(hT:Uj P T K E=true)(hk:SO P K fK)(hm:R3 Γ m t)(ht:look Γ t=some (.Gs K E Eb sz<|mM fK (λv=> .val<|F v) l))(hx:Arg Γ k (fK x))(hy:Arg Γ v (F y)):P3 P N ops Γ ⟨none,.mapUpdate T m k v,ty,pos,af,none⟩ t (.Gs K E Eb sz<|mM fK (λv=> .val<|F v)<|XA l x y):=λ_ BE=>afn BE hT hk hm ht hx hy
def aoT{K E Eb T:Ap}{sz:Nat}{α β:Type}(fK:α->Ty)(fV:β->DG):Az P Γ ⟨d,.makeMap T none,ty,pos,af,g⟩ (.Gs K E Eb sz<|mM fK fV ([]:A3 (α×β))):=ahL
def akK{t:Nat}{F:β->Ty}{l:A3 (α×β)}(ht:look Γ t=some (.Gs K E Eb sz<|mM fK (λv=> .val<|F v) l)):II w0 N Γ ((t,.val<|TMp fK F l)::BI t Γ):=amH ht (λp hp=>by obtain⟨q,_,rfl⟩:=BR.1 hp;rfl) (by simp[mM,kG,DG.pub])
end
section
variable[D:DR]
variable{P:Program}{w0:Aj P}{H0:HV}{N:Nat}{ops:Array Oper}{Q:Exit->Act->World->Prop}{Γ An:Ctx}{d:Option Tmp}{ty:TypeId}{pos:String}{af:Array Edge}{g:Option (Nat×Bool)}
variable{t:Nat}
def Rt{f:FuncId}{x:CH}{xs ys:A3 CH}{F0:BA Ap}{pre post Bm:A3 Ty}{s s':AQ}{dd:Nat}(hf:JG P f pre s s' post Bm)(hx:Ep Γ x t)(ht:look Γ t=some s)(hi:(s.Ey||s'.Ey)=false)(hl:(s.CA,s'.CA)=([],[]))
 (ha:AP Γ xs pre)(hb:AP Γ ys post)(DK:dd<N)(hne:(dd !=t)=true):Step P N ops ⟨some dd,.call ⟨.value<| .func f,(xs++x::ys).toArray,F0⟩,ty,pos,af,none⟩ Γ ((dd,Is Bm)::(t,s')::del dd (BI t Γ)):=xp (λ_ h=>h) hf hx ht hi (congrArg Prod.fst hl) (congrArg Prod.snd hl) ha hb DK (by simpa using hne)
def ajY{f:FuncId}{x:CH}{xs ys:A3 CH}{F0:BA Ap}{pre post Bm:A3 Ty}{s s':AQ}{dd:Nat}(hf:JG P f pre s s' post Bm)(hx:Ep Γ x t)(ht:look Γ t=some s)(hi:(s.Ey||s'.Ey)=false)(hl:(s.CA,s'.CA)=([],[]))
 (ha:AP Γ xs pre)(hb:AP Γ ys post)(DK:dd<N)(hne:(dd !=t)=true):kQ P N ops Γ ⟨some dd,.call ⟨.value<| .func f,(xs++x::ys).toArray,F0⟩,ty,pos,af,none⟩ t s' dd (Is Bm):=λ_ BE=>xp BE hf hx ht hi (congrArg Prod.fst hl) (congrArg Prod.snd hl) ha hb DK (by simpa using hne)
def Vw{w0:Aj P}{u i:Nat}{T':Ap}{gg:Bool}{ps:A3 Bv}{E:Ap}{sz:Nat}{l:A3 Ty}(ht:look Γ t=some (.D8 T' gg ps))(hi:ps[i]? =some (.sm u))(hu:look Γ u=some (.buf E sz l))(hne:(u !=t)=true):II w0 N Γ ((t,.D8 T' gg<|ps.set i<| .buf E sz l)::BI t (BI u Γ)):=anI (.buf E sz l) ht hi hu hne rfl (λe=>by cases e)
end
section
variable[D:DR]
variable{P:Program}{w0:Aj P}{H0:HV}{N:Nat}{Q:Exit->Act->World->Prop}{Γ An:Ctx}{d:Option Tmp}{ty:TypeId}{pos:String}{af:Array Edge}{g:Option (Nat×Bool)}
theorem av9{α β:Type}{f:α->β}{l:A3 α}{j:Nat}(h:j<(l.map f).length):∃x,l[j]? =some x:=by simp_all
def aou{t i k:Nat}{c:Code}{T:Ap}{gg:Bool}{ps:A3 Bv}{E:Ap}{sz:Nat}{l:A3 Ty}(ht:look Γ t=some (.D8 T gg ps))(hi:ps[i]? =some (.buf E sz l))(hk:Nat.ble N k=true)(h:∀x (hx:x.oneCell'=true),Goal P w0 H0 N c Q ((k,.Nz x E sz l)::(t,.D8 T gg<|ps.set i<| .val<|TEq x hx)::BI k (BI t Γ))):Goal P w0 H0 N c Q Γ:=λa w H hs=>by
 let⟨b,cs,e,hb,hnb,hm,Ax,IT,hx⟩:=hs.holds _<|B6 ht
 simp only at e;let⟨_,h3,h4,_⟩:=Qr Ax hi;have ja:=gX Ax hi;have hown:∀c,(pv (.buf E sz l) (Bn ps i) cs.toList).ownBlock=some c->GF w c ps cs.toList:=λc hc=>PN.2 ⟨i,_,hi,hc⟩
 generalize hv:pv (.buf E sz l) (Bn ps i) cs.toList=v at*
 have h1:v.oneCell'=true:=(mU h3).1;let⟨E8,hcs,k1,k2,k3⟩:=Vr (q:= .val<|TEq v h1) (x:=v) Ax IT hi h3 rfl rfl<|λc hc=>hc.elim
 rw[show E8=cs.toList by rw[hcs];exact ja,hv] at*;have nw:∀c,GF w c (ps.set i<| .val<|TEq v h1) cs.toList->GF w c ps cs.toList/\ ¬v.ownBlock=some c:=λc hc=>by
  rcases k3 c hc with h|h
  ·exact h.elim
  ·exact h
 have hb1:∀c,(AQ.D8 T gg<|ps.set i<| .val<|TEq v h1).owns w (Ae a t) c->(AQ.D8 T gg ps).owns w (Ae a t) c/\ ¬v.ownBlock=some c:=by
  rintro c ⟨c',e',hc⟩;rw[e] at e';cases e';rcases hc with hc|⟨cs3,hb3,hc⟩
  ·subst hc;exact⟨⟨c,e,.inl rfl⟩,λh=>hx<|hown c h⟩
  ·rw[hb] at hb3;cases hb3;exact⟨⟨b,e,.inr ⟨cs,hb,(nw c hc).1⟩⟩,(nw c hc).2⟩
 have hb2:∀c,v.ownBlock=some c->(AQ.D8 T gg ps).owns w (Ae a t) c:=λc hc=>⟨b,e,.inr ⟨cs,hb,hown c hc⟩⟩
 have sub:∀q∈BI k (BI t Γ),q∈Γ/\q.1≠t/\q.1≠k:=λq hq=>⟨(DM q (DM q hq).1).1,(DM q (DM q hq).1).2,(DM q hq).2⟩
 refine h v h1 a w H ⟨hs.nd,hs.sz,hs.below,hs.Fe,hs.sub,?_,?_,hs.gl⟩
 ·intro p hp;rcases Ao.1 hp with e1|hp
  ·subst e1;exact h4
  rcases Ao.1 hp with e1|hp
  ·subst e1;exact⟨b,cs,e,hb,hnb,hm,k1,k2,λhc=>hx (nw b hc).1⟩
  ·exact hs.holds p (sub p hp).1
 ·intro p hp q hq hne c hc FI;rcases Ao.1 hp with e1|hp
  ·subst e1;rcases Ao.1 hq with e2|hq
   ·subst e2;exact hne rfl
   rcases Ao.1 hq with e2|hq
   ·subst e2;exact(hb1 c FI).2 hc
   ·exact hs.sep _ (B6 ht) q (sub q hq).1 (λe=>(sub q hq).2.1 e.symm) c (hb2 c hc) FI
  rcases Ao.1 hp with e1|hp
  ·subst e1;rcases Ao.1 hq with e2|hq
   ·subst e2;exact(hb1 c hc).2 FI
   rcases Ao.1 hq with e2|hq
   ·subst e2;exact hne rfl
   ·exact hs.sep _ (B6 ht) q (sub q hq).1 (λe=>(sub q hq).2.1 e.symm) c (hb1 c hc).1 FI
  ·rcases Ao.1 hq with e2|hq
   ·subst e2;exact hs.sep p (sub p hp).1 _ (B6 ht) (sub p hp).2.1 c hc<|hb2 c FI
   rcases Ao.1 hq with e2|hq
   ·subst e2;exact hs.sep p (sub p hp).1 _ (B6 ht) (sub p hp).2.1 c hc (hb1 c FI).1
   ·exact hs.sep p (sub p hp).1 q (sub q hq).1 hne c hc FI
def aag{fn:Func}{rs:A3 ResultVar}{Bm:A3 Ty}{w1:AR}{v:AW}{s:AQ}(hk:jR P w0 H0 w1 v s)(hr:fn.results=rs.toArray)(h:AZ P Γ rs Bm):EJ w0 H0 N (λa w=>rz P fn w1 H0 v s .gone Bm .ret a w) Γ:=λa w H hs=>by
 let⟨e1,e2,e3⟩:=hk;subst e1;refine VW rfl rfl (a:=a) (ds:=a.defers) hs λw H hs=>?_
 let⟨vs,h1,h2⟩:=h.run hs;have hlen:=S4 h2;rw[YU hr];simp only[E0,Sem.run_map,h1,Dn,KB];refine⟨_,rfl,_,rfl,H,⟨hs.below.size,hs.below.os,hs.below.tape,hs.below.output,hs.below.drawn,?_,?_,hs.sub⟩,trivial,(λb hb=>hb.elim),?_⟩
 ·intro r o ho;rw[hs.Fe rfl r (e3 r o ho) (λhx=>by have:=e2 r hx;rw[this] at ho;cases ho)];exact ho
 ·exact λb hb hx=>⟨hs.below.block rfl b hb hx,hs.Fe rfl b hb hx⟩
 ·match Bm,h2,hlen with
  |[],h2,hl=>have:vs=[]:=h2;subst this;exact⟨#[],rfl,rfl⟩
  |[τ],h2,hl=>let⟨v,rest,e,hv,hr⟩:=h2;have:rest=[]:=hr;subst this;subst e;exact hv
  |τ::Gp::l,h2,hl=>
   have: ¬vs.toArray.size=1:=by simp[hl]
   rw[dif_neg this];exact⟨vs.toArray,rfl,by simpa using h2⟩
end
section
variable{p:CO}
def aeA{w w':AR}{at_:Addr}{u:Ap}{k:Addr}{v:AW}{b:Bool}{l:A3 Addr}(h:w.viewStore p at_ u k v b= .ok (w',l)):w'.drawn=w.drawn:=by
 unfold World.viewStore at h;simp only[bind,Except.bind,pure,Except.pure,MonadExcept.throw,throwThe,MonadExceptOf.throw] at h
 repeat' (split at h)
 all_goals first|(cases h;done)|skip
 all_goals (cases h;rfl)
def aem{w w':AR}{a:Addr}{v:AW}{b:Bool}{l:A3 Addr}(h:w.farStore p a v b= .ok (w',l)):w'.drawn=w.drawn:=by
 unfold World.farStore at h;split at h
 ·split at h
  ·cases h;rename_i h2;exact aeA h2
  ·cases h
 ·cases h
def oN{α:Type}:∀(q:Ask α) (w:AR),w.drawn<=(w.ask q).2.drawn
 | .done a,w=>by simp[World.ask]
 | .ask avS range k,w=>by
  unfold World.ask;simp only;split
  ·exact oN _ w
  ·exact Cu (Qb w.drawn)<|oN _ {w with drawn:=w.drawn+1}
def aiG(w:AR)(c:Sys):w.drawn<=(w.sys c).2.drawn:=by
 unfold World.sys;split
 ·exact BM _
 ·rename_i h;have:=oN (Kernel.perform c w.os) w;rw[h] at this;exact this
def aiY{α:Type}:∀(s:Sem α) {w w':AR} {v:α},s.run p w= .ok v w'->w.drawn<=w'.drawn:=by
 intro s
 induction s with
 |pure a=>intro w w' v h;simp only[Sem.run] at h;cases h;exact BM _
 |load m a k ih=>
  intro w w' v h;simp only[Sem.run] at h;split at h
  ·exact ih _ h
  ·split at h
   ·exact ih _ h
   ·cases h
 |store m a u k ih=>
  intro w w' v h;have key:∀r:Result α,(match w.cell? a with
   |some _=>if w.frozen? a then Result.halt (.unsupported<| .unsafePointer "a write to bytes that a string shares") w else k.run p (w.setCell a u)
   |none=>match w.farStore p a u (m== .atomic) with
    | .ok (w,_)=>k.run p w
    | .error h=>Result.halt h w)=r->r= .ok v w'->w.drawn<=w'.drawn:=by
   intro r hr e;subst e;split at hr
   ·split at hr
    ·cases hr
    ·have:= @ih _ _ _ hr;exact this
   ·split at hr
    ·rename_i w2 l h2;have:=ih hr;rwa [aem h2] at this
    ·cases hr
  cases u<;>first|(unfold Sem.run at h;cases h;done)|(unfold Sem.run at h;exact key _ rfl h)
 |new o k ih=>intro w w' v h;simp only[Sem.run] at h;have:= @ih _ _ _ _ h;exact this
 |shape r k ih=>intro w w' v h;simp only[Sem.run] at h;exact ih _ h
 |freeze a n k ih=>
  intro w w' v h;simp only[Sem.run] at h;have:=ih h;have e:(w.freeze a n).drawn=w.drawn:=by unfold World.freeze;split<;>rfl
  rwa [e] at this
 |frozen a k ih=>intro w w' v h;simp only[Sem.run] at h;exact ih _ h
 |getObj r k ih=>intro w w' v h;simp only[Sem.run] at h;split at h<;>first|(cases h;done)|exact ih _ h
 |setObj r o k ih=>
  intro w w' v h;simp only[Sem.run] at h;split at h
  ·cases h
  ·have:= @ih _ _ _ h;exact this
  ·cases h
 |choose q k ih=>
  intro w w' v h;simp only[Sem.run] at h;split at h
  ·exact ih _ h
  ·have:= @ih _ _ _ _ h;exact Cu (Qb _) this
 |sys c k ih=>intro w w' v h;simp only[Sem.run] at h;exact Cu (aiG w c)<|ih _ h
 |program k ih=>intro w w' v h;simp only[Sem.run] at h;exact ih _ h
 |mark m k ih=>intro w w' v h;simp only[Sem.run] at h;exact ih h
 |halt h=>intro w w' v e;simp only[Sem.run] at e;cases e
end
section
variable[D:DR]
variable{P:Program}{w0:Aj P}{H0:HV}{N:Nat}{ops:Array Oper}{Q:Exit->Act->World->Prop}{Γ An:Ctx}{d:Option Tmp}{ty:TypeId}{pos:String}{af:Array Edge}{g:Option (Nat×Bool)}
def Ro{f:FuncId}{args Bm:A3 Ty}(hc:Gi P f=true)
  (h:∀(w:AR) (H:HV) (vs:A3 AW),(∀r o,H r=some o->w.heap[r]? =some o)->LR P H->Ed H args vs->Calls P f vs.toArray w λe w'=>∃v,e= .returned v/\FV w.heap.size w w'/\LS H Bm v):Eg P f args (.vs Bm):=
 ⟨hc,λw H vs sub gl ha=>(h w H vs sub gl ha).mono λe w' ⟨v,he,hb,hv⟩=>⟨v,he,hb,H,λ_ _=>rfl,λr o hr=>by have:=sub r o hr;rw[hb.block r<|lt_of_heap this];exact this,hv⟩⟩
def lB(l:A3 UInt8):A3 Ty:=l.map λb=>TI .u8 (b.toNat:Int)
def aG{H:HV}:∀{l:A3 UInt8} {xs:A3 AW},DQ H (lB l) xs↔xs=Lib.byteCells l
 |[],xs=>Iff.rfl
 |b::l,xs=>by
  show DQ H (TI .u8 (b.toNat:Int)::lB l) xs↔_;constructor
  ·rintro⟨v,rest,e,hv,hr⟩;have hv:v= .int .u8 b.toNat:=hv;subst hv;rw[aG] at hr;subst hr;exact e
  ·intro e;exact⟨.int .u8 b.toNat,Lib.byteCells l,e,rfl,aG.2 rfl⟩
def oG(l:A3 UInt8):(lB l).length=l.length:=by simp[lB]
def agX{T E:Ap}(h:(P.info? T).bind (·.zero)=some (.agg #[.pointer none,.slice none 0 0])):Az P Γ ⟨d,.alloc T,ty,pos,af,g⟩ (.I8 T E<|lB []):=
 MG λw0 _ _ a w H hs=>by
  have hz:Dp P T (Iu 2 true):=Ff _ h<|λ_=>Kj rfl rfl
  have hr:(zeroValue T).run P w= .ok (.agg #[.pointer none,.slice none 0 0]) w:=by
   cases hi:P.info? T with
   |none=>rw[hi] at h;cases h
   |some i=>rw[hi] at h;exact ux hi h w
  refine⟨.pointer<|some ⟨w.heap.size,0,none⟩,w.alloc<| .cells #[.pointer none,.slice none 0 0] T,H,?_,Ext.alloc hs.sub _,?_,?_⟩
  ·simp[execOp,Instr.alloc,hr,newVar,newRow,Value.cells]
  ·refine⟨w.heap.size,_,_,rfl,Lv w _,.inl rfl,?_,.inl hs.below.size,xY,by simp[Value.ownBlock]⟩;cases hh:H w.heap.size with
   |none=>rfl
   |some o=>have:=HO hs.sub hh;omega
  ·rintro b ⟨c,e,hb⟩;cases e;rcases hb with hb|⟨p,r,hc,hb⟩
   ·omega
   ·rw[Lv] at hc;simp at hc;obtain⟨rfl,rfl⟩:=hc;simp[Value.ownBlock] at hb
def ang{w:AR}{t u ty e:Ap}{i:TypeInfo}(ht:P.underlying t=some (.slice e))(hu:P.underlying u=some .string)(hi:P.info? e=some i)(hz:i.zero=some (.int .u8 0))(Uc:i.size=1)(hby:i.bytes=1)
  {v:AW}{n:Nat}{xs:A3 AW}(hown:w.ownsRow 0 e 1 v n xs)(s:ByteArray)(hlen:n+s.size<=140737488355328):∃v' w',(Builtin.append_ #[t,u] ty #[v,.string s]).run P w= .ok v' w'/\w'.ownsRow 0 e 1 v' (n+s.size) (xs++Lib.strCells s)/\Ee w w' v.ownBlock/\
   ∀b,v'.ownBlock=some b->v.ownBlock=some b\/w.heap.size<=b:=by
 have Gv:n+s.size<=maxLen:=by unfold maxLen;omega
 let⟨v',w',hr,h2,h3,h4⟩:=Lib.run_append_own_string (P:=P) w 0 t u ty e i ht hu hi hz Uc hby v n xs hown s Gv hlen<|FY _
 refine⟨v',w',hr,h2,⟨h3,H5.of<|aiY _ hr⟩,λb hb=>?_⟩;have GS:xs.length=n:=by simpa using hown.1
 rcases hown.2 with⟨rfl,rfl⟩|⟨g,cap,cur,rfl,hbg,hg,hnc,hcm,hcs,htake⟩
 ·by_cases hm:s.size=0
  ·rw[h4.2 ⟨rfl,hm⟩] at hb;simp[Value.ownBlock] at hb
  ·have Hi:=run_append_nil_string (P:=P) w t u ty e i (.int .u8 0) ht hu hi hz s (by omega) (by omega) (by rw[hby];omega);rw[hr] at Hi;cases Hi;simp[Value.ownBlock] at hb;exact .inr (by omega)
 ·by_cases Sj:n+s.size<=cap
  ·have Hi:=Lib.run_append_room_string (P:=P) w t u ty e i ht hu hi Uc g n cap cur hg s Sj (by omega);rw[hr] at Hi;cases Hi;exact .inl hb
  ·have holds:∀j u,xs[j]? =some u->w.cell? ((⟨g,0,none⟩:Addr).add j)=some u:=hown.cells (g:=g) rfl;have Hi:=Lib.run_append_grow_string (P:=P) w t u ty e i (.int .u8 0) ht hu hi hz ⟨g,0,none⟩ n cap xs (by rw[Uc];simpa using GS) holds s (by omega) (by omega) (by rw[hby];exact growslice_fits (by omega) (by omega));rw[hr] at Hi;cases Hi;simp[Value.ownBlock] at hb;exact .inr (by omega)
def anm{w:AR}{ops:BA Oper}{rest:A3 Oper}{o:Oper}{a:Act}{Q:Exit->Act->AR->Prop}(hgd:o.guard=none)(sl x:CH)(t u:Ap)
  (ho:o.op= .call {callee:= .builtin .append,args:= #[sl,x],argTypes:= #[t,u]})
  (e:Ap)(i:TypeInfo)(ht:P.underlying t=some (.slice e))(hu:P.underlying u=some .string)(hi:P.info? e=some i)(hz:i.zero=some (.int .u8 0))(Uc:i.size=1)(hby:i.bytes=1)
  (v:AW)(n:Nat)(xs:A3 AW)(hs:a.eval sl=v)(hown:w.ownsRow 0 e 1 v n xs)(s:ByteArray)(hx:a.eval x= .string s)(hlen:n+s.size<=140737488355328)
  (h:∀v' w',w'.ownsRow 0 e 1 v' (n+s.size) (xs++Lib.strCells s)->Ee w w' v.ownBlock->(∀b,v'.ownBlock=some b->v.ownBlock=some b\/w.heap.size<=b)->wpList P ops Q rest (a.put o.dst v') w'):wpList P ops Q (o::rest) a w:=by
 refine wpList_plain hgd λK hK=>?_
 let⟨v',w',hr,h2,h3,h4⟩:=ang (P:=P) (ty:=o.type) ht hu hi hz Uc hby hown s hlen;unfold Oper.wp execOp;simp only[ho,resolve,invoke,builtin,E0,KB,Dn,List.map_toArray,MO,ZM,hs,hx,hr];exact hK _ _<|h v' w' h2 h3 h4
end
section
open Go.Shelf
variable[D:DR]
variable{P:Program}{ρ:Ren}
variable{w:AR}{M:Nat->Prop}{b:Nat}{p v:AW}{w':AR}{H:HV}{T:Ap}{l:A3 UInt8}{vs:A3 AW}
structure Tr(M:Nat->Prop)(w w':AR):Prop where
 size:w.heap.size<=w'.heap.size
 os:w'.os=w.os
 tape:w'.tape=w.tape
 output:w'.output=w.output
 drawn:H5 w w'
 E3:∀k,k<w.heap.size-> ¬M k->w'.heap[k]? =w.heap[k]?
def Tr.refl(M:Nat->Prop)(w:AR):Tr M w w:=⟨BM _,rfl,rfl,rfl,BM _,λ_ _ _=>rfl⟩
def Tr.trans{M:Nat->Prop}{w w' w'':AR}(h:Tr M w w')(k:Tr M w' w''):Tr M w w'':=⟨Cu h.size k.size,k.os.trans h.os,k.tape.trans h.tape,k.output.trans h.output,Cu h.drawn k.drawn,λi hi hm=>(k.E3 i (Jn hi h.size) hm).trans<|h.E3 i hi hm⟩
def Tr.setCell{M:Nat->Prop}(w:AR)(a:Addr)(x:AW)(h:M a.block):Tr M w (w.setCell a x):=⟨by simp[World.setCell],rfl,rfl,rfl,BM _,λk _ hk=>Below.heap_setCell _ _ _ _<|λe=>hk<|e▸h⟩
def Tr.grown{row:AA Nat}(h:Ee w w' row)(hr:∀k,row=some k->M k):Tr M w w':=⟨h.size,h.os,h.tape,h.output,h.drawn,λk hk hm=>h.block k hk<|λe=>hm<|hr k e.symm⟩
def Tr.mono{M2:Nat->Prop}{w2:AR}(h:Tr M w w2)(k:∀b,M b->M2 b):Tr M2 w w2:=⟨h.size,h.os,h.tape,h.output,h.drawn,λi hi hm=>h.E3 i hi<|λx=>hm<|k i x⟩
def Tr.drew{M:Nat->Prop}(w:AR):Tr M w w.drew:=⟨BM _,rfl,rfl,rfl,H5.of<|Qb _,λ_ _ _=>rfl⟩
def Tr.LV(h:Tr M w w')(sub:∀r o,H r=some o->w.heap[r]? =some o)(hM:∀b,M b->H b=none):R0 M w H w' H:=
 ⟨h.size,h.os,h.tape,h.output,h.drawn,HV.le.refl _,λb hb hm=>⟨h.E3 b hb hm,rfl⟩,λr o hr=>by have hw:=sub r o hr;rw[h.E3 r (lt_of_heap hw) (λhm=>by rw[hM r hm] at hr;cases hr)];exact hw⟩
def o6(hb:w.heap[b]? =some (.cells #[p,v] T (0,0))):w.cell? ⟨b,0,none⟩=some p/\w.cell? ⟨b,1,none⟩=some v/\w.shape? b=some (T,2)/\(∀j,w.frozen? ⟨b,j,none⟩=false):=⟨by rw[ZV hb];rfl,by rw[ZV hb];rfl,by simp[World.shape?,hb],λj=>Lib.frozen_of_heap hb j⟩
def aj5{x:AW}(hb:w.heap[b]? =some (.cells #[p,v] T (0,0))):(w.setCell ⟨b,1,none⟩ x).heap[b]? =some (.cells #[p,x] T (0,0)):=by simp[World.setCell,UG,hb]
def aj6{x:AW}(hb:w.heap[b]? =some (.cells #[p,v] T (0,0))):(w.setCell ⟨b,0,none⟩ x).heap[b]? =some (.cells #[x,v] T (0,0)):=by simp[World.setCell,UG,hb]
def ajT(L:Lays.n240 P ρ)(X:Builder.X72 P ρ)(hb:w.heap[b]? =some (.cells #[p,v] (ρ.t 72) (0,0)))(hp:p= .pointer none\/p= .pointer (some ⟨b,0,none⟩)):Calls P (ρ.f 240) #[.pointer<|some ⟨b,0,none⟩] w λe w'=>e= .returned (.tuple #[])/\w'.heap[b]? =some (.cells #[.pointer<|some ⟨b,0,none⟩,v] (ρ.t 72) (0,0))/\Tr (λk=>k=b) w w'/\w'.heap.size=w.heap.size:=by
 let⟨c0,c1,CT,hfz⟩:=o6 hb;rcases hp with rfl|rfl
 ·refine(Any.Builder_copyCheck_fresh L X b w c0 CT<|hfz 0).mono ?_;rintro e w' ⟨rfl,rfl⟩;exact⟨rfl,aj6 hb,Tr.setCell w _ _ rfl,by simp[World.setCell]⟩
 ·refine(Any.Builder_copyCheck_used L X b w c0).mono ?_;rintro e w' ⟨rfl,rfl⟩;exact⟨rfl,hb,Tr.refl _ _,rfl⟩
def yU{e:Ap}{n:Nat}{xs:A3 AW}(h:w.ownsRow 0 e 1 v n xs)(hk:∀g,v.ownBlock=some g->w'.heap[g]? =w.heap[g]?):w'.ownsRow 0 e 1 v n xs:=by
 refine⟨h.1,?_⟩;rcases h.2 with h|⟨g,cap,cur,e1,h1,hc,h2⟩
 ·exact .inl h
 ·exact .inr ⟨g,cap,cur,e1,h1,by rw[hk g (by rw[e1];rfl)];exact hc,h2⟩
set_option maxHeartbeats 2000000 in
set_option maxRecDepth 100000 in
def aeK(L:Lays.n166 P ρ)(X:Builder.Extra P ρ){bs:A3 AW}(s:ByteArray)(hb:w.heap[b]? =some (.cells #[p,v] (ρ.t 72) (0,0)))(hp:p= .pointer none\/p= .pointer (some ⟨b,0,none⟩))
 (hown:w.ownsRow 0 (ρ.t 5) 1 v bs.length bs)(hne:v.ownBlock≠some b)(hlen:bs.length+s.size<=140737488355328):Calls P (ρ.f 166) #[.pointer<|some ⟨b,0,none⟩,.string s] w λe w'=>e= .returned (.tuple #[.int .i64 s.size,.nilIface])/\∃v',w'.heap[b]? =some (.cells #[.pointer<|some ⟨b,0,none⟩,v'] (ρ.t 72) (0,0))/\w'.ownsRow 0 (ρ.t 5) 1 v' (bs.length+s.size) (bs++Lib.strCells s)/\v'.ownBlock≠some b/\
   (∀g,v'.ownBlock=some g->v.ownBlock=some g\/w.heap.size<=g)/\Tr (λk=>k=b\/v.ownBlock=some k) w w':=by
 let⟨i0,hi,hz0,hz1,hz2⟩:=info_parts X.infoByte;have hblt:b<w.heap.size:=lt_of_heap hb;have mixed:=L.mixed;have t72:=L.t72;have a72:=L.a72;have z72:=L.z72;have v72:=L.v72;have u72:=Kd L.t72;have t70:=L.t70;have a70:=L.a70;have z70:=L.z70;have v70:=L.v70;have u70:=Kd L.t70;have t37:=L.t37;have a37:=L.a37;have z37:=L.z37;have v37:=L.v37;have u37:=Kd L.t37;have t3:=L.t3;have a3:=L.a3;have z3:=L.z3;have v3:=L.v3;have u3:=Kd L.t3;have t9:=L.t9;have a9:=L.a9;have z9:=L.z9;have v9:=L.v9;have u9:=Kd L.t9;have t4:=L.t4;have a4:=L.a4;have z4:=L.z4;have v4:=L.v4;have u4:=Kd L.t4;have t164:=L.t164;have a164:=L.a164;have z164:=L.z164;have v164:=L.v164;have u164:=Kd L.t164;have t5:=X.t5;have a5:=X.a5;have z5:=X.z5;have v5:=X.v5;have u5:=Kd X.t5;have e240:∀args w,(callFunc (ρ.f 240) args).run P w= .ok (.enter (ρ.f 240) args) w:=enters_of L.f240 A7 rfl
 go_enter L.f166,Body.n166_ntmps ρ
 go_wp2_with (go_at_fn (ρ.f 240);refine(ajT {L with} X.toX72 hb hp).mono ?_)
 rintro e w1 ⟨rfl,hb1,ht1,hs1⟩;have hown1:w1.ownsRow 0 (ρ.t 5) 1 v bs.length bs:=yU hown λg hg=>ht1.E3 g (hown.lt g hg).2 (λe=>hne (by rw[hg,e]))
 let⟨c0,c1,_,_⟩:=o6 hb1
 go_wp2_with (at_builtin;refine anm rfl _ _ (ρ.t 37) (ρ.t 9) rfl (ρ.t 5) i0 L.t37 L.t9 hi hz0 hz1 hz2 _ _ _ rfl hown1 s rfl hlen ?_)
 intro v' w2 hown' hgrow hfr;have hb2:w2.heap[b]? =some (.cells #[.pointer<|some ⟨b,0,none⟩,v] (ρ.t 72) (0,0)):=by rw[hgrow.block b (by omega)<|λe=>hne e.symm];exact hb1
 let⟨d0,d1,_,hf⟩:=o6 hb2;have f1:=hf 1;have hne':v'.ownBlock≠some b:=λe=>by
  rcases hfr b e with h|h
  ·exact hne h
  ·omega
 obtain⟨ao,n',cap,rfl⟩:∃ao n' cap,v'= .slice ao n' cap:=by
  rcases hown'.2 with⟨hv,_⟩|⟨g,cap,cur,hv,_⟩
  ·exact⟨_,_,_,hv⟩
  ·exact⟨_,_,_,hv⟩
 go_wp2
 go_ret2
 refine⟨rfl,_,aj5 hb2,yU hown' λg hg=>?_,hne',λg hg=>by have:=hfr g hg;omega,?_⟩
 ·exact Below.heap_setCell _ _ _ _ (λe=>hne' (by rw[hg,e]))
 ·exact((ht1.mono<|λk h=> .inl h).trans<|Tr.grown hgrow<|λk h=> .inr h).trans<|Tr.setCell _ _ _<| .inl rfl
def Tr.freeze{M:Nat->Prop}(w:AR)(a:Addr)(n:Nat)(h:M a.block):Tr M w (w.freeze a n):=by
 unfold World.freeze;split
 ·exact Tr.refl _ _
 ·refine⟨by simp,rfl,rfl,rfl,BM _,λk _ hk=>?_⟩;simp only[UG];rw[if_neg (λ(e:a.block=k)=>hk (by rw[<-e];exact h))]
set_option maxHeartbeats 1000000 in
set_option maxRecDepth 100000 in
def adp(L:Lays.n169 P ρ)(X:Builder.Extra P ρ)(hbk:w.heap[b]? =some (.cells #[p,v] (ρ.t 72) (0,0)))(hown:w.ownsRow 0 (ρ.t 5) 1 v l.length (Lib.byteCells l))(h0:l≠[]):Calls P (ρ.f 169) #[.pointer<|some ⟨b,0,none⟩] w λe w'=>e= .returned (.string ⟨l.toArray⟩)/\Tr (λk=>v.ownBlock=some k) w w':=by
 have hl0:l.length≠0:=by simpa using h0
 obtain⟨g,cap,cur,rfl,hg,hnc,hcm,hcs,htake⟩:∃g cap cur,v= .slice (some ⟨g,0,none⟩) l.length cap/\w.heap[g]? =some (.cells cur (ρ.t 5) (0,0))/\l.length<=cap/\cap<=maxLen/\cur.size=cap*1/\cur.toList.take (l.length*1)=Lib.byteCells l:=by
  rcases hown.2 with⟨_,hz⟩|⟨g,cap,cur,hv,_,r⟩
  ·exact absurd hz hl0
  ·exact⟨g,cap,cur,hv,r⟩
 have c1:w.drew.cell? ⟨b,1,none⟩=some (.slice (some ⟨g,0,none⟩) l.length cap):=by have:w.drew.heap[b]? =some (.cells #[p,.slice (some ⟨g,0,none⟩) l.length cap] (ρ.t 72) (0,0)):=hbk;rw[ZV this];rfl
 have hSD:(Builtin.unsafeSliceData_ #[(ρ.t 37)] (ρ.t 127) #[.slice (some ⟨g,0,none⟩) l.length cap]).run P w.drew= .ok (.pointer<|some ⟨g,0,none⟩) w.drew:=Lib.run_unsafeSliceData_row _ _ _ _ _ _ (by omega)
 have hUS:(Builtin.unsafeString_ #[(ρ.t 127),(ρ.t 3)] (ρ.t 9) #[.pointer<|some ⟨g,0,none⟩,.int .i64 l.length]).run P w.drew= .ok (.string ⟨l.toArray⟩) (w.drew.freeze ⟨g,0,none⟩ l.length):=by refine Lib.run_unsafeString_row w.drew (ρ.t 127) (ρ.t 3) (ρ.t 9) (ρ.t 5) L.t127 X.cellsByte g cur.size (by have hg':w.drew.heap[g]? =some (.cells cur (ρ.t 5) (0,0)):=hg;simp[World.shape?,hg']) l h0 (by omega) (by unfold maxLen at hcm;omega) ?_;intro j x hx;exact hown.cells (g:=g) rfl j (.int .u8 x.toNat) (by simp[Lib.byteCells,hx])
 have mixed:=L.mixed;have t72:=L.t72;have a72:=L.a72;have z72:=L.z72;have v72:=L.v72;have u72:=Kd L.t72;have t70:=L.t70;have a70:=L.a70;have z70:=L.z70;have v70:=L.v70;have u70:=Kd L.t70;have t37:=L.t37;have a37:=L.a37;have z37:=L.z37;have v37:=L.v37;have u37:=Kd L.t37;have t127:=L.t127;have a127:=L.a127;have z127:=L.z127;have v127:=L.v127;have u127:=Kd L.t127;have t3:=L.t3;have a3:=L.a3;have z3:=L.z3;have v3:=L.v3;have u3:=Kd L.t3;have t9:=L.t9;have a9:=L.a9;have z9:=L.z9;have v9:=L.v9;have u9:=Kd L.t9;have t5:=X.t5;have a5:=X.a5;have z5:=X.z5;have v5:=X.v5;have u5:=Kd X.t5
 go_enter L.f169,Body.n169_ntmps ρ
 go_wp2
 go_region_o
 all_goals (go_wp2;go_ret;exact⟨rfl,(Tr.drew w).trans<|Tr.freeze _ _ _ rfl⟩)
def Vu(l s:A3 UInt8):AA (A3 UInt8×Int×Unit):=EN (Nat.ble (l.length+s.length) 140737488355328) (l++s,(s.length:Int),())
def Yc(l:A3 UInt8):AA (A3 UInt8):=EN (!l.isEmpty) l
theorem HJ{α:Type}{b:Bool}{x r:α}(h:EN b x=some r):b=true/\x=r:=by grind [EN]
def ZC(h:Ed H [] vs):vs=[]:=h
theorem PY{τ:Ty}(h:Ed H [τ] vs):∃v,vs=[v]/\τ.ok H v:=by simp_all [Ed,Ty.ok]
theorem Tw{τ σ:Ty}(h:Ed H [τ,σ] vs):∃v u,vs=[v,u]/\τ.ok H v/\σ.ok H u:=by(simp_all [Ed,Ty.ok]<;>grind)
def byteCells_append(l s:A3 UInt8):Lib.byteCells (l++s)=Lib.byteCells l++Lib.byteCells s:=by simp[Lib.byteCells]
def ajS(L:Lays.n166 P ρ)(X:Builder.Extra P ρ)(hc:Gi P (ρ.f 166)=true){s:A3 UInt8}{r:A3 UInt8×Int×Unit}(hm:Vu l s=some r):JG P (ρ.f 166) [] (.I8 (ρ.t 72) (ρ.t 5)<|lB l) (.I8 (ρ.t 72) (ρ.t 5)<|lB r.1) [TS s] [TI .i64 r.2.1,tF r.2.2]:=by
 obtain⟨hb,rfl⟩:=HJ hm;have hb:=Fa hb;refine⟨hc,λw H v ps qs sub gl hp hq hs=>?_⟩;have hp:=ZC hp;subst hp;obtain⟨x,rfl,hx⟩:=PY hq;have hx:x= .string ⟨s.toArray⟩:=hx;subst hx;obtain⟨b,p,row,rfl,hbk,hpp,hn,hB,⟨xs,hown,Ax,hH⟩,hne⟩:=hs;rw[aG] at Ax;subst Ax;rw[oG] at hown;refine(aeK L X (bs:=Lib.byteCells l) ⟨s.toArray⟩ hbk hpp (by simpa[Lib.byteCells] using hown) hne (by simpa[Lib.byteCells,ByteArray.size] using hb)).mono ?_;rintro e w' ⟨rfl,v',Ba,K1,hne',hfr,ht⟩;have Et:Lib.strCells ⟨s.toArray⟩=Lib.byteCells s:=rfl;have hmo:∀k,k=b\/row.ownBlock=some k->(AQ.I8 (ρ.t 72) (ρ.t 5)<|lB l).owns w (.pointer<|some ⟨b,0,none⟩) k:=λk h=>⟨b,rfl,h.imp id λh=>⟨p,row,hbk,h⟩⟩
 have hMn:∀k,(AQ.I8 (ρ.t 72) (ρ.t 5)<|lB l).owns w (.pointer<|some ⟨b,0,none⟩) k->k=b\/row.ownBlock=some k:=by
  rintro k ⟨c,e,h⟩;cases e;rcases h with h|⟨p',r',FI,h⟩
  ·exact .inl h
  ·have e2:=hbk.symm.trans FI;simp at e2;obtain⟨rfl,rfl⟩:=e2;exact .inr h
 refine⟨_,rfl,H,(ht.mono hmo).LV sub<|λk hk=>?_,⟨b,_,v',rfl,Ba,.inr rfl,hn,hB,⟨_,?_,aG.2 rfl,λg hg=>?_⟩,hne'⟩,?_,⟨#[.int .i64 s.length,.nilIface],?_,_,_,rfl,rfl,_,_,rfl,rfl,rfl⟩⟩
 ·rcases hMn k hk with rfl|h
  ·exact hn
  ·exact(hH k h).1
 ·rw[oG,byteCells_append,Dg];exact(by simpa[Lib.byteCells,ByteArray.size,Et] using K1)
 ·rcases hfr g hg with h|h
  ·exact hH g h
  ·refine⟨?_,.inl h⟩;cases hh:H g with
   |none=>rfl
   |some o=>have:=HO sub hh;omega
 ·rintro k ⟨c,e,h⟩;cases e;rcases h with h|⟨p',r',FI,h⟩
  ·exact .inl<|hmo k<| .inl h
  ·have e2:=Ba.symm.trans FI;simp at e2;obtain⟨rfl,rfl⟩:=e2;exact(hfr k h).imp (λh=>hmo k<| .inr h) id
 ·simp[ByteArray.size]
theorem zR{E:Ap}{l:A3 Ty}{row:AW}(hbk:w.heap[b]? =some (.cells #[p,row] T (0,0)))(k:Nat):(AQ.I8 T E l).owns w (.pointer<|some ⟨b,0,none⟩) k↔k=b\/row.ownBlock=some k:=by grind [AQ.owns]
def ahx(L:Lays.n169 P ρ)(X:Builder.Extra P ρ)(hc:Gi P (ρ.f 169)=true){r:A3 UInt8}(hm:Yc l=some r):JG P (ρ.f 169) [] (.I8 (ρ.t 72) (ρ.t 5)<|lB l) .gone [] [TS r]:=by
 obtain⟨h0,rfl⟩:=HJ hm;refine⟨hc,λw H v ps qs sub gl hp hq hs=>?_⟩;have hp:=ZC hp;subst hp;have hq:=ZC hq;subst hq;obtain⟨b,p,row,rfl,hbk,hpp,hn,hB,⟨xs,hown,Ax,hH⟩,hne⟩:=hs;rw[aG] at Ax;subst Ax;rw[oG] at hown;refine(adp L X hbk hown (by rintro rfl;simp at h0)).mono ?_;rintro e w' ⟨rfl,ht⟩;exact⟨_,rfl,H,(ht.mono λk h=>(zR hbk k).2<| .inr h).LV sub (λk hk=>by
  rcases(zR hbk k).1 hk with rfl|h
  ·exact hn
  ·exact(hH k h).1),trivial,λk hk=>hk.elim,rfl⟩
instance instDecAVec:DecidableEq (A3 UInt8×A3 UInt8×A3 UInt8):=inferInstance
end
section
open Go.Shelf
variable[D:DR]
variable{P:Program}{ρ:Ren}
variable{P:Program}{N:Nat}{ops:Array Oper}{Γ:Ctx}{ty:TypeId}{pos:String}{af:Array Edge}
def oY{u t dd:Nat}{s:AQ}(hu:look Γ u=some (.same t))(ht:look Γ t=some s)(hl:s.CA=[])(DK:dd<N)(o:Op)(ho:o= .assign (.tmp u)\/o= .move (.tmp u)):Step P N ops ⟨some dd,o,ty,pos,af,none⟩ Γ ((dd,s)::del dd (BI t Γ)):=by
 intro w0 H0 a w H BF K Q k;simp[Region.wanted,if_true];have eu:Ae a u=Ae a t:=BF.holds _<|B6 hu
 have er:(execOp a.eval ⟨some dd,o,ty,pos,af,none⟩).run P w= .ok (.value<|Ae a t) w:=by rw[<-eu];rcases ho with rfl|rfl<;>rfl
 unfold Oper.wp;rw[er,OV];exact k _ w H (Vo BF (B6 ht) (nU w) (λ_ e=>by cases e) DK (by rw[hl];simp) (BF.holds _<|B6 ht) λ_ h=> .inl h)
end
section
open Go.Shelf
variable[D:DR]
variable{P:Program}{ρ:Ren}
def Vh{α:Type}(l:A3 α):AA (A3 α):=EN (Nat.blt l.length 4000000000) l
def QY(x y:Int):AA (Int×Int):=bif HB x&&HB y then some (x*y/GP,x*y%GP) else none
def Nt(n:Nat):Nat:=bif Nat.beq n 0 then 0 else Nat.log2 n+1
def ZE(x:Int):AA Int:=bif HB x then some (Nt x.toNat:Int) else none
def Wd(x:Int):AA Int:=bif HB x then some (64-(Nt x.toNat:Int)) else none
end
section
variable[D:DR]
variable{P:Program}{w0:Aj P}{H0:HV}{N:Nat}{ops:Array Oper}{Q:Exit->Act->World->Prop}{Γ An:Ctx}{d:Option Tmp}{ty:TypeId}{pos:String}{af:Array Edge}{g:Option (Nat×Bool)}
variable{α:Type}{f:α->Ty}{l:A3 α}{t:Nat}{T E:Ap}{sz:Nat}{pre post:A3 AW}{y:α}{p j:Nat}{x:CH}{z:α}
def N0{s ix:CH}{k:IntKind}{i:Int}(hT:G1 P T sz=true)(hs:Ep Γ s t)(ht:look Γ t=some (.Ez E pre post<|lT f l))(hi:Arg Γ ix (TI k i))(h:AB l i=some y):Az P Γ ⟨d,.indexAddr T s ix,ty,pos,af,g⟩ (.ND t i.toNat sz):=
 Dj λw0 _ _ a w H BF=>by
  let⟨h0,h1,h3⟩:=I9 h;let⟨b,c,cur,xs,e,_⟩:=BF.holds _<|B6 ht
  simp only at e;have e3:a.eval s= .slice (some ⟨b,pre.length,none⟩) l.length c:=by rw[hs.ok BF,e,BY]
  have ei:a.eval ix= .int k i:=hi.ok BF;have hr:=lL (P:=P) hT b pre.length l.length c (k:=k) h0 h1 w;exact⟨.pointer<|some ⟨b,pre.length+i.toNat*sz,none⟩,by simp only[execOp,e3,ei,E0,hr,Dn];rfl,⟨b,pre.length,_,c,e,rfl⟩,rfl⟩
def Qq(hf:∀z,(f z).n=sz)(hp:look Γ p=some (.ND t j sz))(ht:look Γ t=some (.Ez E pre post<|lT f l))(h:l[j]? =some y)(hT:Bq P T (f y).n (f y).agg=true):Az P Γ ⟨d,.load T<| .tmp p,ty,pos,af,g⟩ (.val<|f y):=
 Dj λw0 _ _ a w H BF=>by
  let⟨b,c,cur,xs,e,hb,M6,ho,hH,hB⟩:=BF.holds _<|B6 ht
  let⟨b',o,n',c',e1,e2⟩:=BF.holds _<|B6 hp
  simp only at e e1 e2;rw[e] at e1;cases e1;have hj:(lT f l)[j]? =some (f y):=by rw[H9,h];rfl
  have K3:=(FP.1 hj).1;have hu:Fo sz (lT f l):=K8 hf l;have e3:a.eval (.tmp p)= .pointer (some ⟨b,pre.length+j*sz,none⟩):=e2;let⟨p1,p2⟩:=NU ho hj;have hc:CS ((lT f l).take j)=j*sz:=by rw[KZ<|hu.take _,E1,EV (by omega)]
  rw[hc] at p1 p2;have O4:List.take (f y).n (List.drop (pre.length+j*sz) cur.toList)=List.take (f y).n (List.drop (j*sz) xs):=by rw[M6,<-FZ,ZO,List.drop_append_of_le_length (by omega),List.take_append_of_le_length (by simp;omega)]
  have Uc:cur.size=pre.length+(xs.length+post.length):=by rw[<-Fg,M6];simp
  refine⟨_,?_,p2,rfl⟩;have hr:=RQ (P:=P) hT hb (off:=pre.length+j*sz) (by omega);rw[O4] at hr;simp[execOp,e3,Instr.loadAt,Instr.sureAddr,hr]
def zj{Ai:Ctx}(BE:∀q∈Ai,q∈Γ)(hf:∀z,(f z).n=sz)(hp:look Ai p=some (.ND t j sz))(ht:look Ai t=some (.Ez E pre post<|lT f l))(h:l[j]? =some z)(hx:Arg Ai x (f y))(hT:Bq P T (f y).n (f y).agg=true):Step P N ops ⟨none,.store T (.tmp p) x,ty,pos,af,none⟩ Γ ((t,.Ez E pre post<|lT f<|l.set j y)::BI t Γ):=by
 intro w0 H0 a w H BF K Q k;simp[Region.wanted,if_true];let⟨b,c,cur,xs,e,hb,M6,ho,hH,hB⟩:=BF.holds _ (BE _<|B6 ht);let⟨b',o,n',c',e1,e2⟩:=BF.holds _ (BE _<|B6 hp);simp only at e e1 e2;rw[e] at e1;cases e1;have hj:(lT f l)[j]? =some (f z):=by rw[H9,h];rfl
 have K3:=(FP.1 hj).1;have hu:Fo sz (lT f l):=K8 hf l;have ep:a.eval (.tmp p)= .pointer (some ⟨b,pre.length+j*sz,none⟩):=e2;have I2:=hx.ok<|BF.weaken BE
 have CT:=(f y).shape I2;have hc:CS ((lT f l).take j)=j*sz:=by rw[KZ<|hu.take _,E1,EV (by omega)]
 let⟨p1,_⟩:=NU ho hj;rw[hc,hf] at p1;have Mf:=Tz ho hj ((hf y).trans (hf z).symm) I2;rw[hc,hf] at Mf;have Uc:cur.size=pre.length+(xs.length+post.length):=by rw[<-Fg,M6];simp
 have F4:=TC (P:=P) (off:=pre.length+j*sz) (Ts hT) CT.size hb (by rw[hf];omega) CT.cell;rw[hf] at F4;unfold Oper.wp;have er:(execOp a.eval ⟨none,.store T (.tmp p) x,ty,pos,af,none⟩).run P w= .ok .skip (w.setRow b (cur.toList.take (pre.length+j*sz)++(a.eval x).cells.toList++cur.toList.drop (pre.length+j*sz+sz)).toArray):=by simp[execOp,ep,Instr.storeAt,Instr.sureAddr,F4]
 rw[er,Qf];have aqi:cur.toList.take (pre.length+j*sz)++(a.eval x).cells.toList++cur.toList.drop (pre.length+j*sz+sz)=pre++((xs.take (j*sz)++(a.eval x).cells.toList++xs.drop (j*sz+sz))++post):=by
  have t1:(pre++(xs++post)).take (pre.length+j*sz)=pre++xs.take (j*sz):=by
   rw[WG,Cz (by omega)]
   congr 1
   rw[show pre.length+j*sz-pre.length=j*sz from by omega,List.take_append_of_le_length (by omega)]
  have t2:(pre++(xs++post)).drop (pre.length+j*sz+sz)=xs.drop (j*sz+sz)++post:=by rw[LG,<-FZ,ZO,List.drop_append_of_le_length (by omega)]
  rw[M6,t1,t2];simp
 rw[aqi];have hg:Ee w (w.setRow b (pre++((xs.take (j*sz)++(a.eval x).cells.toList++xs.drop (j*sz+sz))++post)).toArray) (some b):=Ee.setRow w b _;refine k a _ H (PD BF (BE _<|B6 ht) hg hB (by simp[AQ.owns,e,Value.ownBlock]) ?_ λc hc=> .inl hc);refine⟨b,c,_,_,by rw[e];simp[lT],U4 w b _ _ _ _ hb,rfl,?_,hH,hB⟩;rw[show lT f (l.set j y)=(lT f l).set j (f y) from by simp[lT,U7]];exact Mf
def qg(hf:∀z,(f z).n=sz)(hp:look Γ p=some (.ND t j sz))(ht:look Γ t=some (.Ez E pre post<|lT f l))(h:l[j]? =some z)(hx:Arg Γ x (f y))(hT:Bq P T (f y).n (f y).agg=true):Step P N ops ⟨none,.store T (.tmp p) x,ty,pos,af,none⟩ Γ ((t,.Ez E pre post<|lT f<|l.set j y)::BI t Γ):=zj (λ_ h=>h) hf hp ht h hx hT
def aly(hf:∀z,(f z).n=sz)(hp:look Γ p=some (.ND t j sz))(ht:look Γ t=some (.Ez E pre post<|lT f l))(h:l[j]? =some z)(hx:Arg Γ x (f y))(hT:Bq P T (f y).n (f y).agg=true):P3 P N ops Γ ⟨none,.store T (.tmp p) x,ty,pos,af,none⟩ t (.Ez E pre post<|lT f<|l.set j y):=λ_ BE=>zj BE hf hp ht h hx hT
end
section
variable[D:DR]
variable{P:Program}{w0:Aj P}{H0:HV}{N:Nat}{ops:Array Oper}{Γ An:Ctx}{d:Option Tmp}{ty:TypeId}{pos:String}{af:Array Edge}{g:Option (Nat×Bool)}
variable{E:Ap}{sz t:Nat}{α:Type}{f:α->Ty}{l:A3 α}{xs:A3 CH}{F0:BA Ap}{dd:Nat}{x:CH}{i n u:Nat}
def xk{T:Ap}{lo hi:AA CH}{i j:Int}(hT:G1 P T sz=true)(hs:Ep Γ x t)(ht:look Γ t=some (.buf E sz<|lT f l))(Fl:Lo Γ lo 0 i)(Kx:Lo Γ hi l.length j)(h:(decide (0<=i)&&decide (i<j)&&decide (j<=l.length))=true):Az P Γ ⟨d,.slice T x lo hi none,ty,pos,af,g⟩ (.win t i.toNat (j-i).toNat sz):=
 Dj λw0 _ _ a w H BF=>by
  rw[C6,C6,Hn,Hn,Hn] at h;let⟨⟨h1,h2⟩,h3⟩:=h;let⟨b,cap,cs,xs,e,hb,hcap,_⟩:=Vy (BF.holds _<|B6 ht) (λe=>by have:l=[]:=List.map_eq_nil_iff.1 e;rw[this] at h3;simp at h3;omega)
  simp only at e;rw[BY] at e hcap;let⟨el,ii,hue,hii,hsz⟩:=pZ hT;have IM:∀w,(Go.sizeOf el).run P w= .ok sz w:=λw=>by simp[Go.sizeOf,typeInfo,program,Sem.run,hii,hsz]
  have hbd:=uC (P:=P) (b:=true) (cap:=cap) (w:=w) Fl Kx h1 (by omega) h3 hcap BF;have e3:a.eval x= .slice (some ⟨b,0,none⟩) l.length cap:=by rw[hs.ok BF];exact e
  refine⟨.slice (some ⟨b,i.toNat*sz,none⟩) (j-i).toNat<|cap-i.toNat,?_,⟨b,_,cap,cap-i.toNat,e,rfl⟩,rfl⟩;have hne: ¬cap=i.toNat:=by omega
  have hn:j.toNat-i.toNat=(j-i).toNat:=by omega
  simp[execOp,e3,Instr.sliceAt,Ev hue,Instr.slice,hbd,IM,addr_add,hne,hn]
def am8{B:Aj P}{w:AR}{H:HV}{v:AW}(hf:∀z,(f z).n=sz)(h:Kf B w H E sz (lT f l) v)(hn:0<n)(hl:i+n<=l.length){b:Nat}{len cap:Nat}(hv:v= .slice (some ⟨b,0,none⟩) len cap)(c:Nat):∃pre post:A3 AW,pre.length=i*sz/\(AQ.Ez E pre post<|lT f<|(l.drop i).take n).holds B RH w H (.slice (some ⟨b,i*sz,none⟩) n c)/\
   ∀(w':AR) (H':HV) (r:A3 α),HV.le H H'->r.length=n->(AQ.Ez E pre post<|lT f r).holds B RH w' H' (.slice (some ⟨b,i*sz,none⟩) n c)->Kf B w' H' E sz (lT f<|l.take i++r++l.drop (i+n)) v:=by
 subst hv;let⟨xs,⟨GS,hr⟩,ho,hH⟩:=h;rcases hr with⟨e,_⟩|⟨g',bN,cur,e,h0,hb,hcap,hm,hcs,htake⟩
 ·cases e
 cases e;have hu:Fo sz (lT f l):=K8 hf l;have GS:xs.length=l.length*sz:=by simpa using GS
 rw[BY] at htake hcap;have s1:i*sz+n*sz<=xs.length:=by rw[GS,<-Kc];exact LN _ hl
 have M6:cur.toList=xs++cur.toList.drop (l.length*sz):=by conv=>lhs;rw[<-Oj (l.length*sz) cur.toList,htake]
 have hx3:xs=xs.take (i*sz)++((xs.drop<|i*sz).take (n*sz)++xs.drop (i*sz+n*sz)):=by
  conv=>lhs;rw[<-Oj (i*sz) xs]
  congr 1
  conv=>lhs;rw[<-Oj (n*sz) (xs.drop<|i*sz),FZ]
 have Uk:(xs.take<|i*sz).length=i*sz:=by rw[E1];omega
 have qo:∀(lo hi:Nat),DQ H ((lT f l).take hi|>.drop lo) ((xs.take<|hi*sz).drop<|lo*sz):=λlo hi=>v8 hu ho lo hi
 refine⟨xs.take<|i*sz,xs.drop (i*sz+n*sz)++cur.toList.drop (l.length*sz),Uk,?_,?_⟩
 ·refine⟨b,c,cur,(xs.drop<|i*sz).take<|n*sz,?_,hb,?_,?_,(hH b rfl).1,(hH b rfl).2⟩
  ·rw[Uk];simp;omega
  ·have e0:xs++cur.toList.drop (l.length*sz)=(xs.take (i*sz)++((xs.drop<|i*sz).take (n*sz)++xs.drop (i*sz+n*sz)))++cur.toList.drop (l.length*sz):=by rw[<-hx3]
   exact M6.trans (e0.trans (by rw[Hm,Hm]))
  ·have:=qo i (i+n);rw[show((lT f l).take<|i+n).drop i=lT f ((l.drop i).take n) from by simp[lT,<-List.map_take,<-List.map_drop,MU]] at this;rw[Kc,MU,show i*sz+n*sz-i*sz=n*sz from by omega] at this;exact this
 ·rintro w' H' r hle hrl ⟨g2,c2,sx,xs2,e2,hb2,HG,ho2,IV,hB2⟩;have e3:g2=b:=by simp[Value.slice.injEq,Option.some.injEq,Addr.mk.injEq] at e2;exact e2.1.1.symm
  subst e3;have Hi:DQ H' (lT f<|l.take i++r++l.drop (i+n)) (xs.take (i*sz)++xs2++xs.drop (i*sz+n*sz)):=by
   have p1:=qo 0 i;have p2:=qo (i+n) l.length;rw[iA,Pe,Pe] at p1;rw[Cz (by simp[lT]),Cz (by omega),Kc] at p2;have:=Rk (Rk (QP hle p1) ho2)<|QP hle p2
   rwa [show(lT f l).take i++lT f r++(lT f l).drop (i+n)=lT f (l.take i++r++l.drop (i+n)) from by simp[lT,List.map_take,List.map_drop]] at this
  have Ud:xs2.length=n*sz:=by have:=Mt ho2;rw[KZ<|K8 hf r] at this;simpa[hrl] using this
  have hlen:(lT f<|l.take i++r++l.drop (i+n)).length=l.length:=by simp[hrl];omega
  have acb:(xs.take (i*sz)++xs2++xs.drop (i*sz+n*sz)).length=l.length*sz:=by rw[Dg,Dg,Uk,Ud,Ii,GS];omega
  have hc3:sx.toList=(xs.take (i*sz)++xs2++xs.drop (i*sz+n*sz))++cur.toList.drop (l.length*sz):=by rw[HG];simp
  have htk:sx.toList.take (l.length*sz)=xs.take (i*sz)++xs2++xs.drop (i*sz+n*sz):=by rw[hc3,List.take_append_of_le_length (by omega),Cz (by omega)]
  refine⟨xs.take (i*sz)++xs2++xs.drop (i*sz+n*sz),⟨by rw[hlen];exact acb,.inr ⟨g2,cap,sx,by rw[hlen];simp,FY _,hb2,by rw[hlen];exact hcap,hm,?_,by rw[hlen];exact htk⟩⟩,Hi,λb' Ba=>?_⟩
  ·have q1:cur.toList.length=cap*sz:=by rw[Fg];exact hcs
   have q2:l.length*sz<=cap*sz:=LN _ hcap;rw[<-Fg,hc3,Dg,acb,Ii,q1];omega
  ·have:g2=b':=by simpa[Value.ownBlock] using Ba
   subst this;exact⟨IV,hB2⟩
def aki{r:A3 α}{fn:FuncId}{ys:A3 CH}{pre post Bm:A3 Ty}{Ai:Ctx}(BE:∀q∈Ai,q∈Γ)(hf:∀z,(f z).n=sz)
 (hS:∀(ps qs:A3 AW),ps.length=i*sz->JG P fn pre (.Ez E ps qs<|lT f<|(l.drop i).take n) (.Ez E ps qs<|lT f r) post Bm)(hx:Ep Ai x u)(hu:look Ai u=some (.win t i n sz))(ht:look Ai t=some (.buf E sz<|lT f l))
 (hn:(Nat.blt 0 n&&Nat.ble (i+n) l.length&&Nat.beq r.length n)=true)(ha:AP Ai xs pre)(hb:AP Ai ys post)(DK:dd<N)(hne:dd≠t):Step P N ops ⟨some dd,.call ⟨.value<| .func fn,(xs++x::ys).toArray,F0⟩,ty,pos,af,none⟩ Γ ((dd,Is Bm)::(t,.buf E sz<|lT f<|l.take i++r++l.drop (i+n))::del dd (BI t Γ)):=by
 rw[C6,C6] at hn;let⟨⟨hn1,IV⟩,hn3⟩:=hn;have hn1:=Fa hn1;have IV:=Fa IV;have hn3:=EA hn3;intro w0 H0 a w H hs K Q k;simp[Region.wanted,if_true];have hsi:=hs.weaken BE;have Et:=hs.holds _<|BE _<|B6 ht
 simp only at Et;let⟨b,len,cap,c,ev,eu⟩:=hs.holds _<|BE _<|B6 hu
 simp only at ev eu;let⟨ps,qs,hps,hw,rU⟩:=am8 hf Et hn1 IV ev c;have can:Gi P fn=true:=(hS ps qs hps).can;have e:execOp a.eval ⟨some dd,.call ⟨.value<| .func fn,(xs++x::ys).toArray,F0⟩,ty,pos,af,none⟩=callFunc fn (xs.map a.eval++Ae a u::ys.map a.eval).toArray:=by
  have e:execOp a.eval ⟨some dd,.call ⟨.value<| .func fn,(xs++x::ys).toArray,F0⟩,ty,pos,af,none⟩=callFunc fn (#[]++(xs++x::ys).toArray.map a.eval++ #[]):=rfl;rw[e]
  congr 1
  simp[hx.ok hsi]
 unfold Oper.wp;rw[e,PE can,WD,eu];have hw0:(AQ.Ez E ps qs<|lT f<|(l.drop i).take n).holds (Aj.Oz P w λb'=>(AQ.Ez E ps qs<|lT f<|(l.drop i).take n).owns w (.slice (some ⟨b,i*sz,none⟩) n c) b') RH w H (.slice (some ⟨b,i*sz,none⟩) n c):=AQ.Rl rfl hw λb' Ba=> .inr Ba
 have hown:∀b',(AQ.Ez E ps qs<|lT f<|(l.drop i).take n).owns w (.slice (some ⟨b,i*sz,none⟩) n c) b'↔(AQ.buf E sz<|lT f l).owns w (Ae a t) b':=λb'=>by rw[ev];exact Iff.rfl
 refine((hS ps qs hps).run w H _ _ _ hs.sub hs.gl (ha.ok hsi) (hb.ok hsi) hw0).mono ?_;rintro e w' ⟨rv,rfl,H',hy,DN,ho,hr⟩;have hy':R0 (λb'=>(AQ.buf E sz<|lT f l).owns w (Ae a t) b') w H w' H':=by
  have:(λb'=>(AQ.buf E sz<|lT f l).owns w (Ae a t) b')=λb'=>(AQ.Ez E ps qs<|lT f<|(l.drop i).take n).owns w (.slice (some ⟨b,i*sz,none⟩) n c) b':=funext λb'=>propext (hown b').symm
  rw[this];exact hy
 have KT:(AQ.Ez E ps qs<|lT f r).holds w0 RH w' H' (.slice (some ⟨b,i*sz,none⟩) n c):=AQ.Rl rfl DN λb' Ba=>by
  have Ba:(AQ.buf E sz<|lT f l).owns w (Ae a t) b':=by rw[ev];exact Ba
  exact AQ.PR rfl Et Ba
 have Hf:(AQ.buf E sz<|lT f<|l.take i++r++l.drop (i+n)).holds w0 a w' H' (Ae a t):=rU w' H' r hy.le hn3 KT;have h1:=yR hs (BE _<|B6 ht) rfl rfl (λq hq _ b hb=>Aj.QX<|AQ.PR rfl Et hb) hy' Hf<|λb' Ba=> .inl Ba
 have h2:=QO (h1.weaken (An:=del dd ((t,.buf E sz<|lT f<|l.take i++r++l.drop (i+n))::BI t Γ)) MQ) DK PW (s:=Is Bm) (v:=rv) (by
  match Bm with
  |[]=>simp[Is,AQ.CA]
  |[_]=>simp[Is,AQ.CA]
  |_::_::_=>simp[Is,AQ.CA]) (Va hr)<|λb e=>absurd e<|AQ.free_spec Vi
 refine k _ w' H'<|h2.weaken λq hq=>?_
 simp[Ao] at hq⊢;rcases hq with h|h|h
 ·exact .inl h
 ·subst h;exact .inr (S6 (by simp) (λe=>hne e.symm) (by simp[AQ.CA]))
 ·have:=r8 h;exact .inr<|S6 (C2 _<|MQ _ h) this.1 this.2
def yK{r:A3 α}{fn:FuncId}{ys:A3 CH}{pre post Bm:A3 Ty}(hf:∀z,(f z).n=sz)
 (hS:∀(ps qs:A3 AW),ps.length=i*sz->JG P fn pre (.Ez E ps qs<|lT f<|(l.drop i).take n) (.Ez E ps qs<|lT f r) post Bm)(hx:Ep Γ x u)(hu:look Γ u=some (.win t i n sz))(ht:look Γ t=some (.buf E sz<|lT f l))
 (hn:(Nat.blt 0 n&&Nat.ble (i+n) l.length&&Nat.beq r.length n)=true)(ha:AP Γ xs pre)(hb:AP Γ ys post)(DK:dd<N)(hne:(dd !=t)=true):Step P N ops ⟨some dd,.call ⟨.value<| .func fn,(xs++x::ys).toArray,F0⟩,ty,pos,af,none⟩ Γ ((dd,Is Bm)::(t,.buf E sz<|lT f<|l.take i++r++l.drop (i+n))::del dd (BI t Γ)):=aki (λ_ h=>h) hf hS hx hu ht hn ha hb DK (by simpa using hne)
structure jB(P:CO)(f:FuncId)(E:Ap)(sz:Nat)(bl:A3 Ty)(args:A3 Ty)(l:A3 Ty):Prop where
 can:Gi P f=true
 run:∀(w:AR) (H:HV) (v:AW) (xs:A3 AW) (vs:A3 AW),(∀r o,H r=some o->w.heap[r]? =some o)->LR P H->w.ownsRow 0 E sz v bl.length xs->DQ H bl xs->(∀b,v.ownBlock=some b->H b=none)->Ed H args vs->Calls P f (v::vs).toArray w λe w'=>∃r,e= .returned r/\Ee w w' v.ownBlock/\∃xs',w'.ownsRow 0 E sz r l.length xs'/\DQ H l xs'/\∀b,r.ownBlock=some b->v.ownBlock=some b
def aj7{s:CH}{f:FuncId}{bl:A3 Ty}{args l:A3 Ty}(Wt:jB P f E sz bl args l)(hs:s= .tmp t\/∃u,s= .tmp u/\look Γ u=some (.same t))(ht:look Γ t=some (.buf E sz bl))(ha:AP Γ xs args)(DK:dd<N):Q6 P N ops Γ ⟨some dd,.call ⟨.value<| .func f,(s::xs).toArray,F0⟩,ty,pos,af,none⟩ t dd (.buf E sz l):=by
 intro EM BE w0 H0 a w H BF K Q k;simp only[Region.wanted,if_true];have hb:=BF.holds _<|BE _<|B6 ht
 let⟨ys,hr,ho,hn⟩:=hb;have es:a.eval s=Ae a t:=by
  rcases hs with rfl|⟨u,rfl,hu⟩
  ·rfl
  ·exact BF.holds _<|BE _<|B6 hu
 have e0:execOp a.eval ⟨some dd,.call ⟨.value<| .func f,(s::xs).toArray,F0⟩,ty,pos,af,none⟩=callFunc f (#[]++(s::xs).toArray.map a.eval++ #[]):=rfl;unfold Oper.wp;rw[e0,PE Wt.can,WD];have e2:(#[]++(s::xs).toArray.map a.eval++ #[])=(Ae a t::xs.map a.eval).toArray:=by simp[es]
 rw[e2];refine(Wt.run w H _ ys _ BF.sub BF.gl hr ho (λb hb=>(hn b hb).1)<|ha.ok<|BF.weaken BE).mono ?_;rintro e w' ⟨r,rfl,hg,xs',h3,h4,h5⟩;have jd:∀b,(Ae a t).ownBlock=some b->w0.ED b/\H b=none/\∀l,w.heap[b]? ≠some (.deferred l):=λb hb=>⟨(hn b hb).2,(hn b hb).1,λl e=>by let⟨_,_,o,h3,h4⟩:=AQ.JH (s:= .buf E sz bl) (B:=w0) (a:=a) ⟨ys,hr,ho,hn⟩ hb;rw[h3] at e;cases e;exact h4⟩
 have jX:∀b o,H b=some o->w'.heap[b]? =some o:=λc o hc=>by rw[hg.block c (lt_of_heap<|BF.sub c o hc) (λe2=>by rw[(hn c e2.symm).1] at hc;cases hc)];exact BF.sub c o hc
 have Lf:∀q∈del dd (BI t EM),∀c,q.2.owns w (Ae a q.1) c->(Ae a t).ownBlock≠some c:=λq hq c hc e=>BF.sep _ (BE _<|B6 ht) q (DM q<|MQ q hq).1 (λe=>(DM q<|MQ q hq).2 e.symm) c e hc
 have IF:Sat w0 H0 N (del dd<|BI t EM) a w' H:=akA BF hg jd (HV.le.refl _) (λ_ _ _=>rfl) jX λq hq=>⟨(DM q<|MQ q hq).1,Lf q hq⟩
 refine k _ w' H (QO IF DK PW (by simp[AQ.CA]) ⟨xs',h3,h4,λb hb=>⟨(hn b<|h5 b hb).1,(hn b<|h5 b hb).2⟩⟩ ?_);intro b hb q hq hq2;have hb:r.ownBlock=some b:=hb;have IN:=(DM q<|MQ q hq).1;have F:Far w0.lo (λb=>q.2.owns w (Ae a q.1) b) w H w' H:=by
  have hk:∀c,c<w.heap.size->(c<w0.lo\/q.2.owns w (Ae a q.1) c)->(Ae a t).ownBlock≠some c:=λc _ h e=>by
   rcases h with h|h
   ·have:=Aj.QX (hn c e).2;omega
   ·exact Lf q hq c h e
  exact⟨hg.size,hg.os,hg.tape,hg.output,hg.drawn,HV.le.refl _,λc hc h=>hg.block c hc<|λe=>hk c hc h e.symm,λ_ _ _=>rfl,jX⟩
 exact Lf q hq b (((AQ.Yf (BF.holds q IN) F).2 b).1 hq2)<|h5 b hb
def aiJ{f:FuncId}{bl:A3 Ty}{args l:A3 Ty}(Wt:jB P f E sz bl args l)(hu:look Γ u=some (.same t))(ht:look Γ t=some (.buf E sz bl))(ha:AP Γ xs args)(DK:dd<N):Step P N ops ⟨some dd,.call ⟨.value<| .func f,(.tmp u::xs).toArray,F0⟩,ty,pos,af,none⟩ Γ ((dd,.buf E sz l)::del dd (BI t Γ)):=aj7 Wt (.inr ⟨u,rfl,hu⟩) ht ha DK Γ<|λ_ h=>h
end
section
variable[D:DR]
variable{P:Program}{w0:Aj P}{H0:HV}{N:Nat}{Q:Exit->Act->World->Prop}{Γ An:Ctx}{d:Option Tmp}{ty:TypeId}{pos:String}{af:Array Edge}{g:Option (Nat×Bool)}
def aq5{T:Ap}{τ:Ty}(h:Dp P T τ):Dp P T (Iu τ.n τ.agg):=⟨λw=>by let⟨z,h1,h2⟩:=h.run w;exact⟨z,h1,λH=>τ.shape<|h2 H⟩⟩
def oT{β:Type}(F:β->Ty)(n:Nat)(agg:Bool)(h:∀x,(F x).n=n/\(F x).agg=agg)(o:AA β):Ty where
 n:=n
 agg:=agg
 ok:=λH v=>match o with
  |some x=>(F x).ok H v
  |none=>Shape n agg v
 mono:=λ{H H' v} hl k=>by
  cases o with
  |none=>exact k
  |some x=>exact(F x).mono hl k
 shape:=λ{H v} k=>by
  cases o with
  |none=>exact k
  |some x=>have:=(F x).shape k;rwa [(h x).1,(h x).2] at this
def mlk{α β:Type}[DecidableEq α](l:A3 (α×β))(x:α):AA β:=match mix x l with
 |none=>none
 |some j=>(l[j]?).map (·.2)
def akp{w0:Aj P}{β:Type}{F:β->Ty}{n:Nat}{agg:Bool}{h:∀x,(F x).n=n/\(F x).agg=agg}{o:AA β}{t:Nat}{T:Ap}{z:β}(ht:look Γ t=some (.own T<|oT F n agg h o))(hs:(!o.isSome)=false):II w0 N Γ ((t,.own T<|F<|o.getD z)::BI t Γ):=λH0 a w H BF=>by
 let⟨b,x,e,hb,hx,hH,hB⟩:=BF.holds _<|B6 ht
 refine⟨H,nL (us:=[]) BF (λq hq=>DM q hq) ⟨b,x,e,hb,?_,hH,hB⟩ (λc hc=>⟨_,B6 ht,.inl rfl,hc⟩) (λ_ _ h=>by cases h)⟩;cases o with
 |none=>cases hs
 |some y=>exact hx
end
section
variable[D:DR]
variable{P:Program}{w0:Aj P}{H0:HV}{N:Nat}{Q:Exit->Act->World->Prop}{Γ An:Ctx}{d:Option Tmp}{ty:TypeId}{pos:String}{af:Array Edge}{g:Option (Nat×Bool)}
variable{α β:Type}[DecidableEq α]{K E Eb T:TypeId}{sz:Nat}{fK:α->Ty}
def aoU{F:β->Ty}{n:Nat}{agg:Bool}{hF:∀x,(F x).n=n/\(F x).agg=agg}{t:Nat}{m k:CH}{l:A3 (α×β)}{x:α}(hT:Uj P T K E=true)(hk:SO P K fK)(hz:Dp P E (Iu n agg))(hm:R3 Γ m t)(ht:look Γ t=some (.Gs K E Eb sz<|mM fK (λv=> .val<|F v) l))(hx:Arg Γ k (fK x)):Az P Γ ⟨d,.lookup T m k true,ty,pos,af,g⟩ (.La [oT F n agg hF<|mlk l x,Aw (mlk l x).isSome]):=
 Dj λ_ _ _ a w H hs=>by
  let⟨r,es,e,hr,hn,hmi,ho,IT⟩:=hs.holds _<|B6 ht
  have em:a.eval m= .map (some r):=by rw[hm.ok hs];exact e
  have I2:=hx.ok hs;let⟨k1,k2⟩:=aaE ho;have hf:=run_findKey hk I2 (w:=w) k1 k2;have hc:=hk.check H _ x I2 es.isEmpty w;let⟨zv,hzr,hzo⟩:=hz.run w;cases hmx:mix x l with
  |none=>
   rw[hmx] at hf;refine⟨.tuple #[zv,.bool false],?_,⟨#[zv,.bool false],rfl,?_⟩,rfl⟩
   ·simp[execOp,em,Instr.lookup,Ev<|Yv hT,run_getObj_map hr,hc,hf,hzr]
   ·have:mlk l x=none:=by simp[mlk,hmx]
    rw[this];exact⟨_,_,rfl,hzo H,_,_,rfl,rfl,rfl⟩
  |some j=>
   rw[hmx] at hf;let⟨v,hv⟩:=ow hmx;let⟨y,h1,_,h3,_⟩:=aH ho (j:=j) (k:=fK x) (e:= .val<|F v) (by simp[hv]);simp only[Pf,h1,ZW] at hf;refine⟨.tuple #[y.val,.bool true],?_,⟨#[y.val,.bool true],rfl,?_⟩,rfl⟩
   ·simp[execOp,em,Instr.lookup,Ev<|Yv hT,run_getObj_map hr,hc,hf]
   ·have:mlk l x=some v:=by simp[mlk,hmx,hv]
    rw[this];exact⟨_,_,rfl,h3,_,_,rfl,rfl,rfl⟩
end
section
variable[D:DR]
variable{P:Program}{w0:Aj P}{H0:HV}{N:Nat}{Q:Exit->Act->World->Prop}{Γ An:Ctx}{d:Option Tmp}{ty:TypeId}{pos:String}{af:Array Edge}{g:Option (Nat×Bool)}
def aos{α:Type}{f:α->Ty}{l:A3 α}{ops:BA Oper}{o:Oper}{t dd:Nat}{E:Ap}{sz:Nat}{s:AQ}(ht:look Γ t=some (.buf E sz<|lT f l))(h:Az P ((t,.val<|TL f l)::BI t Γ) o s)(hg:o.guard=none)(hd:o.dst=some dd)(hN:dd<N)(hl:s.LQ dd=false):Q6 P N ops Γ o t dd s:=λEM BE=>by
 intro w0 H0 a w H BF K Q k;simp only[Region.wanted,hg,if_true];have IN:=BE _<|B6 ht
 let⟨xs,hr,ho,hn⟩:=BF.holds _ IN;have DN:=eM (τ:=TL f l) BF IN (λb=>(Ae a t).ownBlock=some b) (λb h=>⟨h,(hn b h).2⟩) (WY (a:=a) ⟨xs,hr,ho,hn⟩ (λr o h=>by
  by_cases e:(Ae a t).ownBlock=some r
  ·rw[(hn r e).1] at h;cases h
  ·simp[e,h]) (λb hb _ o hbo=>by simp[hb,hbo]))
 refine h w0 H0 N a w _ (DN.weaken ?_) K Q λv w' H'' he hv hbb=>?_
 ·intro q hq;rcases Ao.1 hq with e|hq
  ·subst e;exact DT
  ·exact C2 _<|PU (BE q (DM q hq).1) (DM q hq).2
 ·rw[hd];exact k _ _ _<|S2 (DN.weaken λq hq=>C2 _<|MQ q hq) he hN PW (YX hl) hv hbb
end
section
variable[D:DR]
def ck(b:Bool)(p:Prop):Prop:=match b with
 |true=>p
 |false=>False
def ck_{b:Bool}{p:Prop}(h:ck b p):b=true/\p:=by
 cases b
 ·exact h.elim
 ·exact⟨rfl,h⟩
def lkV(o:AA AQ)(K:Ty->Prop):Prop:=match o with
 |some (.val τ)=>K τ
 |_=>False
theorem sF{o:AA AQ}{K:Ty->Prop}(h:lkV o K):∃τ,o=some (.val τ)/\K τ:=by
 unfold lkV at h;split at h
 ·grind
 ·exact h.elim
def KO(Γ:Ctx):A3 Nat->AA Ctx
 |[]=>some []
 |t::ts=>match look Γ t,KO Γ ts with
  |some s,some An=>some ((t,s)::An)
  |_,_=>none
def NF{Γ:Ctx}:∀{ts:A3 Nat} {An:Ctx},KO Γ ts=some An->ES Γ ts An
 |[],_,h=>by cases h;exact .nil
 |t::ts,An,h=>by
  unfold KO at h;split at h
  ·rename_i h1 h2;cases h;exact .cons h1<|NF h2
  ·cases h
end
section
variable[D:DR]
variable{P:Program}{w0:Aj P}{H0:HV}{N:Nat}{ops:Array Oper}{Γ An En:Ctx}{l:List Oper}{d:Nat}{op:Op}{ty:TypeId}{pos:String}{af:Array Edge}{K:Ctx->Prop}{Q:Exit->Act->World->Prop}
variable{s:AQ}
structure CK(P:CO)(w0:Aj P)(N:Nat)(ops:BA Oper)(l:A3 Oper)(Γ:Ctx)(K:Ctx->Prop):Prop where
 w:∃An,JS P w0 N ops l Γ An/\K An
def fr(N d:Nat)(s:AQ)(Γ:Ctx):Bool:=Nat.blt d N&&(Jp d Γ&& !s.LQ d)
def fo(N d:Nat)(s:AQ):Bool:=Nat.blt d N&& !s.LQ d
def fr_{N d:Nat}{Γ:Ctx}(h:fr N d s Γ=true):d<N/\Jp d Γ=true/\s.LQ d=false:=by simp only[fr,C6,GA] at h;exact⟨Ac h.1,h.2.1,h.2.2⟩
def fo_{N d:Nat}(h:fo N d s=true):d<N/\s.LQ d=false:=by simp only[fo,C6,GA] at h;exact⟨Ac h.1,h.2⟩
def cP(h:Az P Γ ⟨some d,op,ty,pos,af,none⟩ s)(r:ck (fr N d s Γ) (CK P w0 N ops l ((d,s)::Γ) K)):CK P w0 N ops (⟨some d,op,ty,pos,af,none⟩::l) Γ K:=by let⟨hb,An,h1,h2⟩:=ck_ r;let⟨b1,b2,b3⟩:=fr_ hb;exact⟨An,.cons (Step.pure h rfl rfl b1 b2 b3) h1,h2⟩
def cO(h:Az P Γ ⟨some d,op,ty,pos,af,none⟩ s)(r:ck (fo N d s) (CK P w0 N ops l ((d,s)::del d Γ) K)):CK P w0 N ops (⟨some d,op,ty,pos,af,none⟩::l) Γ K:=by let⟨hb,An,h1,h2⟩:=ck_ r;let⟨b1,b3⟩:=fo_ hb;exact⟨An,.cons (Step.over h rfl rfl b1 b3) h1,h2⟩
def cS{o:Oper}(h:Step P N ops o Γ En)(r:CK P w0 N ops l En K):CK P w0 N ops (o::l) Γ K:=by let⟨An,h1,h2⟩:=r;exact⟨An,.cons h h1,h2⟩
def cG(h:II w0 N Γ En)(r:CK P w0 N ops l En K):CK P w0 N ops l Γ K:=by let⟨An,h1,h2⟩:=r;exact⟨An,.ghost h h1,h2⟩
def cF(ts:A3 Nat)(h:KO Γ ts=some En)(r:K En):CK P w0 N ops [] Γ K:=⟨En,.fin<|NF h,r⟩
def cY{ts:A3 Nat}(h:ES Γ ts En)(r:K En):CK P w0 N ops [] Γ K:=⟨En,.fin h,r⟩
def cPr(h:Az P Γ ⟨some d,op,ty,pos,af,none⟩ s)(hb:fr N d s Γ=true)(r:CK P w0 N ops l ((d,s)::Γ) K):CK P w0 N ops (⟨some d,op,ty,pos,af,none⟩::l) Γ K:=cP h (by rw[hb];exact r)
def avC(m t:Nat):Bool:=Nat.beq (Nat.mod (Nat.div m<|Nat.pow 2 t) 2) 1
def fm(m:Nat):Ctx->AA Ctx
 |[]=>some []
 |(t,s)::Γ=>match avC m t with
  |true=>match fm m Γ with
   |some An=>some ((t,s)::An)
   |none=>none
  |false=>fm m Γ
def fm_{m:Nat}:∀{Γ An:Ctx},fm m Γ=some An->∀q∈An,q∈Γ
 |[],_,h,q,hq=>by cases h;exact hq
 |(t,s)::Γ,An,h,q,hq=>by
  unfold fm at h;split at h
  ·split at h
   ·rename_i h1;cases h;rcases Ao.1 hq with e|hq
    ·rw[e];simp
    ·exact C2 _<|fm_ h1 q hq
   ·cases h
  ·exact C2 _<|fm_ h q hq
def gm{m:Nat}(h:fm m Γ=some En):II w0 N Γ En:=λ_ _ _ H hs=>⟨H,hs.weaken<|fm_ h⟩
def A5(m:Nat)(h:fm m Γ=some En)(r:K En):CK P w0 N ops [] Γ K:=cG (gm h) ⟨En,.done,r⟩
def cWm(m:Nat)(h:fm m Γ=some En)(r:CK P w0 N ops l En K):CK P w0 N ops l Γ K:=cG (gm h) r
def cD(r:K Γ):CK P w0 N ops [] Γ K:=⟨Γ,.done,r⟩
end
section
variable[D:DR]
variable{P:Program}{w0:Aj P}{H0:HV}{N:Nat}{ops:Array Oper}{Γ An En:Ctx}{l:List Oper}{d:Nat}{op:Op}{ty:TypeId}{pos:String}{af:Array Edge}{K:Ctx->Prop}{Q:Exit->Act->World->Prop}
variable{x y:Operand}{t t':Nat}{T T':TypeId}{τ σ:Ty}{k:IntKind}{m n:Int}{b e:Bool}
variable{off:Nat}{L:A3 Ty}{g:AA (Nat×Bool)}{α:Type}{j dj:Nat}{want:Bool}{Ai:Ctx}{s:AQ}
abbrev G(P:CO)(w0:Aj P)(N:Nat)(ops:BA Oper)(l:A3 Oper)(Γ:Ctx)(K:Ctx->Prop)(d:Nat)(s:AQ):Prop:=ck (fr N d s Γ)<|CK P w0 N ops l ((d,s)::Γ) K
def lkT(o:AA AQ)(K:A3 Ty->Prop):Prop:=match o with
 |some (.La l)=>K l
 |_=>False
theorem acT{o:AA AQ}{K:A3 Ty->Prop}(h:lkT o K):∃l,o=some (.La l)/\K l:=by
 unfold lkT at h;split at h
 ·grind
 ·exact h.elim
def lkO{α:Type}(o:AA α)(K:α->Prop):Prop:=match o with
 |some x=>K x
 |_=>False
theorem arx{o:AA α}{K:α->Prop}(h:lkO o K):∃x,o=some x/\K x:=by
 unfold lkO at h;split at h
 ·grind
 ·exact h.elim
def cM(r:lkV (look Γ t) λτ=>G P w0 N ops l Γ K d<| .val τ):CK P w0 N ops (⟨some d,.move<| .tmp t,ty,pos,af,none⟩::l) Γ K:=by let⟨τ,h1,h2⟩:=sF r;exact cP (gi<| .t h1) h2
def cA(r:lkV (look Γ t) λτ=>G P w0 N ops l Γ K d<| .val τ):CK P w0 N ops (⟨some d,.assign<| .tmp t,ty,pos,af,none⟩::l) Γ K:=by let⟨τ,h1,h2⟩:=sF r;exact cP (BO<| .t h1) h2
def cI(r:G P w0 N ops l Γ K d (.val<|TI k n)):CK P w0 N ops (⟨some d,.assign<| .const<| .int k n,ty,pos,af,none⟩::l) Γ K:=cP (BO .int) r
def cB(r:G P w0 N ops l Γ K d (.val<|Aw b)):CK P w0 N ops (⟨some d,.assign<| .const<| .bool b,ty,pos,af,none⟩::l) Γ K:=cP (BO .bool) r
def cN(r:G P w0 N ops l Γ K d (.val<|TI k n)):CK P w0 N ops (⟨some d,.move<| .const<| .int k n,ty,pos,af,none⟩::l) Γ K:=cP (gi .int) r
def cX(r:lkV (look Γ t) λτ=>G P w0 N ops l Γ K d<| .own T τ):CK P w0 N ops (⟨some d,.box T<| .tmp t,ty,pos,af,none⟩::l) Γ K:=by let⟨τ,h1,h2⟩:=sF r;exact cP (aoZ<| .t h1) h2
def cE{i:Nat}(r:lkT (look Γ t) λL=>lkO L[i]? λτ=>G P w0 N ops l Γ K d<| .val τ):CK P w0 N ops (⟨some d,.extract (.tmp t) i,ty,pos,af,none⟩::l) Γ K:=by let⟨L,h1,h2⟩:=acT r;let⟨τ,h3,h4⟩:=arx h2;exact cP (GL h1 h3) h4
def cZ(r:lkT (look Γ t) λL=>G P w0 N ops l Γ K d<| .La L):CK P w0 N ops (⟨some d,.move<| .tmp t,ty,pos,af,none⟩::l) Γ K:=by let⟨L,h1,h2⟩:=acT r;exact cP (Mr h1) h2
def cQ(r:G P w0 N ops l Γ K d (.same t)):CK P w0 N ops (⟨some d,.move<| .tmp t,ty,pos,af,none⟩::l) Γ K:=cP Dt r
def cU(h:look Γ t=some (.own T' τ))(hT:Bq P T τ.n τ.agg=true)(r:G P w0 N ops l Γ K d (.val τ)):CK P w0 N ops (⟨some d,.load T<| .tmp t,ty,pos,af,none⟩::l) Γ K:=cP (Av h hT) r
def cR(h:look Γ t=some (.val<|Jt τ))(hT:Bq P T τ.n τ.agg=true)(r:G P w0 N ops l Γ K d (.val τ)):CK P w0 N ops (⟨some d,.load T<| .tmp t,ty,pos,af,none⟩::l) Γ K:=cP (Bj (.t h) hT) r
def cRc(h0:(look Γ t,Bq P T τ.n τ.agg)=(some<| .val<|Jt τ,true))(r:G P w0 N ops l Γ K d (.val τ)):CK P w0 N ops (⟨some d,.load T<| .tmp t,ty,pos,af,none⟩::l) Γ K:=cR (congrArg (·.1) h0) (congrArg (·.2) h0) r
def lk2(Γ:Ctx)(t:Nat):AA (Nat×Ty):=match look Γ t with
 |some (.ptr t' off)=>match look Γ t' with
  |some (.own _ τ)=>some (off,τ)
  |_=>none
 |_=>none
theorem ary{Γ:Ctx}{t:Nat}{τ:Ty}(h:lk2 Γ t=some (off,τ)):∃t' T,look Γ t=some (.ptr t' off)/\look Γ t'=some (.own T τ):=by
 unfold lk2 at h;split at h
 ·grind
 ·cases h
def pick(L:A3 Ty)(i off:Nat):AA Ty:=match Nat.beq (CS<|L.take i) off with
 |true=>L[i]?
 |false=>none
def rL{i:Nat}{σ:Ty}(h:pick L i off=some σ):BN (DF L) off σ:=by
 unfold pick at h;split at h
 ·rename_i e;exact .agg h<|EA e
 ·cases h
def oP{d:AA Tmp}(i:Nat)(h:lk2 Γ t=some (off,DF L))(h1:pick L i off=some σ)(hT:Bq P T σ.n σ.agg=true):Az P Γ ⟨d,.load T<| .tmp t,ty,pos,af,g⟩ (.val σ):=by let⟨t',T',k1,k2⟩:=ary h;exact FW k1 k2 (rL h1) hT
def BU{d:AA Tmp}(i:Nat)(h0:(lk2 Γ t,pick L i off)=(some (off,DF L),some σ))(hT:Bq P T σ.n σ.agg=true):Az P Γ ⟨d,.load T<| .tmp t,ty,pos,af,g⟩ (.val σ):=oP i (congrArg (·.1) h0) (congrArg (·.2) h0) hT
def cV(i:Nat)(h:lk2 Γ t=some (off,DF L))(h1:pick L i off=some σ)(hT:Bq P T σ.n σ.agg=true)(r:G P w0 N ops l Γ K d (.val σ)):CK P w0 N ops (⟨some d,.load T<| .tmp t,ty,pos,af,none⟩::l) Γ K:=cP (oP i h h1 hT) r
def cK{k':Nat}(h:look Γ t=some (.own T' τ))(hf:Gb P T k' off=true)(r:G P w0 N ops l Γ K d (.ptr t off)):CK P w0 N ops (⟨some d,.fieldAddr T (.tmp t) k',ty,pos,af,none⟩::l) Γ K:=cP (FJ h hf) r
def cJ{f:α->Ty}{L:A3 α}(hT:Dw P T=true)(h:look Γ t=some (.val<|TL f L))(r:G P w0 N ops l Γ K d (.val<|TI .i64 L.length)):CK P w0 N ops (⟨some d,.call ⟨.builtin .len,#[.tmp t],#[T]⟩,ty,pos,af,none⟩::l) Γ K:=cP (Lp hT<| .t h) r
def cT(h:Dp P T τ)(r:G P w0 N ops l Γ K d (.own T τ)):CK P w0 N ops (⟨some d,.alloc T,ty,pos,af,none⟩::l) Γ K:=cP (L9 h) r
def cH{r':Int}(h:look Γ t=some (.val<|TI .i64 m))(h1:AH (m+n)=some r')(r:G P w0 N ops l Γ K d (.val<|TI .i64 r')):CK P w0 N ops (⟨some d,.binOp .add T (.tmp t) (.const<| .int .i64 n) T',ty,pos,af,none⟩::l) Γ K:=cP (Ct (.t h) .int h1) r
def cL(h:look Γ t=some (.val<|TI k m))(h':look Γ t'=some (.val<|TI k n))(r:G P w0 N ops l Γ K d (.val<|Aw<|decide<|m<n)):CK P w0 N ops (⟨some d,.binOp .lss T (.tmp t) (.tmp t') T',ty,pos,af,none⟩::l) Γ K:=cP (Cy (.t h)<| .t h') r
def B8(h0:(look Γ t,look Γ t')=(some<| .val<|TI k m,some<| .val<|TI k n))(r:G P w0 N ops l Γ K d (.val<|Aw<|decide<|m<n)):CK P w0 N ops (⟨some d,.binOp .lss T (.tmp t) (.tmp t') T',ty,pos,af,none⟩::l) Γ K:=cL (congrArg (·.1) h0) (congrArg (·.2) h0) r
def oX{f:α->Ty}{L:A3 α}{d:AA Tmp}{i:Int}{sz:Nat}{y:α}(hT:G1 P T sz=true)(hf:∀z,(f z).n=sz)(hx:look Γ t=some (.val<|TL f L))(hi:look Γ t'=some (.val<|TI k i))(h:AB L i=some y):Az P Γ ⟨d,.indexAddr T (.tmp t)<| .tmp t',ty,pos,af,g⟩ (.val<|Jt<|f y):=FN hT hf (.t hx) (.t hi) h
def Q4(Γ:Ctx):A3 CH->AA (A3 Ty)
 |[]=>some []
 | .tmp t::xs=>match look Γ t,Q4 Γ xs with
  |some (.val τ),some l=>some (τ::l)
  |_,_=>none
 | .const (.int k n)::xs=>match Q4 Γ xs with
  |some l=>some (TI k n::l)
  |_=>none
 | .const (.bool b)::xs=>match Q4 Γ xs with
  |some l=>some (Aw b::l)
  |_=>none
 |_=>none
def ay{Γ:Ctx}:∀{xs:A3 CH} {l:A3 Ty},Q4 Γ xs=some l->AP Γ xs l
 |[],_,h=>by cases h;exact .nil
 | .tmp t::xs,l,h=>by
  unfold Q4 at h;split at h
  ·rename_i h1 h2;cases h;exact .cons (.t h1)<|ay h2
  ·cases h
 | .const (.int k n)::xs,l,h=>by
  unfold Q4 at h;split at h
  ·rename_i h2;cases h;exact .cons .int<|ay h2
  ·cases h
 | .const (.bool b)::xs,l,h=>by
  unfold Q4 at h;split at h
  ·rename_i h2;cases h;exact .cons .bool<|ay h2
  ·cases h
def oC{f:FuncId}{xs:A3 CH}{F0:BA Ap}{args:A3 Ty}{Bm:Res}{d:AA Tmp}(hf:Eg P f args Bm)(ha:Q4 Γ xs=some args):Az P Γ ⟨d,.call ⟨.value<| .func f,xs.toArray,F0⟩,ty,pos,af,g⟩ (sD Bm):=FX hf<|ay ha
def cC{f:FuncId}{xs:A3 CH}{F0:BA Ap}{args:A3 Ty}{Bm:Res}(hf:Eg P f args Bm)(ha:Q4 Γ xs=some args)(r:G P w0 N ops l Γ K d (sD Bm)):CK P w0 N ops (⟨some d,.call ⟨.value<| .func f,xs.toArray,F0⟩,ty,pos,af,none⟩::l) Γ K:=cP (oC hf ha) r
def gV(hj:(ops[j]?).bind (·.dst)=some dj)(hl:look Γ dj=some (.val<|Aw b))(ho:Iv Γ (gd b want) Ai)(h:gd b want=true->Az P Ai ⟨some d,op,ty,pos,af,some (j,want)⟩ s)(r:ck (Nat.blt dj N&&fr N d s Γ) (CK P w0 N ops l ((d,.opt (gd b want) s)::Γ) K)):CK P w0 N ops (⟨some d,op,ty,pos,af,some (j,want)⟩::l) Γ K:=by let⟨hb,An,h1,h2⟩:=ck_ r;rw[C6] at hb;let⟨b1,b2,b3⟩:=fr_ hb.2;exact⟨An,.cons (Step.guarded (.v rfl hj hl<|Ac hb.1) (opO ho h) rfl b1 b2 b3) h1,h2⟩
def AI(h0:((ops[j]?).bind (·.dst),look Γ dj)=(some dj,some<| .val<|Aw b))(ho:Iv Γ (gd b want) Ai)(h:gd b want=true->Az P Ai ⟨some d,op,ty,pos,af,some (j,want)⟩ s)(r:ck (Nat.blt dj N&&fr N d s Γ) (CK P w0 N ops l ((d,.opt (gd b want) s)::Γ) K)):CK P w0 N ops (⟨some d,op,ty,pos,af,some (j,want)⟩::l) Γ K:=gV (congrArg (·.1) h0) (congrArg (·.2) h0) ho h r
def gO(hj:(ops[j]?).bind (·.dst)=some dj)(hl:look Γ dj=some (.opt e<| .val<|Aw b))(ho:Iv Γ (e&&gd b want) Ai)(h:(e&&gd b want)=true->Az P Ai ⟨some d,op,ty,pos,af,some (j,want)⟩ s)(r:ck (Nat.blt dj N&&fr N d s Γ) (CK P w0 N ops l ((d,.opt (e&&gd b want) s)::Γ) K)):CK P w0 N ops (⟨some d,op,ty,pos,af,some (j,want)⟩::l) Γ K:=by let⟨hb,An,h1,h2⟩:=ck_ r;rw[C6] at hb;let⟨b1,b2,b3⟩:=fr_ hb.2;exact⟨An,.cons (Step.guarded (.o rfl hj hl<|Ac hb.1) (opO ho h) rfl b1 b2 b3) h1,h2⟩
end
section
variable[D:DR]
variable{P:Program}{w0:Aj P}{H0:HV}{N:Nat}{ops:Array Oper}{Γ An En:Ctx}{l:List Oper}{d:Nat}{op:Op}{ty:TypeId}{pos:String}{af:Array Edge}{K:Ctx->Prop}{Q:Exit->Act->World->Prop}
def rS{id:Nat}{y:Code}(r:ck (Js l) (CK P w0 N l.toArray l Γ λAn=>Goal P w0 H0 N y Q An)):Goal P w0 H0 N (.seq (.region id l.toArray false) y) Q Γ:=by let⟨Ax,An,h1,h2⟩:=ck_ r;exact A9<|zF Ax h1<|A8 h2
def rK{id:Nat}(r:ck (Js l) (CK P w0 N l.toArray l Γ λAn=>EJ w0 H0 N (Q .normal) An)):Goal P w0 H0 N (.region id l.toArray false) Q Γ:=by let⟨Ax,An,h1,h2⟩:=ck_ r;exact zF Ax h1 h2
structure PK(P:CO)(N:Nat)(ops:BA Oper)(Γ:Ctx)(acc:A3 Ctx)(l:A3 Oper)(K:A3 (A3 Nat)->A3 Bool->A3 Ctx->Prop):Prop where
 w:∃Dr Dq S,Er P N ops Γ acc l Dr Dq S/\K Dr Dq S
end
section
variable[D:DR]
variable{P:Program}{w0:Aj P}{H0:HV}{N:Nat}{ops:Array Oper}{Γ An En:Ctx}{l:List Oper}{d:Nat}{op:Op}{ty:TypeId}{pos:String}{af:Array Edge}{K:Ctx->Prop}{Q:Exit->Act->World->Prop}
variable{acc:List Ctx}{ts:List Nat}{Ai:Ctx}{s s' su:AQ}{t u:Nat}{o:Oper}{R:List (List Nat)->List Bool->List Ctx->Prop}
def dN(r:R [] [] acc):PK P N ops Γ acc [] R:=⟨_,_,_,.nil,r⟩
def dP(ts:A3 Nat)(hs:KO (acc.flatten++Γ) ts=some Ai)(h:Az P Ai ⟨some d,op,ty,pos,af,none⟩ s)(r:ck (Nat.blt d N) (PK P N ops Γ ([(d,s)]::acc) l λn p S=>R (ts::n) (true::p) S)):PK P N ops Γ acc (⟨some d,op,ty,pos,af,none⟩::l) R:=by let⟨hb,n,p,S,h1,h2⟩:=ck_ r;exact⟨_,_,S,.cons (NF hs) h rfl rfl (Ac hb) h1,h2⟩
def dM{τ:Ty}(i:Nat)(h0:(KO (acc.flatten++Γ) [i],look Ai t)=(some Ai,some<| .val τ))(r:ck (Nat.blt d N) (PK P N ops Γ ([(d,.val τ)]::acc) l λn p S=>R ([i]::n) (true::p) S)):PK P N ops Γ acc (⟨some d,.move<| .tmp t,ty,pos,af,none⟩::l) R:=dP [i] (congrArg (·.1) h0) (gi<| .t<|congrArg (·.2) h0) r
def dV{j dj:Nat}{want b:Bool}{Γj:Ctx}(ts:A3 Nat)(hs:KO (acc.flatten++Γ) ts=some Ai)(hj:(ops[j]?).bind (·.dst)=some dj)(hl:look Ai dj=some (.val<|Aw b))(ho:Iv Ai (gd b want) Γj)(h:gd b want=true->Az P Γj ⟨some d,op,ty,pos,af,some (j,want)⟩ s)(r:ck (Nat.blt dj N&&Nat.blt d N) (PK P N ops Γ ([(d,.opt (gd b want) s)]::acc) l λn p S=>R (ts::n) (true::p) S)):PK P N ops Γ acc (⟨some d,op,ty,pos,af,some (j,want)⟩::l) R:=by let⟨hb,n,p,S,h1,h2⟩:=ck_ r;rw[C6] at hb;exact⟨_,_,S,.guarded (NF hs) (.v rfl hj hl<|Ac hb.1) (opO ho h) rfl (Ac hb.2) h1,h2⟩
def dS(ts:A3 Nat)(hs:KO (acc.flatten++Γ) ts=some Ai)(h:P3 P N ops Ai o t s)(r:PK P N ops Γ ([(t,s)]::acc) l λn p S=>R (ts::n) (false::p) S):PK P N ops Γ acc (o::l) R:=by let⟨n,p,S,h1,h2⟩:=r;exact⟨_,_,S,.store (NF hs) h h1,h2⟩
def dG(gs ts:A3 Nat)(hs:KO (acc.flatten++Γ) ts=some Ai)(h:Q6 P N ops Ai o t d s)(r:PK P N ops Γ (((d,s)::(t,.gone)::gs.map λu=>(u,.gone))::acc) l λn p S=>R (ts::n) (true::p) S):PK P N ops Γ acc (o::l) R:=by let⟨n,p,S,h1,h2⟩:=r;exact⟨_,_,S,.av8 gs (NF hs) h h1,h2⟩
def dT(ts:A3 Nat)(hs:KO (acc.flatten++Γ) ts=some Ai)(h:kQ P N ops Ai o t s' d s)(r:PK P N ops Γ ([(d,s),(t,s')]::acc) l λn p S=>R (ts::n) (true::p) S):PK P N ops Γ acc (o::l) R:=by let⟨n,p,S,h1,h2⟩:=r;exact⟨_,_,S,.two (NF hs) h h1,h2⟩
end
section
variable[D:DR]
variable{P:Program}{w0:Aj P}{H0:HV}{N:Nat}{ops:Array Oper}{Γ An En:Ctx}{l:List Oper}{d:Nat}{op:Op}{ty:TypeId}{pos:String}{af:Array Edge}{K:Ctx->Prop}{Q:Exit->Act->World->Prop}
def XI(ops:A3 Oper):A3 (A3 Nat):=ops.foldl (λav o=>av++[(List.range av.length).filter λj=>(SN o).any λe=>e.on==j||(av.getD e.on []).contains j]) []
def DE(P:CO)(w0:Aj P)(N:Nat)(ops:A3 Oper)(k:Nat)(Γ:Ctx)(K:Ctx->Prop)(Dr:A3 (A3 Nat))(Dq:A3 Bool)(S:A3 Ctx):Prop:=∃ts Fy,(Nw ops.toArray (XI ops)&&T4 k (S.reverse.map Kl) Dr Dq (OX Γ) (XI ops)&&Qm ops.toArray k (XI ops))=true/\KO (S.flatten++Γ) ts=some Fy/\CK P w0 N ops.toArray (ops.drop k) Fy K
def dE{Dr:A3 (A3 Nat)}{Dq:A3 Bool}{S:A3 Ctx}{k:Nat}{Fy:Ctx}(ts:A3 Nat)(hs:KO (S.flatten++Γ) ts=some Fy)(hc:(Nw l.toArray (XI l)&&T4 k (S.reverse.map Kl) Dr Dq (OX Γ) (XI l)&&Qm l.toArray k (XI l))=true)(r:CK P w0 N l.toArray (l.drop k) Fy K):DE P w0 N l k Γ K Dr Dq S:=⟨ts,Fy,hc,hs,r⟩
def gD{id:Nat}(k:Nat)(hm:P.follows .mixedOrders=true)(r:ck (Js l) (PK P N l.toArray Γ [] (l.take k)<|DE P w0 N l k Γ λAn=>EJ w0 H0 N (Q .normal) An)):Goal P w0 H0 N (.region id l.toArray true) Q Γ:=by let⟨Ax,n,p,S,h1,ts,Fy,hc,hs,An,h2,h3⟩:=ck_ r;exact aow (k:=k) Ax _ _ _ _ _ hm hc h1 rfl rfl (NF hs) h2 h3
def gE{id:Nat}{y:Code}(k:Nat)(hm:P.follows .mixedOrders=true)(r:ck (Js l) (PK P N l.toArray Γ [] (l.take k)<|DE P w0 N l k Γ λAn=>Goal P w0 H0 N y Q An)):Goal P w0 H0 N (.seq (.region id l.toArray true) y) Q Γ:=
 A9 (gD k hm (by let⟨Ax,r⟩:=ck_ r;rw[Ax];let⟨n,p,S,h1,ts,Fy,hc,hs,An,h2,h3⟩:=r;exact⟨n,p,S,h1,ts,Fy,hc,hs,An,h2,A8 h3⟩))
end
section
variable[D:DR]
variable{P:Program}{w0:Aj P}{H0:HV}{N:Nat}{ops:Array Oper}{Γ An En:Ctx}{l:List Oper}{d:Nat}{op:Op}{ty:TypeId}{pos:String}{af:Array Edge}{K:Ctx->Prop}{Q:Exit->Act->World->Prop}
variable{x y:Operand}{t t':Nat}{T T':TypeId}{τ σ:Ty}{k:IntKind}{m n:Int}{b e:Bool}{g:Option (Nat×Bool)}{dd:Option Tmp}
variable{s:AQ}{sz:Nat}{ps:A3 (Nat×CH)}{l':A3 Ty}
def aT(h:look Γ t=some (.val τ)):Arg Γ (.tmp t) τ:= .t h
def aI:Arg Γ (.const<| .int k n) (TI k n):= .int
def aB:Arg Γ (.const<| .bool b) (Aw b):= .bool
def sS(ts:A3 Nat)(h:KO Γ ts=some An):ES Γ ts An:=NF h
def oM(h:look Γ t=some (.val τ)):Az P Γ ⟨dd,.move<| .tmp t,ty,pos,af,g⟩ (.val τ):=gi<| .t h
def oA(h:look Γ t=some (.val τ)):Az P Γ ⟨dd,.assign<| .tmp t,ty,pos,af,g⟩ (.val τ):=BO<| .t h
def iO{i:Int}{len:Nat}(h:look Γ t=some (.own T' τ))(hT:LX P T len sz=true)(hc:(decide (0<=i)&&decide (i<(len:Int)))=true):Az P Γ ⟨dd,.indexAddr T (.tmp t)<| .const<| .int k i,ty,pos,af,g⟩ (.ptr t<|i.toNat*sz):=by rw[C6,WJ,WJ] at hc;exact vP h hT .int hc.1 hc.2
def Wr(Γ:Ctx):A3 (Nat×CH)->A3 Ty->AA (A3 Ty)
 |[],l=>some l
 |(i,x)::ps,l=>match Q4 Γ [x],l[i]? with
  |some [σ],some τ=>match Nat.beq σ.n τ.n with
   |true=>Wr Γ ps<|l.set i σ
   |false=>none
  |_,_=>none
def pV{Γ:Ctx}:∀{ps:A3 (Nat×CH)} {l l':A3 Ty},Wr Γ ps l=some l'->E2 P Γ ps l l'
 |[],_,_,h=>by cases h;exact .nil
 |(i,x)::ps,l,l',h=>by
  unfold Wr at h;split at h
  ·rename_i σ τ h1 h2;split at h
   ·rename_i h3;cases ay h1 with
    |cons ha _=>exact .cons ha h2 (EA h3)<|pV h
   ·cases h
  ·cases h
def bB{l:A3 Ty}(hz:Dp P T (DF l))(hT:NY P T (FR l)=true)(hp:Wr Γ ps l=some l'):Az P Γ ⟨dd,.build T ps.toArray,ty,pos,af,g⟩ (.val<|DF l'):=fz hz hT<|pV hp
def bA{n:Nat}{l:A3 Ty}(hz:Dp P T (DF l))(hT:LX P T n sz=true)(hu:(l.all λτ=>Nat.beq τ.n sz)=true)(hp:Wr Γ ps l=some l'):Az P Γ ⟨dd,.build T ps.toArray,ty,pos,af,g⟩ (.val<|DF l'):=YL hz hT (λτ h=>EA<|Dk.1 hu τ h) (pV hp)
def bS{E:Ap}{n:Nat}(hz:Dp P E τ)(hT:Gm P T E sz=true)(hp:Wr Γ ps (List.replicate n τ)=some l')(hc:(Nat.beq τ.n sz&&(Nat.blt 0 (n*sz)&&(Nat.ble (n*sz) 16777216&&Nat.beq l'.length n)))=true):Az P Γ ⟨dd,.buildSlice T n ps.toArray,ty,pos,af,g⟩ (.val<|G6 l'):=by simp only[C6] at hc;exact v7 hz hT (EA hc.1) hc.2.1 hc.2.2.1 (pV hp)<|EA hc.2.2.2
def cs(ht:look Γ t=some (.own T' τ))(hx:look Γ t'=some (.val σ))(hn:σ.n=τ.n)(hT:Bq P T σ.n σ.agg=true)(r:CK P w0 N ops l ((t,.own T' σ)::BI t Γ) K):CK P w0 N ops (⟨none,.store T (.tmp t)<| .tmp t',ty,pos,af,none⟩::l) Γ K:=cS (afd ht (.t hx) hn hT) r
def Ak(h0:(look Γ t,look Γ t',σ.n)=(some<| .own T' τ,some<| .val σ,τ.n))(hT:Bq P T σ.n σ.agg=true)(r:CK P w0 N ops l ((t,.own T' σ)::BI t Γ) K):CK P w0 N ops (⟨none,.store T (.tmp t)<| .tmp t',ty,pos,af,none⟩::l) Γ K:=cs (congrArg (·.1) h0) (congrArg (·.2.1) h0) (congrArg (·.2.2) h0) hT r
def ds(ht:look Γ t=some (.own T' τ))(hx:look Γ t'=some (.val σ))(hn:σ.n=τ.n)(hT:Bq P T σ.n σ.agg=true):P3 P N ops Γ ⟨none,.store T (.tmp t)<| .tmp t',ty,pos,af,none⟩ t (.own T' σ):=af3 ht (.t hx) hn hT
def CB(h0:(look Γ t,look Γ t',σ.n)=(some<| .own T' τ,some<| .val σ,τ.n))(hT:Bq P T σ.n σ.agg=true):P3 P N ops Γ ⟨none,.store T (.tmp t)<| .tmp t',ty,pos,af,none⟩ t (.own T' σ):=ds (congrArg (·.1) h0) (congrArg (·.2.1) h0) (congrArg (·.2.2) h0) hT
def ov(t:Nat)(h:look Γ t=some s)(r:Iv Γ e An):Iv Γ e ((t,s)::An):= .v h r
def oo(t:Nat){c:Bool}(h:look Γ t=some (.opt c s))(k:e=true->c=true)(r:Iv Γ e An):Iv Γ e ((t,s)::An):= .o h k r
def on:Iv Γ e []:= .nil
def AX(t:Nat)(h:look Γ t=some s):Iv Γ e [(t,s)]:= .v h .nil
def AT(t:Nat)(h:look Γ t=some (.opt e s)):Iv Γ e [(t,s)]:= .o h id .nil
end
section
variable[D:DR]
variable{P:Program}{w0:Aj P}{H0:HV}{N:Nat}{ops:Array Oper}{Γ An En:Ctx}{l:List Oper}{d:Nat}{op:Op}{ty:TypeId}{pos:String}{af:Array Edge}{K:Ctx->Prop}{Q:Exit->Act->World->Prop}
variable{α β γ δ ε ζ ρ:Type}{r:ρ}{e:Option α}{f:α->Option β}{g:α->β->Option γ}{h:α->β->γ->Option δ}{i:α->β->γ->δ->Option ε}{j:α->β->γ->δ->ε->Option ζ}
def b2{K:α->β->AA ρ}(q:(bd e λx=>bd (f x)<|K x)=some r):∃x,e=some x/\∃y,f x=some y/\K x y=some r:=by let⟨x,h1,q⟩:=Ay q;let⟨y,h2,q⟩:=Ay q;exact⟨x,h1,y,h2,q⟩
def b3{K:α->β->γ->AA ρ}(q:(bd e λx=>bd (f x) λy=>bd (g x y)<|K x y)=some r):∃x,e=some x/\∃y,f x=some y/\∃z,g x y=some z/\K x y z=some r:=by let⟨x,h1,y,h2,q⟩:=b2 q;let⟨z,h3,q⟩:=Ay q;exact⟨x,h1,y,h2,z,h3,q⟩
def b4{K:α->β->γ->δ->AA ρ}(q:(bd e λx=>bd (f x) λy=>bd (g x y) λz=>bd (h x y z)<|K x y z)=some r):∃x,e=some x/\∃y,f x=some y/\∃z,g x y=some z/\∃u,h x y z=some u/\K x y z u=some r:=by let⟨x,h1,y,h2,z,h3,q⟩:=b3 q;let⟨u,h4,q⟩:=Ay q;exact⟨x,h1,y,h2,z,h3,u,h4,q⟩
def b5{K:α->β->γ->δ->ε->AA ρ}(q:(bd e λx=>bd (f x) λy=>bd (g x y) λz=>bd (h x y z) λu=>bd (i x y z u)<|K x y z u)=some r):∃x,e=some x/\∃y,f x=some y/\∃z,g x y=some z/\∃u,h x y z=some u/\∃v,i x y z u=some v/\K x y z u v=some r:=by let⟨x,h1,y,h2,z,h3,u,h4,q⟩:=b4 q;let⟨v,h5,q⟩:=Ay q;exact⟨x,h1,y,h2,z,h3,u,h4,v,h5,q⟩
def b6{K:α->β->γ->δ->ε->ζ->AA ρ}(q:(bd e λx=>bd (f x) λy=>bd (g x y) λz=>bd (h x y z) λu=>bd (i x y z u) λv=>bd (j x y z u v)<|K x y z u v)=some r):∃x,e=some x/\∃y,f x=some y/\∃z,g x y=some z/\∃u,h x y z=some u/\∃v,i x y z u=some v/\∃w,j x y z u v=some w/\K x y z u v w=some r:=by let⟨x,h1,y,h2,z,h3,u,h4,v,h5,q⟩:=b5 q;let⟨w,h6,q⟩:=Ay q;exact⟨x,h1,y,h2,z,h3,u,h4,v,h5,w,h6,q⟩
end
section
variable[D:DR]
variable{P:Program}{w0:Aj P}{H0:HV}{N:Nat}{ops:Array Oper}{Γ An En:Ctx}{l:List Oper}{d:Nat}{op:Op}{ty:TypeId}{pos:String}{af:Array Edge}{K:Ctx->Prop}{Q:Exit->Act->World->Prop}
variable{α β γ δ ε ζ ρ:Type}{r:ρ}{e:Option α}{f:α->Option β}{g:α->β->Option γ}{h:α->β->γ->Option δ}{i:α->β->γ->δ->Option ε}{j:α->β->γ->δ->ε->Option ζ}
variable{P:Program}{w0:Aj P}{H0:HV}{N:Nat}{c:Code}{Q:Exit->Act->World->Prop}{Γ:Ctx}
def AE{e:AA α}{K:α->AA ρ}(q:bd e K=some r)(k:∀x,e=some x->K x=some r->Goal P w0 H0 N c Q Γ):Goal P w0 H0 N c Q Γ:=by let⟨x,h,q⟩:=Ay q;exact k x h q
def BP{b:Bool}{d:α}{e:AA α}{K:α->AA ρ}(q:Au b d e K=some r)(k:∀x,(b=true->e=some x)->K x=some r->Goal P w0 H0 N c Q Γ):Goal P w0 H0 N c Q Γ:=by let⟨x,h,q⟩:=Li q;exact k x h q
def gcI{b:Bool}{K:AA ρ}(q:gC b K=some r)(k:b=true->K=some r->Goal P w0 H0 N c Q Γ):Goal P w0 H0 N c Q Γ:=k (WT q).1 (WT q).2
def BQ{K:α->β->AA ρ}(q:(bd e λx=>bd (f x)<|K x)=some r)(k:∀x,e=some x->∀y,f x=some y->K x y=some r->Goal P w0 H0 N c Q Γ):Goal P w0 H0 N c Q Γ:=AE q λx h1 q=>AE q λy h2 q=>k x h1 y h2 q
def Cs{K:α->β->γ->AA ρ}(q:(bd e λx=>bd (f x) λy=>bd (g x y)<|K x y)=some r)(k:∀x,e=some x->∀y,f x=some y->∀z,g x y=some z->K x y z=some r->Goal P w0 H0 N c Q Γ):Goal P w0 H0 N c Q Γ:=BQ q λx h1 y h2 q=>AE q λz h3 q=>k x h1 y h2 z h3 q
def IY{K:α->β->γ->δ->AA ρ}(q:(bd e λx=>bd (f x) λy=>bd (g x y) λz=>bd (h x y z)<|K x y z)=some r)(k:∀x,e=some x->∀y,f x=some y->∀z,g x y=some z->∀u,h x y z=some u->K x y z u=some r->Goal P w0 H0 N c Q Γ):Goal P w0 H0 N c Q Γ:=Cs q λx h1 y h2 z h3 q=>AE q λu h4 q=>k x h1 y h2 z h3 u h4 q
def L2{K:α->β->γ->δ->ε->AA ρ}(q:(bd e λx=>bd (f x) λy=>bd (g x y) λz=>bd (h x y z) λu=>bd (i x y z u)<|K x y z u)=some r)(k:∀x,e=some x->∀y,f x=some y->∀z,g x y=some z->∀u,h x y z=some u->∀v,i x y z u=some v->K x y z u v=some r->Goal P w0 H0 N c Q Γ):Goal P w0 H0 N c Q Γ:=IY q λx h1 y h2 z h3 u h4 q=>AE q λv h5 q=>k x h1 y h2 z h3 u h4 v h5 q
def Jf{K:α->β->γ->δ->ε->ζ->AA ρ}(q:(bd e λx=>bd (f x) λy=>bd (g x y) λz=>bd (h x y z) λu=>bd (i x y z u) λv=>bd (j x y z u v)<|K x y z u v)=some r)(k:∀x,e=some x->∀y,f x=some y->∀z,g x y=some z->∀u,h x y z=some u->∀v,i x y z u=some v->∀w,j x y z u v=some w->K x y z u v w=some r->Goal P w0 H0 N c Q Γ):Goal P w0 H0 N c Q Γ:=L2 q λx h1 y h2 z h3 u h4 v h5 q=>AE q λw h6 q=>k x h1 y h2 z h3 u h4 v h5 w h6 q
end
section
variable[D:DR]
variable{P:Program}{w0:Aj P}{H0:HV}{N:Nat}{ops:Array Oper}{Γ An En:Ctx}{l:List Oper}{d:Nat}{op:Op}{ty:TypeId}{pos:String}{af:Array Edge}{K:Ctx->Prop}{Q:Exit->Act->World->Prop}
variable{t:Nat}{x y:Code}{b:Bool}{ρ α:Type}{r:ρ}
def gc{X Y:AA ρ}(hl:look Γ t=some (.val<|Aw b))(hm:cond b X Y=some r)(hx:b=true->X=some r->Goal P w0 H0 N x Q Γ)(hy:b=false->Y=some r->Goal P w0 H0 N y Q Γ):Goal P w0 H0 N (.cond (.tmp t) x y) Q Γ:=UY hl (λh=>hx h<|apf hm h) (λh=>hy h<|apg hm h)
def gQ{X Y:AA ρ}(hl:look Γ t=some (.val<|Aw b))(hm:cond b X Y=some r)(hx:X=some r->Goal P w0 H0 N x Q Γ)(hy:Y=some r->Goal P w0 H0 N y Q Γ):Goal P w0 H0 N (.cond (.tmp t) x y) Q Γ:=gc hl hm (λ_=>hx) λ_=>hy
def cm{JY:α->Ctx}{k:α->AA ρ}{i:α}(hm:k i=some r)(h:KO Γ ((JY i).map (·.1))=some (JY i)):EJ w0 H0 N (λa w=>Mid w0 H0 N JY k r a w) Γ:=arR hm<|NF h
def gl{σ:Type}(Ai:σ->Ctx){n:Nat}{B:(σ->AA ρ)->σ->AA ρ}{s0:σ}{c:Code}(hm:lp n B s0=some r)(h0:KO Γ ((Ai s0).map (·.1))=some (Ai s0))
  (round:∀(k:σ->AA ρ) (s:σ),B k s=some r->Goal P w0 H0 N c (Exit.then (Mid w0 H0 N Ai k r) Q) (Ai s)):Goal P w0 H0 N (.loop c) Q Γ:=abR Ai hm (NF h0) round
end
section
variable[D:DR]
variable{P:Program}{w0:Aj P}{H0:HV}{N:Nat}{ops:Array Oper}{Γ An En:Ctx}{l:List Oper}{d:Nat}{op:Op}{ty:TypeId}{pos:String}{af:Array Edge}{K:Ctx->Prop}{Q:Exit->Act->World->Prop}
variable{f:FuncId}{fn:Func}{t t' T:Nat}{T':TypeId}{τ Gp σ σ':Ty}{Q:Exit->Act->World->Prop}
def AY{c:Code}{args:A3 Ty}{Bm:Res}{N:Nat}(hf:P.funcs[f]? =some fn)(hb:(fn.body,fn.ntmps)=(some c,N))(hc:(Gi P f&&Nat.ble args.length N)=true)
  (h:∀{w0 H0},Goal P (Aj.call P w0) H0 N c (Qu P fn (Aj.call P w0) H0 Bm)<|Hb 0 args):Eg P f args Bm:=by
 rw[C6] at hc;rw[Ls] at hb;exact ah4 hf hb.1 hb.2 (Fa hc.2) hc.1 λ_ _=>h
def r1(h:(((w0.X,w0.J3,w0.ds,w0.rd),fn.results),look Γ t)=(((KR,false,[],none),[.tmp t].toArray),some<| .val τ)):EJ w0 H0 N (λa w=>Qu P fn w0 H0 (.vs [τ]) .ret a w) Γ:=by simp[Ls] at h;exact CZ (by simp[h]) h.1.2<| .tmp h.2 rfl .nil
def Ab{ρ:Type}{r x:ρ}{F:ρ->Ty}(q:some x=some r)(h:(((w0.X,w0.J3,w0.ds,w0.rd),fn.results),look Γ t)=(((KR,false,[],none),[.tmp t].toArray),some<| .val<|F x)):EJ w0 H0 N (λa w=>Qu P fn w0 H0 (.vs [F r]) .ret a w) Γ:=by cases q;exact r1 h
def r2(h:(((w0.X,w0.J3,w0.ds,w0.rd),fn.results),look Γ t,look Γ t')=(((KR,false,[],none),[.tmp t,.tmp t'].toArray),some<| .val τ,some<| .val σ)):EJ w0 H0 N (λa w=>Qu P fn w0 H0 (.vs [τ,σ]) .ret a w) Γ:=by simp[Ls] at h;exact CZ (by simp[h]) h.1.2<| .tmp h.2.1 rfl<| .tmp h.2.2 rfl .nil
def q1(h:(((w0.X,w0.J3,w0.ds,w0.rd),fn.results),look Γ t)=(((KR,false,[],none),[.cell t T].toArray),some<| .own T' τ))(hT:Bq P T τ.n τ.agg=true):EJ w0 H0 N (λa w=>Qu P fn w0 H0 (.vs [τ]) .ret a w) Γ:=by simp[Ls] at h;exact CZ (by simp[h]) h.1.2<| .cell h.2 (Fb hT) rfl .nil
def CV{ρ:Type}{r x:ρ}{F:ρ->Ty}(q:some x=some r)(h:(((w0.X,w0.J3,w0.ds,w0.rd),fn.results),look Γ t)=(((KR,false,[],none),[.cell t T].toArray),some<| .own T'<|F x))(hT:Bq P T (F x).n (F x).agg=true):EJ w0 H0 N (λa w=>Qu P fn w0 H0 (.vs [F r]) .ret a w) Γ:=by cases q;exact q1 h hT
end
section
variable[D:DR]
variable{P:Program}{w0:Aj P}{H0:HV}{N:Nat}{ops:Array Oper}{Γ An En:Ctx}{l:List Oper}{d:Nat}{op:Op}{ty:TypeId}{pos:String}{af:Array Edge}{K:Ctx->Prop}{Q:Exit->Act->World->Prop}
variable{t d' k' off:Nat}{T T' T2 KL:TypeId}{σ:Ty}{L:List Ty}{pos':String}{LZ:Array Edge}{acc:List Ctx}{R:List (List Nat)->List Bool->List Ctx->Prop}
def ZG{Γ:Ctx}{t:Nat}{s:AQ}:look ((t,s)::Γ) t=some s:=by simp[look]
def qI{Γ:Ctx}{d t:Nat}{s s':AQ}(h:Nat.beq d t=false)(k:look Γ t=some s'):look ((d,s)::Γ) t=some s':=by unfold look;rw[h];exact k
def C5(i:Nat)(h:look Γ t=some (.own T'<|DF L))(hf:Gb P T k' off=true)(h1:pick L i off=some σ)(hT:Bq P T2 σ.n σ.agg=true)(r:ck (fr N d (.ptr t off) Γ&&(!Nat.beq d t&&fr N d' (.val σ) ((d,.ptr t off)::Γ))) (CK P w0 N ops l ((d',.val σ)::(d,.ptr t off)::Γ) K)):CK P w0 N ops (⟨some d,.fieldAddr T (.tmp t) k',ty,pos,af,none⟩::⟨some d',.load T2<| .tmp d,KL,pos',LZ,none⟩::l) Γ K:=by let⟨hb,hk⟩:=ck_ r;simp[C6,GA] at hb;refine cP (FJ h hf) ?_;rw[hb.1];refine cP (FW ZG (qI hb.2.1 h) (rL h1) hT) ?_;rw[hb.2.2];exact hk
def dQ(i:Nat)(h:look (acc.flatten++Γ) t=some (.own T'<|DF L))(hf:Gb P T k' off=true)(h1:pick L i off=some σ)(hT:Bq P T2 σ.n σ.agg=true)(r:ck (Nat.blt d N&&(Nat.blt d' N&& !Nat.beq d t)) (PK P N ops Γ ([(d',.val σ)]::[(d,.ptr t off)]::acc) l λn p S=>R ([t]::[d,t]::n) (true::true::p) S)):PK P N ops Γ acc (⟨some d,.fieldAddr T (.tmp t) k',ty,pos,af,none⟩::⟨some d',.load T2<| .tmp d,KL,pos',LZ,none⟩::l) R:=by
 let⟨hb,n,p,S,k1,k2⟩:=ck_ r;simp only[C6,GA] at hb;have e:look (([(d,AQ.ptr t off)]::acc).flatten++Γ) d=some (.ptr t off):=by simpa using ZG
 have e':look (([(d,AQ.ptr t off)]::acc).flatten++Γ) t=some (.own T'<|DF L):=by simpa using qI hb.2.2 h
 exact⟨_,_,S,.cons (.cons h .nil) (FJ ZG hf) rfl rfl (Ac hb.1)<| .cons (.cons e<| .cons e' .nil) (FW ZG (qI hb.2.2 ZG) (rL h1) hT) rfl rfl (Ac hb.2.1) k1,k2⟩
end
section
variable[D:DR]
variable{P:Program}{w0:Aj P}{H0:HV}{N:Nat}{ops:Array Oper}{Γ An En:Ctx}{l:List Oper}{d:Nat}{op:Op}{ty:TypeId}{pos:String}{af:Array Edge}{K:Ctx->Prop}{Q:Exit->Act->World->Prop}
variable{ρ:Type}{r:ρ}
def am4{A B:Ctx}{ts us:A3 Nat}(h:ES Γ ts A)(k:ES Γ us B):ES Γ (ts++us) (A++B):=by
 induction h with
 |nil=>exact k
 |cons h _ ih=>exact .cons h ih
def B3{σ:Type}(ks:A3 Nat){Γ0:Ctx}(hk:KO Γ ks=some Γ0)(Ai:σ->Ctx){n:Nat}{B:(σ->AA ρ)->σ->AA ρ}{s0:σ}{c:Code}(hm:lp n B s0=some r)(h0:KO Γ ((Ai s0).map (·.1))=some (Ai s0))
  (round:∀(k:σ->AA ρ) (s:σ),B k s=some r->Goal P w0 H0 N c (Exit.then (Mid w0 H0 N (λs=>Ai s++Γ0) k r) Q) (Ai s++Γ0)):Goal P w0 H0 N (.loop c) Q Γ:=abR (λs=>Ai s++Γ0) hm (am4 (NF h0)<|NF hk) round
def Cv{α:Type}(ks:A3 Nat){Γ0:Ctx}(hk:KO Γ ks=some Γ0)(JY:α->Ctx){K:α->AA ρ}{E:(α->AA ρ)->AA ρ}{x:Code}(hm:jn K E=some r)
  (h:∀k,E k=some r->Goal P w0 H0 N x (Exit.then (Mid w0 H0 N (λs=>JY s++Γ0) k r) Q) Γ)(kk:∀i,K i=some r->EJ w0 H0 N (Q .normal) (JY i++Γ0)):Goal P w0 H0 N x Q Γ:=SX (λs=>JY s++Γ0) hm h kk
end
section
variable{α:Type}{c:α->α->Option Int}
theorem No{α ρ:Type}{e:AA α}{K:α->AA ρ}{r:ρ}(h:bd e K=some r):∃x,e=some x/\K x=some r:=by(simp_all [bd]<;>grind)
def fQ:∀{l r:A3 α} {x:α},O3 c x l=some r->r.Perm (x::l)
 |[],r,x,h=>by cases h;exact .refl _
 |y::l,r,x,h=>by
  let⟨k,_,h⟩:=No h;cases hb:decide (k<0) with
  |true=>rw[hb] at h;let⟨r',hr,h⟩:=No (K:=λr=>some (y::r)) h;cases h;exact((fQ hr).cons y).trans<| .swap x y l
  |false=>rw[hb] at h;have h:some (x::y::l)=some r:=h;cases h;exact .refl _
def xu:∀(l:A3 α) (s r:A3 α),Jc l (λnext x s=>bd (O3 c x s) next) s (λs=>some s.reverse)=some r->r.Perm (s++l)
 |[],s,r,h=>by have h:some s.reverse=some r:=h;cases h;simpa using s.reverse_perm
 |x::l,s,r,h=>by let⟨s',hs,h⟩:=No h;refine(xu l s' r h).trans ?_;refine((fQ hs).append_right l).trans ?_;exact List.perm_middle.symm
def w7{l r:A3 α}(h:jM c l=some r):r.Perm l:=by simpa using xu l [] r h
end
section
variable{α:Type}[DecidableEq α]{c:α×α->Option Int}
variable{s:A3 α}
def yB:∀{l:A3 α} {x:α},XJ c x l=true->∀y∈l,x=y\/∃i j,c (x,y)=some i/\c (y,x)=some j/\i<0/\0<=j
 |[],_,_,y,hy=>by cases hy
 |z::l,x,h,y,hy=>by
  unfold XJ at h;rw[C6] at h;rcases Ao.1 hy with e|hy
  ·subst e;cases hd:decide (x=y) with
   |true=>exact .inl<|As hd
   |false=>
    rw[hd] at h;refine .inr ?_;have h:=h.1;simp only[Ar] at h;split at h
    ·rename_i i j e1 e2;rw[C6,Hn,Hn] at h;exact⟨i,j,e1,e2,h.1,h.2⟩
    ·cases h
  ·exact yB h.2 y hy
def nh:∀{s:A3 α},Oq c s=true->(∀x∈s,∃i,c (x,x)=some i/\0<=i)/\s.Pairwise λx y=>x=y\/∃i j,c (x,y)=some i/\c (y,x)=some j/\i<0/\0<=j
 |[],_=>⟨λx h=>(by cases h),.nil⟩
 |x::s,h=>by
  unfold Oq at h;rw[C6,C6] at h;let⟨h1,h2,h3⟩:=h;let⟨k1,k2⟩:=nh h3;refine⟨λy hy=>?_,.cons (yB h2) k2⟩;rcases Ao.1 hy with e|hy
  ·subst e;split at h1
   ·rename_i i e;exact⟨i,e,As h1⟩
   ·cases h1
  ·exact k1 y hy
theorem jN{x:α}(h:x∈s):∃hl:s.idxOf x<s.length,s[s.idxOf x]=x:=by grind
def fZ(h:Oq c s=true){x y:α}(hx:x∈s)(hy:y∈s){v:Int}(hv:c (x,y)=some v):v<0↔s.idxOf x<s.idxOf y:=by
 let⟨k1,k2⟩:=nh h;let⟨lx,ex⟩:=jN hx;let⟨ly,ey⟩:=jN hy;have pw:=Zj.1 k2;rcases Nat.lt_trichotomy (s.idxOf x) (s.idxOf y) with hlt|heq|hgt
 ·have:=pw _ _ lx ly hlt;rw[ex,ey] at this;rcases this with e|⟨i,j,e1,e2,h1,h2⟩
  ·subst e;omega
  ·rw[hv] at e1;cases e1;exact⟨λ_=>hlt,λ_=>h1⟩
 ·have:x=y:=by rw[<-ex,<-ey];congr 1
  subst this;let⟨i,e,hi⟩:=k1 x hx;rw[hv] at e;cases e;omega
 ·have:=pw _ _ ly lx hgt;rw[ex,ey] at this;rcases this with e|⟨i,j,e1,e2,h1,h2⟩
  ·subst e;omega
  ·rw[hv] at e2;cases e2;omega
def agJ(h:Oq c s=true):s.Pairwise λx y=>s.idxOf x<=s.idxOf y:=by
 let⟨k1,k2⟩:=nh h;refine Zj.2 λi j hi hj KW=>?_
 rcases Zj.1 k2 i j hi hj KW with e|⟨a,b,e1,e2,h1,h2⟩
 ·rw[e];exact BM _
 ·have:=(fZ h (Ly hi) (Ly hj) e1).1 h1;omega
def xR{r:A3 α}(h:Oq c s=true)(hp:r.Perm s)(hr:r.Pairwise λx y=>s.idxOf x<=s.idxOf y):r=s:=by
 refine List.Perm.eq_of_pairwise (le:=λx y=>s.idxOf x<=s.idxOf y) ?_ hr (agJ h) hp;intro a b ha hb h1 h2;let⟨la,ea⟩:=jN<|hp.mem_iff.1 ha
 let⟨lb,eb⟩:=jN hb;have e:s.idxOf a=s.idxOf b:=by omega
 rw[<-ea,<-eb]
 congr 1
def YJ{l:A3 α}(h:Ie l c=some s):s.Perm l/\Oq c s=true/\(∀x∈l,∀y∈l,∃v,c (x,y)=some v)/\l.length<4611686018427387904:=by
 let⟨s',hs,h⟩:=No h;unfold EN at h;cases hb:Nat.blt l.length 4611686018427387904&&(totB c l&&Oq c s') with
 |false=>rw[hb] at h;cases h
 |true=>rw[hb] at h;cases h;rw[C6,C6] at hb;refine⟨w7 hs,hb.2.2,λx hx y hy=>?_,Fa hb.1⟩;have:=Dk.1 hb.2.1 x hx;have:=Dk.1 this y hy;exact Option.isSome_iff_exists.1 this
end
def O{α:Sort _}{a:α}:a=a:=rfl
def AO{α:Type}{f:α->Ty}{sz:Nat}(h:(λz=>(f z).n)=λ_=>sz):∀z,(f z).n=sz:=congrFun h
abbrev TiZ(n:Int):Ty:=TI .i64 n
abbrev AD:=List UInt8
abbrev CX:=AD×AD×AD
abbrev HfZ:=(Int×Int×Int)×List UInt8
abbrev PlZ:=(Rat×Rat×Rat)×Rat
abbrev FcZ:=((Rat×Rat×Rat)×Rat)×List (Rat×Rat×Rat)
abbrev BdZ:=List ((Int×Int×Int)×List UInt8)
abbrev SpZ:=List (((Rat×Rat×Rat)×Rat)×List (Rat×Rat×Rat))
abbrev ShZ:=List ((Int×Int×Int)×List UInt8)×List (List UInt8×List UInt8×List UInt8)×List (List Int)
end Trn
