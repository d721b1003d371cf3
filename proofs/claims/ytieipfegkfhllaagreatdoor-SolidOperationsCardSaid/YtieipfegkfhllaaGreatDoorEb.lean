/-
  Part of the proof of SolidOperations.
-/
import Derived.Test.YtieipfegkfhllaaGreatDoorEa
set_option maxRecDepth 100000
set_option maxHeartbeats 20000000
set_option linter.all false
open Go Go.RowKit Go.Proofs
namespace Trn
section
variable[D:DR]
variable{P:Program}{N:Nat}{ops:Array Oper}{Γ An:Ctx}{d:Option Tmp}{ty:TypeId}{pos:String}{af:Array Edge}{g:Option (Nat×Bool)}
variable{T:Ap}{t sz:Nat}{l:A3 Ty}{E:Ap}{bytes dd:Nat}{T2:Ap}{w0:Aj P}{w:AR}{H:HV}{x:CH}{l2:A3 Ty}{τ:Ty}{H0:HV}{a:Act}{s:AQ}{ps:A3 (Nat×CH)}{l':A3 Ty}{v:AW}{n:Nat}{Ai:Ctx}
open Classical in
theorem vM(hs:Sat w0 H0 N Γ a w H){s':AQ}(ht:(t,s)∈Γ)(S:Nat->Prop)(hS:∀b,S b->s.owns w (Ae a t) b/\w0.ED b)
 (hv:s'.holds w0 a w (λr=>if S r then w.heap[r]? else H r) (Ae a t))(ho:∀b,s'.owns w (Ae a t) b->s.owns w (Ae a t) b):Sat w0 H0 N ((t,s')::BI t Γ) a w (λr=>if S r then w.heap[r]? else H r):=by
 have low:∀b,S b->b<w.heap.size/\H b=none/\∃o,w.heap[b]? =some o/\a8 o:=λb h=>AQ.JH (hs.holds _ ht) (hS b h).1
 have hle:HV.le H (λr=>if S r then w.heap[r]? else H r):=by
  intro r o h;by_cases e:S r
  ·grind
  ·simp[e,h]
 have rO:∀q∈BI t Γ,∀b,q.2.owns w (Ae a q.1) b-> ¬S b:=by intro q hq b hqb e;exact hs.sep _ ht q (DM q hq).1 (λe=>(DM q hq).2 e.symm) b (hS b e).1 hqb
 have IF:Sat w0 H0 N (BI t Γ) a w (λr=>if S r then w.heap[r]? else H r):=by
  refine Vp (ds:=a.defers) hs hs.below (BM _) ?_ (BM _) hle ?_ ?_ ?_ ?_
  ·intro _ r hr hx;have: ¬S r:=λe=>by
    rcases(hS r e).2 with h|h
    ·omega
    ·exact hx h
   simp[this]
  ·intro r o h;by_cases e:S r
   ·simpa[e] using h
   ·simp[e,if_false] at h;exact hs.sub r o h
  ·intro _ b _ hb;have: ¬S b:=λe=>by have:=Aj.QX (hS b e).2;omega
   simp[this]
  ·intro p hp;exact⟨(DM p hp).1,λb hb=>⟨rfl,by simp[rO p hp b hb]⟩⟩
  ·refine hs.nd.kept λD _ h1 h2=>⟨h1,?_⟩
   have: ¬S D:=λe=>by let⟨_,_,o,ho,K1⟩:=low D e;rw[h1] at ho;cases ho;exact K1
   simp[this,h2]
 refine⟨IF.nd,IF.sz,IF.below,IF.Fe,IF.sub,?_,?_,IF.gl⟩
 ·intro p hp;rcases Ao.1 hp with e|hp
  ·subst e;exact hv
  ·exact IF.holds p hp
 ·intro p hp q hq hne b hb Ba;rcases Ao.1 hp with e|hp
  ·subst e;rcases Ao.1 hq with e|hq
   ·grind
   ·exact hs.sep _ ht q (DM q hq).1 hne b (ho b hb) Ba
  ·rcases Ao.1 hq with e|hq
   ·subst e;exact hs.sep p (DM p hp).1 _ ht hne b hb<|ho b Ba
   ·exact IF.sep p hp q hq hne b hb Ba
open Classical in
def eM(hs:Sat w0 H0 N Γ a w H)(ht:(t,s)∈Γ)(S:Nat->Prop)(hS:∀b,S b->s.owns w (Ae a t) b/\w0.ED b)
 (hv:τ.ok (λr=>if S r then w.heap[r]? else H r) (Ae a t)):Sat w0 H0 N ((t,.val τ)::BI t Γ) a w (λr=>if S r then w.heap[r]? else H r):=vM (s':= .val τ) hs ht S hS hv<|λ_ h=>h.elim
theorem am5(hs:Sat w0 H0 N Γ a w H)(ht:look Γ t=some (.buf E sz l)):∃H',Sat w0 H0 N ((t,.val<|G6 l)::BI t Γ) a w H':=by
 have hb:=hs.holds _<|B6 ht
 let⟨xs,hr,ho,hn⟩:=hb;refine⟨_,eM hs (B6 ht) (λb=>(Ae a t).ownBlock=some b) (λb h=>⟨h,(hn b h).2⟩) ?_⟩;refine WY (a:=a) ⟨xs,hr,ho,hn⟩ ?_ (λb hb _ o hbo=>by simp[hb,hbo]);intro r o h;by_cases e:(Ae a t).ownBlock=some r
 ·grind
 ·simp[e,h]
def amK(ht:look Γ t=some (.buf E sz l)):II w0 N Γ ((t,.val<|G6 l)::BI t Γ):=λ_ _ _ _ hs=>am5 hs ht
theorem ak6(hs:Sat w0 H0 N Γ a w H)(ht:look Γ t=some (.own T τ)):∃H',Sat w0 H0 N ((t,.val<|Jt τ)::BI t Γ) a w H':=by
 let⟨b,x,e,hb,hx,hH,hB⟩:=hs.holds _<|B6 ht
 simp only at e;refine⟨_,eM hs (B6 ht) (λc=>c=b) (λc h=>by subst h;exact⟨⟨_,e,rfl⟩,hB⟩) ?_⟩;have CT:=τ.shape hx;refine⟨b,0,x.cells,T,(0,0),e,by simp[hb],by rw[CT.size];omega,?_⟩;rw[xK CT.size,<-CT.eq];refine τ.mono ?_ hx;intro r o h;by_cases e:r=b
 ·grind
 ·simp[e,h]
def Tv(ht:look Γ t=some (.own T τ)):II w0 N Γ ((t,.val<|Jt τ)::BI t Γ):=λ_ _ _ _ hs=>ak6 hs ht
def Fw(P:CO)(T:Ap)(E:Ap)(sz bytes:Nat):Bool:=
 match P.underlying T with
 |some (.slice e)=>Nat.beq e E&&(match P.info? e with
  |some i=>Nat.beq i.size sz&&Nat.beq i.bytes bytes&&(match i.zero with|some z=>Nat.beq z.cells.size sz|none=>false)&&Nat.ble 1 sz
  |none=>false)
 |_=>false
def zV(h:Fw P T E sz bytes=true):∃i z,P.underlying T=some (.slice E)/\P.info? E=some i/\i.zero=some z/\i.size=sz/\i.bytes=bytes/\z.cells.size=sz/\0<sz:=by
 unfold Fw at h;split at h
 ·rename_i e hu;simp only[C6] at h;let⟨h1,h2⟩:=h;have h1:=EA h1;subst h1;split at h2
  ·rename_i i hi;simp only[C6] at h2;let⟨⟨⟨h3,h4⟩,h5⟩,h6⟩:=h2;split at h5
   ·rename_i z hz;exact⟨i,z,hu,hi,hz,EA h3,EA h4,EA h5,Fa h6⟩
   ·cases h5
  ·cases h2
 ·cases h
def lN(hT:Fw P T E sz bytes=true){B:Nat}{xs:A3 AW}(hown:w.ownsRow B E sz v n xs)(hB:B<=w.heap.size)
 {ad:AA Addr}{m c:Nat}{news:A3 AW}(hl:news.length=m*sz)(aqg:∀j u,news[j]? =some u->∃x,ad=some x/\w.cell? (x.add j)=some u)(h1:∀u∈news,u.oneCell'=true)(had:ad=none->m=0)
 (Gv:n+m<=maxLen)(Ke:(n+m)*bytes<=140737488355328)(ty:Ap):∃v' w',(Builtin.append_ #[T,T] ty #[v,.slice ad m c]).run P w= .ok v' w'/\w'.ownsRow B E sz v' (n+m) (xs++news)/\Ee w w' v.ownBlock/\∀b,v'.ownBlock=some b->v.ownBlock=some b\/w.heap.size<=b:=by
 let⟨i,z,hu,hi,hz,hsz,hby,hzs,hpos⟩:=zV hT;cases ad with
 |none=>
  have hm:=had rfl;subst hm;have hn:news=[]:=LP (by simpa using hl);subst hn;refine⟨v,w,?_,by simpa using hown,⟨⟨rfl,rfl,rfl,BM _,λ_ _ _=>rfl⟩,BM _⟩,λb hb=> .inl hb⟩;rcases hown.2 with⟨rfl,rfl⟩|⟨g,cap,cur,rfl,hbg,hg,hnc,_⟩
  ·simp[Builtin.append_,Ev hu,Go.sizeOf,typeInfo,program,Sem.run,hi,Builtin.lenOf,Builtin.firstCells]
  ·simp[Builtin.append_,Ev hu,Go.sizeOf,typeInfo,program,Sem.run,hi,Builtin.lenOf,Builtin.firstCells,hnc,storeCells]
 |some ad=>
  have aU:∀j u,news[j]? =some u->w.cell? (ad.add j)=some u:=λj u h=>by let⟨x,e,hx⟩:=aqg j u h;cases e;exact hx
  let⟨v',w',hr,h2,h3,h4⟩:=run_append_own (P:=P) w B T ty E i z sz bytes hu hi hz hsz hby hzs hpos v n xs hown ad m c news hl aU h1 Gv Ke hB;have key:w.drawn<=w'.drawn/\∀b,v'.ownBlock=some b->v.ownBlock=some b\/w.heap.size<=b:=by
   subst hsz;subst hby;rcases hown.2 with⟨rfl,rfl⟩|⟨g,cap,cur,rfl,hbg,hg,hnc,hcm,hcs,htake⟩
   ·by_cases hm:m=0
    ·subst hm;have hf:=run_firstCells_some (P:=P) w i.size 0 ad 0 c news hl aU;have Hi:(Builtin.append_ #[T,T] ty #[.slice none 0 0,.slice (some ad) 0 c]).run P w= .ok (.slice none 0 0) w:=by have hn0:news=[]:=LP (by simpa using hl);subst hn0;simp[Builtin.firstCells] at hf;simp[Builtin.append_,Ev hu,Go.sizeOf,typeInfo,program,Sem.run,hi,Builtin.lenOf,Builtin.firstCells,loadCells,loadCellsFrom]
     rw[hr] at Hi;cases Hi;exact⟨BM _,λb hb=>by simp[Value.ownBlock] at hb⟩
    ·have si:(m:Int)<=9223372036854775807:=by simp[maxLen] at Gv;omega
     have Hi:=run_append_nil (P:=P) (w:=w) T ty E i z hu hi hz ad m c news hl aU (by omega) si (by rw[Pc] at Ke;omega);rw[hr] at Hi;cases Hi;refine⟨Qb _,λb hb=>?_⟩;simp[Value.ownBlock] at hb;exact .inr (by omega)
   ·by_cases Sj:n+m<=cap
    ·have kM:n*i.size+news.length<=cur.size:=by rw[hl,hcs,<-Kc];exact LN _ Sj
     have Hi:=run_append_room (P:=P) w T ty E i hu hi g n cap cur hg ad m c news hl aU h1 Sj kM;rw[hr] at Hi;cases Hi;exact⟨BM _,λb hb=> .inl hb⟩
    ·have holds:∀j u,xs[j]? =some u->w.cell? ((⟨g,0,none⟩:Addr).add j)=some u:=hown.cells (g:=g) rfl;have si:((n+m:Nat):Int)<=9223372036854775807:=by simp[maxLen] at Gv;omega
     have Hi:=run_append_grow (P:=P) w T ty E i z hu hi hz ⟨g,0,none⟩ n cap xs hown.1 holds ad m c news hl aU (by omega) si (growslice_fits (by omega) Ke);rw[hr] at Hi;cases Hi;refine⟨Qb _,λb hb=>?_⟩;simp[Value.ownBlock] at hb;exact .inr (by omega)
  exact⟨v',w',hr,h2,⟨h3,H5.of key.1⟩,key.2⟩
def mS{ty:Ap}(h1:Dw P T=true)(h2:Dw P T2=true)(args:BA AW)(w:AR):(Builtin.append_ #[T,T2] ty args).run P w=(Builtin.append_ #[T,T] ty args).run P w:=by
 let⟨e1,u1⟩:=fP h1;let⟨e2,u2⟩:=fP h2;unfold Builtin.append_;have g0:(#[T,T2]:BA Ap)[0]? =some T:=rfl;have g1:(#[T,T2]:BA Ap)[1]? =some T2:=rfl;have g2:(#[T,T]:BA Ap)[0]? =some T:=rfl;have g3:(#[T,T]:BA Ap)[1]? =some T:=rfl;simp[g0,g1,g2,g3];cases args[0]? with
 |none=>rfl
 |some a0=>cases args[1]? with
  |none=>rfl
  |some a1=>
   simp[E0,Ev u1,Dn];cases a0<;>try rfl
   simp[E0,Ev u1,Ev u2,Dn,KB]
def pG(h:Fw P T E sz bytes=true):Dw P T=true:=by let⟨i,z,hu,_⟩:=zV h;simp[Dw,hu]
def od(sub:∀r o,H r=some o->w.heap[r]? =some o)(h:(G6 l).ok H v):∃ad cap news,v= .slice ad l.length cap/\DQ H l news/\(∀j u,news[j]? =some u->∃x,ad=some x/\w.cell? (x.add j)=some u)/\(ad=none->l.length=0):=by
 let⟨ad,cap,e,_,hx⟩:=h;by_cases hl:l=[]
 ·subst hl;exact⟨ad,cap,[],e,rfl,λj u h=>by simp at h,λ_=>rfl⟩
 ·let⟨b,off,cs,E,fr,e1,hb,hsz,ho⟩:=hx hl;refine⟨ad,cap,_,e,ho,?_,λe=>by rw[e1] at e;cases e⟩;intro j u hj;refine⟨⟨b,off,none⟩,e1,?_⟩;rw[addr_add];rw[WM] at hj;split at hj
  ·simp at hj;simp[World.cell?,sub _ _ hb,hj]
  ·cases hj
def wI(BE:∀q∈Ai,q∈Γ){s:Nat}(Gf:Dw P T2=true)(hs:look Ai s=some (.same t))(ht:look Ai t=some (.buf E sz l))(hx:Arg Ai x (G6 l2))(hT:Fw P T E sz bytes=true)(hu:Fo sz l2)
 (Gv:l.length+l2.length<=maxLen)(Ke:(l.length+l2.length)*bytes<=140737488355328)(DK:dd<N):Step P N ops ⟨some dd,.call ⟨.builtin .append,#[.tmp s,x],#[T,T2]⟩,ty,pos,af,none⟩ Γ ((dd,.buf E sz<|l++l2)::del dd (BI t Γ)):=by
 intro w0 H0 a w H BF K Q k;simp[Region.wanted,if_true];have hb:=BF.holds _ (BE _<|B6 ht);let⟨xs,hr,ho,hn⟩:=hb;have e2:Ae a s=Ae a t:=BF.holds _ (BE _<|B6 hs);let⟨ad,cap,news,ex,ho2,hc,Ul⟩:=od BF.sub<|hx.ok<|BF.weaken BE
 have hlen:news.length=l2.length*sz:=by rw[Mt ho2,KZ hu]
 let⟨v',w',F4,h2,h3,h4⟩:=lN hT hr (FY _) (c:=cap) hlen hc (Rx ho2) Ul Gv Ke ty;unfold Oper.wp;have er:(execOp a.eval ⟨some dd,.call ⟨.builtin .append,#[.tmp s,x],#[T,T2]⟩,ty,pos,af,none⟩).run P w= .ok (.value v') w':=by have e3:a.eval (.tmp s)=Ae a t:=e2;simp[execOp,resolve,invoke,builtin,e3,ex,mS (pG hT) Gf,F4]
 rw[er,OV];refine k _ w' H (Vo BF (BE _<|B6 ht) h3 (λc hc=>⟨hc,(hn c hc).2⟩) DK (by simp[AQ.CA]) ⟨xs++news,by simpa using h2,Rk ho ho2,λb hb=>?_⟩ h4);rcases h4 b hb with h|h
 ·exact hn b h
 ·refine⟨?_,.inl<|Cu BF.below.size h⟩;cases hh:H b with
  |none=>rfl
  |some o=>have:=HO BF.sub hh;omega
def ah2(BE:∀q∈Ai,q∈Γ){s:Nat}{hv:v.oneCell'=true}(Gf:Dw P T2=true)(hs:look Ai s=some (.val<|TEq v hv))(ht:look Ai t=some (.Nz v E sz l))(hx:Arg Ai x (G6 l2))(hT:Fw P T E sz bytes=true)(hu:Fo sz l2)
 (Gv:l.length+l2.length<=maxLen)(Ke:(l.length+l2.length)*bytes<=140737488355328)(DK:dd<N):Step P N ops ⟨some dd,.call ⟨.builtin .append,#[.tmp s,x],#[T,T2]⟩,ty,pos,af,none⟩ Γ ((dd,.buf E sz<|l++l2)::del dd (BI t Γ)):=by
 intro w0 H0 a w H BF K Q k;simp[Region.wanted,if_true];have hb:=BF.holds _ (BE _<|B6 ht);let⟨xs,hr,ho,hn⟩:=hb;have e2:Ae a s=v:=BF.holds _ (BE _<|B6 hs);let⟨ad,cap,news,ex,ho2,hc,Ul⟩:=od BF.sub<|hx.ok<|BF.weaken BE
 have hlen:news.length=l2.length*sz:=by rw[Mt ho2,KZ hu]
 let⟨v',w',F4,h2,h3,h4⟩:=lN hT hr (FY _) (c:=cap) hlen hc (Rx ho2) Ul Gv Ke ty;unfold Oper.wp;have er:(execOp a.eval ⟨some dd,.call ⟨.builtin .append,#[.tmp s,x],#[T,T2]⟩,ty,pos,af,none⟩).run P w= .ok (.value v') w':=by have e3:a.eval (.tmp s)=v:=e2;simp[execOp,resolve,invoke,builtin,e3,ex,mS (pG hT) Gf,F4]
 rw[er,OV];refine k _ w' H (Vo BF (BE _<|B6 ht) h3 (λc hc=>⟨hc,(hn c hc).2⟩) DK (by simp[AQ.CA]) ⟨xs++news,by simpa using h2,Rk ho ho2,λb hb=>?_⟩ h4);rcases h4 b hb with h|h
 ·exact hn b h
 ·refine⟨?_,.inl<|Cu BF.below.size h⟩;cases hh:H b with
  |none=>rfl
  |some o=>have:=HO BF.sub hh;omega
def aiK{s:Nat}(Gf:Dw P T2=true)(hs:look Γ s=some (.same t))(ht:look Γ t=some (.buf E sz l))(hx:Arg Γ x (G6 l2))(hT:Fw P T E sz bytes=true)(hu:Fo sz l2)
 (Gv:l.length+l2.length<=maxLen)(Ke:(l.length+l2.length)*bytes<=140737488355328)(DK:dd<N):Step P N ops ⟨some dd,.call ⟨.builtin .append,#[.tmp s,x],#[T,T2]⟩,ty,pos,af,none⟩ Γ ((dd,.buf E sz<|l++l2)::del dd (BI t Γ)):=wI (λ_ h=>h) Gf hs ht hx hT hu Gv Ke DK
def aj8{s:Nat}(Gf:Dw P T2=true)(hs:look Γ s=some (.same t))(ht:look Γ t=some (.buf E sz l))(hx:Arg Γ x (G6 l2))(hT:Fw P T E sz bytes=true)(hu:Fo sz l2)
 (Gv:l.length+l2.length<=maxLen)(Ke:(l.length+l2.length)*bytes<=140737488355328)(DK:dd<N):Q6 P N ops Γ ⟨some dd,.call ⟨.builtin .append,#[.tmp s,x],#[T,T2]⟩,ty,pos,af,none⟩ t dd (.buf E sz<|l++l2):=λ_ BE=>wI BE Gf hs ht hx hT hu Gv Ke DK
def vh(BE:∀q∈Ai,q∈Γ)(Gf:Dw P T2=true)(ht:look Ai t=some (.buf E sz l))(hx:Arg Ai x (G6 l2))(hT:Fw P T E sz bytes=true)(hu:Fo sz l2)
 (Gv:l.length+l2.length<=maxLen)(Ke:(l.length+l2.length)*bytes<=140737488355328)(DK:dd<N):Step P N ops ⟨some dd,.call ⟨.builtin .append,#[.tmp t,x],#[T,T2]⟩,ty,pos,af,none⟩ Γ ((dd,.buf E sz<|l++l2)::del dd (BI t Γ)):=by
 intro w0 H0 a w H BF K Q k;simp[Region.wanted,if_true];have hb:=BF.holds _ (BE _<|B6 ht);let⟨xs,hr,ho,hn⟩:=hb;let⟨ad,cap,news,ex,ho2,hc,Ul⟩:=od BF.sub<|hx.ok<|BF.weaken BE
 have hlen:news.length=l2.length*sz:=by rw[Mt ho2,KZ hu]
 let⟨v',w',F4,h2,h3,h4⟩:=lN hT hr (FY _) (c:=cap) hlen hc (Rx ho2) Ul Gv Ke ty;unfold Oper.wp;have er:(execOp a.eval ⟨some dd,.call ⟨.builtin .append,#[.tmp t,x],#[T,T2]⟩,ty,pos,af,none⟩).run P w= .ok (.value v') w':=by have e3:a.eval (.tmp t)=Ae a t:=rfl;simp[execOp,resolve,invoke,builtin,e3,ex,mS (pG hT) Gf,F4]
 rw[er,OV];refine k _ w' H (Vo BF (BE _<|B6 ht) h3 (λc hc=>⟨hc,(hn c hc).2⟩) DK (by simp[AQ.CA]) ⟨xs++news,by simpa using h2,Rk ho ho2,λb hb=>?_⟩ h4);rcases h4 b hb with h|h
 ·exact hn b h
 ·refine⟨?_,.inl<|Cu BF.below.size h⟩;cases hh:H b with
  |none=>rfl
  |some o=>have:=HO BF.sub hh;omega
def ah3(Gf:Dw P T2=true)(ht:look Γ t=some (.buf E sz l))(hx:Arg Γ x (G6 l2))(hT:Fw P T E sz bytes=true)(hu:Fo sz l2)
 (Gv:l.length+l2.length<=maxLen)(Ke:(l.length+l2.length)*bytes<=140737488355328)(DK:dd<N):Step P N ops ⟨some dd,.call ⟨.builtin .append,#[.tmp t,x],#[T,T2]⟩,ty,pos,af,none⟩ Γ ((dd,.buf E sz<|l++l2)::del dd (BI t Γ)):=vh (λ_ h=>h) Gf ht hx hT hu Gv Ke DK
def ahc(Gf:Dw P T2=true)(ht:look Γ t=some (.buf E sz l))(hx:Arg Γ x (G6 l2))(hT:Fw P T E sz bytes=true)(hu:Fo sz l2)
 (Gv:l.length+l2.length<=maxLen)(Ke:(l.length+l2.length)*bytes<=140737488355328)(DK:dd<N):Q6 P N ops Γ ⟨some dd,.call ⟨.builtin .append,#[.tmp t,x],#[T,T2]⟩,ty,pos,af,none⟩ t dd (.buf E sz<|l++l2):=λ_ BE=>vh BE Gf ht hx hT hu Gv Ke DK
def OY(ht:look Γ t=some s)(hl:s.CA=[])(DK:dd<N)(o:Op)(ho:o= .assign (.tmp t)\/o= .move (.tmp t)):Q6 P N ops Γ ⟨some dd,o,ty,pos,af,none⟩ t dd s:=by
 intro EM BE w0 H0 a w H BF K Q k;simp[Region.wanted,if_true];have er:(execOp a.eval ⟨some dd,o,ty,pos,af,none⟩).run P w= .ok (.value<|Ae a t) w:=by rcases ho with rfl|rfl<;>rfl
 unfold Oper.wp;rw[er,OV];exact k _ w H (Vo BF (BE _<|B6 ht) (nU w) (λ_ e=>by cases e) DK (by rw[hl];simp) (BF.holds _<|BE _<|B6 ht) λ_ h=> .inl h)
def Cb(ht:look Γ t=some s)(hl:s.CA=[])(DK:dd<N)(o:Op)(ho:o= .assign (.tmp t)\/o= .move (.tmp t)):Step P N ops ⟨some dd,o,ty,pos,af,none⟩ Γ ((dd,s)::del dd (BI t Γ)):=by
 intro w0 H0 a w H BF K Q k;simp[Region.wanted,if_true];have er:(execOp a.eval ⟨some dd,o,ty,pos,af,none⟩).run P w= .ok (.value<|Ae a t) w:=by rcases ho with rfl|rfl<;>rfl
 unfold Oper.wp;rw[er,OV];exact k _ w H (Vo BF (B6 ht) (nU w) (λ_ e=>by cases e) DK (by rw[hl];simp) (BF.holds _<|B6 ht) λ_ h=> .inl h)
def Ac{a b:Nat}(h:Nat.blt a b=true):a<b:=Fa h
def Iu(n:Nat)(agg:Bool):Ty where
 n:=n
 agg:=agg
 ok:=λ_ v=>Shape n agg v
 mono:=λ_ h=>h
 shape:=λh=>h
def ajH(cs0:BA AW)(off:Nat):∀(l:A3 AW) (k:Nat),(off+k+l.length<=cs0.size)->(l.zipIdx k).foldl (λcs (x:AW×Nat)=>cs.setIfInBounds (off+x.2) x.1) cs0=(cs0.toList.take (off+k)++l++cs0.toList.drop (off+k+l.length)).toArray:=by
 intro l
 induction l generalizing cs0 with
 |nil=>intro k _;simp
 |cons v l ih=>
  intro k hk;simp[E7] at hk;simp[List.zipIdx_cons,iL];rw[ih _ (k+1) (by simp;omega)]
  congr 1
  simp[im,E7];have hlt:off+k<cs0.toList.length:=by simp;omega
  have h1:List.take (off+(k+1)) (cs0.toList.set (off+k) v)=List.take (off+k) cs0.toList++[v]:=by rw[<-LG,List.take_succ_eq_append_getElem (by simpa using hlt)];simp[List.take_set];rw[List.set_eq_of_length_le (by simp;omega)]
  have h2:List.drop (off+(k+1)+l.length) (cs0.toList.set (off+k) v)=List.drop (off+k+(l.length+1)) cs0.toList:=by
   rw[iS (by omega)]
   congr 1;omega
  rw[h1,h2];simp
inductive E2(P:CO)(Γ:Ctx):A3 (Nat×CH)->A3 Ty->A3 Ty->Prop where
 |nil {l:A3 Ty}:E2 P Γ [] l l
 |cons {i:Nat} {x:CH} {τ σ:Ty} {ps:A3 (Nat×CH)} {l l':A3 Ty} (hx:Arg Γ x σ) (hi:l[i]? =some τ) (hn:σ.n=τ.n) (r:E2 P Γ ps (l.set i σ) l'):E2 P Γ ((i,x)::ps) l l'
def FR(l:A3 Ty):A3 Nat:=l.map (·.n)
def yj{i:Nat}{σ:Ty}(h:l[i]? =some τ)(hn:σ.n=τ.n):FR (l.set i σ)=FR l:=by
 simp[FR,U7];apply WI;intro j;rw[List.getElem?_set];split
 ·rename_i e;subst e;split
  ·simp[h,hn]
  ·rename_i hlt;have:=(FP.1 h).1;simp at hlt;omega
 ·rfl
def E2.fill{ps:A3 (Nat×CH)}{l l':A3 Ty}(h:E2 P Γ ps l l'){place:Nat->AA (Nat×Nat)}(KU:∀i n,(FR l)[i]? =some n->place i=some (((FR l).take i).sum,n))
  {w0:Aj P}{H0:HV}{N:Nat}{a:Act}{w:AR}{H:HV}(hs:Sat w0 H0 N Γ a w H):∀{cells:BA AW},DQ H l cells.toList->∃HL,Instr.fill place cells (ps.map λp=>(p.1,a.eval p.2))=some HL/\DQ H l' HL.toList:=by
 induction h with
 |nil=>exact λh=>⟨_,rfl,h⟩
 | @cons i x τ σ ps l l' hx hi hn r ih=>
  intro cells Ax;have hv:=hx.ok hs;have hsz:=(σ.shape hv).size;let⟨p1,_⟩:=NU Ax hi;have Mf:=Tz Ax hi hn hv;have abQ:=KU i τ.n (by simp[FR,hi]);have sT:((FR l).take i).sum=CS (l.take i):=by simp[FR,CS,qT]
  rw[sT] at abQ;have hlen:cells.toList.length=cells.size:=by simp
  rw[hlen] at p1;have ac3:=ajH cells (CS<|l.take i) (a.eval x).cells.toList 0 (by simp;omega);simp only[U8,Fg] at ac3;have hnn:(a.eval x).cells.size=τ.n:=by omega
  let⟨HL,h1,h2⟩:=ih (by rw[yj hi hn];exact KU) (cells:=(cells.toList.take (CS<|l.take i)++(a.eval x).cells.toList++cells.toList.drop (CS (l.take i)+(a.eval x).cells.size)).toArray) (by rw[hnn];simpa using Mf);refine⟨HL,?_,h2⟩;simp only[MO,Instr.fill,abQ];rw[if_neg (by simp;omega)];have e:Array.foldl (λcs (x:AW×Nat)=>cs.setIfInBounds (CS (List.take i l)+x.snd) x.fst) cells (a.eval x).cells.zipIdx=(List.take (CS<|List.take i l) cells.toList++(a.eval x).cells.toList++List.drop (CS (List.take i l)+(a.eval x).cells.size) cells.toList).toArray:=by rw[<-ac3,<-Array.foldl_toList,Array.toList_zipIdx]
  rw[<-h1]
  congr 1
def NY(P:CO)(T:Ap)(ns:A3 Nat):Bool:=
 match P.underlying T with
 |some (.struct fs)=>fs.toList.map (·.offset)==(List.range ns.length).map (λi=>(ns.take i).sum)&&(fs.toList.map (λf=>(P.info? f.type).map (·.size))==ns.map some)
 |_=>false
theorem ahY{fs:A3 Field}:∀{ns:A3 Nat},fs.map (λf=>(P.info? f.type).map (·.size))=ns.map some->∀w,(fs.mapM λf=>do pure (f.offset,<-Go.sizeOf f.type):Sem (A3<|Nat×Nat)).run P w= .ok ((fs.map (·.offset)).zip ns) w:=by
 induction fs with
 |nil=>intro ns h w;cases ns<;>simp_all
 |cons f fs ih=>
  intro ns h w;cases ns with
  |nil=>simp at h
  |cons n ns=>
   simp only[MO,List.cons.injEq] at h;let⟨h1,h2⟩:=h;cases hi:P.info? f.type with
   |none=>rw[hi] at h1;cases h1
   |some i=>rw[hi] at h1;simp at h1;have:=ih h2 w;simp only[List.mapM_cons,E0,Go.sizeOf,typeInfo,program,Sem.run,hi,KB,Dn,h1];simp only[Go.sizeOf,typeInfo,program] at this;rw[this];simp
def fz(hz:Dp P T (DF l))(hT:NY P T (FR l)=true)(hp:E2 P Γ ps l l'):Az P Γ ⟨d,.build T ps.toArray,ty,pos,af,g⟩ (.val<|DF l'):=
 Dj λw0 H0 N a w H hs=>by
  let⟨z,hzr,hzo⟩:=hz.run w;obtain⟨zc,rfl,sI⟩:=hzo H;unfold NY at hT;split at hT
  ·rename_i fs hu;simp[C6,QZ] at hT;let⟨h1,h2⟩:=hT;have hm:=ahY h2 w;have KU:∀i n,(FR l)[i]? =some n->((fs.toList.map (·.offset)).zip<|FR l).toArray[i]? =some (((FR l).take i).sum,n):=by intro i n hi;have hlt:=(FP.1 hi).1;simp[List.getElem?_toArray,h1];rw[qS];refine⟨?_,hi⟩;simp[hlt]
   let⟨HL,hf,Ax⟩:=hp.fill KU hs sI;have hmA:(fs.mapM λf=>do pure (f.offset,<-Go.sizeOf f.type):Sem (BA<|Nat×Nat)).run P w= .ok ((fs.toList.map (·.offset)).zip<|FR l).toArray w:=by
    have e:(fs.mapM λf=>do pure (f.offset,<-Go.sizeOf f.type):Sem (BA<|Nat×Nat))=List.toArray<$>(fs.toList.mapM λf=>do pure (f.offset,<-Go.sizeOf f.type)):=by rw[<-List.mapM_toArray]
    rw[e,Sem.run_map,hm]
    rfl
   refine⟨.agg HL,?_,⟨HL,rfl,Ax⟩,rfl⟩;have e2:(ps.toArray.map λ(i,x)=>(i,a.eval x)).toList=ps.map λp=>(p.1,a.eval p.2):=by simp
   have hf':Instr.fill (λi=>((fs.toList.map (·.offset)).zip<|FR l).toArray[i]?) zc (ps.toArray.map λ(i,x)=>(i,a.eval x)).toList=some HL:=by rw[e2];exact hf
   simp only[execOp,Instr.build,E0,hzr,Dn,Ev hu,Value.cells];rw[hmA];simp only[Dn];rw[hf'];simp
  ·cases hT
def YL(hz:Dp P T (DF l))(hT:LX P T n sz=true)(hu:Fo sz l)(hp:E2 P Γ ps l l'):Az P Γ ⟨d,.build T ps.toArray,ty,pos,af,g⟩ (.val<|DF l'):=
 Dj λw0 H0 N a w H hs=>by
  let⟨z,hzr,hzo⟩:=hz.run w;obtain⟨zc,rfl,sI⟩:=hzo H;let⟨e,i,hue,hi,hsz⟩:=pF hT;have KU:∀i n,(FR l)[i]? =some n->(λi=>some (i*sz,sz)) i=some (((FR l).take i).sum,n):=by
   intro i n hi;have hlt:=(FP.1 hi).1;simp[FR] at hlt;simp[FR,H9,Option.map_eq_some_iff] at hi;obtain⟨τ,hτ,rfl⟩:=hi;have h1:=hu τ<|LO hτ
   have h2:=KZ<|hu.take i
   simp only[CS,E1,EV<|W7 hlt] at h2;simp[FR,<-List.map_take,h1,h2]
  let⟨HL,hf,Ax⟩:=hp.fill KU hs sI;refine⟨.agg HL,?_,⟨HL,rfl,Ax⟩,rfl⟩;have e2:(ps.toArray.map λ(i,x)=>(i,a.eval x)).toList=ps.map λp=>(p.1,a.eval p.2):=by simp
  have hf':Instr.fill (λi=>some (i*sz,sz)) zc (ps.toArray.map λ(i,x)=>(i,a.eval x)).toList=some HL:=by rw[e2];exact hf
  have IM:(Go.sizeOf e).run P w= .ok sz w:=by simp[Go.sizeOf,typeInfo,program,Sem.run,hi,hsz]
  simp only[execOp,Instr.build,E0,hzr,Dn,Ev hue,Value.cells,IM];rw[hf'];simp
def oO{z:AW}(hz:τ.ok H z)(n:Nat):DQ H (List.replicate n τ) ((Array.range<|n*τ.n).map<|λi=>z.cells[i%z.cells.size]!).toList:=by
 have hs:=τ.shape hz
 induction n with
 |zero=>simp[DQ]
 |succ n ih=>
  have e:((Array.range<|(n+1)*τ.n).map<|λi=>z.cells[i%z.cells.size]!).toList=((Array.range<|n*τ.n).map<|λi=>z.cells[i%z.cells.size]!).toList++z.cells.toList:=by
   simp[Array.toList_map,Array.toList_range];rw[SC,List.range_add,G9,U6]
   congr 1
   apply List.ext_getElem
   ·simp[hs.size]
   ·intro i h1 h2;simp at h2;simp[List.getElem_map,List.getElem_range,Function.comp,Array.getElem_toList];rw[hs.size,Pb,Nat.add_mul_mod_self_right,SH (by rw[<-hs.size];exact h2)];rw[KA]
  rw[e,List.replicate_succ'];exact Rk ih ⟨z,[],by simp,hz,rfl⟩
def Gm(P:CO)(T:Ap)(E:Ap)(sz:Nat):Bool:=
 match P.underlying T with
 |some (.slice e)=>Nat.beq e E&&(match P.info? e with|some i=>Nat.beq i.size sz|none=>false)
 |_=>false
def v7(hz:Dp P E τ)(hT:Gm P T E sz=true)(hsz:τ.n=sz)(hpos:Nat.blt 0 (n*sz)=true)(hn:Nat.ble (n*sz) 16777216=true)(hp:E2 P Γ ps (List.replicate n τ) l')(hl:l'.length=n):Az P Γ ⟨d,.buildSlice T n ps.toArray,ty,pos,af,g⟩ (.val<|G6 l'):=
 MG λw0 H0 N a w H hs=>by
  let⟨z,hzr,hzo⟩:=hz.run w;have aqf:=Ac hpos;unfold Gm at hT;split at hT
  ·rename_i e hu;simp only[C6] at hT;let⟨h1,h2⟩:=hT;have h1:=EA h1;subst h1;split at h2
   ·rename_i i hi;have h2:=EA h2;have hz0:=oO (hzo H) n;rw[hsz] at hz0;have KU:∀i m,(FR<|List.replicate n τ)[i]? =some m->(λi=>some (i*sz,sz)) i=some (((FR<|List.replicate n τ).take i).sum,m):=by
     intro i m hi;simp only[FR,iR,List.getElem?_replicate] at hi;split at hi
     ·rename_i hlt;simp at hi;subst hi;simp[FR,iR,Ze,hsz,EV<|W7 hlt]
     ·cases hi
    let⟨HL,hf,Ax⟩:=hp.fill KU hs hz0;have e2:(ps.toArray.map λ(i,x)=>(i,a.eval x)).toList=ps.map λp=>(p.1,a.eval p.2):=by simp
    have IM:(Go.sizeOf e).run P w= .ok sz w:=by simp[Go.sizeOf,typeInfo,program,Sem.run,hi,h2]
    have hle:n*sz<=16777216:=Fa hn;have atu:∀zc:BA AW,((Array.range<|n*sz).map<|λi=>zc[i%zc.size]!)=((Array.range<|n*sz).map<|λi=>z.cells[i%z.cells.size]!)->Instr.fill (λi=>some (i*sz,sz)) ((Array.range<|n*sz).map<|λi=>zc[i%zc.size]!) (ps.toArray.map λ(i,x)=>(i,a.eval x)).toList=some HL:=by intro zc hzc;rw[hzc,e2];exact hf
    have hb:FV w.heap.size w (w.alloc<| .cells HL e):=FV.alloc _;refine⟨.slice (some ⟨w.heap.size,0,none⟩) n n,w.alloc<| .cells HL e,grow H w<|w.alloc<| .cells HL e,?_,Ext.grown hs.sub hb,?_,λb hb=>absurd hb<|AQ.free_spec rfl⟩
    ·have h0: ¬n*sz=0:=by omega
     have hff:=atu z.cells rfl;simp only[execOp,Instr.buildSlice,E0,Dn,Ev hu,IM];rw[if_neg (by omega)];simp only[E0,KB,Dn,if_neg h0,hzr];rw[hff];simp[newRow]
    ·refine⟨_,n,by rw[hl],by omega,λ_=>⟨w.heap.size,0,HL,e,(0,0),rfl,?_,?_,?_⟩⟩
     ·simp only[grow,Nat.lt_irrefl,if_false];exact Lv w _
     ·have:=Mt Ax;simp at this;omega
     ·have hlen:=Mt Ax;rw[Pe,Cz (by omega)];exact QP (Ext.grown hs.sub hb).le Ax
   ·cases h2
  ·cases hT
end
section
variable[D:DR]
variable{P:Program}{w0:Aj P}{H0:HV}{N:Nat}{Γ An:Ctx}{d:Option Tmp}{ty:TypeId}{pos:String}{af:Array Edge}{g:Option (Nat×Bool)}
def A8{Q:Exit->Act->AR->Prop}{y:Code}(h:Goal P w0 H0 N y Q Γ):EJ w0 H0 N (λa w=>y.wpIn (Fh w0.rd) 0 P Q a w) Γ:=h
def sc(t:Nat){s:AQ}{ts:A3 Nat}(h:look Γ t=some s)(r:ES Γ ts An):ES Γ (t::ts) ((t,s)::An):=ES.cons h r
end
section
variable[D:DR]
variable{P:Program}{w0:Aj P}{H0:HV}{N:Nat}{ops:Array Oper}{Γ An:Ctx}{d:Option Tmp}{ty:TypeId}{pos:String}{af:Array Edge}{g:Option (Nat×Bool)}
variable{sz:Nat}{l:A3 Ty}{T E:Ap}{x:CH}{t j p:Nat}{σ:Ty}{H:HV}{ρ:Ty}
def mkB(P:CO)(T E sz bytes:Nat):Bool:=
 match P.underlying T with
 |some (.slice e)=>Nat.beq e E&&(match P.info? e with|some i=>Nat.beq i.size sz&&Nat.beq i.bytes bytes&&Nat.blt 0 sz|none=>false)
 |_=>false
theorem amW{bytes:Nat}{y:CH}{n:Nat}{τ:Ty}(hT:mkB P T E sz bytes=true)(hz:Dp P E τ)(hsz:τ.n=sz)(hx:Arg Γ x (TI .i64 n))(hy:Arg Γ y (TI .i64 n))(hn:n<=9223372036854775807)(hb:bytes*n<=140737488355328):Az P Γ ⟨d,.makeSlice T x y,ty,pos,af,g⟩ (.buf E sz<|List.replicate n τ):=
 MG λw0 H0 N a w H hs=>by
  let⟨z,hzr,hzo⟩:=hz.run w;have e1:a.eval x= .int .i64 n:=hx.ok hs;have e2:a.eval y= .int .i64 n:=hy.ok hs;unfold mkB at hT;split at hT
  ·rename_i e hu;simp only[C6] at hT;let⟨h1,h2⟩:=hT;have h1:=EA h1;subst h1;split at h2
   ·rename_i i hi;simp only[C6] at h2;let⟨⟨h2,h3⟩,h4⟩:=h2;have h2:=EA h2;have h3:=EA h3;have h4:=Ac h4;have hz0:=oO (hzo H) n;rw[hsz] at hz0;have hw:IntKind.i64.wrap (n:Int)=n:=wrap_i64 (by unfold Cp;omega);have NH: ¬((bytes:Int)*n>2^48):=by grind
    have IM:∀w,(Go.sizeOf e).run P w= .ok sz w:=λw=>by simp[Go.sizeOf,typeInfo,program,Sem.run,hi,h2]
    have hti:∀w,(typeInfo e).run P w= .ok i w:=λw=>by simp[typeInfo,program,Sem.run,hi]
    have Sj:askRoom ((n:Int).toNat*i.bytes)=pure ():=by unfold askRoom roomBytes;rw[if_neg];rw[h3,Ce,MN];omega
    have Ba:FV w.heap.size w (w.alloc<| .cells ((Array.range<|n*sz).map<|λi=>z.cells[i%z.cells.size]!) e):=FV.alloc _;have F4:(Instr.makeSlice T (.int .i64 n)<| .int .i64 n).run P w= .ok (.slice (some ⟨w.heap.size,0,none⟩) n n) (w.alloc<| .cells ((Array.range<|n*sz).map<|λi=>z.cells[i%z.cells.size]!) e):=by
     have It: ¬((n:Int)<0):=by omega
     unfold Instr.makeSlice;simp only[E0,Ev hu,Dn,asInt,asIntOf,KB,hti,hw,h3,Sj,Ce,IM];have arA:(decide ((n:Int)<0)||decide ((bytes:Int)*n>2^48))=false:=by simp[It];omega
     simp only[arA];simp[UE,false_or,It,Int.lt_irrefl,or_self,if_false,E0,KB,Dn,IM];by_cases h0:n*sz=0
     ·have Kv:(Array.range 0:BA Nat)= #[]:=rfl;simp[IM,h0,newRow,Kv]
     ·simp[IM,h0,hzr,newRow]
    refine⟨_,_,H,by simp only[execOp,e1,e2,E0,F4,Dn];rfl,Ext.alloc hs.sub _,⟨((Array.range<|n*sz).map<|λi=>z.cells[i%z.cells.size]!).toList,⟨by simp,.inr ⟨w.heap.size,n,_,by simp,FY _,Lv w _,by simp,?_,by simp,?_⟩⟩,hz0,?_⟩,?_⟩
    ·simp[maxLen];omega
    ·rw[Cz (by simp)]
    ·intro b hb;simp[Value.ownBlock] at hb;subst hb;refine⟨?_,.inl hs.below.size⟩;cases hh:H w.heap.size with
     |none=>rfl
     |some o=>have:=HO hs.sub hh;omega
    ·intro b hb;simp[AQ.owns,Value.ownBlock] at hb;omega
   ·cases h2
  ·cases hT
theorem Vy{B:Aj P}{a:Act}{w:AR}{v:AW}(h:(AQ.buf E sz l).holds B a w H v)(hne:l≠[]):∃b cap cs xs,v= .slice (some ⟨b,0,none⟩) l.length cap/\w.heap[b]? =some (.cells cs E (0,0))/\l.length<=cap/\cap<=maxLen/\cs.size=cap*sz/\xs.length=l.length*sz/\cs.toList.take (l.length*sz)=xs/\DQ H l xs/\H b=none/\B.ED b:=by
 let⟨xs,⟨hx,hc⟩,ho,hn⟩:=h;rcases hc with⟨e,hl⟩|⟨g,cap,cur,e,hB,hg,hcap,hm,hcs,ht⟩
 ·grind
 ·subst e;exact⟨g,cap,cur,xs,rfl,hg,hcap,hm,hcs,hx,ht,ho,(hn g rfl).1,(hn g rfl).2⟩
def afh{s:Nat}{ix:CH}{k:IntKind}{i:Int}(hs:look Γ s=some (.same t))(ht:look Γ t=some (.buf E sz l))(hT:G1 P T sz=true)(hi:Arg Γ ix (TI k i))(h0:0<=i)(h1:i<l.length):Az P Γ ⟨d,.indexAddr T (.tmp s) ix,ty,pos,af,g⟩ (.KI t i.toNat sz):=
 Dj λw0 _ _ a w H BF=>by
  let⟨b,cap,cs,xs,e,hb,_⟩:=Vy (BF.holds _<|B6 ht) (λe=>by rw[e] at h1;simp at h1;omega);have e2:Ae a s=Ae a t:=BF.holds _<|B6 hs
  have e3:a.eval (.tmp s)= .slice (some ⟨b,0,none⟩) l.length cap:=e2.trans e;have ei:a.eval ix= .int k i:=hi.ok BF;exact⟨.pointer<|some ⟨b,0+i.toNat*sz,none⟩,by simp[execOp,e3,ei,lL hT b 0 l.length cap h0 h1],⟨b,_,cap,e,by simp⟩,rfl⟩
theorem aff(hp:look Γ p=some (.KI t j sz))(ht:look Γ t=some (.buf E sz l))(hu:Fo sz l)(hj:l[j]? =some σ)(hT:Bq P T σ.n σ.agg=true):Az P Γ ⟨d,.load T<| .tmp p,ty,pos,af,g⟩ (.val σ):=
 Dj λw0 _ _ a w H BF=>by
  have K3:=(FP.1 hj).1;let⟨b,cap,cs,xs,e,hb,hcap,_,hcs,hx,htake,ho,_,_⟩:=Vy (BF.holds _<|B6 ht) (λe=>by rw[e] at K3;simp at K3);let⟨b',sG,bN,e1,e2⟩:=BF.holds _<|B6 hp
  simp only at e e1;rw[e] at e1;cases e1;have e3:a.eval (.tmp p)= .pointer (some ⟨b,j*sz,none⟩):=e2;let⟨p1,p2⟩:=NU ho hj;have hc:CS (l.take j)=j*sz:=by rw[KZ<|hu.take _,E1,EV (by omega)]
  rw[hc] at p1 p2;have rR:l.length*sz<=cs.size:=by grind
  have O4:List.take σ.n (List.drop (j*sz) cs.toList)=List.take σ.n (List.drop (j*sz) xs):=by
   rw[<-htake,MU,OU]
   congr 1;omega
  refine⟨_,?_,p2,rfl⟩;have hr:=RQ (P:=P) hT hb (off:=j*sz) (by omega);rw[O4] at hr;simp[execOp,e3,Instr.loadAt,Instr.sureAddr,hr]
def yF{α:Type _}{cs y:A3 α}{o s n:Nat}(hy:y.length=s)(h1:o+s<=n)(h2:n<=cs.length):List.take n (cs.take o++y++cs.drop (o+s))=List.take o (cs.take n)++y++List.drop (o+s) (cs.take n):=by
 have e1:(cs.take o++y).length=o+s:=by simp[hy];omega
 rw[WG,e1,Cz (by omega),OU,EV (by omega),MU]
theorem uS{Ai:Ctx}(BE:∀q∈Ai,q∈Γ)(hp:look Ai p=some (.KI t j sz))(ht:look Ai t=some (.buf E sz l))(hu:Fo sz l)(hj:l[j]? =some ρ)(hx:Arg Ai x σ)(hn:σ.n=sz)(hT:Bq P T σ.n σ.agg=true):Step P N ops ⟨none,.store T (.tmp p) x,ty,pos,af,none⟩ Γ ((t,.buf E sz<|l.set j σ)::BI t Γ):=by
 intro w0 H0 a w H BF K Q k;simp[Region.wanted,if_true];have K3:=(FP.1 hj).1;let⟨b,cap,cs,xs,e,hb,hcap,hml,hcs,GS,htake,ho,hH,hB⟩:=Vy (BF.holds _ (BE _<|B6 ht)) (λe=>by rw[e] at K3;simp at K3);let⟨b',sG,bN,e1,e2⟩:=BF.holds _ (BE _<|B6 hp);simp only at e e1;rw[e] at e1;cases e1;have ep:a.eval (.tmp p)= .pointer (some ⟨b,j*sz,none⟩):=e2;have I2:=hx.ok<|BF.weaken BE
 have CT:=σ.shape I2;have hρ:ρ.n=sz:=hu ρ<|LO hj
 have hc:CS (l.take j)=j*sz:=by rw[KZ<|hu.take _,E1,EV (by omega)]
 let⟨p1,_⟩:=NU ho hj;rw[hc,hρ] at p1;have Mf:=Tz ho hj (hn.trans hρ.symm) I2;rw[hc,hρ] at Mf;have rR:l.length*sz<=cs.size:=by grind
 have F4:=TC (P:=P) (off:=j*sz) (Ts hT) CT.size hb (by rw[hn];omega) CT.cell;rw[hn] at F4;unfold Oper.wp;have er:(execOp a.eval ⟨none,.store T (.tmp p) x,ty,pos,af,none⟩).run P w= .ok .skip (w.setRow b (cs.toList.take (j*sz)++(a.eval x).cells.toList++cs.toList.drop (j*sz+sz)).toArray):=by simp[execOp,ep,Instr.storeAt,Instr.sureAddr,F4]
 rw[er,Qf]
 generalize sZ:(cs.toList.take (j*sz)++(a.eval x).cells.toList++cs.toList.drop (j*sz+sz)).toArray=E8
 have hg:Ee w (w.setRow b E8) (some b):=Ee.setRow w b _;have hlen:(a.eval x).cells.toList.length=sz:=by rw[Fg,CT.size,hn]
 refine k a _ H (PD BF (BE _<|B6 ht) hg hB (by simp[AQ.owns,e,Value.ownBlock]) ?_ λc hc=> .inl hc);refine⟨_,⟨?_,.inr ⟨b,cap,E8,by simpa using e,FY _,U4 w b _ _ _ _ hb,by simpa using hcap,hml,?_,rfl⟩⟩,?_,?_⟩
 ·grind
 ·grind
 ·have:List.take (l.length*sz) E8.toList=List.take (j*sz) xs++(a.eval x).cells.toList++List.drop (j*sz+sz) xs:=by rw[<-sZ,<-htake];exact yF hlen (by omega) (by simp;omega)
  simp[LJ];rw[this];exact Mf
 ·intro c hc;simp[e,Value.ownBlock] at hc;subst hc;exact⟨hH,hB⟩
def af4(hp:look Γ p=some (.KI t j sz))(ht:look Γ t=some (.buf E sz l))(hu:Fo sz l)(hj:l[j]? =some ρ)(hx:Arg Γ x σ)(hn:σ.n=sz)(hT:Bq P T σ.n σ.agg=true):Step P N ops ⟨none,.store T (.tmp p) x,ty,pos,af,none⟩ Γ ((t,.buf E sz<|l.set j σ)::BI t Γ):=uS (λ_ h=>h) hp ht hu hj hx hn hT
def aej(hp:look Γ p=some (.KI t j sz))(ht:look Γ t=some (.buf E sz l))(hu:Fo sz l)(hj:l[j]? =some ρ)(hx:Arg Γ x σ)(hn:σ.n=sz)(hT:Bq P T σ.n σ.agg=true):P3 P N ops Γ ⟨none,.store T (.tmp p) x,ty,pos,af,none⟩ t (.buf E sz<|l.set j σ):=λ_ BE=>uS BE hp ht hu hj hx hn hT
def v8(hu:Fo sz l):∀{cs:A3 AW},DQ H l cs->∀(lo hi:Nat),DQ H ((l.take hi).drop lo) ((cs.take<|hi*sz).drop<|lo*sz):=by
 induction l with
 |nil=>intro cs h lo hi;have:cs=[]:=h;subst this;simp[DQ]
 |cons τ l ih=>
  rintro cs ⟨v,rest,e,hv,hr⟩ lo hi;subst e;have h1:τ.n=sz:=hu τ (by simp);have hvs:v.cells.toList.length=sz:=by rw[Fg,(τ.shape hv).size,h1]
  cases hi with
  |zero=>simp[DQ]
  |succ hi=>
   have ht:List.take ((hi+1)*sz) (v.cells.toList++rest)=v.cells.toList++List.take (hi*sz) rest:=by
    rw[SC,Pb,WG,hvs,Cz (by omega)]
    congr 2;omega
   rw[ht];cases lo with
   |zero=>have:=ih (λx hx=>hu x (by simp[hx])) hr 0 hi;simp[Pe,iA,iV] at this⊢;exact⟨v,_,rfl,hv,this⟩
   |succ lo=>
    have hd:List.drop ((lo+1)*sz) (v.cells.toList++List.take (hi*sz) rest)=List.drop (lo*sz) (List.take (hi*sz) rest):=by rw[SC,Pb,Nf,hvs,N2 (by omega)];simp
    rw[hd];exact ih (λx hx=>hu x (by simp[hx])) hr lo hi
theorem anu(hu:Fo sz l){ad:AA Addr}{len cap:Nat}(h:(G6 l).ok H (.slice ad len cap)){lo hi m:Nat}(hlh:lo<=hi)(hhl:hi<=l.length)(nc:Nat)(hnc:hi-lo<=nc)(hm:m=lo->lo=hi):(G6<|(l.take hi).drop lo).ok H (.slice (if m=lo then ad else ad.map (·.add (lo*sz))) (hi-lo) nc):=by
 let⟨ad',bN,e,hcap,hx⟩:=h;cases e;have hlen:((l.take hi).drop lo).length=hi-lo:=by simp;omega
 refine⟨if m=lo then ad else ad.map (·.add (lo*sz)),nc,by rw[hlen],by omega,λhne=>?_⟩;have hne':l≠[]:=by grind
 have hlt:lo<hi:=by grind
 let⟨b,off,cs,E,fr,e1,hb,hs,ho⟩:=hx hne';subst e1;have hml: ¬m=lo:=λe=>by have:=hm e;omega
 have hlc:CS l=l.length*sz:=KZ hu;have BE:(Fo sz<|(l.take hi).drop lo):=λx hx=>hu x<|Qk<|UF hx
 have hcn:CS ((l.take hi).drop lo)=(hi-lo)*sz:=by rw[KZ BE,hlen]
 have hmul:hi*sz<=l.length*sz:=LN _ hhl;have avP:(hi-lo)*sz+lo*sz=hi*sz:=by rw[<-Kc];congr 1;omega
 refine⟨b,off+lo*sz,cs,E,fr,by simp[hml,addr_add],hb,by omega,?_⟩;have:=v8 hu ho lo hi;rw[hcn];have e2:List.take ((hi-lo)*sz) (List.drop (off+lo*sz) cs.toList)=List.drop (lo*sz) (List.take (hi*sz)<|List.take (CS l)<|List.drop off cs.toList):=by
  rw[OU,EV (by omega),MU,FZ]
  congr 1;omega
 rw[e2];exact this
def akU{lo hi:AA CH}{i:Nat}(hT:G1 P T sz=true)(hx:Arg Γ x (G6 l))(hu:Fo sz l)
 (Fl:(lo=none/\i=0)\/∃y k,lo=some y/\Arg Γ y (TI k i))(Kx:(hi=none/\j=l.length)\/∃y k,hi=some y/\Arg Γ y (TI k j))(KW:i<=j)(K3:j<=l.length):Az P Γ ⟨d,.slice T x lo hi none,ty,pos,af,g⟩ (.val<|G6<|(l.take j).drop i):=
 Dj λw0 _ _ a w H hs=>by
  have hxo:=hx.ok hs;have asv:=hxo;let⟨ad,cap,e,hcap,hxx⟩:=asv;rw[e] at hxo;let⟨el,ii,hue,hii,hsz⟩:=pZ hT;have IM:∀w,(Go.sizeOf el).run P w= .ok sz w:=λw=>by simp[Go.sizeOf,typeInfo,program,Sem.run,hii,hsz]
  have hbd:(Instr.sliceBounds true l.length cap (lo.map a.eval) (hi.map a.eval) none).run P w= .ok (i,j,cap) w:=by
   have b1:∀(k:IntKind) (code:BoundsCode),(Instr.sliceBound (.int k (j:Int)) cap code).run P w= .ok j w:=λk code=>by
    have:(j:Int)<=cap:=by omega
    simp[Instr.sliceBound,asIntOf];omega
   have b2:∀(k:IntKind) (code:BoundsCode),(Instr.sliceBound (.int k (i:Int)) j code).run P w= .ok i w:=λk code=>by simp[Instr.sliceBound,asIntOf];omega
   rcases Fl with⟨e1,e2⟩|⟨y,k,e1,e2⟩<;>rcases Kx with⟨f1,f2⟩|⟨z,k',f1,f2⟩
   ·subst e1;subst f1;subst e2;subst f2;simp[Instr.sliceBounds]
   ·subst e1;subst f1;subst e2;have ez:a.eval z= .int k' j:=f2.ok hs;simp[Instr.sliceBounds,ez,b1]
   ·subst e1;subst f1;subst f2;have ey:a.eval y= .int k i:=e2.ok hs;simp[Instr.sliceBounds,ey,b2]
   ·subst e1;subst f1;have ey:a.eval y= .int k i:=e2.ok hs;have ez:a.eval z= .int k' j:=f2.ok hs;simp[Instr.sliceBounds,ey,ez,b1,b2]
  refine⟨_,?_,anu hu hxo KW K3 (m:=cap) (cap-i) (by omega) (λe=>by omega),rfl⟩;have e3:a.eval x= .slice ad l.length cap:=e;simp[execOp,e3,Instr.sliceAt,Ev hue,Instr.slice,hbd,IM]
end
section
variable[D:DR]
variable{P:Program}{N:Nat}{ops:Array Oper}{Γ An:Ctx}{d:Option Tmp}{ty:TypeId}{pos:String}{af:Array Edge}{g:Option (Nat×Bool)}
variable{T:Ap}{α:Type}{x:CH}{f:α->Ty}{l:A3 α}{sz t:Nat}{n:Int}{y:CH}{E T':Ap}{k:IntKind}{m i r:Int}{H:HV}{w0:Aj P}{j p:Nat}{z:α}{bytes:Nat}{v:AW}{off:Nat}{τ:Ty}{ix:CH}{dd:Nat}{T2:Ap}{len:Nat}{a:Act}{w:AR}{F0:BA Ap}{σ:Ty}{b:Bool}{lo hi:AA CH}{H0:HV}{k':IntKind}{xs:A3 CH}{args Bm:A3 Ty}
def KE{o:Oper}{s s':AQ}(h:Az P Γ o s)(e:s=s'):Az P Γ o s':=e▸h
@[reducible] def TS(l:A3 UInt8):Ty:=T6 ⟨l.toArray⟩
@[reducible] def lT{α:Type}(f:α->Ty)(l:A3 α):A3 Ty:=l.map f
@[reducible] def TL{α:Type}(f:α->Ty)(l:A3 α):Ty:=G6<|lT f l
@[reducible] def bQ{α:Type}(f:α->Ty)(l:A3 α):Ty:=DF<|lT f l
def TN{α:Type}(f:α->Ty)(l:A3 α):Ty where
 n:=1
 agg:=false
 ok:=λH v=>(TL f l).ok H v/\(l=[]->v= .slice none 0 0)
 mono:=λh k=>⟨(TL f l).mono h k.1,k.2⟩
 shape:=λk=>(TL f l).shape k.1
def AB{α:Type}(l:A3 α):Int->AA α
 | .ofNat n=>l[n]?
 | .negSucc _=>none
def C7{α:Type}(l:A3 α)(lo hi:Int):AA (A3 α):=bif decide (0<=lo)&&(decide (lo<=hi)&&decide (hi<=l.length)) then some ((l.take hi.toNat).drop lo.toNat) else none
def He(n:Int):Bool:=decide (-9223372036854775808<=n)&&decide (n<=9223372036854775807)
def AH(n:Int):AA Int:=bif He n then some n else none
def BG{α:Type}(bytes:Nat)(l m:A3 α):AA (A3 α):=bif decide ((l.length+m.length)*bytes<=140737488355328)&&decide (l.length+m.length<=9223372036854775807) then some (l++m) else none
def mk_{α:Type}(bytes:Nat)(n:Int)(z:α):AA (A3 α):=bif decide (0<=n)&&(decide (n<=9223372036854775807)&&decide (bytes*n<=140737488355328)) then some (List.replicate n.toNat z) else none
def IK(l m:A3 UInt8):AA (A3 UInt8):=bif decide (l.length+m.length<=9223372036854775807) then some (l++m) else none
def Gl(m n:Int):AA Int:=bif decide (n=0) then none else AH (m.tdiv n)
def Fu(m n:Int):AA Int:=bif decide (n=0) then none else some (m.tmod n)
def I9{x:α}(h:AB l i=some x):0<=i/\i<l.length/\l[i.toNat]? =some x:=by
 cases i with
 |ofNat n=>have h':l[n]? =some x:=h;have:=(FP.1 h').1;refine⟨Int.natCast_nonneg n,?_,h'⟩;show(n:Int)<_;omega
 |negSucc n=>cases h
theorem yG{r:A3 α}{lo hi:Int}(h:C7 l lo hi=some r):0<=lo/\lo<=hi/\hi<=l.length/\r=(l.take hi.toNat).drop lo.toNat:=by grind [C7]
def aj3(h:He n=true):Cp n:=by simpa[He,Cp] using h
theorem Yw(h:AH n=some r):Cp n/\r=n:=by
 unfold AH at h;cases hc:He n
 ·grind
 ·rw[hc] at h;exact⟨aj3 hc,(E9 h).symm⟩
theorem Yi{b:Nat}{m r:A3 α}(h:BG b l m=some r):(l.length+m.length)*b<=140737488355328/\l.length+m.length<=9223372036854775807/\r=l++m:=by grind [BG]
theorem amc{b:Nat}{r:A3 α}(h:mk_ b n z=some r):∃m:Nat,n=m/\m<=9223372036854775807/\b*m<=140737488355328/\r=List.replicate m z:=by
 unfold mk_ at h;cases hc:(decide (0<=n)&&(decide (n<=9223372036854775807)&&decide (b*n<=140737488355328)))
 ·grind
 ·grind
theorem aiT{l m r:A3 UInt8}(h:IK l m=some r):l.length+m.length<=9223372036854775807/\r=l++m:=by
 unfold IK at h;cases hc:decide (l.length+m.length<=9223372036854775807)
 ·grind
 ·grind
theorem alI(h:Gl m n=some r):n≠0/\Cp (m.tdiv n)/\r=m.tdiv n:=by
 unfold Gl at h;cases hc:decide (n=0)
 ·rw[hc] at h;let⟨h1,h2⟩:=Yw h;exact⟨Bg hc,h1,h2⟩
 ·grind
theorem akG(h:Fu m n=some r):n≠0/\r=m.tmod n:=by
 unfold Fu at h;cases hc:decide (n=0)
 ·grind
 ·grind
def eI(l:A3 UInt8):(⟨l.toArray⟩:ByteArray).toList=l:=by
 have key:∀(b:ByteArray) (n:Nat) (i:Nat) (r:A3 UInt8),b.size-i=n->i<=b.size->ByteArray.toList.loop b i r=r.reverse++b.data.toList.drop i:=by
  intro b n
  induction n with
  |zero=>
   intro i r hn hi;unfold ByteArray.toList.loop;have: ¬i<b.size:=by omega
   rw[if_neg this,List.drop_eq_nil_of_le (by simp[Fg];exact qK this)];simp
  |succ n ih=>
   intro i r hn hi;unfold ByteArray.toList.loop;have hlt:i<b.size:=by omega
   rw[if_pos hlt,ih (i+1) _ (by omega) (by omega)];have hl:i<b.data.toList.length:=by simpa using hlt
   rw[UK hl];have:b.get! i=b.data.toList[i]:=by
    cases b with
    |mk a=>show a[i]! =_;rw[KA a i hlt];simp
   simp[this]
 unfold ByteArray.toList;rw[key _ _ 0 [] rfl<|FY _];simp
def Arg.s{b:ByteArray}{l:A3 UInt8}(h:b=⟨l.toArray⟩):Arg Γ (.const<| .string b) (TS l):=⟨λ_=>by subst h;rfl⟩
def Arg.nl:Arg Γ (.const<| .slice none 0 0) (TL f []):=Arg.abn
def Arg.nn:Arg Γ (.const<| .slice none 0 0) (TN f []):=⟨λhs=>⟨(Arg.abn (Γ:=Γ)).ok hs,λ_=>rfl⟩⟩
def rp:∀H v,(TN f l).ok H v->(TL f l).ok H v:=λ_ _ h=>h.1
theorem rr(h:l.isEmpty=false):∀H v,(TL f l).ok H v->(TN f l).ok H v:=by simp_all [Ty.ok,TL,TN]
def Nc{m n r:A3 UInt8}(hx:Arg Γ x (TS m))(hy:Arg Γ y (TS n))(h:IK m n=some r):Az P Γ ⟨d,.binOp .add T x y T',ty,pos,af,g⟩ (.val<|TS r):=
 IC hx hy λH u v hu hv w _=>by
  cases hu;cases hv;let⟨h1,h2⟩:=aiT h;subst h2;have hsz: ¬(((⟨m.toArray⟩:ByteArray).size+(⟨n.toArray⟩:ByteArray).size:Nat):Int)>IntKind.i64.max:=by
   have e1:(⟨m.toArray⟩:ByteArray).size=m.length:=by simp[ByteArray.size]
   have e2:(⟨n.toArray⟩:ByteArray).size=n.length:=by simp[ByteArray.size]
   rw[e1,e2];have:IntKind.i64.max=9223372036854775807:=rfl;rw[this];omega
  refine⟨.string<|⟨m.toArray⟩++⟨n.toArray⟩,?_,?_⟩
  ·simp only[eqGuard,binOp,Op.stringOp,if_neg hsz];rfl
  ·show Value.string _=Value.string _
   congr 1
def Pp{m n:A3 UInt8}(hx:Arg Γ x (TS m))(hy:Arg Γ y (TS n)):Az P Γ ⟨d,.binOp .eql T x y T',ty,pos,af,g⟩ (.val<|Aw<|m==n):=by have:=aoW (P:=P) (d:=d) (ty:=ty) (pos:=pos) (af:=af) (g:=g) (T:=T) (T':=T') hx hy;rwa [eI,eI] at this
def ab6{m n:A3 UInt8}(hx:Arg Γ x (TS m))(hy:Arg Γ y (TS n)):Az P Γ ⟨d,.binOp .neq T x y T',ty,pos,af,g⟩ (.val<|Aw<| !(m==n)):=by have:=aoR (P:=P) (d:=d) (ty:=ty) (pos:=pos) (af:=af) (g:=g) (T:=T) (T':=T') hx hy;rwa [eI,eI] at this
def ET{s:A3 UInt8}(hT:isStr P T=true)(hx:Arg Γ x (TS s)):Az P Γ ⟨d,.call ⟨.builtin .len,#[x],#[T]⟩,ty,pos,af,g⟩ (.val<|TI .i64 s.length):=by
 have:=ahM (P:=P) (d:=d) (ty:=ty) (pos:=pos) (af:=af) (g:=g) hT hx;have e:(⟨s.toArray⟩:ByteArray).size=s.length:=by simp[ByteArray.size]
 rwa [e] at this
def Ms{s:A3 UInt8}{b:UInt8}(hT:isStr P T=true)(hx:Arg Γ x (TS s))(hy:Arg Γ y (TI k i))(h:AB s i=some b):Az P Γ ⟨d,.index T x y,ty,pos,af,g⟩ (.val<|TI .u8 b.toNat):=
 Dj λ_ _ _ a w H hs=>by
  have e:a.eval x= .string ⟨s.toArray⟩:=hx.ok hs;have e2:a.eval y= .int k i:=hy.ok hs;let⟨h1,h2,h3⟩:=I9 h;have hlt:=(FP.1 h3).1;have h4:(⟨s.toArray⟩:ByteArray)[i.toNat]? =some b:=by
   have atF:i.toNat<(⟨s.toArray⟩:ByteArray).size:=by simpa[ByteArray.size] using hlt
   rw[getElem?_pos (⟨s.toArray⟩:ByteArray) i.toNat atF]
   congr 1
   show s.toArray[i.toNat]'_=b;rw[Gj hlt] at h3;simpa using h3
  exact⟨_,by simp[execOp,e,e2,Instr.index,asIntOf,Ev<|nT hT,h1,h4],rfl,rfl⟩
inductive Lo(Γ:Ctx):AA CH->Int->Int->Prop where
 |none {n:Int}:Lo Γ none n n
 |some {y:CH} {k:IntKind} {i n:Int} (h:Arg Γ y (TI k i)):Lo Γ (some y) n i
def uC{cap:Nat}{j:Int}(Fl:Lo Γ lo 0 i)(Kx:Lo Γ hi len j)(h0:0<=i)(KW:i<=j)(hj:j<=len)(hlc:len<=cap){N:Nat}(hs:Sat w0 H0 N Γ a w H):(Instr.sliceBounds b len cap (lo.map a.eval) (hi.map a.eval) none).run P w= .ok (i.toNat,j.toNat,cap) w:=by
 have b1:∀(k:IntKind) (code:BoundsCode),(Instr.sliceBound (.int k j) cap code).run P w= .ok j.toNat w:=λk code=>by
  have:0<=j/\j<=cap:=by omega
  simp[Instr.sliceBound,asIntOf,this]
 have b2:∀(k:IntKind) (code:BoundsCode),(Instr.sliceBound (.int k i) j.toNat code).run P w= .ok i.toNat w:=λk code=>by
  have h1:i<=(j.toNat:Int):=by omega
  simp only[Instr.sliceBound,asIntOf,E0,KB,Dn,if_pos<|And.intro h0 h1]
 cases Fl with
 |none=>
  cases Kx with
  |none=>simp[Instr.sliceBounds]
  |some hz=>have ez:=hz.ok hs;simp[ru] at ez;simp[Instr.sliceBounds,ez,b1]
 |some hy=>
  have ey:=hy.ok hs;simp[ru] at ey;cases Kx with
  |none=>
   have b2':∀(k:IntKind) (code:BoundsCode),(Instr.sliceBound (.int k i) len code).run P w= .ok i.toNat w:=λk code=>by simpa using b2 k code
   simp[Instr.sliceBounds,ey,b2']
  |some hz=>have ez:=hz.ok hs;simp[ru] at ez;simp[Instr.sliceBounds,ez,ey,b1,b2]
def HW{s r:A3 UInt8}{j:Int}(hT:isStr P T=true)(hx:Arg Γ x (TS s))(Fl:Lo Γ lo 0 i)(Kx:Lo Γ hi s.length j)(h:C7 s i j=some r):Az P Γ ⟨d,.slice T x lo hi none,ty,pos,af,g⟩ (.val<|TS r):=
 Dj λ_ _ _ a w H hs=>by
  let⟨h1,h2,h3,h4⟩:=yG h;subst h4;have e:a.eval x= .string ⟨s.toArray⟩:=hx.ok hs;have esz:(⟨s.toArray⟩:ByteArray).size=s.length:=by simp[ByteArray.size]
  have hbd:=uC (P:=P) (b:=false) Fl Kx h1 h2 h3 (BM _) hs;refine⟨.string<|(⟨s.toArray⟩:ByteArray).extract i.toNat j.toNat,?_,?_,rfl⟩
  ·simp[execOp,e,Instr.sliceAt,Ev<|nT hT,Instr.slice,esz,hbd]
  ·show Value.string _=Value.string _
   congr 1
   apply ByteArray.ext;rw[ByteArray.data_extract];simp[List.extract_eq_take_drop,MU]
def Lp(hT:Dw P T=true)(hx:Arg Γ x (TL f l)):Az P Γ ⟨d,.call ⟨.builtin .len,#[x],#[T]⟩,ty,pos,af,g⟩ (.val<|TI .i64 l.length):=by have:=aoV (P:=P) (d:=d) (ty:=ty) (pos:=pos) (af:=af) (g:=g) hT hx;rwa [BY] at this
def NT{s:Nat}(hT:Dw P T=true)(hs:look Γ s=some (.same t))(ht:look Γ t=some (.buf E sz<|lT f l)):Az P Γ ⟨d,.call ⟨.builtin .len,#[.tmp s],#[T]⟩,ty,pos,af,g⟩ (.val<|TI .i64 l.length):=by have:=agV (P:=P) (d:=d) (ty:=ty) (pos:=pos) (af:=af) (g:=g) hT hs ht;rwa [BY] at this
def amX(hT:Dw P T=true)(ht:look Γ t=some (.buf E sz<|lT f l)):Az P Γ ⟨d,.call ⟨.builtin .len,#[.tmp t],#[T]⟩,ty,pos,af,g⟩ (.val<|TI .i64 l.length):=
 Dj λ_ _ _ a w H BF=>by
  let⟨ad,cap,e⟩:=aai<|BF.holds _<|B6 ht
  have e3:a.eval (.tmp t)= .slice ad (lT f l).length cap:=e;rw[BY] at e3;exact⟨_,by simp[execOp,resolve,invoke,builtin,e3,nM hT],rfl,rfl⟩
def FN{y:α}(hT:G1 P T sz=true)(hf:∀z,(f z).n=sz)(hx:Arg Γ x (TL f l))(hi:Arg Γ ix (TI k i))(h:AB l i=some y):Az P Γ ⟨d,.indexAddr T x ix,ty,pos,af,g⟩ (.val<|Jt<|f y):=by let⟨h1,h2,h3⟩:=I9 h;exact agW hx hT (K8 hf l) hi h1 (by rw[H9,h3];rfl)
def Cw{s:Nat}{y:α}(hT:G1 P T sz=true)(hs:look Γ s=some (.same t))(ht:look Γ t=some (.buf E sz<|lT f l))(hi:Arg Γ ix (TI k i))(h:AB l i=some y):Az P Γ ⟨d,.indexAddr T (.tmp s) ix,ty,pos,af,g⟩ (.KI t i.toNat sz):=by let⟨h1,h2,h3⟩:=I9 h;exact afh hs ht hT hi h1 (by rw[BY];exact h2)
def FM{y:α}(hf:∀z,(f z).n=sz)(hp:look Γ p=some (.KI t j sz))(ht:look Γ t=some (.buf E sz<|lT f l))(h:l[j]? =some y)(hT:Bq P T (f y).n (f y).agg=true):Az P Γ ⟨d,.load T<| .tmp p,ty,pos,af,g⟩ (.val<|f y):=aff hp ht (K8 hf l) (by rw[H9,h];rfl) hT
def Jl{y:α}(hf:∀z,(f z).n=sz)(hp:look Γ p=some (.KI t j sz))(ht:look Γ t=some (.buf E sz<|lT f l))(h:l[j]? =some z)(hx:Arg Γ x (f y))(hT:Bq P T (f y).n (f y).agg=true):Step P N ops ⟨none,.store T (.tmp p) x,ty,pos,af,none⟩ Γ ((t,.buf E sz<|lT f<|l.set j y)::BI t Γ):=by have:=af4 (P:=P) (N:=N) (ops:=ops) (ty:=ty) (pos:=pos) (af:=af) hp ht (K8 hf l) (by rw[H9,h];rfl) hx (hf y) hT;rwa [show(lT f l).set j (f y)=lT f (l.set j y) from by simp[lT,U7]] at this
def pW{y:α}(hf:∀z,(f z).n=sz)(hp:look Γ p=some (.KI t j sz))(ht:look Γ t=some (.buf E sz<|lT f l))(h:l[j]? =some z)(hx:Arg Γ x (f y))(hT:Bq P T (f y).n (f y).agg=true):P3 P N ops Γ ⟨none,.store T (.tmp p) x,ty,pos,af,none⟩ t (.buf E sz<|lT f<|l.set j y):=by have:=aej (P:=P) (N:=N) (ops:=ops) (ty:=ty) (pos:=pos) (af:=af) hp ht (K8 hf l) (by rw[H9,h];rfl) hx (hf y) hT;rwa [show(lT f l).set j (f y)=lT f (l.set j y) from by simp[lT,U7]] at this
def Ua:maxLen=9223372036854775807:=rfl
def Dx{m r:A3 α}{s:Nat}(Gf:Dw P T2=true)(hT:Fw P T E sz bytes=true)(hf:∀z,(f z).n=sz)(hs:look Γ s=some (.same t))(ht:look Γ t=some (.buf E sz<|lT f l))(hx:Arg Γ x (TL f m))(h:BG bytes l m=some r)(DK:dd<N):Step P N ops ⟨some dd,.call ⟨.builtin .append,#[.tmp s,x],#[T,T2]⟩,ty,pos,af,none⟩ Γ ((dd,.buf E sz<|lT f r)::del dd (BI t Γ)):=by let⟨h1,h2,h3⟩:=Yi h;subst h3;have:=aiK (P:=P) (Gf:=Gf) (N:=N) (ops:=ops) (ty:=ty) (pos:=pos) (af:=af) hs ht hx hT (K8 hf m) (by rw[BY,BY,Ua];exact h2) (by rw[BY,BY];exact h1) DK;rwa [show lT f l++lT f m=lT f (l++m) from by simp[lT]] at this
def NZ{m r:A3 α}(Gf:Dw P T2=true)(hT:Fw P T E sz bytes=true)(hf:∀z,(f z).n=sz)(ht:look Γ t=some (.buf E sz<|lT f l))(hx:Arg Γ x (TL f m))(h:BG bytes l m=some r)(DK:dd<N):Step P N ops ⟨some dd,.call ⟨.builtin .append,#[.tmp t,x],#[T,T2]⟩,ty,pos,af,none⟩ Γ ((dd,.buf E sz<|lT f r)::del dd (BI t Γ)):=by let⟨h1,h2,h3⟩:=Yi h;subst h3;have:=ah3 (P:=P) (Gf:=Gf) (N:=N) (ops:=ops) (ty:=ty) (pos:=pos) (af:=af) ht hx hT (K8 hf m) (by rw[BY,BY,Ua];exact h2) (by rw[BY,BY];exact h1) DK;rwa [show lT f l++lT f m=lT f (l++m) from by simp[lT]] at this
def Rz{m r:A3 α}{s:Nat}(Gf:Dw P T2=true)(hT:Fw P T E sz bytes=true)(hf:∀z,(f z).n=sz)(hs:look Γ s=some (.same t))(ht:look Γ t=some (.buf E sz<|lT f l))(hx:Arg Γ x (TL f m))(h:BG bytes l m=some r)(DK:dd<N):Q6 P N ops Γ ⟨some dd,.call ⟨.builtin .append,#[.tmp s,x],#[T,T2]⟩,ty,pos,af,none⟩ t dd (.buf E sz<|lT f r):=by let⟨h1,h2,h3⟩:=Yi h;subst h3;have:=aj8 (P:=P) (Gf:=Gf) (N:=N) (ops:=ops) (ty:=ty) (pos:=pos) (af:=af) hs ht hx hT (K8 hf m) (by rw[BY,BY,Ua];exact h2) (by rw[BY,BY];exact h1) DK;rwa [show lT f l++lT f m=lT f (l++m) from by simp[lT]] at this
def anD{m r:A3 α}{s:Nat}{hv:v.oneCell'=true}(Gf:Dw P T2=true)(hT:Fw P T E sz bytes=true)(hf:∀z,(f z).n=sz)(hs:look Γ s=some (.val<|TEq v hv))(ht:look Γ t=some (.Nz v E sz<|lT f l))(hx:Arg Γ x (TL f m))(h:BG bytes l m=some r)(DK:dd<N):Q6 P N ops Γ ⟨some dd,.call ⟨.builtin .append,#[.tmp s,x],#[T,T2]⟩,ty,pos,af,none⟩ t dd (.buf E sz<|lT f r):=λEM BE=>by let⟨h1,h2,h3⟩:=Yi h;subst h3;have:=ah2 (P:=P) (Gf:=Gf) (N:=N) (ops:=ops) (ty:=ty) (pos:=pos) (af:=af) BE hs ht hx hT (K8 hf m) (by rw[BY,BY,Ua];exact h2) (by rw[BY,BY];exact h1) DK;rwa [show lT f l++lT f m=lT f (l++m) from by simp[lT]] at this
def Ph{m r:A3 α}(Gf:Dw P T2=true)(hT:Fw P T E sz bytes=true)(hf:∀z,(f z).n=sz)(ht:look Γ t=some (.buf E sz<|lT f l))(hx:Arg Γ x (TL f m))(h:BG bytes l m=some r)(DK:dd<N):Q6 P N ops Γ ⟨some dd,.call ⟨.builtin .append,#[.tmp t,x],#[T,T2]⟩,ty,pos,af,none⟩ t dd (.buf E sz<|lT f r):=by let⟨h1,h2,h3⟩:=Yi h;subst h3;have:=ahc (P:=P) (Gf:=Gf) (N:=N) (ops:=ops) (ty:=ty) (pos:=pos) (af:=af) ht hx hT (K8 hf m) (by rw[BY,BY,Ua];exact h2) (by rw[BY,BY];exact h1) DK;rwa [show lT f l++lT f m=lT f (l++m) from by simp[lT]] at this
def CP(f:α->Ty)(E:Ap)(sz:Nat):Az P Γ ⟨d,.assign<| .const<| .slice none 0 0,ty,pos,af,g⟩ (.buf E sz<|lT f []):=ais
def CU(ht:look Γ t=some (.buf E sz<|lT f l)):II w0 N Γ ((t,.val<|TL f l)::BI t Γ):=amK ht
def Pw(f:α->Ty){r:A3 α}(hT:mkB P T E sz bytes=true)(hz:Dp P E (f z))(hsz:(f z).n=sz)(hx:Arg Γ x (TI .i64 n))(hy:Arg Γ y (TI .i64 n))(h:mk_ bytes n z=some r):Az P Γ ⟨d,.makeSlice T x y,ty,pos,af,g⟩ (.buf E sz<|lT f r):=by let⟨m,h1,h2,h3,h4⟩:=amc h;subst h1;subst h4;have:=amW (P:=P) (d:=d) (ty:=ty) (pos:=pos) (af:=af) (g:=g) hT hz hsz hx hy h2 h3;rwa [show List.replicate m (f z)=lT f (List.replicate m z) from by simp[lT]] at this
def OJ{r:A3 α}{j:Int}(hT:G1 P T sz=true)(hf:∀z,(f z).n=sz)(hx:Arg Γ x (TL f l))(Fl:Lo Γ lo 0 i)(Kx:Lo Γ hi l.length j)(h:C7 l i j=some r):Az P Γ ⟨d,.slice T x lo hi none,ty,pos,af,g⟩ (.val<|TL f r):=by
 let⟨h1,h2,h3,h4⟩:=yG h;subst h4;have hi':((i.toNat:Nat):Int)=i:=by omega
 have hj':((j.toNat:Nat):Int)=j:=by omega
 have:=akU (P:=P) (d:=d) (ty:=ty) (pos:=pos) (af:=af) (g:=g) (lo:=lo) (hi:=hi) (i:=i.toNat) (j:=j.toNat) hT hx (K8 hf l)
  (by cases Fl with
   |none=>exact .inl ⟨rfl,rfl⟩
   |some hy=>exact .inr ⟨_,_,rfl,by rw[hi'];exact hy⟩)
  (by cases Kx with
   |none=>exact .inl ⟨rfl,by rw[BY];omega⟩
   |some hy=>exact .inr ⟨_,_,rfl,by rw[hj'];exact hy⟩)
  (by omega) (by rw[BY];omega)
 rwa [show((lT f l).take j.toNat).drop i.toNat=lT f ((l.take j.toNat).drop i.toNat) from by simp[lT,qT,List.map_drop]] at this
def xX(h:Dw P T=true)(ad:AA Addr)(n c:Nat)(w:AR):(Op.equal T (.slice ad n c)<| .slice none 0 0).run P w= .ok ad.isNone w:=by
 let⟨e,hu⟩:=fP h;have key:∀d,(Op.equalIn (d+1) T (.slice ad n c)<| .slice none 0 0).run P w= .ok ad.isNone w:=by intro d;unfold Op.equalIn;cases ad<;>simp[Ev hu]
 exact key 9999
def abe(h:(TN f l).ok H v):∃ad n c,v= .slice ad n c/\ad.isNone=l.isEmpty:=by
 let⟨⟨ad,cap,e,_,hx⟩,hn⟩:=h;cases l with
 |nil=>exact⟨none,0,0,hn rfl,rfl⟩
 |cons y l=>let⟨b,off,cs,E,fr,e1,_⟩:=hx (by simp[lT]);exact⟨ad,_,cap,e,by subst e1;rfl⟩
def MT(hT:Dw P T=true)(hx:Arg Γ x (TN f l)):Az P Γ ⟨d,.binOp .eql T x (.const<| .slice none 0 0) T',ty,pos,af,g⟩ (.val<|Aw l.isEmpty):=
 Dj λ_ _ _ a w H hs=>by
  let⟨ad,n,c,e,h⟩:=abe<|hx.ok hs
  refine⟨.bool ad.isNone,?_,by rw[h];rfl,rfl⟩;have e2:a.eval (.const<| .slice none 0 0)= .slice none 0 0:=rfl;simp[execOp,e,e2,eqGuard,binOp,xX hT]
def aoS(hT:Dw P T=true)(hx:Arg Γ x (TN f l)):Az P Γ ⟨d,.binOp .neq T x (.const<| .slice none 0 0) T',ty,pos,af,g⟩ (.val<|Aw<| !l.isEmpty):=
 Dj λ_ _ _ a w H hs=>by
  let⟨ad,n,c,e,h⟩:=abe<|hx.ok hs
  refine⟨.bool<| !ad.isNone,?_,by rw[h];rfl,rfl⟩;have e2:a.eval (.const<| .slice none 0 0)= .slice none 0 0:=rfl;simp[execOp,e,e2,eqGuard,binOp,xX hT]
def Ct(hx:Arg Γ x (TI .i64 m))(hy:Arg Γ y (TI .i64 n))(h:AH (m+n)=some r):Az P Γ ⟨d,.binOp .add T x y T',ty,pos,af,g⟩ (.val<|TI .i64 r):=by let⟨h1,h2⟩:=Yw h;subst h2;exact amZ hx hy h1
def CY(hx:Arg Γ x (TI .i64 m))(hy:Arg Γ y (TI .i64 n))(h:AH (m-n)=some r):Az P Γ ⟨d,.binOp .sub T x y T',ty,pos,af,g⟩ (.val<|TI .i64 r):=by let⟨h1,h2⟩:=Yw h;subst h2;exact amQ hx hy h1
def Ln(hx:Arg Γ x (TI .i64 m))(hy:Arg Γ y (TI .i64 n))(h:AH (m*n)=some r):Az P Γ ⟨d,.binOp .mul T x y T',ty,pos,af,g⟩ (.val<|TI .i64 r):=by let⟨h1,h2⟩:=Yw h;subst h2;exact amV hx hy h1
def pq(hx:Arg Γ x (TI .i64 n))(h:AH (-n)=some r):Az P Γ ⟨d,.unOp .neg T x,ty,pos,af,g⟩ (.val<|TI .i64 r):=by let⟨h1,h2⟩:=Yw h;subst h2;exact amU hx h1
def Nb(hx:Arg Γ x (TI .i64 m))(hy:Arg Γ y (TI .i64 n))(h:Gl m n=some r):Az P Γ ⟨d,.binOp .quo T x y T',ty,pos,af,g⟩ (.val<|TI .i64 r):=by let⟨h1,h2,h3⟩:=alI h;subst h3;exact amR hx hy h1 h2
def LC(hx:Arg Γ x (TI k m))(hy:Arg Γ y (TI k n))(h:Fu m n=some r):Az P Γ ⟨d,.binOp .rem T x y T',ty,pos,af,g⟩ (.val<|TI k r):=by let⟨h1,h2⟩:=akG h;subst h2;exact aoQ hx hy h1
@[reducible] def wr(k:IntKind)(n:Int):Int:=k.wrap n
def Ur(k:IntKind)(m n:Int):AA Int:=bif decide (n=0) then none else some (wr k<|m.tdiv n)
theorem po(hx:Arg Γ x (TI k m))(hy:Arg Γ y (TI k n))(h:Ur k m n=some r):Az P Γ ⟨d,.binOp .quo T x y T',ty,pos,af,g⟩ (.val<|TI k r):=by
 unfold Ur at h;cases hc:decide (n=0)
 ·rw[hc] at h;have:=(E9 h);subst this;exact ab3 hx hy<|Bg hc
 ·grind
def Ga(op:BinOp)(k:IntKind)(x y:Int):Int:=
 let a:=BitVec.ofInt k.bits x
 let b:=BitVec.ofInt k.bits y
 match op with
 | .and=>k.wrap (a&&&b).toNat
 | .or=>k.wrap (a|||b).toNat
 | .xor=>k.wrap (a^^^b).toNat
 | .andNot=>k.wrap (a&&& ~~~b).toNat
 |_=>0
def pz(hx:Arg Γ x (TI k m))(hy:Arg Γ y (TI k n)):Az P Γ ⟨d,.binOp .and T x y T',ty,pos,af,g⟩ (.val<|TI k<|Ga .and k m n):=
 IC hx hy λH u v hu hv w _=>by cases hu;cases hv;exact⟨_,by simp[eqGuard,binOp,Op.intBits];rfl,rfl⟩
def qm(hx:Arg Γ x (TI k m))(hy:Arg Γ y (TI k n)):Az P Γ ⟨d,.binOp .or T x y T',ty,pos,af,g⟩ (.val<|TI k<|Ga .or k m n):=
 IC hx hy λH u v hu hv w _=>by cases hu;cases hv;exact⟨_,by simp[eqGuard,binOp,Op.intBits];rfl,rfl⟩
def Me(k:IntKind)(x y:Int):AA Int:=bif decide (y<0) then none else some (k.wrap<|x*2^(min y.toNat k.bits))
def Md(k:IntKind)(x y:Int):AA Int:=bif decide (y<0) then none else some (x.fdiv<|2^(min y.toNat k.bits))
theorem aA(hx:Arg Γ x (TI k m))(hy:Arg Γ y (TI k' n))(h:Me k m n=some r):Az P Γ ⟨d,.binOp .shl T x y T',ty,pos,af,g⟩ (.val<|TI k r):=
 IC hx hy λH u v hu hv w _=>by
  cases hu;cases hv;unfold Me at h;cases hc:decide (n<0)
  ·rw[hc] at h;have:=E9 h;subst this;exact⟨_,by simp only[eqGuard,binOp,Op.shift,if_neg<|Bg hc];rfl,rfl⟩
  ·grind
theorem UU(hx:Arg Γ x (TI k m))(hy:Arg Γ y (TI k' n))(h:Md k m n=some r):Az P Γ ⟨d,.binOp .shr T x y T',ty,pos,af,g⟩ (.val<|TI k r):=
 IC hx hy λH u v hu hv w _=>by
  cases hu;cases hv;unfold Md at h;cases hc:decide (n<0)
  ·rw[hc] at h;have:=E9 h;subst this;exact⟨_,by simp only[eqGuard,binOp,Op.shift,if_neg<|Bg hc];rfl,rfl⟩
  ·grind
def ass:IntKind->IntKind->Bool:=λa b=>decide<|a=b
def Sy(P:CO)(T:Ap)(k:IntKind):Bool:=match P.underlying T with|some (.int k')=>ass k k'|_=>false
def xv(h:Sy P T k=true):P.underlying T=some (.int k):=by
 unfold Sy at h;split at h
 ·rename_i k' hu;rw[hu,As h]
 ·cases h
def Rv{S:Ap}(hS:Sy P S k=true)(hT:Sy P T k'=true)(hx:Arg Γ x (TI k n)):Az P Γ ⟨d,.convert S T x,ty,pos,af,g⟩ (.val<|TI k'<|wr k' n):=
 Dj λ_ _ _ a w H hs=>by have e:a.eval x= .int k n:=hx.ok hs;exact⟨_,by simp[execOp,e,convert,Ev<|xv hS,Ev<|xv hT,Conv.intToInt],rfl,rfl⟩
def py{m n:Bool}(hT:X0 P T=true)(hx:Arg Γ x (Aw m))(hy:Arg Γ y (Aw n)):Az P Γ ⟨d,.binOp .eql T x y T',ty,pos,af,g⟩ (.val<|Aw<|m==n):=aoX hT hx hy
def pt{m n:Bool}(hT:X0 P T=true)(hx:Arg Γ x (Aw m))(hy:Arg Γ y (Aw n)):Az P Γ ⟨d,.binOp .neq T x y T',ty,pos,af,g⟩ (.val<|Aw<| !(m==n)):=
 IC hx hy λH u v hu hv w _=>by
  cases hu;cases hv;have hu:P.underlying T=some .bool:=by
   unfold X0 at hT;split at hT
   ·assumption
   ·cases hT
  refine⟨.bool<| !(m==n),?_,rfl⟩;have e:(Op.equal T (.bool m)<| .bool n).run P w= .ok (m==n) w:=run_equalIn_bool w 9999 T m n hu;simp[eqGuard,binOp,e]
def mx_(x y:Int):Int:=bif decide (x<y) then y else x
def mn_(x y:Int):Int:=bif decide (y<x) then y else x
theorem gj(hx:Arg Γ x (TI k m))(hy:Arg Γ y (TI k n)):Az P Γ ⟨d,.call ⟨.builtin .max,#[x,y],F0⟩,ty,pos,af,g⟩ (.val<|TI k<|mx_ m n):=
 Dj λ_ _ _ a w H hs=>by
  have e:a.eval x= .int k m:=hx.ok hs;have e2:a.eval y= .int k n:=hy.ok hs;refine⟨.int k<|if n>m then n else m,?_,?_,rfl⟩
  ·simp[execOp,resolve,invoke,builtin,e,e2,Builtin.max_,Builtin.max2]
  ·show Value.int k _=Value.int k _;unfold mx_;cases hc:decide (m<n)
   ·grind
   ·grind
theorem aAh(hx:Arg Γ x (TI k m))(hy:Arg Γ y (TI k n)):Az P Γ ⟨d,.call ⟨.builtin .min,#[x,y],F0⟩,ty,pos,af,g⟩ (.val<|TI k<|mn_ m n):=
 Dj λ_ _ _ a w H hs=>by
  have e:a.eval x= .int k m:=hx.ok hs;have e2:a.eval y= .int k n:=hy.ok hs;refine⟨.int k<|if n<m then n else m,?_,?_,rfl⟩
  ·simp[execOp,resolve,invoke,builtin,e,e2,Builtin.min_,Builtin.min2]
  ·show Value.int k _=Value.int k _;unfold mn_;cases hc:decide (n<m)
   ·grind
   ·grind
structure qd(P:CO)(f:FuncId)(args:A3 Ty)(Bm:A3 Ty):Prop where
 run:∀(w:AR) (H:HV) (vs:A3 AW),Ed H args vs->∃v w',(callFunc f vs.toArray).run P w= .ok (.value v) w'/\FV w.heap.size w w'/\LS H Bm v
def Po{f:FuncId}(hf:qd P f args Bm)(ha:AP Γ xs args):Az P Γ ⟨d,.call ⟨.value<| .func f,xs.toArray,F0⟩,ty,pos,af,g⟩ (Is Bm):=
 MG λw0 H0 N a w H hs=>by
  let⟨v,w',h1,h2,h3⟩:=hf.run w H _<|ha.ok hs
  have e:execOp a.eval ⟨d,.call ⟨.value<| .func f,xs.toArray,F0⟩,ty,pos,af,g⟩=callFunc f (#[]++xs.toArray.map a.eval++ #[]):=rfl;have e2:(#[]++xs.toArray.map a.eval++ #[])=(xs.map a.eval).toArray:=by simp
  refine⟨v,w',H,by rw[e,e2,h1],⟨h2,HV.le.refl _,λ_ _=>rfl,λr o h=>?_⟩,Va h3,λb e=>absurd e<|AQ.free_spec Vi⟩;rw[h2.block r<|HO hs.sub h];exact hs.sub r o h
def oi{n:Nat}{agg:Bool}(h:Bq P T n agg=true){cs:BA AW}(hl:off+n<=cs.size)(w:AR):(part T cs off).run P w= .ok (Gu agg ((cs.toList.drop off).take n).toArray) w:=by
 let⟨h1,h2,h3⟩:=yx h;cases agg
 ·have hn:=h3 rfl;subst hn;have hlt:off<cs.size:=by omega
  simp[part,h1,hlt,Gu]
 ·simp[part,E0,h1,h2,Dn,if_true,KB,Gu]
  congr 2
  apply Array.ext';simp[Array.toList_extract,List.extract_eq_take_drop]
def qw(P:CO)(T F:Ap)(k off:Nat):Bool:=
 match P.underlying T with
 |some (.struct fs)=>match fs[k]? with
  |some f=>Nat.beq f.offset off&&Nat.beq f.type F
  |none=>false
 |_=>false
def afi{F:Ap}{k:Nat}(hT:qw P T F k off=true)(hF:Bq P F σ.n σ.agg=true)(ha:τ.agg=true)(hx:Arg Γ x τ)(hp:BN τ off σ):Az P Γ ⟨d,.field T x k,ty,pos,af,g⟩ (.val σ):=
 Dj λ_ _ _ a w H hs=>by
  have hv:=hx.ok hs;let⟨p1,p2⟩:=hp _ _ hv;have CT:=τ.shape hv;have e:a.eval x= .agg (a.eval x).cells:=by rw[<-show Gu τ.agg (a.eval x).cells= .agg (a.eval x).cells from by rw[ha];rfl];exact CT.eq
  unfold qw at hT;split at hT
  ·rename_i fs hu;split at hT
   ·rename_i fd hfd;simp only[C6] at hT;have e1:=EA hT.1;have e2:=EA hT.2;refine⟨_,?_,p2,rfl⟩
    generalize (a.eval x).cells=cs at e p1
    have hr:=oi (P:=P) hF p1 w;simp[execOp,e,Instr.field,E0,Ev hu,Dn,hfd,asAgg,KB,e1,e2,hr]
   ·cases hT
  ·cases hT
def ji(P:CO)(T E:Ap)(len sz:Nat):Bool:=
 match P.underlying T with
 |some (.array n e)=>Nat.beq n len&&Nat.beq e E&&(match P.info? e with|some i=>Nat.beq i.size sz|none=>false)
 |_=>false
def BN.arr{i:Nat}{y:α}(hf:∀z,(f z).n=sz)(h:l[i]? =some y):BN (bQ f l) (i*sz) (f y):=by refine BN.agg (i:=i) (by rw[H9,h];rfl) ?_;have hlt:=(FP.1 h).1;rw[KZ<|(K8 hf l).take i,E1,BY,EV (by omega)]
def H8.arr{i:Nat}{y:α}(hf:∀z,(f z).n=sz)(h:l[i]? =some z):H8 (bQ f l) (i*sz) (f y) (bQ f<|l.set i y):=by have hlt:=(FP.1 h).1;have:=H8.agg (l:=lT f l) (i:=i) (off:=i*sz) (σ:=f y) (ρ:=f z) (by rw[H9,h];rfl) (by rw[hf,hf]) (by rw[KZ<|(K8 hf l).take i,E1,BY,EV (by omega)]);rwa [show(lT f l).set i (f y)=lT f (l.set i y) from by simp[lT,U7]] at this
def ZA{y:α}(hT:ji P T E len sz=true)(hE:Bq P E (f y).n (f y).agg=true)(hf:∀z,(f z).n=sz)(hlen:l.length=len)(hx:Arg Γ x (bQ f l))(hi:Arg Γ ix (TI k i))(h:AB l i=some y):Az P Γ ⟨d,.index T x ix,ty,pos,af,g⟩ (.val<|f y):=
 Dj λ_ _ _ a w H hs=>by
  let⟨h0,h1,h2⟩:=I9 h;have hv:=hx.ok hs;let⟨p1,p2⟩:=BN.arr hf h2 _ _ hv;let⟨cs,e,_⟩:=hv;have ei:a.eval ix= .int k i:=hi.ok hs;rw[e] at p1 p2;simp[Value.cells] at p1 p2;unfold ji at hT;split at hT
  ·rename_i n el hu;simp only[C6] at hT;let⟨⟨e1,e2⟩,e3⟩:=hT;have e1:=EA e1;have e2:=EA e2;subst e2;split at e3
   ·rename_i ii hii;have e3:=EA e3;have hr:=oi (P:=P) hE p1 w;have hsz:(Go.sizeOf el).run P w= .ok sz w:=by simp[Go.sizeOf,typeInfo,program,Sem.run,hii,e3]
    have hb:0<=i/\i<(n:Int):=⟨h0,by omega⟩;refine⟨_,?_,p2,rfl⟩;simp[execOp,e,ei,Instr.index,asIntOf,E0,KB,Dn,Ev hu,if_pos hb,hsz,hr]
   ·cases e3
  ·cases hT
def SR{y:α}(h:look Γ t=some (.own T'<|bQ f l))(hT:LX P T len sz=true)(hlen:l.length=len)(hi:Arg Γ ix (TI k i))(hy:AB l i=some y):Az P Γ ⟨d,.indexAddr T (.tmp t) ix,ty,pos,af,g⟩ (.ptr t<|i.toNat*sz):=by let⟨h0,h1,_⟩:=I9 hy;exact vP h hT hi h0 (by omega)
def akM{ps:A3 (Nat×CH)}{l l':A3 Ty}(hp:E2 P Γ ps l l'):FR l'=FR l:=by
 induction hp with
 |nil=>rfl
 |cons hx hi hn r ih=>rw[ih,yj hi hn]
theorem xF{n:Nat}{ps:A3 (Nat×CH)}{l':A3 Ty}(hz:Dp P E τ)(hT:Gm P T E sz=true)(hsz:τ.n=sz)(hpos:Nat.blt 0 (n*sz)=true)(hn:Nat.ble (n*sz) 16777216=true)(hp:E2 P Γ ps (List.replicate n τ) l')(hl:l'.length=n):Az P Γ ⟨d,.buildSlice T n ps.toArray,ty,pos,af,g⟩ (.buf E sz l'):=
 MG λw0 H0 N a w H hs=>by
  let⟨z,hzr,hzo⟩:=hz.run w;have aqf:=Ac hpos;unfold Gm at hT;split at hT
  ·rename_i e hu;simp only[C6] at hT;let⟨h1,h2⟩:=hT;have h1:=EA h1;subst h1;split at h2
   ·rename_i i hi;have h2:=EA h2;have hz0:=oO (hzo H) n;rw[hsz] at hz0;have KU:∀i m,(FR<|List.replicate n τ)[i]? =some m->(λi=>some (i*sz,sz)) i=some (((FR<|List.replicate n τ).take i).sum,m):=by
     intro i m hi;simp only[FR,iR,List.getElem?_replicate] at hi;split at hi
     ·rename_i hlt;simp at hi;subst hi;simp[FR,iR,Ze,hsz,EV<|W7 hlt]
     ·cases hi
    let⟨HL,hf,Ax⟩:=hp.fill KU hs hz0;have e2:(ps.toArray.map λ(i,x)=>(i,a.eval x)).toList=ps.map λp=>(p.1,a.eval p.2):=by simp
    have IM:(Go.sizeOf e).run P w= .ok sz w:=by simp[Go.sizeOf,typeInfo,program,Sem.run,hi,h2]
    have hle:n*sz<=16777216:=Fa hn;have hff:Instr.fill (λi=>some (i*sz,sz)) ((Array.range<|n*sz).map<|λi=>z.cells[i%z.cells.size]!) (ps.toArray.map λ(i,x)=>(i,a.eval x)).toList=some HL:=by grind
    have hb:FV w.heap.size w (w.alloc<| .cells HL e):=FV.alloc _;have avQ:=Mt Ax;have hns:FR l'=FR (List.replicate n τ):=akM hp;have hcl:CS l'=n*sz:=by have:CS l'=(FR l').sum:=rfl;rw[this,hns];simp[FR,hsz]
    have hcs:HL.size=n*sz:=by grind
    refine⟨.slice (some ⟨w.heap.size,0,none⟩) n n,w.alloc<| .cells HL e,H,?_,Ext.alloc hs.sub _,⟨HL.toList,⟨by rw[hl];simpa using hcs,.inr ⟨w.heap.size,n,HL,by rw[hl],FY _,Lv w _,by omega,?_,hcs,?_⟩⟩,Ax,?_⟩,?_⟩
    ·have h0: ¬n*sz=0:=by omega
     simp only[execOp,Instr.buildSlice,E0,Dn,Ev hu,IM];rw[if_neg (by omega)];simp only[E0,KB,Dn,if_neg h0,hzr];rw[hff];simp[newRow]
    ·rw[Ua];have:n<=n*sz:=by
      rcases LL sz with h|h
      ·grind
      ·exact Nat.le_mul_of_pos_right n h
     omega
    ·grind
    ·intro b hb;simp[Value.ownBlock] at hb;subst hb;refine⟨?_,.inl hs.below.size⟩;cases hh:H w.heap.size with
     |none=>rfl
     |some o=>have:=HO hs.sub hh;omega
    ·intro b hb;simp[AQ.owns,Value.ownBlock] at hb;omega
   ·cases h2
  ·cases hT
theorem not_true(h:(!b)=true):b=false:=by cases b<;>simp_all
def CQ{y:α}(h:AB l i=some y):l[i.toNat]? =some y:=(I9 h).2.2
def aS{y:α}{n:Nat}(e:l.length=n)(h:AB l i=some y):i<n:=by have:=(I9 h).2.1;omega
theorem uc{l:A3 Ty}(h:τ.n=sz)(r:Fo sz l):Fo sz (τ::l):=by simp_all [Ty.n,Fo]
def un:Fo sz []:=λx hx=>by cases hx
def Sat.ab1(hs:Sat w0 H0 N Γ a w H){s:AQ}(h:s.holds w0 a w H (Ae a t))(hb:s.free=true):Sat w0 H0 N ((t,s)::BI t Γ) a w H:=by
 refine⟨hs.nd,hs.sz,hs.below,hs.Fe,hs.sub,?_,?_,hs.gl⟩
 ·intro p hp;rcases Ao.1 hp with e|hp
  ·subst e;exact h
  ·exact hs.holds p (DM p hp).1
 ·intro p hp q hq hne b hpb;rcases Ao.1 hp with e|hp
  ·subst e;exact absurd hpb<|AQ.free_spec hb
  ·rcases Ao.1 hq with e|hq
   ·subst e;exact AQ.free_spec hb
   ·exact hs.sep p (DM p hp).1 q (DM q hq).1 hne b hpb
def EX{s:Nat}(hs:look Γ s=some (.same t))(ht:look Γ t=some (.val τ)):II w0 N Γ ((s,.val τ)::BI s Γ):=λ_ _ _ H h=>by
 have e:=h.holds _<|B6 hs
 have k:=h.holds _<|B6 ht
 exact⟨H,h.ab1 (by show τ.ok H _;rw[show _=_ from e];exact k) rfl⟩
def acp{Gp:Ty}(ht:look Γ t=some (.val τ))(hi:∀H v,τ.ok H v->Gp.ok H v):II w0 N Γ ((t,.val Gp)::BI t Γ):=λ_ _ _ H h=>⟨H,h.ab1 (hi _ _<|h.holds _<|B6 ht) rfl⟩
def Gt(ht:look Γ t=some (.val<|TN f l)):II w0 N Γ ((t,.val<|TL f l)::BI t Γ):=acp ht rp
def tNL(h:l.isEmpty=false)(ht:look Γ t=some (.val<|TL f l)):II w0 N Γ ((t,.val<|TN f l)::BI t Γ):=acp ht<|rr h
def Arg.c(h:v.oneCell'=true):Arg Γ (.const v) (Iu 1 false):=⟨λ_=>Shape.one h⟩
def zTL:(TL f []).ok H (.slice none 0 0):=⟨none,0,rfl,BM _,λh=>absurd rfl h⟩
def zTN:(TN f []).ok H (.slice none 0 0):=⟨zTL,λ_=>rfl⟩
def Kj{n:Nat}{agg:Bool}(h:(Nat.beq v.cells.size n&&v.cells.toList.all (λc=>c.oneCell'))=true)(e:v=Gu agg v.cells):Shape n agg v:=by simp only[C6] at h;exact⟨EA h.1,λc hc=>Dk.1 h.2 c hc,e⟩
def Ej{α:Type}(i k:Int)(y x:α):α:=bif decide (i=k) then y else x
def H8.bL{a b c y:α}(hf:∀z,(f z).n=sz)(h:AB [a,b,c] i=some z):H8 (DF [f a,f b,f c]) (i.toNat*sz) (f y) (DF [f<|Ej i 0 y a,f<|Ej i 1 y b,f<|Ej i 2 y c]):=by
 let⟨h0,h1,h2⟩:=I9 h;have:=H8.arr (y:=y) hf h2;simp only[E7,ZS] at h1;have hi:i=0\/i=1\/i=2:=by omega
 rcases hi with e|e|e<;>(subst e;exact this)
def aC{t' o n:Nat}(h:look Γ t=some (.ptr t' o))(hT:LX P T n sz=true)(hi:Arg Γ ix (TI k i))(h0:0<=i)(h1:i<n):Az P Γ ⟨d,.indexAddr T (.tmp t) ix,ty,pos,af,g⟩ (.ptr t'<|o+i.toNat*sz):=Mm h hT hi h0 h1
def Ym{f:FuncId}(hc:Gi P f=true)
 (h:∀(H:HV) (vs:A3 AW),Ed H args vs->∃re N8,Ed H re vs/\Eg P f re (.vs N8)/\∀H' v,LS H' N8 v->LS H' Bm v):Eg P f args (.vs Bm):=
 ⟨hc,λw H vs sub gl Ax=>by let⟨re,N8,h1,h2,h3⟩:=h H vs Ax;exact(h2.run w H vs sub gl h1).mono λ_ w' ⟨v,e,hb,H',k1,k2,k3⟩=>⟨v,e,hb,H',k1,k2,h3 H' v k3⟩⟩
structure UZ{α:Type}[DecidableEq α](P:CO)(T:Ap)(f:α->Ty):Prop where
 run:∀(H:HV) (u v:AW) (x y:α),(f x).ok H u->(f y).ok H v->∀w:AR,(Op.equal T u v).run P w= .ok (decide<|x=y) w
 guard:∀(H:HV) (u v:AW) (x y:α),(f x).ok H u->(f y).ok H v->∀(o:BinOp) (p q:CH) (w:AR),(eqGuard o T p q u v).run P w= .ok () w
 agg:∀x,(f x).agg=true
def Wc[DecidableEq α]{m n:α}(h:UZ P T f)(hx:Arg Γ x (f m))(hy:Arg Γ y (f n)):Az P Γ ⟨d,.binOp .eql T x y T',ty,pos,af,g⟩ (.val<|Aw<|decide<|m=n):=
 IC hx hy λH u v hu hv w _=>by have e1:=h.run H u v m n hu hv w;have e2:=h.guard H u v m n hu hv .eql x y w;refine⟨.bool<|decide<|m=n,?_,rfl⟩;have a1:=((f m).shape hu).eq;have a2:=((f n).shape hv).eq;rw[h.agg] at a1 a2;simp only[Gu] at a1 a2;simp only[E0,e2,Dn];rw[a1,a2] at e1⊢;simp[binOp,e1]
def qn[DecidableEq α]{m n:α}(h:UZ P T f)(hx:Arg Γ x (f m))(hy:Arg Γ y (f n)):Az P Γ ⟨d,.binOp .neq T x y T',ty,pos,af,g⟩ (.val<|Aw<| !decide (m=n)):=
 IC hx hy λH u v hu hv w _=>by have e1:=h.run H u v m n hu hv w;have e2:=h.guard H u v m n hu hv .neq x y w;refine⟨.bool<| !decide (m=n),?_,rfl⟩;have a1:=((f m).shape hu).eq;have a2:=((f n).shape hv).eq;rw[h.agg] at a1 a2;simp only[Gu] at a1 a2;simp only[E0,e2,Dn];rw[a1,a2] at e1⊢;simp[binOp,e1]
def AN:A3 Int->Int
 |[]=>0
 |x::l=>x+18446744073709551616*AN l
def okW(l:A3 Int):Prop:=∀x∈l,0<=x/\x<18446744073709551616
@[reducible] def Ch(x:Int×A3 Int):Ty:=DF [(TI .i64) x.1,(TN<|TI .u64) x.2]
def Cg(r:Int×A3 Int)(z:Int):Prop:=(r.2=[]/\r.1=z/\Cp z)\/(r.2≠[]/\(r.1=1\/r.1= -1)/\okW r.2/\r.2.getLast?≠some 0/\z=r.1*AN r.2/\9223372036854775807<AN r.2)
def EI(z:Int):Ty:=TEx 2 true (λr=>Cg r z) Ch (λ_=>rfl)<|λ_=>rfl
@[reducible] def By(q:Rat):Ty:=DF [EI q.num,EI q.den]
def Xx{k:Nat}(h:look Γ p=some (.KI t j sz))(hf:Gb P T k off=true):Az P Γ ⟨d,.fieldAddr T (.tmp p) k,ty,pos,af,g⟩ (.bpf t<|j*sz+off):=
 Dj λ_ _ _ a w _ hs=>by
  let⟨b,len,cap,e1,e2⟩:=hs.holds _<|B6 h
  have e':a.eval (.tmp p)= .pointer (some ⟨b,j*sz,none⟩):=e2;exact⟨.pointer<|some ⟨b,j*sz+off,none⟩,by simp[execOp,e',YK hf],⟨b,len,cap,e1,rfl⟩,rfl⟩
theorem anb{B:Aj P}{l:A3 Ty}{ρ:Ty}(h:(AQ.buf E sz l).holds B a w H v)(hu:Fo sz l)(hj:l[j]? =some ρ):∃b cap cs,v= .slice (some ⟨b,0,none⟩) l.length cap/\w.heap[b]? =some (.cells cs E (0,0))/\j*sz+sz<=cs.size/\ρ.ok H (Gu ρ.agg ((cs.toList.drop<|j*sz).take ρ.n).toArray):=by
 have K3:=(FP.1 hj).1;let⟨b,cap,cs,xs,e,hb,hcap,_,hcs,hx,htake,ho,_,_⟩:=Vy h (λe=>by rw[e] at K3;simp at K3);let⟨p1,p2⟩:=NU ho hj;have hρ:=hu ρ<|LO hj
 have hc:CS (l.take j)=j*sz:=by rw[KZ<|hu.take _,E1,EV (by omega)]
 rw[hc] at p1 p2;have rR:l.length*sz<=cs.size:=by grind
 have O4:List.take ρ.n (List.drop (j*sz) cs.toList)=List.take ρ.n (List.drop (j*sz) xs):=by
  rw[<-htake,MU,OU]
  congr 1;omega
 refine⟨b,cap,cs,e,hb,by omega,?_⟩;rw[O4];exact p2
def eP{y:α}(hf:∀z,(f z).n=sz)(hp:look Γ p=some (.bpf t<|j*sz+off))(ht:look Γ t=some (.buf E sz<|lT f l))(h:l[j]? =some y)(ha:(f y).agg=true)(hq:BN (f y) off σ)(hT:Bq P T σ.n σ.agg=true):Az P Γ ⟨d,.load T<| .tmp p,ty,pos,af,g⟩ (.val σ):=
 Dj λw0 _ _ a w H BF=>by
  let⟨b,cap,cs,e,hb,hsz,Ax⟩:=anb (BF.holds _<|B6 ht) (K8 hf l) (j:=j) (ρ:=f y) (by rw[H9,h];rfl);let⟨b',sG,bN,e1,e2⟩:=BF.holds _<|B6 hp
  simp only at e e1;rw[e] at e1;cases e1;have e3:a.eval (.tmp p)= .pointer (some ⟨b,j*sz+off,none⟩):=e2;rw[ha] at Ax;let⟨h1,h2⟩:=hq _ _ Ax;simp only[YB] at h1 h2;have hn:=hf y;have hlen:(List.take (f y).n<|List.drop (j*sz) cs.toList).toArray.size=(f y).n:=by simp;omega
  rw[hlen] at h1;refine⟨_,?_,h2,rfl⟩;have hr:=RQ (P:=P) hT hb (off:=j*sz+off) (by omega);have O4:List.take σ.n (List.drop (j*sz+off) cs.toList)=List.take σ.n (List.drop off<|List.take (f y).n<|List.drop (j*sz) cs.toList):=by
   rw[MU,OU,FZ]
   congr 1;omega
  rw[O4] at hr;simp[execOp,e3,Instr.loadAt,Instr.sureAddr,hr]
theorem am3{Ai:Ctx}(BE:∀q∈Ai,q∈Γ){y y':α}(hf:∀z,(f z).n=sz)(hp:look Ai p=some (.bpf t<|j*sz+off))(ht:look Ai t=some (.buf E sz<|lT f l))(h:l[j]? =some y)(hx:Arg Ai x σ)(ha:(f y).agg=true)(hs:H8 (f y) off σ (f y'))(hT:Bq P T σ.n σ.agg=true):Step P N ops ⟨none,.store T (.tmp p) x,ty,pos,af,none⟩ Γ ((t,.buf E sz<|lT f<|l.set j y')::BI t Γ):=by
 intro w0 H0 a w H BF K Q k;simp[Region.wanted,if_true];have hj:(lT f l)[j]? =some (f y):=by grind
 have hu:=K8 hf l;have K3:=(FP.1 hj).1;let⟨b,cap,cs,xs,e,hb,hcap,hml,hcs,GS,htake,ho,hH,hB⟩:=Vy (BF.holds _<|BE _<|B6 ht) (λe=>by rw[e] at K3;simp at K3);let⟨b',sG,bN,e1,e2⟩:=BF.holds _<|BE _<|B6 hp
 simp only at e e1;rw[e] at e1;cases e1;have ep:a.eval (.tmp p)= .pointer (some ⟨b,j*sz+off,none⟩):=e2;have I2:=hx.ok<|BF.weaken BE
 have CT:=σ.shape I2;have hc:CS ((lT f l).take j)=j*sz:=by rw[KZ<|hu.take _,E1,EV<|W7 K3]
 let⟨p1,p2⟩:=NU ho hj;rw[hc,hf y] at p1;rw[hc,hf y] at p2;have rR:(lT f l).length*sz<=cs.size:=by grind
 generalize O4:List.take sz (List.drop (j*sz) xs)=Kt at p2
 have jZ:Kt.length=sz:=by grind
 rw[ha] at p2;let⟨s1,x',s2,s3⟩:=hs _ _ _ p2 I2;simp[YB,iN,jZ] at s1;simp only[YB] at s3;have Mf:=Tz ho hj ((hf y').trans (hf y).symm) s2;rw[hc,hf y] at Mf;have F4:=TC (P:=P) (off:=j*sz+off) (Ts hT) CT.size hb (by omega) CT.cell;unfold Oper.wp;have er:(execOp a.eval ⟨none,.store T (.tmp p) x,ty,pos,af,none⟩).run P w= .ok .skip (w.setRow b (cs.toList.take (j*sz+off)++(a.eval x).cells.toList++cs.toList.drop (j*sz+off+σ.n)).toArray):=by simp[execOp,ep,Instr.storeAt,Instr.sureAddr,F4]
 rw[er,Qf]
 generalize sZ:(cs.toList.take (j*sz+off)++(a.eval x).cells.toList++cs.toList.drop (j*sz+off+σ.n)).toArray=E8
 have hg:Ee w (w.setRow b E8) (some b):=Ee.setRow w b _;have hlen:(a.eval x).cells.toList.length=σ.n:=by rw[Fg,CT.size]
 have asy:x'.cells.toList=List.take off Kt++(a.eval x).cells.toList++List.drop (off+σ.n) Kt:=by rw[s3]
 have au2:E8.toList=cs.toList.take (j*sz+off)++(a.eval x).cells.toList++cs.toList.drop (j*sz+off+σ.n):=by rw[<-sZ]
 refine k a _ H (PD BF (BE _<|B6 ht) hg hB (by simp[AQ.owns,e,Value.ownBlock]) ?_ λc hc=> .inl hc);have hl2:(lT f<|l.set j y').length=(lT f l).length:=by simp
 have au1:E8.size=cs.size:=by grind
 refine⟨List.take ((lT f l).length*sz) E8.toList,⟨?_,.inr ⟨b,cap,E8,by rw[hl2];simpa using e,FY _,U4 w b _ _ _ _ hb,by rw[hl2];exact hcap,hml,by rw[au1,hcs],by rw[hl2]⟩⟩,?_,?_⟩
 ·grind
 ·have aqh:List.take ((lT f l).length*sz) E8.toList=List.take (j*sz) xs++x'.cells.toList++List.drop (j*sz+sz) xs:=by
   have hy:(a.eval x).cells.toList.length=σ.n:=hlen;rw[au2,yF hy (by omega) (by rw[Fg];omega),htake,asy];have t1:List.take (j*sz+off) xs=List.take (j*sz) xs++List.take off Kt:=by grind
   have t2:List.drop (j*sz+off+σ.n) xs=List.drop (off+σ.n) Kt++List.drop (j*sz+sz) xs:=by
    rw[<-O4,MU,FZ];have:List.drop (j*sz+sz) xs=List.drop (sz-(off+σ.n)) (List.drop (j*sz+(off+σ.n)) xs):=by rw[FZ];congr 1;omega
    rw[this,Oj]
    congr 1;omega
   rw[t1,t2];simp[Hm]
  rw[aqh];rw[show lT f (l.set j y')=(lT f l).set j (f y') from by simp[lT,U7]];exact Mf
 ·intro c hc;simp[e,Value.ownBlock] at hc;subst hc;exact⟨hH,hB⟩
def anw{y y':α}(hf:∀z,(f z).n=sz)(hp:look Γ p=some (.bpf t<|j*sz+off))(ht:look Γ t=some (.buf E sz<|lT f l))(h:l[j]? =some y)(hx:Arg Γ x σ)(ha:(f y).agg=true)(hs:H8 (f y) off σ (f y'))(hT:Bq P T σ.n σ.agg=true):Step P N ops ⟨none,.store T (.tmp p) x,ty,pos,af,none⟩ Γ ((t,.buf E sz<|lT f<|l.set j y')::BI t Γ):=am3 (λ_ h=>h) hf hp ht h hx ha hs hT
def akD(hT:Gm P T E sz=true)(w:AR):(Instr.buildSlice T 0 #[]).run P w= .ok (.slice (some ⟨w.heap.size,0,none⟩) 0 0) (w.alloc<| .cells #[] E):=by
 unfold Gm at hT;split at hT
 ·rename_i e hu;simp only[C6] at hT;let⟨h1,h2⟩:=hT;have h1:=EA h1;subst h1;split at h2
  ·rename_i i hi;have h2:=EA h2;have IM:(Go.sizeOf e).run P w= .ok sz w:=by simp[Go.sizeOf,typeInfo,program,Sem.run,hi,h2]
   have Kv:(Array.range 0:BA Nat)= #[]:=rfl;simp only[Instr.buildSlice,E0,Dn,Ev hu,IM,iA];rw[if_neg (by omega)];simp[newRow,Instr.fill,Kv]
  ·cases h2
 ·cases hT
def QT(f:α->Ty)(hT:Gm P T E sz=true):Az P Γ ⟨d,.buildSlice T 0 #[],ty,pos,af,g⟩ (.buf E sz<|lT f []):=
 MG λw0 H0 N a w H hs=>by
  refine⟨.slice (some ⟨w.heap.size,0,none⟩) 0 0,w.alloc<| .cells #[] E,H,by simp only[execOp,E0,Array.map_empty,akD hT];rfl,Ext.alloc hs.sub _,⟨[],⟨by simp,.inr ⟨w.heap.size,0,#[],rfl,FY _,Lv w _,BM _,by rw[Ua];omega,by simp,by simp⟩⟩,rfl,?_⟩,?_⟩
  ·intro b hb;simp[Value.ownBlock] at hb;subst hb;refine⟨?_,.inl hs.below.size⟩;cases hh:H w.heap.size with
   |none=>rfl
   |some o=>have:=HO hs.sub hh;omega
  ·intro b hb;simp[AQ.owns,Value.ownBlock] at hb;omega
def air{T:Nat}{l:A3 Ty}(hT:LX P T len sz=true)(hu:Fo sz l)(hl:l.length=len)(hx:Arg Γ x (Jt<|DF l)):Az P Γ ⟨d,.slice T x none none none,ty,pos,af,g⟩ (.val<|G6 l):=
 Dj λw0 _ _ a w H hs=>by
  let⟨b,off,cs,E,fr,e,hb,hsz,Ax⟩:=hx.ok hs;let⟨el,i,hu2,hi,h2⟩:=pF hT;have IM:∀w,(Go.sizeOf el).run P w= .ok sz w:=λw=>by simp[Go.sizeOf,typeInfo,program,Sem.run,hi,h2]
  refine⟨.slice (some<|if len=0 then⟨b,off,none⟩ else(⟨b,off,none⟩:Addr).add (0*sz)) len len,?_,?_,rfl⟩
  ·simp[execOp,e,Instr.sliceAt,Ev hu2,Instr.sureAddr,Instr.sliceBounds,IM]
  ·let⟨cs2,e2,ho⟩:=Ax;have sY:cs2=(List.take (DF l).n<|List.drop off cs.toList).toArray:=by have:(DF l).agg=true:=rfl;rw[this] at e2;simp only[Gu] at e2;exact(Value.agg.inj e2).symm
   refine⟨_,len,by rw[hl],by omega,λhne=>⟨b,off,cs,E,fr,?_,hb,hsz,?_⟩⟩
   ·simp[addr_add]
   ·rw[sY] at ho;exact ho
def Flat(τ:Ty):Prop:=∀H H' v,τ.ok H v->τ.ok H' v
def Flat.int:Flat (TI k n):=λ_ _ _ h=>h
def Flat.bool:Flat (Aw b):=λ_ _ _ h=>h
inductive Kg(Γ:Ctx):A3 CH->A3 Ty->Prop where
 |nil:Kg Γ [] []
 |cons {x:CH} {τ:Ty} {xs:A3 CH} {l:A3 Ty} (h:Arg Γ x τ) (r:Kg Γ xs l):Kg Γ (x::xs) (τ::l)
 |buf {t:Nat} {E:Ap} {sz:Nat} {bl:A3 Ty} {xs:A3 CH} {l:A3 Ty} (h:look Γ t=some (.buf E sz bl)) (r:Kg Γ xs l):Kg Γ (.tmp t::xs) (G6 bl::l)
 |same {s t:Nat} {E:Ap} {sz:Nat} {bl:A3 Ty} {xs:A3 CH} {l:A3 Ty} (hs:look Γ s=some (.same t)) (h:look Γ t=some (.buf E sz bl)) (r:Kg Γ xs l):Kg Γ (.tmp s::xs) (G6 bl::l)
def full(w:AR):HV:=λr=>w.heap[r]?
def Kg.ok{xs:A3 CH}{l:A3 Ty}(h:Kg Γ xs l){w0:Aj P}{H0:HV}{N:Nat}{a:Act}{w:AR}{H:HV}(hs:Sat w0 H0 N Γ a w H):Ed (full w) l (xs.map a.eval):=by
 have hle:HV.le H (full w):=hs.sub
 induction h with
 |nil=>rfl
 |cons h _ ih=>exact⟨_,_,rfl,Ty.mono _ hle<|h.ok hs,ih⟩
 |buf h _ ih=>exact⟨_,_,rfl,WY (hs.holds _<|B6 h) hle<|λb _ _ o ho=>ho,ih⟩
 | @same s t E sz bl xs l hsm h _ ih=>
  refine⟨_,_,rfl,?_,ih⟩;have e:Ae a s=Ae a t:=hs.holds _<|B6 hsm
  show(G6 bl).ok _ (Ae a s);rw[e];exact WY (hs.holds _<|B6 h) hle<|λb _ _ o ho=>ho
def yf{H H':HV}:∀{l:A3 Ty} {vs:A3 AW},(∀τ∈l,Flat τ)->Ed H l vs->Ed H' l vs
 |[],_,_,e=>e
 |τ::_,_,hf,⟨v,rest,e,hv,hr⟩=>⟨v,rest,e,hf τ (by simp) _ _ _ hv,yf (λx hx=>hf x (by simp[hx])) hr⟩
def ahC{H':HV}{l:A3 Ty}(hf:∀τ∈l,Flat τ)(h:LS H l v):LS H' l v:=by
 match l,h with
 |[],h=>exact h
 |[τ],h=>exact hf τ (by simp) _ _ _ h
 |τ::Gp::l,⟨vs,e,h⟩=>exact⟨vs,e,yf hf h⟩
def xl{f:FuncId}(hf:Eg P f args (.vs Bm))(ha:Kg Γ xs args)(hfl:∀τ∈Bm,Flat τ):Az P Γ ⟨d,.call ⟨.value<| .func f,xs.toArray,F0⟩,ty,pos,af,g⟩ (Is Bm):=by
 intro w0 H0 N a w H hs K Q k;unfold Oper.wp;have e:execOp a.eval ⟨d,.call ⟨.value<| .func f,xs.toArray,F0⟩,ty,pos,af,g⟩=callFunc f (#[]++xs.toArray.map a.eval++ #[]):=rfl;rw[e,PE hf.can,WD];have e2:(#[]++xs.toArray.map a.eval++ #[])=(xs.map a.eval).toArray:=by simp
 rw[e2];refine(hf.run w (full w) _ (λ_ _ h=>h) (hs.gl.mono hs.sub)<|ha.ok hs).mono ?_;rintro e w' ⟨v,rfl,hb,H',h1,h2,h3⟩;have he:Ext w H w' H:=⟨hb,HV.le.refl _,λ_ _=>rfl,λr o h=>by rw[hb.block r<|HO hs.sub h];exact hs.sub r o h⟩;exact k v w' H he (Va<|ahC hfl h3)<|λb e=>absurd e<|AQ.free_spec Vi
def flc{l:A3 Ty}(h:Flat τ)(r:∀x∈l,Flat x):∀x∈τ::l,Flat x:=λx hx=>by
 rcases Ao.1 hx with e|hx
 ·rw[e];exact h
 ·exact r x hx
def fln:∀x∈([]:A3 Ty),Flat x:=λx hx=>by cases hx
end
section
variable[D:DR]
variable{P:Program}{w0:Aj P}{H0:HV}{N:Nat}{Q:Exit->Act->World->Prop}{Γ An:Ctx}
def agn{w0:Aj P}(hr:w0.rd=none):Fh w0.rd=Fence.wide:=by rw[hr];rfl
def anK{c:Code}(hr:w0.rd=none)(h:Goal P w0 H0 N c (Exit.noGoto Q) Γ):Goal P w0 H0 N (.scope c) Q Γ:=λa w H hs=>by have:=h a w H hs;rw[agn hr] at this⊢;exact wpIn_wide.2<|wp_scope_straight<|wpIn_wide.1 this
def anM{l:Nat}(k:EJ w0 H0 N (Q .normal) Γ):Goal P w0 H0 N (.label l) Q Γ:=λa w H hs=>wpIn_label<|k a w H hs
end
section
variable[D:DR]
variable{P:Program}{N:Nat}{ops:Array Oper}{Γ An:Ctx}{d:Option Tmp}{ty:TypeId}{pos:String}{af:Array Edge}{g:Option (Nat×Bool)}
variable{α β:Type}{A:α->A3 Ty}{R:β->A3 Ty}
def L3(P:CO){α β:Type}(A:α->A3 Ty)(R:β->A3 Ty)(g:α->AA β):Ty where
 n:=1
 agg:=false
 ok:=λH v=>∃f cap F5,v= .func (.func f) #[] cap/\Ed H F5 cap.toList/\∀a r,g a=some r-> @Eg DR.strict P f (A a++F5) (.vs<|R r)
 mono:=λh ⟨f,cap,F5,e,k,hf⟩=>⟨f,cap,F5,e,Yq h k,hf⟩
 shape:=λ⟨_,_,_,e,_,_⟩=>by subst e;exact Shape.one rfl
def YV{H:HV}:∀{l:A3 Ty} {vs:A3 AW} {l':A3 Ty} {vs':A3 AW},Ed H l vs->Ed H l' vs'->Ed H (l++l') (vs++vs')
 |[],_,_,_,e,h=>by subst e;exact h
 |_::_,_,_,_,⟨v,rest,e,hv,hr⟩,h=>by subst e;exact⟨v,_,rfl,hv,YV hr h⟩
def fp{fn:α->AA β}{t:Nat}{xs:A3 CH}{F0:BA Ap}{x:α}{r:β}(hf:look Γ t=some (.val<|L3 P A R fn))(h:fn x=some r)(ha:AP Γ xs (A x)):Az P Γ ⟨d,.call ⟨.value<| .tmp t,xs.toArray,F0⟩,ty,pos,af,g⟩ (Is<|R r):=by
 intro w0 H0 N a w H hs K Q k;let⟨f,cap,F5,e,hc,IT⟩:=hs.holds _<|B6 hf
 have hf:=(IT x r h).are (D:=D);unfold Oper.wp;have e1:a.eval (.tmp t)= .func (.func f) #[] cap:=e;have e0:execOp a.eval ⟨d,.call ⟨.value<| .tmp t,xs.toArray,F0⟩,ty,pos,af,g⟩=callFunc f (#[]++xs.toArray.map a.eval++cap):=by
  simp[execOp,resolve,e1,Deferred.ofValue,pure_bind]
  rfl
 rw[e0,PE hf.can,WD];have e2:(#[]++xs.toArray.map a.eval++cap)=(xs.map a.eval++cap.toList).toArray:=by simp
 rw[e2];refine(hf.run w H _ hs.sub hs.gl<|YV (ha.ok hs) hc).mono ?_;rintro e w' ⟨v,rfl,hb,H',h1,h2,h3⟩;have he:Ext w H w' H':=⟨hb,λr o h=>by rw[h1 r<|HO hs.sub h];exact h,h1,h2⟩;exact k v w' H' he (Va h3)<|λb e=>absurd e<|AQ.free_spec Vi
def mY{fn:α->AA β}{f:FuncId}{xs:A3 CH}{F5:A3 Ty}(ha:AP Γ xs F5)(h:∀a r,fn a=some r-> @Eg DR.strict P f (A a++F5) (.vs<|R r)):Az P Γ ⟨d,.makeFunc (.func f) #[] xs.toArray,ty,pos,af,g⟩ (.val<|L3 P A R fn):=
 Dj λ_ _ _ a w H hs=>by refine⟨.func (.func f) #[] (xs.map a.eval).toArray,?_,⟨f,_,F5,rfl,by simpa using ha.ok hs,h⟩,rfl⟩;simp[execOp,Instr.makeFunc]
def Arg.fn{α β:Type}{A:α->A3 Ty}{R:β->A3 Ty}{fn:α->AA β}{f:FuncId}(h:∀a r,fn a=some r-> @Eg DR.strict P f (A a) (.vs<|R r)):Arg Γ (.func f) (L3 P A R fn):=⟨λ_=>⟨f,#[],[],rfl,rfl,λa r e=>by simpa using h a r e⟩⟩
def akA{w0:Aj P}{H0:HV}{a:Act}{w w':AR}{H H':HV}{row:AA Nat}(hs:Sat w0 H0 N Γ a w H)(hg:Ee w w' row)(Hf:∀b,row=some b->w0.ED b/\H b=none/\∀l,w.heap[b]? ≠some (.deferred l))(hle:HV.le H H')(hold:∀b,b<w.heap.size->row≠some b->H' b=H b)(BE:∀b o,H' b=some o->w'.heap[b]? =some o)
  (hn:∀p∈An,p∈Γ/\∀b,p.2.owns w (Ae a p.1) b->row≠some b):Sat w0 H0 N An a w' H':=by
 have E3:∀b,b<w.heap.size->row≠some b->w'.heap[b]? =w.heap[b]? /\H' b=H b:=λb hb hn=>⟨hg.block b hb<|λe=>hn e.symm,hold b hb hn⟩
 refine Vp (ds:=a.defers) hs (hs.below.LV hg<|λk hk=>(Hf k hk).1) hg.drawn ?_ hg.size hle BE ?_ ?_ ?_
 ·intro _ r hr hx;exact hold r (Jn hr hs.below.size) (λe=>by
   rcases(Hf r e).1 with h|h
   ·omega
   ·exact hx h)
 ·intro _ b hb Fl;exact E3 b hb (λe=>by have:=Aj.QX (Hf b e).1;omega)
 ·intro p hp;exact⟨(hn p hp).1,λb hb=>E3 b (AQ.JH (hs.holds p (hn p hp).1) hb).1<|(hn p hp).2 b hb⟩
 ·exact hs.nd.kept λD _ h1 h2=>by
   have:=E3 D (lt_of_heap h1)<|λe=>(Hf D e).2.2 _ h1
   exact⟨by rw[this.1];exact h1,by rw[this.2];exact h2⟩
end
section
variable[D:DR]
def Jc{α σ ρ:Type}:A3 α->((σ->AA ρ)->α->σ->AA ρ)->σ->(σ->AA ρ)->AA ρ
 |[],_,s,K=>K s
 |x::xs,B,s,K=>B (λs=>Jc xs B s K) x s
structure R0(M:Nat->Prop)(w:AR)(H:HV)(w':AR)(H':HV):Prop where
 size:w.heap.size<=w'.heap.size
 os:w'.os=w.os
 tape:w'.tape=w.tape
 output:w'.output=w.output
 drawn:H5 w w'
 le:HV.le H H'
 E3:∀b,b<w.heap.size-> ¬M b->w'.heap[b]? =w.heap[b]? /\H' b=H b
 sub:∀r o,H' r=some o->w'.heap[r]? =some o
def Zq{α σ ρ:Type}(P:CO)(l:Nat)(enc:α->A3 Ty)(Bd:(σ->AA ρ)->α->σ->AA ρ)(r:ρ)(J:σ->Inv->Prop)(Jx:Inv->Prop)(n0:Nat):Prop:=
 ∀(next:σ->AA ρ) (x:α) (s:σ) (I:Inv) (W:AR) (H:HV) (vs:A3 AW),Bd next x s=some r->J s I->I.n=n0->I.p W H->(∀r o,H r=some o->W.heap[r]? =some o)->LR P H->Ed H (enc x) vs->YieldAt (Fh none) 0 P l vs.toArray W λe W'=>∃H' I',I'.n=n0/\I'.p W' H'/\R0 I.M W H W' H'/\(∀b,I'.M b->I.M b\/W.heap.size<=b)/\
   ((e= .returned (.bool true)/\∃s',next s'=some r/\J s' I')\/(e= .returned (.bool false)/\Jx I'))
def Z0(P:CO)(gf:FuncId)(F5:A3 Ty){α:Type}(enc:α->A3 Ty)(L:A3 α):Prop:=
 Gi P gf=true/\∀{σ ρ:Type} (Bd:(σ->AA ρ)->α->σ->AA ρ) (K:σ->AA ρ) (s0:σ) (r:ρ),Jc L Bd s0 K=some r->∀(l:Nat) (J:σ->Inv->Prop) (Jx:Inv->Prop) (w:AR) (H:HV) (cvs:A3 AW) (I0:Inv),(∀r o,H r=some o->w.heap[r]? =some o)->LR P H->Ed H F5 cvs->J s0 I0->I0.n=w.heap.size->I0.p w H->Zq P l enc Bd r J Jx w.heap.size->Calls P gf (.func (.yield l) #[] #[]::cvs).toArray w λe w'=>(∃v,e= .returned v)/\∃H' I',I'.p w' H'/\(∀r o,H' r=some o->w'.heap[r]? =some o)/\((∃s,K s=some r/\J s I')\/Jx I')
def Ut(P:CO){α:Type}(enc:α->A3 Ty)(o:AA (A3 α)):Ty where
 n:=1
 agg:=false
 ok:=λH v=>∃gf cap F5,v= .func (.func gf) #[] cap/\Ed H F5 cap.toList/\∀L,o=some L->Z0 P gf F5 enc L
 mono:=λh ⟨gf,cap,F5,e,k,s⟩=>⟨gf,cap,F5,e,Yq h k,s⟩
 shape:=λ⟨_,_,_,e,_⟩=>by subst e;exact Shape.one rfl
end
section
variable[D:DR]
variable{P:Program}{w0:Aj P}{H0:HV}{N:Nat}{Q:Exit->Act->World->Prop}{Γ An:Ctx}
variable{w:AR}{H:HV}{T:A3 Nat}{l:Nat}{rc:Loop}{σ ρ:Type}{r:ρ}{ts:A3 Nat}{a:Act}
def aF(N:Nat)(T:A3 Nat)(Γ:Ctx):Bool:=Γ.all λp=>Nat.blt p.1 N&&T.contains p.1&&p.2.CA.all (λt=>T.contains t)&& !p.2.Ey
theorem PJ{N:Nat}{Γ:Ctx}(h:aF N T Γ=true){p:Nat×AQ}(hp:p∈Γ):p.1<N/\p.1∈T/\(∀t∈p.2.CA,t∈T)/\p.2.Ey=false:=by(simp_all [aF,AQ.CA,AQ.Ey]<;>grind)
def pins(N:Nat)(T:A3 Nat)(pv:Nat->AW):Ctx:=T.map λt=>(N+1+t,.KP t<|pv t)
def params:A3 Nat->A3 Ty->Ctx
 |p::ps,τ::τs=>(p,.val τ)::params ps τs
 |_,_=>[]
def busy(rc:Loop):Loop:={rc with state:= .busy}
def ry(wr:Aj P)(Hr:HV)(N l:Nat)(rc:Loop)(T:A3 Nat)(pv:Nat->AW){σ ρ:Type}(Ai:σ->Ctx)(KN:AA Ctx)(next:σ->AA ρ)(r:ρ):Exit->Act->AR->Prop
 | .normal,a,w=>∃s',next s'=some r/\∃H,Sat wr Hr N ((N,.Dv l<|busy rc)::(pins N T pv++Ai s')) a w H
 | .ret,a,w=>∃G,KN=some G/\∃H,Sat wr Hr N ((N,.Dv l<|busy rc)::(pins N T pv++G)) a w H
 |_,_,_=>False
def aar(wr:Aj P)(Hr:HV)(N l:Nat)(rc:Loop)(T:A3 Nat)(pv:Nat->AW){σ ρ:Type}(body:Code)(Ai:σ->Ctx)(KN:AA Ctx)(next:σ->AA ρ)(r:ρ):Exit->Act->AR->Prop
 | .normal,a,w=>∃Γa H,Sat wr Hr N ((N,.Dv l rc)::Γa) a w H/\BI N Γa=Γa/\Goal P wr Hr N body (ry wr Hr N l rc T pv Ai KN next r) ((N,.Dv l<|busy rc)::Γa)
 |_,_,_=>False
def rX{wr:Aj P}{Hr:HV}{pv:Nat->AW}{body:Code}{Ai:σ->Ctx}{KN:AA Ctx}{next:σ->AA ρ}{Γa:Ctx}
 (h:ES Γ ts ((N,.Dv l rc)::Γa))(hf:BI N Γa=Γa)(g:Goal P wr Hr N body (ry wr Hr N l rc T pv Ai KN next r) ((N,.Dv l<|busy rc)::Γa)):EJ wr Hr N (aar wr Hr N l rc T pv body Ai KN next r .normal) Γ:=λ_ _ H hs=>⟨Γa,H,hs.weaken h.sub,hf,g⟩
def j7{wr:Aj P}{Hr:HV}{pv:Nat->AW}{Ai:σ->Ctx}{KN:AA Ctx}{next:σ->AA ρ}{s':σ}(hm:next s'=some r)
 (h:ES Γ ts ((N,.Dv l<|busy rc)::(pins N T pv++Ai s'))):EJ wr Hr N (ry wr Hr N l rc T pv Ai KN next r .normal) Γ:=λ_ _ H hs=>⟨s',hm,H,hs.weaken h.sub⟩
def Ee.putObj(w:AR)(l:Nat)(o:Obj):Ee w (w.putObj l o) (some l):=⟨⟨rfl,rfl,rfl,by simp,λj _ hj=>Zi (λe=>hj (by rw[e]))⟩,BM _⟩
def Z6{k:Nat}{rc':Loop}(hs:Sat w0 H0 N Γ a w H)(hk:(k,.Dv l rc)∈Γ):Sat w0 H0 N ((k,.Dv l rc')::BI k Γ) a (w.putObj l<| .loop rc') H:=by let⟨h1,h2,h3⟩:=hs.holds _ hk;exact PD hs hk (Ee.putObj w l _) h3 rfl ⟨qR<|lt_of_heap h1,h2,h3⟩ λc hc=> .inl hc
def Sat.ani(hs:Sat w0 H0 N Γ a w H):∀{G:Ctx},(∀p∈G,p.2.free=true/\p.2.holds w0 a w H (Ae a p.1))->Sat w0 H0 N (G++Γ) a w H:=λ{G} h=>by
 refine⟨hs.nd,hs.sz,hs.below,hs.Fe,hs.sub,?_,?_,hs.gl⟩
 ·intro p hp;rcases Bs.1 hp with hp|hp
  ·exact(h p hp).2
  ·exact hs.holds p hp
 ·intro p hp q hq hne b hb Ba;rcases Bs.1 hp with hp|hp
  ·exact AQ.free_spec (h p hp).1 hb
  ·rcases Bs.1 hq with hq|hq
   ·exact AQ.free_spec (h q hq).1 Ba
   ·exact hs.sep p hp q hq hne b hb Ba
def wL{w:AR}{H:HV}:∀{ps:A3 Nat} {τs:A3 Ty} {vs:A3 AW} {Γ:Ctx} {a:Act},Ed H τs vs->ps.length=τs.length->(∀p∈ps,p<N/\Jp p Γ=true)->ps.Nodup->Sat w0 H0 N Γ a w H->∃G,(∀q∈params ps τs++Γ,q∈G)/\Sat w0 H0 N G {tmps:=(ps.zip vs).foldl (λt (p,v)=>t.setIfInBounds p v) a.tmps,defers:=a.defers} w H
 |[],[],vs,Γ,a,ho,_,_,_,hs=>by have:vs=[]:=ho;subst this;exact⟨Γ,λq hq=>hq,hs⟩
 |[],_::_,_,_,_,_,hl,_,_,_=>by simp at hl
 |_::_,[],_,_,_,_,hl,_,_,_=>by simp at hl
 |p::ps,τ::τs,_,Γ,a,⟨v,rest,e,hv,hr⟩,hl,hp,hn,hs=>by
  subst e;let⟨hn1,IV⟩:=iK.1 hn;have h1:=QO hs (hp p (by simp)).1 (hp p (by simp)).2 (s:= .val τ) (v:=v) (by simp[AQ.CA]) hv<|λb h=>h.elim
  let⟨G,hG,hS⟩:=wL (ps:=ps) (τs:=τs) (vs:=rest) (Γ:=(p,.val τ)::Γ) hr (by simpa using hl) (λq hq=>⟨(hp q (by simp[hq])).1,by have:=(hp q (by simp[hq])).2;simp only[Jp,OT,C6] at this⊢;refine⟨⟨?_,by simp[AQ.CA]⟩,this⟩;simp[MM,ne_eq];exact λe=>hn1<|e▸hq⟩) IV h1
  refine⟨G,λq hq=>hG q ?_,hS⟩;simp[params,SI,Ao,Bs] at hq⊢;rcases hq with h|h|h
  ·exact .inr<| .inl h
  ·exact .inl h
  ·exact .inr<| .inr h
def Marks.tail{B:Aj P}{w:AR}{H:HV}:∀{l m:A3 Deferred},Marks B w H (l++m)->Marks B w H m
 |[],_,h=>h
 |_::_,_,h=>Marks.tail h.2
def Marks.both{B B':Aj P}{w w':AR}{H H':HV}:∀{l:A3 Deferred},Marks B w H l->Marks B' w' H' l->Marks B w' H' l
 |[],_,_=>trivial
 |_::_,⟨⟨D,e,h1,_,_,h4⟩,hr⟩,⟨⟨D',e',_,g2,g3,_⟩,gr⟩=>by rw[e] at e';cases e';exact⟨⟨D,e,h1,g2,g3,h4⟩,hr.both gr⟩
def kF(w0:Aj P)(H0:HV)(N:Nat)(Γ:Ctx)(a:Act)(n1:Nat)(M:Nat->Prop)(FA:∀p∈Γ,p.2.Ey=false)(hn:w0.n<=n1)(hD:∀D,({target:= .collected D,args:= #[]}:Deferred)∈a.defers++w0.ds->D<n1):Inv where
 n:=n1
 M:=M
 p:=λW H=>Sat w0 H0 N Γ a W H/\∀b,M b↔∃p∈Γ,p.2.owns W (Ae a p.1) b
 lt:=λ⟨hS,hM⟩ hb=>by let⟨p,hp,hb⟩:=(hM _).1 hb;exact AQ.JH (hS.holds p hp) hb
 step:=λ{w w' H H'} ⟨hS,hM⟩ F=>by
  have hk:∀p∈Γ,∀b,p.2.owns w (Ae a p.1) b->w'.heap[b]? =w.heap[b]? /\H' b=H b:=λp hp b hb=>by have h1:=(AQ.JH (hS.holds p hp) hb).1;have h2:M b:=(hM b).2 ⟨p,hp,hb⟩;exact⟨F.E3 b h1<| .inr h2,F.view b h1<| .inr h2⟩
  refine⟨Vp (ds:=a.defers) hS ?_ F.drawn ?_ F.size F.le F.sub ?_ (λp hp=>⟨hp,hk p hp⟩) ?_,λb=>?_⟩
  ·exact⟨F.os.trans hS.below.os,F.tape.trans hS.below.tape,F.output.trans hS.below.output,Cu hS.below.drawn F.drawn,Cu hS.below.size F.size,λhv k hk hx=>(F.E3 k (Jn hk hS.below.size)<| .inl<|Jn hk hn).trans<|hS.below.block hv k hk hx⟩
  ·exact λ_ r hr _=>F.view r (Jn hr hS.below.size)<| .inl<|Jn hr hn
  ·rintro⟨p,hp,hi⟩;rw[FA p hp] at hi;cases hi
  ·exact hS.nd.kept λD hm h1 h2=>⟨by rw[F.E3 D (lt_of_heap h1)<| .inl<|hD D hm];exact h1,by rw[F.view D (lt_of_heap h1)<| .inl<|hD D hm];exact h2⟩
  ·rw[hM b];have key:∀p∈Γ,∀b,p.2.owns w' (Ae a p.1) b↔p.2.owns w (Ae a p.1) b:=λp hp b=>by refine(AQ.Ve (n:=0) (w':=w') (H':=H') (hS.holds p hp) (λhi=>by rw[FA p hp] at hi;cases hi) ?_).2 b;exact⟨F.size,F.os,F.tape,F.output,F.drawn,F.le,λb _ h=>h.elim (λh=>by omega)<|λh=>(hk p hp b h).1,λb _ h=>h.elim (λh=>by omega)<|λh=>(hk p hp b h).2,F.sub⟩
   exact⟨λ⟨p,hp,h⟩=>⟨p,hp,(key p hp b).2 h⟩,λ⟨p,hp,h⟩=>⟨p,hp,(key p hp b).1 h⟩⟩
def qZ{k:Nat}:∀{Γ:Ctx},(∀p∈Γ,p.1≠k)->BI k Γ=Γ
 |[],_=>rfl
 |p::Γ,h=>by
  have h1:Nat.beq p.1 k=false:=by
   cases hb:Nat.beq p.1 k
   ·rfl
   ·exact absurd (EA hb) (h p (by simp))
  simp[BI,h1,Ar];rw[qZ λq hq=>h q (by simp[hq])]
def Sat.defs{ds:A3 Deferred}(hs:Sat w0 H0 N Γ a w H)(hm:Marks w0 w H (ds++w0.ds)):Sat w0 H0 N Γ {a with defers:=ds} w H:=Vp (ds:=ds) hs hs.below (BM _) (λ_ _ _ _=>rfl) (BM _) (HV.le.refl _) hs.sub (λ_ _ _ _=>⟨rfl,rfl⟩) (λp hp=>⟨hp,λ_ _=>⟨rfl,rfl⟩⟩) hm
def yS{a3 aD:Act}{W W4:AR}{Hc H3:HV}{M:Nat->Prop}{G G':Ctx}(hS:Sat w0 H0 N G aD W Hc)(hds:w0.ds=[])(hrd:w0.rd=none)
 (hM:∀b,M b->w0.ED b/\Hc b=none)(wr:Aj P)(hwr:wr=⟨W,M,some l,false,aD.defers,0,FY _,λ_ _=>FY _⟩)
 (I4:Sat wr Hc N ((N,.Dv l rc)::(pins N T (λt=>Ae aD t)++G')) a3 W4 H3)(hT:aF N T G'=true):Sat w0 H0 N ((N,.Dv l rc)::G') aD W4 H3/\R0 M W Hc W4 H3/\∀p∈(N,AQ.Dv l rc)::G',∀b,p.2.owns W4 (Ae aD p.1) b->M b\/W.heap.size<=b:=by
 have hwn:wr.n=W.heap.size:=by rw[hwr];rfl
 have hwX:wr.X=M:=by rw[hwr]
 have hwv:wr.J3=false:=by rw[hwr]
 have at0:wr.ds=aD.defers:=by rw[hwr]
 have hww:wr.w=W:=by rw[hwr]
 have KP:∀t∈T,Ae a3 t=Ae aD t:=λt ht=>I4.holds (N+1+t,.KP t<|Ae aD t)<|C2 _<|Ij _<|BR.2 ⟨t,ht,rfl⟩
 have mem:∀p∈(N,AQ.Dv l rc)::G',p∈(N,AQ.Dv l rc)::(pins N T (λt=>Ae aD t)++G'):=λp hp=>by
  rcases Ao.1 hp with e|hp
  ·subst e;simp
  ·exact C2 _<|UI _ hp
 have ED:∀b,wr.ED b->w0.ED b:=λb hb=>by
  rcases hb with hb|hb
  ·exact .inl<|Cu hS.below.size<|hwn▸hb
  ·exact(hM b<|hwX▸hb).1
 have hle:HV.le Hc H3:=λr o h=>by have hlt:=HO hS.sub h;rw[I4.Fe hwv r (by rw[hwn];exact hlt) (λhx=>by have:=(hM r<|hwX▸hx).2;rw[this] at h;cases h)];exact h
 have E3:∀b,b<W.heap.size-> ¬M b->W4.heap[b]? =W.heap[b]? /\H3 b=Hc b:=λb hb hn=>by have h1:=I4.below.block hwv b (by rw[hwn];exact hb) (by rw[hwX];exact hn);rw[hww] at h1;exact⟨h1,I4.Fe hwv b (by rw[hwn];exact hb) (by rw[hwX];exact hn)⟩
 have hsz:W.heap.size<=W4.heap.size:=by have:=I4.below.size;rw[hwn] at this;exact this
 have hos:W4.os=W.os:=by have:=I4.below.os;rw[hww] at this;exact this
 have hta:W4.tape=W.tape:=by have:=I4.below.tape;rw[hww] at this;exact this
 have hou:W4.output=W.output:=by have:=I4.below.output;rw[hww] at this;exact this
 have hdr:H5 W W4:=by have:=I4.below.drawn;rw[hww] at this;exact this
 have low:∀k,k<w0.n-> ¬w0.X k-> ¬M k:=λk hk hx hm=>by
  rcases(hM k hm).1 with h|h
  ·omega
  ·exact hx h
 have sB:∀p∈(N,AQ.Dv l rc)::G',∀b,p.2.owns W4 (Ae aD p.1) b↔p.2.owns W4 (Ae a3 p.1) b:=λp hp b=>by
  rcases Ao.1 hp with e|hp
  ·subst e;exact Iff.rfl
  ·rw[KP _ (PJ hT hp).2.1]
 refine⟨⟨?_,hS.sz,?_,?_,I4.sub,?_,?_,I4.gl⟩,⟨hsz,hos,hta,hou,hdr,hle,E3,I4.sub⟩,?_⟩
 ·have h1:=I4.nd.tail;rw[at0] at h1;have h2:=hS.nd;rw[hds,Ih] at h2⊢;exact h2.both h1
 ·exact⟨hos.trans hS.below.os,hta.trans hS.below.tape,hou.trans hS.below.output,Cu hS.below.drawn hdr,Cu hS.below.size hsz,λhv k hk hx=>(E3 k (Jn hk hS.below.size)<|low k hk hx).1.trans<|hS.below.block hv k hk hx⟩
 ·exact λhv r hr hx=>(E3 r (Jn hr hS.below.size)<|low r hr hx).2.trans<|hS.Fe hv r hr hx
 ·intro p hp;have h1:=I4.holds p<|mem p hp
  have hi:p.2.Ey=false:=by
   rcases Ao.1 hp with e|hp
   ·subst e;rfl
   ·exact(PJ hT hp).2.2.2
  have h2:=AQ.Rl (B':=w0) hi h1 λb hb=>ED b<|AQ.PR hi h1 hb
  rcases Ao.1 hp with e|hp
  ·subst e;exact h2
  ·let⟨_,hk,hl,_⟩:=PJ hT hp;rw[<-KP _ hk];exact AQ.PQ (λt ht=>(KP t<|hl t ht).symm) h2
 ·intro p hp q hq hne b hb Ba;exact I4.sep p (mem p hp) q (mem q hq) hne b ((sB p hp b).1 hb)<|(sB q hq b).1 Ba
 ·intro p hp b hb;have h1:=I4.holds p<|mem p hp
  have hi:p.2.Ey=false:=by
   rcases Ao.1 hp with e|hp
   ·subst e;rfl
   ·exact(PJ hT hp).2.2.2
  rcases AQ.PR hi h1 ((sB p hp b).1 hb) with h|h
  ·exact .inr<|hwn▸h
  ·exact .inl<|hwX▸h
def qV{α:Type}{gt:Tmp}{psl:A3 Tmp}{assign body:Code}{enc:α->A3 Ty}{L:A3 α}{o:AA (A3 α)}(T:A3 Nat)(Ai:σ->Ctx)(KN:AA Ctx)
 {Bd:(σ->AA ρ)->α->σ->AA ρ}{K:σ->AA ρ}{s0:σ}
 (hm:Jc L Bd s0 K=some r)(ho:o=some L)(hrd:w0.rd=none)(hds:w0.ds=[])(hg:look Γ gt=some (.val<|Ut P enc o))(h0:ES Γ ts (Ai s0))
 (hT:∀s,aF N T (Ai s)=true)(hTx:∀G,KN=some G->aF N T G=true)(hps:∀x,(enc x).length=psl.length)(hpN:(psl.all λp=>Nat.blt p N&& !T.contains p)=true)(IU:psl.Nodup)
 (round:∀(wr:Aj P) (Hr:HV) (l:Nat) (rc:Loop) (pv:Nat->AW) (next:σ->AA ρ) (x:α) (s:σ),wr.rd=some l->Bd next x s=some r->Goal P wr Hr N assign (aar wr Hr N l rc T pv body Ai KN next r) (params psl (enc x)++((N,.Dv l rc)::(pins N T pv++Ai s))))
 (kk:∀s,K s=some r->EJ w0 H0 N (Q .normal) (Ai s))(kx:∀G,KN=some G->EJ w0 H0 N (Q .ret) G):Goal P w0 H0 N (.rangeFunc (.tmp gt) psl.toArray assign body) Q Γ:=by
 intro a w H hs;have hinv:∀s,∀p∈Ai s,p.2.Ey=false:=λs p hp=>(PJ (hT s) hp).2.2.2
 have ac1:∀s,∀p∈Ai s,p.1≠N:=λs p hp=>Nat.ne_of_lt (PJ (hT s) hp).1
 rw[hrd];refine wpIn_rangeFunc ?_;intro fn _;let⟨gf,cap,F5,eg,hcap,Wt⟩:=hs.holds _<|B6 hg
 let⟨Um,aqm⟩:=Wt L ho;simp only at eg;obtain⟨E4,R9⟩:∃E4:Loop,E4={state:= .ready,pending:=none,fn,tmps:=a.tmps,params:=psl.toArray,assign,body,defers:=w.heap.size}:=⟨_,rfl⟩;obtain⟨W1,hW1⟩:∃W1,(w.alloc<| .deferred<|some []).alloc (.loop E4)=W1:=⟨_,rfl⟩;obtain⟨aD,haD⟩:∃aD:Act,{a with defers:={target:= .collected w.heap.size,args:= #[]}::a.defers}=aD:=⟨_,rfl⟩;have avc:W1.heap.size=w.heap.size+2:=by rw[<-hW1];simp
 have hL1:W1.heap[w.heap.size+1]? =some (.loop E4):=by rw[<-hW1];have:=World.alloc_heap_new (w.alloc<| .deferred<|some []) (.loop E4);rwa [World.size_alloc] at this
 have hK1:W1.heap[w.heap.size]? =some (.deferred<|some []):=by rw[<-hW1];exact(Below.heap_alloc _ _ _ (by simp)).trans<|World.alloc_heap_new w _
 have hHn:∀b,w.heap.size<=b->H b=none:=λb hb=>by
  cases hh:H b with
  |none=>rfl
  |some o=>have:=HO hs.sub hh;omega
 have he:Ext w H W1 H:=by
  have e1:=Ext.alloc hs.sub (w:=w)<| .deferred<|some []
  have e2:=Ext.alloc e1.sub (w:=w.alloc<| .deferred<|some [])<| .loop E4
  rw[hW1] at e2;refine⟨⟨?_,Cu e1.below.drawn e2.below.drawn⟩,HV.le.refl _,λ_ _=>rfl,e2.sub⟩;have h1:=e1.below.toBelow;have h2:=e2.below.toBelow;exact h1.trans (h2.mono (by simp))
 have hsD:Sat w0 H0 N ((N,.Dv (w.heap.size+1) E4)::Ai s0) aD W1 H:=by
  have hs1:=fY (hs.weaken h0.sub) he;have hmk:Marks w0 W1 H (aD.defers++w0.ds):=by
   rw[<-haD];refine⟨⟨w.heap.size,rfl,λ_=>hs.below.size,hK1,hHn _<|BM _,?_⟩,hs1.nd⟩;intro e he1 he2;have:∀{l:A3 Deferred},Marks w0 w H l->e∈l->False:=by
    intro l
    induction l with
    |nil=>intro _ h;cases h
    |cons x l ih=>
     rintro⟨⟨D,ex,_,g2,_,_⟩,gr⟩ h;rcases Ao.1 h with h|h
     ·subst h;rw[ex] at he2;have hD:D=w.heap.size:=by injection he2 with h _;injection h
      subst hD;have:=lt_of_heap g2;omega
     ·exact ih gr h
   exact this hs.nd he1
  have KT:Sat w0 H0 N (Ai s0) aD W1 H:=by rw[<-haD] at hmk⊢;exact hs1.defs hmk
  refine⟨KT.nd,KT.sz,KT.below,KT.Fe,KT.sub,?_,?_,KT.gl⟩
  ·intro p hp;rcases Ao.1 hp with e|hp
   ·subst e;exact⟨hL1,hHn _ (by omega),.inl (Cu hs.below.size (by omega))⟩
   ·exact KT.holds p hp
  ·have key:∀q∈Ai s0,¬q.2.owns W1 (Ae aD q.1) (w.heap.size+1):=λq hq hb=>by
    have Ba:q.2.owns W1 (Ae a q.1) (w.heap.size+1):=by rw[<-haD] at hb;exact hb
    have:=(AQ.JH ((hs.weaken h0.sub).holds q hq)<|(AQ.fj he ((hs.weaken h0.sub).holds q hq) _).1 Ba).1;omega
   intro p hp q hq hne b hb Ba;rcases Ao.1 hp with e|hp<;>rcases Ao.1 hq with e'|hq
   ·subst e;subst e';exact hne rfl
   ·subst e;cases hb;exact key q hq Ba
   ·subst e';cases Ba;exact key p hp hb
   ·exact KT.sep p hp q hq hne b hb Ba
 have hDl:∀D,({target:= .collected D,args:= #[]}:Deferred)∈aD.defers++w0.ds->D<W1.heap.size:=by
  intro D hD;have:∀{l:A3 Deferred},Marks w0 W1 H l->({target:= .collected D,args:= #[]}:Deferred)∈l->D<W1.heap.size:=by
   intro l
   induction l with
   |nil=>intro _ h;cases h
   |cons x l ih=>
    rintro⟨⟨D',ex,_,g2,_,_⟩,gr⟩ h;rcases Ao.1 h with h|h
    ·rw[ex] at h;have hD:D=D':=by injection h with h _;injection h
     subst hD;exact lt_of_heap g2
    ·exact ih gr h
  exact this hsD.nd hD
 have hn1:w0.n<=W1.heap.size:=by have:=hs.below.size;omega
 have kL:∀s,∀p∈(N,AQ.Dv (w.heap.size+1) E4)::Ai s,p.2.Ey=false:=λs p hp=>by
  rcases Ao.1 hp with e|hp
  ·subst e;rfl
  ·exact hinv s p hp
 have bG:∃rcx:Loop,rcx={E4 with state:= .done,pending:=some .ret}:=⟨_,rfl⟩;let⟨rcx,bG⟩:=bG;have acZ:∀G,KN=some G->∀p∈(N,AQ.Dv (w.heap.size+1) rcx)::G,p.2.Ey=false:=λG hG p hp=>by
  rcases Ao.1 hp with e|hp
  ·subst e;rfl
  ·exact(PJ (hTx G hG) hp).2.2.2
 let J:σ->Inv->Prop:=λs I=>∃M,I=kF w0 H0 N ((N,.Dv (w.heap.size+1) E4)::Ai s) aD W1.heap.size M (kL s) hn1 hDl
 let Jx:Inv->Prop:=λI=>∃G,∃hG:KN=some G,∃M,I=kF w0 H0 N ((N,.Dv (w.heap.size+1) rcx)::G) aD W1.heap.size M (acZ G hG) hn1 hDl
 refine⟨w.heap.size+1,[{target:= .collected w.heap.size,args:= #[]}],W1,{target:= .fn (.func gf) cap,args:= #[.func (.yield<|w.heap.size+1) #[] #[]]},W1,gf,#[.func (.yield<|w.heap.size+1) #[] #[]]++cap,W1,?_,?_,?_,?_,(λe=>by cases e),?_⟩
 ·rw[<-hW1,R9];exact run_enterLoop_outer _ _ _ _ _
 ·have eg':a.eval (.tmp gt)= .func (.func gf) #[] cap:=eg;simp only[resolve,eg'];simp[go_sem]
 ·intro f' _;trivial
 ·have:=PE Um (#[.func (.yield<|w.heap.size+1) #[] #[]]++cap) W1;simp only[invoke];exact this
 ·
  have ec:(#[.func (.yield<|w.heap.size+1) #[] #[]]++cap:BA AW)=(.func (.yield<|w.heap.size+1) #[] #[]::cap.toList).toArray:=by apply Array.ext';simp
  rw[ec];refine CallsIn.abo (abW<|aqm Bd K s0 r hm (w.heap.size+1) J Jx W1 H cap.toList _ hsD.sub hsD.gl (Yq (HV.le.refl _) hcap) ⟨λb=>∃p∈(N,AQ.Dv (w.heap.size+1) E4)::Ai s0,p.2.owns W1 (Ae aD p.1) b,rfl⟩ rfl ⟨hsD,λb=>Iff.rfl⟩ ?_) ?_
  ·
   rintro next x s I W Hc vs hBd ⟨M,rfl⟩ _ ⟨hS,hM⟩ BE hgl hvs
   have hM':∀b,M b->w0.ED b/\Hc b=none:=λb hb=>by let⟨p,hp,hb⟩:=(hM b).1 hb;exact⟨AQ.PR (kL s p hp) (hS.holds p hp) hb,(AQ.JH (hS.holds p hp) hb).2.1⟩
   let⟨hl1,hl2,hl3⟩:=hS.holds (N,.Dv (w.heap.size+1) E4) (by simp);have Lc:vs.length=psl.length:=by rw[S4 hvs,hps x]
   have hy:=run_yield (P:=P) (args:=vs.toArray) hl1 (by rw[R9];simpa using Lc);refine⟨E4.fn,_,E4.assign,E4.body,hy,roundIn_of_wpIn trivial ?_⟩;have ea:E4.assign=assign:=by rw[R9]
   have eb:E4.body=body:=by rw[R9]
   have et:((E4.params.zip vs.toArray).foldl (λtmps (t,a)=>tmps.setIfInBounds t a) E4.tmps)=((psl.zip vs).foldl (λt (p,v)=>t.setIfInBounds p v) aD.tmps):=by rw[R9,<-haD];simp
   rw[ea,eb,et];obtain⟨wr,hwr⟩:∃wr:Aj P,wr=⟨W,M,some<|w.heap.size+1,false,aD.defers,0,FY _,λ_ _=>FY _⟩:=⟨_,rfl⟩;have sJ:wr.rd=some (w.heap.size+1):=by rw[hwr]
   have Kv:Sat wr Hc N ((N,.Dv (w.heap.size+1) E4)::Ai s) {aD with defers:=[]} W Hc:=by
    refine⟨?_,hS.sz,?_,λ_ _ _ _=>rfl,hS.sub,?_,hS.sep,hS.gl⟩
    ·rw[hwr];show Marks _ W Hc ([]++aD.defers);have h2:=hS.nd;rw[hds,Ih] at h2;have:∀{l:A3 Deferred},Marks w0 W Hc l->Marks (⟨W,M,some<|w.heap.size+1,false,aD.defers,0,FY _,λ_ _=>FY _⟩:Aj P) W Hc l:=by
      intro l
      induction l with
      |nil=>exact λ_=>trivial
      |cons x l ih=>exact λ⟨⟨D,e,_,g2,g3,g4⟩,gr⟩=>⟨⟨D,e,(λh=>by cases h),g2,g3,g4⟩,ih gr⟩
     exact this h2
    ·rw[hwr];exact⟨rfl,rfl,rfl,BM _,BM _,λ_ _ _ _=>rfl⟩
    ·intro p hp;refine AQ.PQ (a:=aD) (λ_ _=>rfl)<|AQ.Rl (kL s p hp) (hS.holds p hp) λb hb=>?_
     rw[hwr];exact .inr<|(hM b).2 ⟨p,hp,hb⟩
   have hr1:Sat wr Hc N (pins N T (λt=>Ae aD t)++((N,.Dv (w.heap.size+1) E4)::Ai s)) {aD with defers:=[]} W Hc:=by
    refine Kv.ani λp hp=>?_
    obtain⟨t,ht,rfl⟩:=BR.1 hp;exact⟨rfl,rfl⟩
   let⟨G,hG,Hi⟩:=wL (ps:=psl) (τs:=enc x) (vs:=vs) hvs (hps x).symm (λp hp=>by
    have h1:=Dk.1 hpN p hp;simp only[C6,GA] at h1;have hpT:p∉T:=λh=>by have:=UH.2 h;rw[h1.2] at this;cases this
    refine⟨Ac h1.1,Dk.2 λq hq=>?_⟩;have hlt:=Ac h1.1;simp only[C6,MM,ne_eq,GA];rcases Bs.1 hq with hq|hq
    ·obtain⟨t,ht,rfl⟩:=BR.1 hq;refine⟨by simp only;omega,?_⟩;simp only[AQ.CA,List.contains_cons,List.contains_nil,ZN,Zd,ne_eq];exact λe=>hpT<|e▸ht
    ·rcases Ao.1 hq with e|hq
     ·subst e;exact⟨by simp only;omega,rfl⟩
     ·let⟨_,k2,k3,_⟩:=PJ (hT s) hq;refine⟨λe=>hpT<|e▸k2,?_⟩;cases hc:q.2.CA.contains p
      ·rfl
      ·exact absurd (k3 p<|UH.1 hc) hpT) IU hr1
   have hr3:Sat wr Hc N (params psl (enc x)++((N,.Dv (w.heap.size+1) E4)::(pins N T (λt=>Ae aD t)++Ai s))) _ W Hc:=Hi.weaken λq hq=>hG q (by
    simp only[Bs,Ao] at hq⊢;rcases hq with h|h|h|h
    ·exact .inl h
    ·exact .inr<| .inr<| .inl h
    ·exact .inr<| .inl h
    ·exact .inr<| .inr<| .inr h)
   have acm:=round wr Hc (w.heap.size+1) E4 (λt=>Ae aD t) next x s sJ hBd _ W Hc hr3
   rw[sJ] at acm;refine W5 (F:=Fh<|some<|w.heap.size+1) acm ?_;rintro e a1 W2 hq;cases e with
   |normal=>
    let⟨Γa,H2,hS2,hdk,hgo⟩:=hq;have hb0:=hS2.holds (N,.Dv (w.heap.size+1) E4) (by simp);refine⟨_,run_beginRound hb0.1 (by rw[R9]),?_⟩;have aco:=Z6 (l:=w.heap.size+1) (rc:=E4) (rc':=busy E4) hS2 (k:=N) (by simp);have edk:BI N ((N,AQ.Dv (w.heap.size+1) E4)::Γa)=Γa:=by
     have:Nat.beq N N=true:=by simp
     simp only[BI,this,BH];exact hdk
    rw[edk] at aco;have ac5:=hgo a1 _ H2 aco;rw[sJ] at ac5;refine W5 (F:=Fh<|some<|w.heap.size+1) ac5 ?_;rintro e a3 W3 hq3;cases e with
    |normal=>
     let⟨s',HT,H3,hS3⟩:=hq3;have hb3:=hS3.holds (N,.Dv (w.heap.size+1)<|busy E4) (by simp);have I4:=Z6 (l:=w.heap.size+1) (rc:=busy E4) (rc':=E4) hS3 (k:=N) (by simp);have sw:BI N ((N,AQ.Dv (w.heap.size+1)<|busy E4)::(pins N T (λt=>Ae aD t)++Ai s'))=pins N T (λt=>Ae aD t)++Ai s':=by
      have:Nat.beq N N=true:=by simp
      simp only[BI,this,BH];refine qZ λp hp=>?_
      rcases Bs.1 hp with hp|hp
      ·obtain⟨t,_,rfl⟩:=BR.1 hp;simp only;omega
      ·exact ac1 s' p hp
     rw[sw] at I4;let⟨hB1,hB2,hB3⟩:=yS hS hds hrd hM' wr hwr I4<|hT s'
     have erc:({busy E4 with state:=if(none:AA Code).isNone then .ready else .done,pending:=none}:Loop)=E4:=by rw[R9];rfl
     refine⟨_,_,run_endRound none hb3.1,H3,kF w0 H0 N ((N,.Dv (w.heap.size+1) E4)::Ai s') aD W1.heap.size (λb=>∃p∈(N,AQ.Dv (w.heap.size+1) E4)::Ai s',p.2.owns (W3.putObj (w.heap.size+1)<| .loop E4) (Ae aD p.1) b) (kL s') hn1 hDl,rfl,?_,?_,?_,.inl ⟨rfl,s',HT,_,rfl⟩⟩
     ·rw[erc];exact⟨hB1,λb=>Iff.rfl⟩
     ·rw[erc];exact hB2
     ·rintro b ⟨p,hp,hb⟩;exact hB3 p hp b hb
    |ret=>
     let⟨G,hG,H3,hS3⟩:=hq3;have hb3:=hS3.holds (N,.Dv (w.heap.size+1)<|busy E4) (by simp);have I4:=Z6 (l:=w.heap.size+1) (rc:=busy E4) (rc':=rcx) hS3 (k:=N) (by simp);have sw:BI N ((N,AQ.Dv (w.heap.size+1)<|busy E4)::(pins N T (λt=>Ae aD t)++G))=pins N T (λt=>Ae aD t)++G:=by
      have:Nat.beq N N=true:=by simp
      simp only[BI,this,BH];refine qZ λp hp=>?_
      rcases Bs.1 hp with hp|hp
      ·obtain⟨t,_,rfl⟩:=BR.1 hp;simp only;omega
      ·exact Nat.ne_of_lt (PJ (hTx G hG) hp).1
     rw[sw] at I4;let⟨hB1,hB2,hB3⟩:=yS hS hds hrd hM' wr hwr I4<|hTx G hG
     have erc:({busy E4 with state:=if(some Code.ret:AA Code).isNone then .ready else .done,pending:=some .ret}:Loop)=rcx:=by rw[bG];rfl
     refine⟨_,_,run_endRound (some .ret) hb3.1,H3,kF w0 H0 N ((N,.Dv (w.heap.size+1) rcx)::G) aD W1.heap.size (λb=>∃p∈(N,AQ.Dv (w.heap.size+1) rcx)::G,p.2.owns (W3.putObj (w.heap.size+1)<| .loop rcx) (Ae aD p.1) b) (acZ G hG) hn1 hDl,rfl,?_,?_,?_,.inr ⟨rfl,G,hG,_,rfl⟩⟩
     ·rw[erc];exact⟨hB1,λb=>Iff.rfl⟩
     ·rw[erc];exact hB2
     ·rintro b ⟨p,hp,hb⟩;exact hB3 p hp b hb
    |exit id=>exact hq3.elim
    |goto t=>exact hq3.elim
    |panic ch=>exact hq3.elim
    |outgrown=>exact hq3.elim
   |ret=>exact hq.elim
   |exit id=>exact hq.elim
   |goto t=>exact hq.elim
   |panic ch=>exact hq.elim
   |outgrown=>exact hq.elim
  ·
   rintro e w3 ⟨⟨v,rfl⟩,H',I',hp,avO,(⟨s,hK,M,rfl⟩|⟨G,hG,M,rfl⟩)⟩
   ·let⟨hS,_⟩:=hp;let⟨hl1,_,_⟩:=hS.holds (N,.Dv (w.heap.size+1) E4) (by simp);have hel:=run_endLoop (P:=P) hl1 (by rw[R9];simp);have epe:E4.pending=none:=by rw[R9]
    rw[epe] at hel;refine⟨none,_,hel,?_⟩;have h5:=Z6 (l:=w.heap.size+1) (rc:=E4) (rc':={E4 with state:= .exhausted,pending:=none}) hS (k:=N) (by simp);have h6:Sat w0 H0 N (Ai s) aD (w3.putObj (w.heap.size+1)<| .loop {E4 with state:= .exhausted,pending:=none}) H':=h5.weaken λq hq=>by
     refine C2 _<|PU ?_<|ac1 s q hq
     exact C2 _ hq
    have:=kk s hK aD _ H' h6;rw[<-haD] at this;exact this
   ·let⟨hS,_⟩:=hp;let⟨hl1,_,_⟩:=hS.holds (N,.Dv (w.heap.size+1) rcx) (by simp);have hel:=run_endLoop (P:=P) hl1 (by rw[bG];simp);have epe:rcx.pending=some .ret:=by rw[bG]
    rw[epe] at hel;refine⟨some .ret,_,hel,?_⟩;refine wpIn_ret ?_;have h5:=Z6 (l:=w.heap.size+1) (rc:=rcx) (rc':={rcx with state:= .exhausted,pending:=some .ret}) hS (k:=N) (by simp);have h6:Sat w0 H0 N G aD (w3.putObj (w.heap.size+1)<| .loop {rcx with state:= .exhausted,pending:=some .ret}) H':=h5.weaken λq hq=>by
     refine C2 _<|PU ?_<|Nat.ne_of_lt (PJ (hTx G hG) hq).1
     exact C2 _ hq
    have:=kx G hG aD _ H' h6;rw[<-haD] at this;exact this
end
section
variable[D:DR]
def Aj.iter(P:CO)(w:AR):Aj P:=⟨w,KR,none,true,[],w.heap.size,BM _,λ_ h=>h.elim⟩
end
section
variable[D:DR]
variable{P:Program}{w0:Aj P}{H0:HV}{N:Nat}{Q:Exit->Act->World->Prop}{Γ An:Ctx}
variable{σ ρ:Type}{r:ρ}{J:σ->Inv->Prop}{I:Inv}{Jx:Inv->Prop}{α:Type}{enc:α->A3 Ty}{ts:A3 Nat}{fn:Func}{s:σ}{ops:BA Oper}{xs:A3 CH}{ty:Ap}{pos:String}{af:BA Edge}{K:σ->AA ρ}{a:Act}{w:AR}{H:HV}{Bd:(σ->AA ρ)->α->σ->AA ρ}{l:Nat}{next:σ->AA ρ}{x:α}{t dy dn:Nat}{F0:BA Ap}{KL tb:Ap}{pos':String}{LZ:BA Edge}{Ge:Ctx}
def kS{σ ρ:Type}(K:σ->AA ρ)(r:ρ)(J:σ->Inv->Prop)(Jx:Inv->Prop)(e:Ending)(w':AR):Prop:=(∃v,e= .returned v)/\∃H' I',I'.p w' H'/\(∀r o,H' r=some o->w'.heap[r]? =some o)/\((∃s,K s=some r/\J s I')\/Jx I')
def sA(P:CO)(fn:Func)(R:Ending->AR->Prop):Exit->Act->AR->Prop:=bodyPostM (Fh none) 0 P fn R
def SZ(l:Nat):Ty:=TEq (.func (.yield l) #[] #[]) rfl
def xq(hX:(w0.ds,w0.rd)=([],none))(hr:fn.results= #[])(hI:look Γ N=some (.inv I))(hK:(∃s,K s=some r/\J s I)\/Jx I)
 (hs:Sat w0 H0 N Γ a w H):LeavesInM (Fh none) 0 P fn a.tmps (kS K r J Jx) a.defers .returning w:=by
 refine VW (congrArg (λp=>p.1) hX) (congrArg (λp=>p.2) hX) (a:=a) (ds:=a.defers) hs λw H hs=>?_
 refine⟨.tuple #[],?_,⟨_,rfl⟩,H,I,(hs.holds _<|B6 hI).1,hs.sub,hK⟩;rw[YU (rs:=[]) (by rw[hr])];simp
def aba(hX:(w0.ds,w0.rd)=([],none))(hr:fn.results= #[])(hI:look Γ N=some (.inv I))(hK:K s=some r)(hJ:J s I):EJ w0 H0 N (λa w=>sA P fn (kS K r J Jx) .normal a w) Γ:=λ_ _ _ hs=>xq hX hr hI (.inl ⟨s,hK,hJ⟩) hs
def aah(hX:(w0.ds,w0.rd)=([],none))(hr:fn.results= #[])(hI:look Γ N=some (.inv I))(hJ:Jx I):EJ w0 H0 N (λa w=>sA P fn (kS K r J Jx) .ret a w) Γ:=λ_ _ _ hs=>xq hX hr hI (.inr hJ) hs
theorem wZ{gf:FuncId}{c:Code}{F5:A3 Ty}{L:A3 α}{N:Nat}(hf:P.funcs[gf]? =some fn)(hb:fn.body=some c)(hN:fn.ntmps=N)(hn:F5.length+1<=N)(hc:Gi P gf=true)
 (h:∀{σ ρ:Type} (Bd:(σ->AA ρ)->α->σ->AA ρ) (K:σ->AA ρ) (s0:σ) (r:ρ),Jc L Bd s0 K=some r->∀(l:Nat) (J:σ->Inv->Prop) (Jx:Inv->Prop) (w:AR) (H:HV) (I0:Inv),J s0 I0->I0.n=w.heap.size->Zq P l enc Bd r J Jx w.heap.size->Goal P (Aj.iter P w) H N c (sA P fn<|kS K r J Jx) ((N,.inv I0)::Hb 0 (SZ l::F5))):Z0 P gf F5 enc L:=by
 subst hN;refine⟨hc,λBd K s0 r hm l J Jx w H cvs I0 sub gl Ax hJ hI hIp hy=>?_⟩;have sR:Ed H (SZ l::F5) (.func (.yield l) #[] #[]::cvs):=⟨_,_,rfl,rfl,Ax⟩;have hS:=xx (P:=P) (n:=fn.ntmps) sub gl sR (by simpa using hn);refine(callsIn_wide (n:=0)).1<|callsIn_of_wp_marks (F:=Fence.wide) hf hb trivial<|h Bd K s0 r hm l J Jx w H I0 hJ hI hy _ w H ?_
 have FA:∀p∈Hb 0 (SZ l::F5),p.2.Ey=false/\∀v b,¬p.2.owns w v b:=by
  have:∀(l:A3 Ty) (i:Nat),∀p∈Hb i l,p.2.Ey=false:=by
   intro l
   induction l with
   |nil=>intro i p hp;simp[Hb] at hp
   |cons τ l ih=>
    intro i p hp;simp[Hb,Ao] at hp;rcases hp with e|hp
    ·subst e;rfl
    ·exact ih _ p hp
  exact λp hp=>⟨this _ _ p hp,λv b=>nX p hp⟩
 refine⟨trivial,hS.sz,⟨rfl,rfl,rfl,BM _,BM _,λ_ _ _ _=>rfl⟩,λ_ _ _ _=>rfl,hS.sub,?_,?_,hS.gl⟩
 ·intro p hp;rcases Ao.1 hp with e|hp
  ·subst e;exact⟨hIp,hI⟩
  ·exact AQ.Rl (FA p hp).1 (hS.holds p hp) λb hb=>absurd hb<|(FA p hp).2 _ b
 ·intro p hp q hq hne b hb Ba;rcases Ao.1 hp with e|hp
  ·grind
  ·grind
theorem aiQ{w':AR}{H':HV}{k:Nat}{I':Inv}(hv:w0.J3=true)(Fl:w0.lo=w0.n)(hs:Sat w0 H0 N Γ a w H)(hk:(k,.inv I)∈Γ)(FA:∀q∈BI k Γ,q.2.Ey=false)
 (hy:R0 I.M w H w' H')(hI:I'.n=w0.n)(hp:I'.p w' H')(hM:∀b,I'.M b->I.M b\/w.heap.size<=b):Sat w0 H0 N ((k,.inv I')::BI k Γ) a w' H':=by
 have hIk:=hs.holds _ hk;have other:∀q∈BI k Γ,∀b,q.2.owns w (Ae a q.1) b-> ¬I.M b:=λq hq b hb hm=>hs.sep q (DM q hq).1 _ hk (DM q hq).2 b hb hm
 have Lf:∀q∈BI k Γ,∀b,q.2.owns w (Ae a q.1) b->w'.heap[b]? =w.heap[b]? /\H' b=H b:=λq hq b hb=>hy.E3 b (AQ.JH (hs.holds q (DM q hq).1) hb).1 (other q hq b hb)
 have key:∀q∈BI k Γ,q.2.holds w0 a w' H' (Ae a q.1)/\∀b,q.2.owns w' (Ae a q.1) b↔q.2.owns w (Ae a q.1) b:=λq hq=>by refine AQ.Ve (n:=0) (hs.holds q (DM q hq).1) (λhi=>by rw[FA q hq] at hi;cases hi) ?_;exact⟨hy.size,hy.os,hy.tape,hy.output,hy.drawn,hy.le,λb _ h=>h.elim (λh=>by omega)<|λh=>(Lf q hq b h).1,λb _ h=>h.elim (λh=>by omega)<|λh=>(Lf q hq b h).2,hy.sub⟩
 refine⟨?_,hs.sz,?_,λh=>by(rw[hv] at h;cases h),hy.sub,?_,?_,hs.gl.mono hy.le⟩
 ·refine hs.nd.kept λD _ h1 h2=>?_
  have hn: ¬I.M D:=λhm=>by let⟨_,_,o,ho,K1⟩:=I.lt hIk.1 hm;rw[h1] at ho;cases ho;exact K1
  have:=hy.E3 D (lt_of_heap h1) hn;exact⟨by rw[this.1];exact h1,by rw[this.2];exact h2⟩
 ·exact⟨hy.os.trans hs.below.os,hy.tape.trans hs.below.tape,hy.output.trans hs.below.output,Cu hs.below.drawn hy.drawn,Cu hs.below.size hy.size,λh=>by rw[hv] at h;cases h⟩
 ·intro q hq;rcases Ao.1 hq with e|hq
  ·subst e;exact⟨hp,by rw[Fl];exact hI⟩
  ·grind
 ·have low:∀q∈BI k Γ,∀b,q.2.owns w' (Ae a q.1) b-> ¬I'.M b:=λq hq b hb hm=>by
   have hb:=((key q hq).2 b).1 hb;rcases hM b hm with h|h
   ·grind
   ·have:=(AQ.JH (hs.holds q (DM q hq).1) hb).1;omega
  intro q hq r hr hne b hb Ba;rcases Ao.1 hq with e|hq<;>rcases Ao.1 hr with e'|hr
  ·grind
  ·subst e;exact low r hr b Ba hb
  ·subst e';exact low q hq b hb Ba
  ·exact hs.sep q (DM q hq).1 r (DM r hr).1 hne b (((key q hq).2 b).1 hb)<|((key r hr).2 b).1 Ba
def JS.anx{l:A3 Oper}(h:JS P w0 N ops l Γ An):Js l=true->∀(l2:A3 Oper) (H0:HV) (a:Act) (w:AR) (H:HV),Sat w0 H0 N Γ a w H->∀(Q:Exit->Act->AR->Prop),(∀a' w' H',Sat w0 H0 N An a' w' H'->wpListIn (Fh w0.rd) 0 P ops Q l2 a' w')->wpListIn (Fh w0.rd) 0 P ops Q (l++l2) a w:=by
 induction h with
 |done=>exact λ_ _ _ _ _ H hs _ k=>k _ _ H hs
 |fin h=>exact λ_ _ _ _ _ H hs _ k=>k _ _ H<|hs.weaken h.sub
 | @cons _ _ _ o l h _ ih=>
  intro Ax l2 H0 a w H hs Q k;have Et:=h w0 H0 a w H hs (wpListIn (Fh w0.rd) 0 P ops Q<|l++l2) Q λa' w' H' DN=>ih (wS Ax) l2 H0 a' w' H' DN Q k
  show wpListIn _ _ _ _ _ (o::(l++l2)) a w;unfold wpListIn;split
  ·rename_i hw;rw[if_pos hw] at Et;exact Z9 (nO Ax (by simp)) Et
  ·rename_i hw;rw[if_neg hw] at Et;exact⟨λ_ _=>trivial,Et⟩
 |ghost h _ ih=>intro Ax l2 H0 a w H hs Q k;let⟨H',DN⟩:=h H0 a w H hs;exact ih Ax l2 H0 a w H' DN Q k
def yOk(N dy dn:Nat)(Γ:Ctx):Bool:=Γ.all λp=>p.1 !=N&&p.1 !=dy&&p.1 !=dn&&p.2.CA.all (λt=>t !=dy&&t !=dn)&& !p.2.Ey
theorem wH
 {Q:Exit->Act->AR->Prop}
 (hv:(w0.J3,w0.rd,w0.X)=(true,none,KR))(Fl:w0.lo=w0.n)(hy:Zq P l enc Bd r J Jx w0.n)
 (hm:Bd next x s=some r)(hJ:J s I)(ht:look Γ t=some (.val<|SZ l))(ha:AP Γ xs (enc x))(hI:look Γ N=some (.inv I))(Kn:ES Γ ts Ge)(Ax:yOk N dy dn Ge=true)(hdy:dy<N)(hdn:dn<N)
 (kt:∀s' I',next s'=some r->J s' I'->EJ w0 H0 N (Q .normal) ((dn,.val<|Aw false)::(N,.inv I')::Ge))(kf:∀I',Jx I'->EJ w0 H0 N (Q .normal) ((dn,.val<|Aw true)::(N,.inv I')::Ge))
 (hs:Sat w0 H0 N Γ a w H):wpListIn (Fh w0.rd) 0 P ops Q [⟨some dy,.call ⟨.value<| .tmp t,xs.toArray,F0⟩,ty,pos,af,none⟩,⟨some dn,.unOp .not tb<| .tmp dy,KL,pos',LZ,none⟩] a w:=by
 obtain⟨hv1,hv2,hv3⟩:w0.J3=true/\w0.rd=none/\w0.X=KR:=by grind
 have e1:a.eval (.tmp t)= .func (.yield l) #[] #[]:=hs.holds _<|B6 ht
 have hI0:=hs.holds _<|B6 hI
 have hIn:I.n=w0.n:=by rw[<-Fl];exact hI0.2
 let⟨fn,tmps,assign,body,F4,aoo⟩:=hy next x s I w H (xs.map a.eval) hm hJ hIn hI0.1 hs.sub hs.gl<|ha.ok hs
 unfold wpListIn;have hw:Region.wanted (⟨some dy,.call ⟨.value<| .tmp t,xs.toArray,F0⟩,ty,pos,af,none⟩:Oper) (yielded ops a.tmps)=true:=rfl;rw[if_pos hw];refine⟨λ_ _=>trivial,?_⟩;rw[Oper.semAt_eq _ _ _ (by intro c e;cases e)];have e0:execOp a.eval ⟨some dy,.call ⟨.value<| .tmp t,xs.toArray,F0⟩,ty,pos,af,none⟩=Instr.yield l (#[]++xs.toArray.map a.eval++ #[]):=by
  simp[execOp,resolve,e1,Deferred.ofValue,pure_bind]
  rfl
 have e2:(#[]++xs.toArray.map a.eval++ #[])=(xs.map a.eval).toArray:=by simp
 rw[e0,e2,F4];refine⟨(λe=>by cases e),?_⟩;rw[hv2];refine RoundIn.mono aoo ?_;rintro e w' ⟨H',I',au8,au7,aqd,hM,arD⟩;have avl:∀q∈Ge,q∈BI N Γ:=λq hq=>by have h1:=Dk.1 Ax q hq;simp[C6,MM,ne_eq] at h1;exact PU (Kn.sub q hq) h1.1.1.1.1
 have hinv:∀q∈BI N ((N,.inv I)::Ge),q.2.Ey=false:=λq hq=>by
  have hq':=DM q hq;rcases Ao.1 hq'.1 with e|h
  ·grind
  ·have h1:=Dk.1 Ax q h;simp[C6,GA] at h1;exact h1.2
 have hs1:Sat w0 H0 N ((N,.inv I)::Ge) a w H:=hs.weaken λq hq=>by
  rcases Ao.1 hq with e|h
  ·subst e;exact B6 hI
  ·exact Kn.sub q h
 have KT:=aiQ hv1 Fl hs1 (k:=N) (by simp) hinv aqd au8 au7 hM;have hfr:∀d,(d=dy\/d=dn)->Jp d ((N,.inv I')::Ge)=true:=by
  intro d hd;simp only[Jp,OT,C6,Dk,MM,ne_eq];refine⟨⟨by rcases hd with h|h<;>subst h<;>omega,by simp[AQ.CA]⟩,λq hq=>?_⟩;have h1:=Dk.1 Ax q hq;simp[C6,MM,ne_eq,Dk] at h1;let⟨⟨⟨⟨h2,h3⟩,h4⟩,h5⟩,h6⟩:=h1;refine⟨by rcases hd with h|h<;>subst h<;>assumption,?_⟩;simp[GA,qO,Il];intro hm;have:=h5 d hm;rcases hd with h|h<;>subst h
  ·exact this.1 rfl
  ·exact this.2 rfl
 have hs3:Sat w0 H0 N ((N,.inv I')::Ge) a w' H':=KT.weaken λq hq=>by
  rcases Ao.1 hq with e|h
  ·subst e;simp
  ·refine C2 _ (PU (C2 _ h) ?_);have h1:=Dk.1 Ax q h;simp[C6,MM,ne_eq] at h1;exact h1.1.1.1.1
 have fin:∀b:Bool,e= .returned (.bool b)->EJ w0 H0 N (Q .normal) ((dn,.val<|Aw !b)::(N,.inv I')::Ge)->(match e with
   | .returned v=>wpListIn (Fh none) 0 P ops Q [⟨some dn,.unOp .not tb<| .tmp dy,KL,pos',LZ,none⟩] (a.put (some dy) v) w'
   | .panicked chain=>Q (.panic chain) a w'
   | .outgrown=>LetsOut Q):=by
  intro b eb kk;subst eb;have hs4:=QO hs3 hdy (hfr dy<| .inl rfl) (s:= .val<|Aw b) (v:= .bool b) (by simp[AQ.CA]) rfl<|λc h=>h.elim
  have KX:JS P w0 N ops [⟨some dn,.unOp .not tb<| .tmp dy,KL,pos',LZ,none⟩] ((dy,.val<|Aw b)::(N,.inv I')::Ge) ((dn,.val<|Aw !b)::del dn ((dy,.val<|Aw b)::(N,.inv I')::Ge)):=JS.cons (Step.over (DX (Arg.t (t:=dy) (by simp[look]))) rfl rfl hdn rfl) JS.done
  have:=KX.sound rfl H0 _ w' H' hs4 Q (λa' w' H' DN=>kk a' w' H' (DN.weaken λq hq=>by
   rcases Ao.1 hq with e|h
   ·subst e;simp
   ·refine C2 _ (S6 (C2 _ h) ?_ ?_)
    ·exact(YP (hfr dn<| .inr rfl) q h).1
    ·exact(YP (hfr dn<| .inr rfl) q h).2))
  rw[hv2] at this;exact this
 rcases arD with⟨rfl,s',HT,hJ'⟩|⟨rfl,hJ'⟩
 ·grind
 ·grind
def anJ
 {l1:A3 Oper}{id:Nat}{Fy:Ctx}
 (hv:(w0.J3,w0.rd,w0.X)=(true,none,KR))(Fl:w0.lo=w0.n)(hy:Zq P l enc Bd r J Jx w0.n)
 (hm:Bd next x s=some r)(hJ:J s I)(sO:ops=List.toArray (l1++([⟨some dy,.call ⟨.value<| .tmp t,xs.toArray,F0⟩,ty,pos,af,none⟩,⟨some dn,.unOp .not tb<| .tmp dy,KL,pos',LZ,none⟩]:A3 Oper)))(sQ:Js l1=true)(KX:JS P w0 N ops l1 Γ Fy)
 (ht:look Fy t=some (.val<|SZ l))(ha:AP Fy xs (enc x))(hI:look Fy N=some (.inv I))(Kn:ES Fy ts Ge)(Ax:yOk N dy dn Ge=true)(hdy:dy<N)(hdn:dn<N)
 (kt:∀s' I',next s'=some r->J s' I'->EJ w0 H0 N (Q .normal) ((dn,.val<|Aw false)::(N,.inv I')::Ge))(kf:∀I',Jx I'->EJ w0 H0 N (Q .normal) ((dn,.val<|Aw true)::(N,.inv I')::Ge)):Goal P w0 H0 N (.region id ops false) Q Γ:=by
 subst sO;exact λa w H hs=>wpIn_region_lit<|KX.anx sQ _ H0 a w H hs Q λa' w' H' DN=>wH hv Fl hy hm hJ ht ha hI Kn Ax hdy hdn kt kf DN
def akr
 {id k:Nat}{Fy:Ctx}{tsr:A3 Nat}{S:A3 Ctx}
 (hv:(w0.J3,w0.rd,w0.X)=(true,none,KR))(Fl:w0.lo=w0.n)(hy:Zq P l enc Bd r J Jx w0.n)
 (hm:Bd next x s=some r)(hJ:J s I)(kl:A3 (A3<|Nat×A3 Nat))(L:A3 Nat)(av Dr:A3 (A3 Nat))(Dq:A3 Bool)(hmx:P.follows .mixedOrders=true)(hc:(Nw ops av&&T4 k kl Dr Dq L av&&Qm ops k av)=true)
 (sQ:Js (ops.toList.take k)=true)(hp:Er P N ops Γ [] (ops.toList.take k) Dr Dq S)(K2:S.reverse.map Kl=kl)(hL:OX Γ=L)(hsl:ES (S.flatten++Γ) ts Fy)
 (sO:ops.toList.drop k=[⟨some dy,.call ⟨.value<| .tmp t,xs.toArray,F0⟩,ty,pos,af,none⟩,⟨some dn,.unOp .not tb<| .tmp dy,KL,pos',LZ,none⟩])
 (ht:look Fy t=some (.val<|SZ l))(ha:AP Fy xs (enc x))(hI:look Fy N=some (.inv I))(Kn:ES Fy tsr Ge)(Ax:yOk N dy dn Ge=true)(hdy:dy<N)(hdn:dn<N)
 (kt:∀s' I',next s'=some r->J s' I'->EJ w0 H0 N (Q .normal) ((dn,.val<|Aw false)::(N,.inv I')::Ge))(kf:∀I',Jx I'->EJ w0 H0 N (Q .normal) ((dn,.val<|Aw true)::(N,.inv I')::Ge)):Goal P w0 H0 N (.region id ops true) Q Γ:=by
 simp[C6] at hc;refine λa w H hs=>zY hmx sQ hc.1.1 hc.1.2 hc.2 K2 hL hp hsl (H0:=H0) (λa w H hs=>?_) hs
 rw[sO];exact wH hv Fl hy hm hJ ht ha hI Kn Ax hdy hdn kt kf hs
def acw{P:CO}{α σ ρ:Type}(w0:Aj P)(H0:HV)(N:Nat)(J:σ->Inv->Prop)(st:α->σ)(JY:α->Ctx)(k:α->AA ρ)(r:ρ)(a:Act)(w:AR):Prop:=∃i I,k i=some r/\J (st i) I/\∃H,Sat w0 H0 N ((N,.inv I)::JY i) a w H
def abX{st:α->σ}{JY:α->Ctx}{k:α->AA ρ}{i:α}(hm:k i=some r)(hJ:J (st i) I)(h:ES Γ ts ((N,.inv I)::JY i)):EJ w0 H0 N (λa w=>acw w0 H0 N J st JY k r a w) Γ:=λ_ _ H hs=>⟨i,I,hm,hJ,H,hs.weaken h.sub⟩
def aaX{τ:Type}(st:τ->σ)(Ai:τ->Ctx){n:Nat}{B:(τ->AA ρ)->τ->AA ρ}{s0:τ}{I0:Inv}{c:Code}(hm:lp n B s0=some r)(hJ:J (st s0) I0)(h0:ES Γ ts ((N,.inv I0)::Ai s0))
 (round:∀(k:τ->AA ρ) (s:τ) (I:Inv),B k s=some r->J (st s) I->Goal P w0 H0 N c (Exit.then (acw w0 H0 N J st Ai k r) Q) ((N,.inv I)::Ai s)):Goal P w0 H0 N (.loop c) Q Γ:=by
 intro a w H hs;refine wp_loop_ghost (λ(i:Nat×τ) a w=>lp i.1 B i.2=some r/\∃I H,J (st i.2) I/\Sat w0 H0 N ((N,.inv I)::Ai i.2) a w H) (λi=>i.1) (n,s0) ⟨hm,I0,H,hJ,hs.weaken h0.sub⟩ ?_;rintro⟨m,s⟩ a w ⟨hl,I,H,hJ,hs⟩;cases m with
 |zero=>cases hl
 |succ m=>
  refine W5 (round (lp m B) s I hl hJ a w H hs) λe a' w' q=>?_
  cases e with
  |normal=>let⟨i,I',hi,hJ',H',DN⟩:=q;exact⟨(m,i),⟨hi,I',H',hJ',DN⟩,Nat.lt_succ_self m⟩
  |_=>exact q
def wT{o:AA (A3 α)}{f:FuncId}{F5:A3 Ty}{d:AA Tmp}{g:AA (Nat×Bool)}(ha:AP Γ xs F5)(h:∀L,o=some L->Z0 P f F5 enc L):Az P Γ ⟨d,.makeFunc (.func f) #[] xs.toArray,ty,pos,af,g⟩ (.val<|Ut P enc o):=
 Dj λ_ _ _ a w H hs=>by refine⟨.func (.func f) #[] (xs.map a.eval).toArray,?_,⟨f,_,F5,rfl,by simpa using ha.ok hs,h⟩,rfl⟩;simp[execOp,Instr.makeFunc]
end
section
variable[D:DR]
variable{P:Program}{w0:Aj P}{H0:HV}{N:Nat}{ops:Array Oper}{Q:Exit->Act->World->Prop}{Γ An:Ctx}{d:Option Tmp}{ty:TypeId}{pos:String}{af:Array Edge}{g:Option (Nat×Bool)}
variable{w:AR}{H:HV}{a:Act}{t i:Nat}{T:Ap}{gg:Bool}{B:Aj P}{off:Nat}{T':Ap}{p:Nat}{v:AW}{u b:Nat}
def Bn:A3 Bv->Nat->Nat
 |[],_=>0
 |_::_,0=>0
 |p::l,i+1=>p.n+Bn l i
def pv(p:Bv)(off:Nat)(cs:A3 AW):AW:=Gu p.agg ((cs.drop off).take p.n).toArray
def PN{w:AR}{b:Nat}:∀{ps:A3 Bv} {cs:A3 AW},GF w b ps cs↔∃(i:Nat) (p:Bv),ps[i]? =some p/\p.owns w (pv p (Bn ps i) cs) b
 |[],cs=>by simp[GF]
 |p::l,cs=>by
  simp[GF,PN (ps:=l)];constructor
  ·rintro(h|⟨i,q,h1,h2⟩)
   ·exact⟨0,p,rfl,by simpa[pv,Bn] using h⟩
   ·exact⟨i+1,q,by simpa using h1,by simpa[pv,Bn,FZ] using h2⟩
  ·rintro⟨i,q,h1,h2⟩;cases i with
   |zero=>simp at h1;subst h1;exact .inl (by simpa[pv,Bn] using h2)
   |succ i=>exact .inr ⟨i,q,by simpa using h1,by simpa[pv,Bn,FZ] using h2⟩
def oe{w:AR}:∀{ps:A3 Bv} {cs:A3 AW},Ny w ps cs↔∀(i j:Nat) (p q:Bv),i<j->ps[i]? =some p->ps[j]? =some q->∀b,p.owns w (pv p (Bn ps i) cs) b-> ¬q.owns w (pv q (Bn ps j) cs) b
 |[],cs=>by simp[Ny]
 |p::l,cs=>by
  simp[Ny,oe (ps:=l)];constructor
  ·rintro⟨h1,h2⟩ i j a b KW ha hb c hc FI;cases j with
   |zero=>omega
   |succ j=>
    have Ba:l[j]? =some b:=by simpa using hb
    have HG:b.owns w (pv b (Bn l j)<|cs.drop p.n) c:=by simpa[pv,Bn,FZ] using FI
    cases i with
    |zero=>simp at ha;subst ha;exact h1 c (by simpa[pv,Bn] using hc)<|PN.2 ⟨j,b,Ba,HG⟩
    |succ i=>exact h2 i j a b (by omega) (by simpa using ha) Ba c (by simpa[pv,Bn,FZ] using hc) HG
  ·intro h;refine⟨λb hb ho=>?_,λi j a b KW ha hb c hc FI=>?_⟩
   ·let⟨j,q,h1,h2⟩:=PN.1 ho;exact h 0 (j+1) p q (by omega) rfl (by simpa using h1) b (by simpa[pv,Bn] using hb) (by simpa[pv,Bn,FZ] using h2)
   ·exact h (i+1) (j+1) a b (by omega) (by simpa using ha) (by simpa using hb) c (by simpa[pv,Bn,FZ] using hc) (by simpa[pv,Bn,FZ] using FI)
def YT{n:Nat}{agg:Bool}(h:Shape n agg v):v.cells.toList.length=n:=by simpa using h.size
def Qr{B:Aj P}{a:Act}{w:AR}{H:HV}:∀{ps:A3 Bv} {cs:A3 AW} {i:Nat} {p:Bv},J6 B a w H ps cs->ps[i]? =some p->Bn ps i+p.n<=cs.length/\Shape p.n p.agg (pv p (Bn ps i) cs)/\p.holds B a w H (pv p (Bn ps i) cs)/\(pv p (Bn ps i) cs).cells.toList=(cs.drop<|Bn ps i).take p.n
 |[],_,i,_,_,h=>by simp at h
 |p::l,_,0,q,⟨v,rest,e,CT,hv,hr⟩,h=>by
  simp at h;subst h;subst e;have hl:=YT CT;have e1:pv p (Bn (p::l) 0) (v.cells.toList++rest)=v:=by simpa[pv,Bn] using(QQ (rest:=rest) CT).1
  rw[e1];refine⟨by simp[Bn];have:=CT.size;omega,CT,hv,?_⟩;simp[Bn,Pe];rw[<-hl,iG]
 |p::l,_,i+1,q,⟨v,rest,e,CT,hv,hr⟩,h=>by
  simp at h;subst e;let⟨h1,h2,h3,h4⟩:=Qr hr h;have hd:List.drop (Bn (p::l)<|i+1) (v.cells.toList++rest)=List.drop (Bn l i) rest:=by simp[Bn];rw[<-YT CT,Nf];simp
  have e1:pv q (Bn (p::l)<|i+1) (v.cells.toList++rest)=pv q (Bn l i) rest:=by simp[pv,hd]
  rw[e1,hd];refine⟨?_,h2,h3,h4⟩;have:=CT.size;simp[Bn];omega
def aAo{B:Aj P}{a:Act}{w:AR}{H:HV}:∀{ps:A3 Bv} {cs:A3 AW},J6 B a w H ps cs->cs.length=(ps.map Bv.n).sum
 |[],_,e=>by have e:_=[]:=e;subst e;rfl
 |p::l,_,⟨v,rest,e,CT,hv,hr⟩=>by subst e;have:=aAo hr;have h2:=CT.size;simp[this,h2]
theorem q9{B:Aj P}{a:Act}{w:AR}{H:HV}:∀{ps:A3 Bv} {cs:A3 AW} {i:Nat} {p q:Bv} {x:AW},J6 B a w H ps cs->ps[i]? =some p->Shape q.n q.agg x->q.n=p.n->q.holds B a w H x->J6 B a w H (ps.set i q) (cs.take (Bn ps i)++x.cells.toList++cs.drop (Bn ps i+p.n))/\Bn (ps.set i q) i=Bn ps i/\pv q (Bn ps i) (cs.take (Bn ps i)++x.cells.toList++cs.drop (Bn ps i+p.n))=x/\
  ∀(j:Nat) (r:Bv),j≠i->ps[j]? =some r->Bn (ps.set i q) j=Bn ps j/\pv r (Bn ps j) (cs.take (Bn ps i)++x.cells.toList++cs.drop (Bn ps i+p.n))=pv r (Bn ps j) cs
 |[],_,i,_,_,_,_,h,_,_,_=>by simp at h
 |p::l,_,0,q,r,x,⟨v,rest,e,CT,hv,hr⟩,h,hx,hn,hq=>by
  simp at h;subst h;subst e;have hl:=YT CT;have GS:=YT hx;have hd:List.drop (Bn (p::l) 0+p.n) (v.cells.toList++rest)=rest:=by simp[Bn,Pc];rw[<-hl,ZO]
  rw[hd];simp only[List.set_cons_zero,Bn,List.take_zero,KC];refine⟨⟨x,rest,rfl,hx,hq,hr⟩,trivial,by simpa[pv] using(QQ (rest:=rest) hx).1,?_⟩;intro j s hj hs;cases j with
  |zero=>exact absurd rfl hj
  |succ j=>
   simp[Bn,hn,true_and,pv];have e1:List.drop (p.n+Bn l j) (x.cells.toList++rest)=List.drop (Bn l j) rest:=by rw[<-hn,<-GS,Nf];simp
   have e2:List.drop (p.n+Bn l j) (v.cells.toList++rest)=List.drop (Bn l j) rest:=by rw[<-hl,Nf];simp
   rw[e1,e2]
 |p::l,_,i+1,q,r,x,⟨v,rest,e,CT,hv,hr⟩,h,hx,hn,hq=>by
  simp at h;subst e;have hl:=YT CT;let⟨h1,h2,h3,h4⟩:=q9 hr h hx hn hq;have et:List.take (Bn (p::l)<|i+1) (v.cells.toList++rest)=v.cells.toList++List.take (Bn l i) rest:=by simp[Bn];rw[<-hl,WG];simp[Cz]
  have ed:List.drop (Bn (p::l) (i+1)+q.n) (v.cells.toList++rest)=List.drop (Bn l i+q.n) rest:=by
   simp[Bn];rw[<-hl,LG,Nf];simp
   done
  have ec:List.take (Bn (p::l)<|i+1) (v.cells.toList++rest)++x.cells.toList++List.drop (Bn (p::l) (i+1)+q.n) (v.cells.toList++rest)=v.cells.toList++(List.take (Bn l i) rest++x.cells.toList++List.drop (Bn l i+q.n) rest):=by grind
  rw[ec];have sh:∀(s:Bv) (o:Nat) (E8:A3 AW),pv s (p.n+o) (v.cells.toList++E8)=pv s o E8:=λs o E8=>by
   simp[pv];have:List.drop (p.n+o) (v.cells.toList++E8)=List.drop o E8:=by rw[Nf,N2 (by omega),hl];simp
   rw[this]
  refine⟨⟨v,_,rfl,CT,hv,h1⟩,by simp[Bn,h2],?_,?_⟩
  ·simp only[Bn];rw[sh];exact h3
  ·intro j s hj hs;cases j with
   |zero=>simp at hs;subst hs;refine⟨rfl,?_⟩;simp only[Bn];have g1:=(QQ (rest:=List.take (Bn l i) rest++x.cells.toList++List.drop (Bn l i+q.n) rest) CT).1;have g2:=(QQ (rest:=rest) CT).1;simp only[pv,Pe];rw[g1,g2]
   |succ j=>let⟨k1,k2⟩:=h4 j s (by omega) (by simpa using hs);refine⟨by simp[Bn,k1],?_⟩;simp only[Bn];rw[sh,sh];exact k2
theorem Vr{ps:A3 Bv}{cs:A3 AW}{p q:Bv}{x:AW}(h:J6 B a w H ps cs)(hs:Ny w ps cs)(hi:ps[i]? =some p)(hx:Shape q.n q.agg x)(hn:q.n=p.n)(hq:q.holds B a w H x)
 (sN:∀b,q.owns w x b->p.owns w (pv p (Bn ps i) cs) b\/ ¬GF w b ps cs):∃E8,E8=cs.take (Bn ps i)++x.cells.toList++cs.drop (Bn ps i+p.n)/\J6 B a w H (ps.set i q) E8/\Ny w (ps.set i q) E8/\
   (∀b,GF w b (ps.set i q) E8->q.owns w x b\/(GF w b ps cs/\ ¬p.owns w (pv p (Bn ps i) cs) b)):=by
 let⟨h1,h2,h3,h4⟩:=q9 h hi hx hn hq;have hlt:=(FP.1 hi).1;have at':∀j s,(ps.set i q)[j]? =some s->(j=i/\s=q)\/(j≠i/\ps[j]? =some s):=λj s hj=>by
  by_cases e:j=i
  ·grind
  ·grind
 have DN:=oe.1 hs;have sym:∀j s,j≠i->ps[j]? =some s->∀b,s.owns w (pv s (Bn ps j) cs) b-> ¬p.owns w (pv p (Bn ps i) cs) b:=λj s hj hjs b hb Ba=>by
  rcases Nat.lt_or_gt_of_ne hj with h|h
  ·grind
  ·grind
 have avX:∀j s,j≠i->ps[j]? =some s->∀b,s.owns w (pv s (Bn ps j) cs) b-> ¬q.owns w x b:=λj s hj hjs b hb Ba=>by
  rcases sN b Ba with h|h
  ·grind
  ·exact h<|PN.2 ⟨j,s,hjs,hb⟩
 refine⟨_,rfl,h1,oe.2 ?_,λb hb=>?_⟩
 ·grind
 ·let⟨j,s,hj,hb⟩:=PN.1 hb;rcases at' j s hj with⟨rfl,rfl⟩|⟨nj,ej⟩
  ·grind
  ·rw[(h4 j s nj ej).1,(h4 j s nj ej).2] at hb;exact .inr ⟨PN.2 ⟨j,s,ej,hb⟩,sym j s nj ej b hb⟩
def gX{ps:A3 Bv}{cs:A3 AW}{p:Bv}(h:J6 B a w H ps cs)(hi:ps[i]? =some p):cs.take (Bn ps i)++(pv p (Bn ps i) cs).cells.toList++cs.drop (Bn ps i+p.n)=cs:=by let⟨h1,_,_,h4⟩:=Qr h hi;rw[h4,<-FZ,Hm,Oj,Oj]
theorem aiR{dd:Nat}{s s' sd:AQ}(hs:Sat w0 H0 N Γ a w H)(ht:(t,s)∈Γ)(DK:dd<N)(hne:dd≠t)(hl:dd∉sd.CA)
 (DN:s'.holds w0 (a.put (some dd) v) w H (Ae a t))(hv:sd.holds w0 a w H v)(o1:∀b,s'.owns w (Ae a t) b->s.owns w (Ae a t) b)(o2:∀b,sd.owns w v b->s.owns w (Ae a t) b)
 (o3:∀b,sd.owns w v b-> ¬s'.owns w (Ae a t) b):Sat w0 H0 N ((dd,sd)::(t,s')::del dd (BI t Γ)) (a.put (some dd) v) w H:=by
 have sub:∀q∈del dd (BI t Γ),q∈Γ/\q.1≠t:=λq hq=>DM q<|MQ q hq
 have h1:Sat w0 H0 N ((dd,sd)::del dd (BI t Γ)) (a.put (some dd) v) w H:=QO (hs.weaken λq hq=>(sub q hq).1) DK PW hl hv λb hb q hq hqb=>hs.sep _ ht q (sub q hq).1 (λe=>(sub q hq).2 e.symm) b (o2 b hb) hqb
 have et:Ae (a.put (some dd) v) t=Ae a t:=PL hne;have ed:Ae (a.put (some dd) v) dd=v:=VY (by rw[hs.sz];exact DK);have eo:∀q∈del dd (BI t Γ),Ae (a.put (some dd) v) q.1=Ae a q.1:=λq hq=>PL (r8 hq).1.symm
 have key:∀q∈(dd,sd)::del dd (BI t Γ),∀b,s'.owns w (Ae a t) b-> ¬q.2.owns w (Ae (a.put (some dd) v) q.1) b:=λq hq b hb hqb=>by
  rcases Ao.1 hq with e|hq
  ·grind
  ·rw[eo q hq] at hqb;exact hs.sep _ ht q (sub q hq).1 (λe=>(sub q hq).2 e.symm) b (o1 b hb) hqb
 have h2:Sat w0 H0 N ((t,s')::(dd,sd)::del dd (BI t Γ)) (a.put (some dd) v) w H:=by
  refine⟨h1.nd,h1.sz,h1.below,h1.Fe,h1.sub,?_,?_,h1.gl⟩
  ·intro q hq;rcases Ao.1 hq with e|hq
   ·grind
   ·exact h1.holds q hq
  ·intro q hq r hr hn b hb Ba;rcases Ao.1 hq with e|hq<;>rcases Ao.1 hr with e'|hr
   ·grind
   ·grind
   ·grind
   ·exact h1.sep q hq r hr hn b hb Ba
 refine h2.weaken λq hq=>?_
 simp[Ao] at hq⊢;rcases hq with h|h|h
 ·grind
 ·exact .inl h
 ·grind
inductive FQ(Γ:Ctx):Nat->Nat->Nat->Prop where
 |ptr {p t off:Nat} (h:look Γ p=some (.ptr t off)):FQ Γ p t off
 |box {t:Nat} {T:Ap} {g:Bool} {ps:A3 Bv} (h:look Γ t=some (.D8 T g ps)):FQ Γ t t 0
def FQ.ok{ps:A3 Bv}(h:FQ Γ p t off)(ht:look Γ t=some (.D8 T gg ps))(hs:Sat w0 H0 N Γ a w H):∃b cs,Ae a t= .pointer (some ⟨b,0,none⟩)/\a.eval (.tmp p)= .pointer (some ⟨b,off,none⟩)/\w.heap[b]? =some (.cells cs T (0,0))/\H b=none/\w0.ED b/\J6 w0 a w H ps cs.toList/\Ny w ps cs.toList/\ ¬GF w b ps cs.toList:=by
 let⟨b,cs,e,hb,hn,hm,ho,IT,hx⟩:=hs.holds _<|B6 ht
 simp only at e;refine⟨b,cs,e,?_,hb,hn,hm,ho,IT,hx⟩;cases h with
 |ptr h=>
  let⟨b',e1,e2⟩:=hs.holds _<|B6 h
  simp only at e1 e2;rw[e] at e1;cases e1;exact e2
 |box h=>exact e
def Rm{k:Nat}{ps:A3 Bv}(h:look Γ t=some (.D8 T' gg ps))(hf:Gb P T k off=true):Az P Γ ⟨d,.fieldAddr T (.tmp t) k,ty,pos,af,g⟩ (.ptr t off):=
 Dj λ_ _ _ a w _ hs=>by
  let⟨b,cs,e,_⟩:=hs.holds _<|B6 h
  have e':a.eval (.tmp t)= .pointer (some ⟨b,0,none⟩):=e;exact⟨.pointer<|some ⟨b,0+off,none⟩,by simp[execOp,e',YK hf],⟨b,e,by simp⟩,rfl⟩
def xW{p:Bv}{cs:BA AW}{E:Ap}{w':AR}{ps:A3 Bv}(hT:Bq P T p.n p.agg=true)(hb:w.heap[b]? =some (.cells cs E (0,0)))(h:J6 B a w' H ps cs.toList)(hi:ps[i]? =some p):(loadVar T ⟨b,Bn ps i,none⟩).run P w= .ok (pv p (Bn ps i) cs.toList) w:=by let⟨h1,_,_,_⟩:=Qr h hi;exact RQ hT hb (by simpa using h1)
def ab7{ps:A3 Bv}{τ:Ty}(hp:FQ Γ p t off)(ht:look Γ t=some (.D8 T' gg ps))(hi:ps[i]? =some (.val τ))(ho:Bn ps i=off)(hT:Bq P T τ.n τ.agg=true):Az P Γ ⟨d,.load T<| .tmp p,ty,pos,af,g⟩ (.val τ):=
 Dj λ_ _ _ a w _ hs=>by let⟨b,cs,e,ep,hb,_,_,Ax,_⟩:=hp.ok ht hs;subst ho;let⟨_,_,h3,_⟩:=Qr Ax hi;refine⟨_,?_,h3,rfl⟩;simp[execOp,ep,Instr.loadAt,Instr.sureAddr,xW (p:= .val τ) hT hb Ax hi]
def Bv.sty:Bv->AQ
 | .buf E sz l=> .buf E sz l
 | .map K E Eb sz Ea=> .Gs K E Eb sz Ea
 |_=> .gone
def Bv.aiI:∀{p:Bv},p.holds B a w H v->p.sty.holds B a w H v
 | .val _,_=>trivial
 | .any _ _,_=>trivial
 | .sm _,_=>trivial
 | .buf _ _ _,h=>h
 | .map _ _ _ _ _,h=>h
def Bv.Yl:∀{p:Bv},p.sty.owns w v b↔p.owns w v b
 | .val _=>Iff.rfl
 | .any _ _=>Iff.rfl
 | .sm _=>Iff.rfl
 | .buf _ _ _=>Iff.rfl
 | .map _ _ _ _ _=>Iff.rfl
def Bv.aiH:∀{p:Bv},p.sty.CA=[]
 | .val _=>rfl
 | .any _ _=>rfl
 | .sm _=>rfl
 | .buf _ _ _=>rfl
 | .map _ _ _ _ _=>rfl
def Sg(d:Nat):Bool->Bv
 |true=> .sm d
 |false=> .any 1 false
theorem aaB{Ai:Ctx}(BE:∀q∈Ai,q∈Γ){dd:Nat}{ps:A3 Bv}{pp:Bv}(sm:Bool)(hp:FQ Ai p t off)(ht:look Ai t=some (.D8 T' gg ps))(hi:ps[i]? =some pp)(ho:Bn ps i=off)(h1:pp.n=1)(hg:pp.agg=false)(hT:Bq P T 1 false=true)
 (DK:dd<N)(hne:dd≠t)(hd:dd∉Qw ps):Step P N ops ⟨some dd,.load T<| .tmp p,ty,pos,af,none⟩ Γ ((dd,pp.sty)::(t,.D8 T' gg<|ps.set i<|Sg dd sm)::del dd (BI t Γ)):=by
 intro w0 H0 a w H BF K Q k;simp[Region.wanted,if_true];let⟨b,cs,e,ep,hb,hn,hm,Ax,IT,hx⟩:=hp.ok ht<|BF.weaken BE
 subst ho;let⟨h2,h3,h4,h5⟩:=Qr Ax hi;have F4:=xW (p:=pp) (by rw[h1,hg];exact hT) hb Ax hi
 generalize hv:pv pp (Bn ps i) cs.toList=v at*
 unfold Oper.wp;have er:(execOp a.eval ⟨some dd,.load T<| .tmp p,ty,pos,af,none⟩).run P w= .ok (.value v) w:=by simp[execOp,ep,Instr.loadAt,Instr.sureAddr,F4]
 rw[er,OV];have hv1:v.oneCell'=true:=by rw[h1,hg] at h3;exact(mU h3).1
 have HT:(Sg dd sm).n=pp.n:=by rw[h1];cases sm<;>rfl
 have CT:Shape (Sg dd sm).n (Sg dd sm).agg v:=by rw[h1,hg] at h3;cases sm<;>exact h3
 have sR:J6 w0 (a.put (some dd) v) w H ps cs.toList:=Tx (λu hu=>PL<|λe=>hd<|e▸hu) Ax;have hq:(Sg dd sm).holds w0 (a.put (some dd) v) w H v:=by
  cases sm
  ·exact Shape.one hv1
  ·exact⟨(VY (by rw[BF.sz];exact DK)).symm,hv1⟩
 have FA:∀c,¬(Sg dd sm).owns w v c:=λc h=>by cases sm<;>exact h
 let⟨E8,hcs,k1,k2,k3⟩:=Vr sR IT hi CT HT hq<|λc hc=>absurd hc<|FA c
 have hcc:E8=cs.toList:=by rw[hcs,<-hv];exact gX Ax hi
 rw[hcc] at k1 k2 k3;refine k _ _ H (aiR BF (BE _<|B6 ht) DK hne (by rw[Bv.aiH];simp) ?_ (Bv.aiI h4) ?_ ?_ ?_)
 ·refine⟨b,cs,e,hb,hn,hm,k1,k2,λhc=>?_⟩;rcases k3 b hc with h|h
  ·exact FA b h
  ·exact hx h.1
 ·rintro c ⟨c',e',hc⟩;simp[e] at e';cases e';refine⟨b,e,?_⟩;rcases hc with hc|⟨cs2,hb2,hc⟩
  ·exact .inl hc
  ·grind
 ·intro c hc;exact⟨b,e,.inr ⟨cs,hb,PN.2 ⟨i,pp,hi,by rw[hv];exact Bv.Yl.1 hc⟩⟩⟩
 ·rintro c hc ⟨c',e',FI⟩;simp[e] at e';cases e';have hc:=Bv.Yl.1 hc;rcases FI with FI|⟨cs2,hb2,FI⟩
  ·subst FI;exact hx (PN.2 ⟨i,pp,hi,by rw[hv];exact hc⟩)
  ·grind
theorem pX{Ai:Ctx}(BE:∀q∈Ai,q∈Γ){ps:A3 Bv}{pp q:Bv}{x:CH}(hp:FQ Ai p t off)(ht:look Ai t=some (.D8 T' gg ps))(hi:ps[i]? =some pp)(ho:Bn ps i=off)(hn:q.n=pp.n)
 (hT:Bq P T q.n q.agg=true)(hq:∀(a:Act) (w:AR) (H:HV),Sat w0 H0 N Ai a w H->Shape q.n q.agg (a.eval x)/\q.holds w0 a w H (a.eval x))(FA:∀w v b,¬q.owns w v b)
 (BF:Sat w0 H0 N Γ a w H){K:Act->AR->Prop}(k:∀w',Sat w0 H0 N ((t,.D8 T' gg<|ps.set i q)::BI t Γ) a w' H->K a w'):(⟨none,.store T (.tmp p) x,ty,pos,af,none⟩:Oper).wp P a w K Q:=by
 let⟨b,cs,e,ep,hb,hnb,hm,Ax,IT,hx⟩:=hp.ok ht<|BF.weaken BE
 subst ho;let⟨CT,hqh⟩:=hq a w H<|BF.weaken BE
 let⟨h2,_,_,_⟩:=Qr Ax hi;let⟨E8,hcs,k1,k2,k3⟩:=Vr Ax IT hi CT hn hqh<|λc hc=>absurd hc<|FA _ _ c
 have F4:=TC (P:=P) (x:=a.eval x) (off:=Bn ps i) (Ts hT) CT.size hb (by rw[hn];simpa using h2) CT.cell;rw[hn,<-hcs] at F4;unfold Oper.wp;have er:(execOp a.eval ⟨none,.store T (.tmp p) x,ty,pos,af,none⟩).run P w= .ok .skip (w.setRow b E8.toArray):=by simp[execOp,ep,Instr.storeAt,Instr.sureAddr,F4]
 rw[er,Qf];have hg:Ee w (w.setRow b E8.toArray) (some b):=Ee.setRow w b _;have Ba:(w.setRow b E8.toArray).heap[b]? =some (.cells E8.toArray T' (0,0)):=U4 w b _ _ _ _ hb;have hnx: ¬GF w b (ps.set i q) E8:=λhc=>by
  rcases k3 b hc with h|h
  ·grind
  ·exact hx h.1
 have Lf:=gk (w':=w.setRow b E8.toArray) (H':=H) (HV.le.refl H) k1 (λc hc=>⟨hg.block c (QK k1 hc).1 (λe=>by cases e;exact hnx hc),rfl⟩);refine k _ (PD BF (BE _<|B6 ht) hg hm ⟨b,e,.inl rfl⟩ ⟨b,E8.toArray,e,Ba,hnb,hm,by simpa using Lf.1,by simpa using Lf.2.2 k2,by simpa using λh=>hnx<|(Lf.2.1 b).1 h⟩ ?_);rintro c ⟨c',e',hc⟩;simp[e] at e';cases e';rcases hc with hc|⟨cs2,hb2,hc⟩
 ·subst hc;exact .inl ⟨c,e,.inl rfl⟩
 ·rw[Ba] at hb2;cases hb2;have hc:=(Lf.2.1 c).1 (by simpa using hc);rcases k3 c hc with h|h
  ·grind
  ·exact .inl ⟨b,e,.inr ⟨cs,hb,h.1⟩⟩
def anv{ps:A3 Bv}{pp:Bv}{x:CH}{σ:Ty}(hp:FQ Γ p t off)(ht:look Γ t=some (.D8 T' gg ps))(hi:ps[i]? =some pp)(ho:Bn ps i=off)(hx:Arg Γ x σ)(hn:σ.n=pp.n)(hT:Bq P T σ.n σ.agg=true):Step P N ops ⟨none,.store T (.tmp p) x,ty,pos,af,none⟩ Γ ((t,.D8 T' gg<|ps.set i<| .val σ)::BI t Γ):=by intro w0 H0 a w H hs K Q k;simp[Region.wanted,if_true];exact pX (λ_ h=>h) (q:= .val σ) hp ht hi ho hn hT (λa w H hs=>⟨σ.shape<|hx.ok hs,hx.ok hs⟩) (λ_ _ _ h=>h) hs λw' DN=>k a w' H DN
inductive Q5(Γ:Ctx)(u:Nat):Prop where
 |buf {E:Ap} {sz:Nat} {l:A3 Ty} (h:look Γ u=some (.buf E sz l))
 |Gs {K E Eb:Ap} {sz:Nat} {l:A3 (Ty×DG)} (h:look Γ u=some (.Gs K E Eb sz l))
 |D8 {T:Ap} {g:Bool} {l:A3 Bv} (h:look Γ u=some (.D8 T g l))
def Q5.ok(h:Q5 Γ u)(hs:Sat w0 H0 N Γ a w H):(Ae a u).oneCell'=true:=by
 cases h with
 |buf h=>
  let⟨xs,⟨_,hr⟩,_,_⟩:=hs.holds _<|B6 h
  rcases hr with⟨e,_⟩|⟨g,cap,cur,e,_⟩
  ·simp only at e;rw[e];rfl
  ·simp only at e;rw[e];rfl
 |Gs h=>
  let⟨r,es,e,_⟩:=hs.holds _<|B6 h
  simp only at e;rw[e];rfl
 |D8 h=>
  let⟨b,cs,e,_⟩:=hs.holds _<|B6 h
  simp only at e;rw[e];rfl
def qh{ps:A3 Bv}{pp:Bv}(hp:FQ Γ p t off)(ht:look Γ t=some (.D8 T' gg ps))(hi:ps[i]? =some pp)(ho:Bn ps i=off)(hu:Q5 Γ u)(hn:pp.n=1)(hT:Bq P T 1 false=true):Step P N ops ⟨none,.store T (.tmp p)<| .tmp u,ty,pos,af,none⟩ Γ ((t,.D8 T' gg<|ps.set i<| .sm u)::BI t Γ):=by intro w0 H0 a w H hs K Q k;simp[Region.wanted,if_true];exact pX (λ_ h=>h) (x:= .tmp u) (q:= .sm u) hp ht hi ho hn.symm hT (λa w H hs=>⟨Shape.one<|hu.ok hs,rfl,hu.ok hs⟩) (λ_ _ _ h=>h) hs λw' DN=>k a w' H DN
def pU{ps:A3 Bv}{pp:Bv}(hp:FQ Γ p t off)(ht:look Γ t=some (.D8 T' gg ps))(hi:ps[i]? =some pp)(ho:Bn ps i=off)(hu:Q5 Γ u)(hn:pp.n=1)(hT:Bq P T 1 false=true):P3 P N ops Γ ⟨none,.store T (.tmp p)<| .tmp u,ty,pos,af,none⟩ t (.D8 T' gg<|ps.set i<| .sm u):=λEM BE=>by intro w0 H0 a w H hs K Q k;simp[Region.wanted,if_true];exact pX BE (x:= .tmp u) (q:= .sm u) hp ht hi ho hn.symm hT (λa w H hs=>⟨Shape.one<|hu.ok hs,rfl,hu.ok hs⟩) (λ_ _ _ h=>h) hs λw' DN=>k a w' H DN
theorem nL{s':AQ}{us:A3 Nat}{G:Ctx}(hs:Sat w0 H0 N Γ a w H)(ht:∀q∈G,q∈Γ/\q.1≠t)(hh:s'.holds w0 a w H (Ae a t))
 (ho:∀b,s'.owns w (Ae a t) b->∃p∈Γ,(p.1=t\/p.1∈us)/\p.2.owns w (Ae a p.1) b)(hu:∀q∈G,q.1∉us):Sat w0 H0 N ((t,s')::G) a w H:=by
 have key:∀q∈G,∀b,s'.owns w (Ae a t) b-> ¬q.2.owns w (Ae a q.1) b:=λq hq b hb hqb=>by
  let⟨p,hp,h1,h2⟩:=ho b hb;refine hs.sep p hp q (ht q hq).1 (λe=>?_) b h2 hqb;rcases h1 with h1|h1
  ·grind
  ·grind
 refine⟨hs.nd,hs.sz,hs.below,hs.Fe,hs.sub,?_,?_,hs.gl⟩
 ·intro q hq;rcases Ao.1 hq with e|hq
  ·subst e;exact hh
  ·exact hs.holds q (ht q hq).1
 ·intro q hq r hr hn b hb Ba;rcases Ao.1 hq with e|hq<;>rcases Ao.1 hr with e'|hr
  ·grind
  ·grind
  ·grind
  ·exact hs.sep q (ht q hq).1 r (ht r hr).1 hn b hb Ba
theorem anI{w0:Aj P}{ps:A3 Bv}(pp:Bv)(ht:look Γ t=some (.D8 T' gg ps))(hi:ps[i]? =some (.sm u))(hu:look Γ u=some pp.sty)(hne:(u !=t)=true)(hpp:(pp.n,pp.agg)=(1,false))(hg: ¬pp.sty= .gone):II w0 N Γ ((t,.D8 T' gg<|ps.set i pp)::BI t (BI u Γ)):=λH0 a w H hs=>by
 let⟨b,cs,e,hb,hnb,hm,Ax,IT,hx⟩:=hs.holds _<|B6 ht
 have hph:=hs.holds _<|B6 hu
 simp only at e hph;have hut:u≠t:=by simpa using hne
 let⟨_,h3,h4,_⟩:=Qr Ax hi;have hv:pv (.sm u) (Bn ps i) cs.toList=Ae a u:=h4.1;have h1:pp.n=1:=congrArg Prod.fst hpp;have h2:pp.agg=false:=congrArg Prod.snd hpp;have CT:Shape pp.n pp.agg (Ae a u):=by rw[h1,h2,<-hv];exact h3
 have hq:pp.holds w0 a w H (Ae a u):=by
  cases pp with
  |buf E sz l=>exact hph
  |map K E Eb sz Ea=>exact hph
  |val τ=>exact absurd rfl hg
  |any n g=>exact absurd rfl hg
  |sm v=>exact absurd rfl hg
 have sN:∀c,pp.owns w (Ae a u) c-> ¬GF w c ps cs.toList:=λc hc ho=>by refine hs.sep _ (B6 hu) _ (B6 ht) hut c (Bv.Yl.2 hc) ⟨b,e,.inr ⟨cs,hb,ho⟩⟩
 have ave: ¬pp.owns w (Ae a u) b:=λhc=>hs.sep _ (B6 hu) _ (B6 ht) hut b (Bv.Yl.2 hc) ⟨b,e,.inl rfl⟩
 let⟨E8,hcs,k1,k2,k3⟩:=Vr Ax IT hi CT (by rw[h1];rfl) hq<|λc hc=> .inr<|sN c hc
 have hcc:E8=cs.toList:=by rw[hcs,<-hv];exact gX Ax hi
 rw[hcc] at k1 k2 k3;refine⟨H,nL (us:=[u]) hs (λq hq=>⟨(DM q (DM q hq).1).1,(DM q hq).2⟩) ⟨b,cs,e,hb,hnb,hm,k1,k2,λhc=>?_⟩ ?_ (λq hq=>by simpa using(DM q (DM q hq).1).2)⟩
 ·grind
 ·rintro c ⟨c',e',hc⟩;simp[e] at e';cases e';rcases hc with hc|⟨cs2,hb2,hc⟩
  ·exact⟨_,B6 ht,.inl rfl,b,e,.inl hc⟩
  ·rw[hb] at hb2;cases hb2;rcases k3 c hc with h|h
   ·exact⟨_,B6 hu,.inr (by simp),Bv.Yl.2 h⟩
   ·exact⟨_,B6 ht,.inl rfl,b,e,.inr ⟨cs,hb,h.1⟩⟩
inductive Gn:A3 Ty->A3 Bv->Prop where
 |nil:Gn [] []
 |val {τ:Ty} {l:A3 Ty} {ps:A3 Bv} (r:Gn l ps):Gn (τ::l) (.val τ::ps)
 |buf {α:Type} {f:α->Ty} {x:A3 α} {E:Ap} {sz:Nat} {l:A3 Ty} {ps:A3 Bv} (hx:x=[]) (r:Gn l ps):Gn (TN f x::l) (.buf E sz []::ps)
def xY{E:Ap}{sz:Nat}:Kf B w H E sz [] (.slice none 0 0):=⟨[],⟨by simp,.inl ⟨rfl,rfl⟩⟩,rfl,λb h=>by simp[Value.ownBlock] at h⟩
end
end Trn
