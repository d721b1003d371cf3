/- Part of SolidCuts. -/
import Derived.Test.YtieipfegkfhllaaGreatDoorEa
set_option maxRecDepth 100000
set_option maxHeartbeats 20000000
set_option linter.all false
open Go Go.RowKit Go.Proofs
namespace Trn
section
variable[D:DR]
variable{P:Program}{N:Nat}{ops:Array Oper}{Γ An:Ctx}{d:Option Tmp}{ty:TypeId}{pos:String}{af:Array Edge}{g:Option (Nat×Bool)}
variable{T:Am}{t sz:Nat}{l:A3 Ty}{E:Am}{bytes dd:Nat}{T2:Am}{w0:Aj P}{w:AR}{H:HV}{x:CD}{l2:A3 Ty}{τ:Ty}{H0:HV}{a:Act}{s:AQ}{ps:A3 (Nat×CD)}{l':A3 Ty}{v:AV}{n:Nat}{Ai:Ctx}
open Classical in
theorem uy(hs:Sat w0 H0 N Γ a w H){s':AQ}(ht:(t,s)∈Γ)(S:Nat->Prop)(hS:∀b,S b->s.owns w (Ae a t) b/\w0.EC b)
 (hv:s'.holds w0 a w (λr=>if S r then w.heap[r]? else H r) (Ae a t))(ho:∀b,s'.owns w (Ae a t) b->s.owns w (Ae a t) b):Sat w0 H0 N ((t,s')::BF t Γ) a w (λr=>if S r then w.heap[r]? else H r):=by
 have low:∀b,S b->b<w.heap.size/\H b=none/\∃o,w.heap[b]? =some o/\Zx o:=λb h=>AQ.JC (hs.holds _ ht) (hS b h).1
 have hle:HV.le H (λr=>if S r then w.heap[r]? else H r):=by
  intro r o h;by_cases e:S r
  .grind
  .simp[e,h]
 have qx:∀q∈BF t Γ,∀b,q.2.owns w (Ae a q.1) b-> ¬S b:=by intro q hq b hqb e;exact hs.sep _ ht q (DL q hq).1 (λe=>(DL q hq).2 e.symm) b (hS b e).1 hqb
 have IE:Sat w0 H0 N (BF t Γ) a w (λr=>if S r then w.heap[r]? else H r):=by
  refine Vl (ds:=a.defers) hs hs.below (BK _) ?_ (BK _) hle ?_ ?_ ?_ ?_
  .intro _ r hr hx;have: ¬S r:=λe=>by
    rcases(hS r e).2 with h|h
    .omega
    .exact hx h
   simp[this]
  .intro r o h;by_cases e:S r
   .simpa[e] using h
   .simp[e,if_false] at h;exact hs.sub r o h
  .intro _ b _ hb;have: ¬S b:=λe=>by have:=Aj.QS (hS b e).2;omega
   simp[this]
  .intro p hp;exact⟨(DL p hp).1,λb hb=>⟨rfl,by simp[qx p hp b hb]⟩⟩
  .refine hs.nd.kept λD _ h1 h2=>⟨h1,?_⟩
   have: ¬S D:=λe=>by let⟨_,_,o,ho,Jw⟩:=low D e;rw[h1] at ho;cases ho;exact Jw
   simp[this,h2]
 refine⟨IE.nd,IE.sz,IE.below,IE.FW,IE.sub,?_,?_,IE.gl⟩
 .intro p hp;rcases Aq.1 hp with e|hp
  .subst e;exact hv
  .exact IE.holds p hp
 .intro p hp q hq hne b hb Ba;rcases Aq.1 hp with e|hp
  .subst e;rcases Aq.1 hq with e|hq
   .grind
   .exact hs.sep _ ht q (DL q hq).1 hne b (ho b hb) Ba
  .rcases Aq.1 hq with e|hq
   .subst e;exact hs.sep p (DL p hp).1 _ ht hne b hb<|ho b Ba
   .exact IE.sep p hp q hq hne b hb Ba
open Classical in
def eC(hs:Sat w0 H0 N Γ a w H)(ht:(t,s)∈Γ)(S:Nat->Prop)(hS:∀b,S b->s.owns w (Ae a t) b/\w0.EC b)
 (hv:τ.ok (λr=>if S r then w.heap[r]? else H r) (Ae a t)):Sat w0 H0 N ((t,.val τ)::BF t Γ) a w (λr=>if S r then w.heap[r]? else H r):=uy (s':= .val τ) hs ht S hS hv<|λ_ h=>h.elim
theorem aly(hs:Sat w0 H0 N Γ a w H)(ht:look Γ t=some (.buf E sz l)):∃H',Sat w0 H0 N ((t,.val<|G3 l)::BF t Γ) a w H':=by
 have hb:=hs.holds _<|B6 ht
 let⟨xs,hr,ho,hn⟩:=hb;refine⟨_,eC hs (B6 ht) (λb=>(Ae a t).ownBlock=some b) (λb h=>⟨h,(hn b h).2⟩) ?_⟩;refine WS (a:=a) ⟨xs,hr,ho,hn⟩ ?_ (λb hb _ o hbo=>by simp[hb,hbo]);intro r o h;by_cases e:(Ae a t).ownBlock=some r
 .grind
 .simp[e,h]
def amA(ht:look Γ t=some (.buf E sz l)):II w0 N Γ ((t,.val<|G3 l)::BF t Γ):=λ_ _ _ _ hs=>aly hs ht
theorem ajy(hs:Sat w0 H0 N Γ a w H)(ht:look Γ t=some (.own T τ)):∃H',Sat w0 H0 N ((t,.val<|Jp τ)::BF t Γ) a w H':=by
 let⟨b,x,e,hb,hx,hH,hB⟩:=hs.holds _<|B6 ht
 simp only at e;refine⟨_,eC hs (B6 ht) (λc=>c=b) (λc h=>by subst h;exact⟨⟨_,e,rfl⟩,hB⟩) ?_⟩;have CS:=τ.shape hx;refine⟨b,0,x.cells,T,(0,0),e,by simp[hb],by rw[CS.size];omega,?_⟩;rw[we CS.size,<-CS.eq];refine τ.mono ?_ hx;intro r o h;by_cases e:r=b
 .grind
 .simp[e,h]
def Tm(ht:look Γ t=some (.own T τ)):II w0 N Γ ((t,.val<|Jp τ)::BF t Γ):=λ_ _ _ _ hs=>ajy hs ht
def Fu(P:CF)(T:Am)(E:Am)(sz bytes:Nat):Bool:=
 match P.underlying T with
 |some (.slice e)=>Nat.beq e E&&(match P.info? e with
  |some i=>Nat.beq i.size sz&&Nat.beq i.bytes bytes&&(match i.zero with|some z=>Nat.beq z.cells.size sz|none=>false)&&Nat.ble 1 sz
  |none=>false)
 |_=>false
def zB(h:Fu P T E sz bytes=true):∃i z,P.underlying T=some (.slice E)/\P.info? E=some i/\i.zero=some z/\i.size=sz/\i.bytes=bytes/\z.cells.size=sz/\0<sz:=by
 unfold Fu at h;split at h
 .rename_i e hu;simp only[C4] at h;let⟨h1,h2⟩:=h;have h1:=E9 h1;subst h1;split at h2
  .rename_i i hi;simp only[C4] at h2;let⟨⟨⟨h3,h4⟩,h5⟩,h6⟩:=h2;split at h5
   .rename_i z hz;exact⟨i,z,hu,hi,hz,E9 h3,E9 h4,E9 h5,FT h6⟩
   .cases h5
  .cases h2
 .cases h
def lE(hT:Fu P T E sz bytes=true){B:Nat}{xs:A3 AV}(hown:w.ownsRow B E sz v n xs)(hB:B<=w.heap.size)
 {ad:AA Addr}{m c:Nat}{news:A3 AV}(hl:news.length=m*sz)(aqa:∀j u,news[j]? =some u->∃x,ad=some x/\w.cell? (x.add j)=some u)(h1:∀u∈news,u.oneCell'=true)(had:ad=none->m=0)
 (Gq:n+m<=maxLen)(Kc:(n+m)*bytes<=140737488355328)(ty:Am):∃v' w',(Builtin.append_ #[T,T] ty #[v,.slice ad m c]).run P w= .ok v' w'/\w'.ownsRow B E sz v' (n+m) (xs++news)/\Ed w w' v.ownBlock/\∀b,v'.ownBlock=some b->v.ownBlock=some b\/w.heap.size<=b:=by
 let⟨i,z,hu,hi,hz,hsz,hby,hzs,hpos⟩:=zB hT;cases ad with
 |none=>
  have hm:=had rfl;subst hm;have hn:news=[]:=LN (by simpa using hl);subst hn;refine⟨v,w,?_,by simpa using hown,⟨⟨rfl,rfl,rfl,BK _,λ_ _ _=>rfl⟩,BK _⟩,λb hb=> .inl hb⟩;rcases hown.2 with⟨rfl,rfl⟩|⟨g,cap,cur,rfl,hbg,hg,hnc,_⟩
  .simp[Builtin.append_,Et hu,Go.sizeOf,typeInfo,program,Sem.run,hi,Builtin.lenOf,Builtin.firstCells]
  .simp[Builtin.append_,Et hu,Go.sizeOf,typeInfo,program,Sem.run,hi,Builtin.lenOf,Builtin.firstCells,hnc,storeCells]
 |some ad=>
  have aM:∀j u,news[j]? =some u->w.cell? (ad.add j)=some u:=λj u h=>by let⟨x,e,hx⟩:=aqa j u h;cases e;exact hx
  let⟨v',w',hr,h2,h3,h4⟩:=run_append_own (P:=P) w B T ty E i z sz bytes hu hi hz hsz hby hzs hpos v n xs hown ad m c news hl aM h1 Gq Kc hB;have key:w.drawn<=w'.drawn/\∀b,v'.ownBlock=some b->v.ownBlock=some b\/w.heap.size<=b:=by
   subst hsz;subst hby;rcases hown.2 with⟨rfl,rfl⟩|⟨g,cap,cur,rfl,hbg,hg,hnc,hcm,hcs,htake⟩
   .by_cases hm:m=0
    .subst hm;have hf:=run_firstCells_some (P:=P) w i.size 0 ad 0 c news hl aM;have H7:(Builtin.append_ #[T,T] ty #[.slice none 0 0,.slice (some ad) 0 c]).run P w= .ok (.slice none 0 0) w:=by have hn0:news=[]:=LN (by simpa using hl);subst hn0;simp[Builtin.firstCells] at hf;simp[Builtin.append_,Et hu,Go.sizeOf,typeInfo,program,Sem.run,hi,Builtin.lenOf,Builtin.firstCells,loadCells,loadCellsFrom]
     rw[hr] at H7;cases H7;exact⟨BK _,λb hb=>by simp[Value.ownBlock] at hb⟩
    .have sK:(m:Int)<=9223372036854775807:=by simp[maxLen] at Gq;omega
     have H7:=run_append_nil (P:=P) (w:=w) T ty E i z hu hi hz ad m c news hl aM (by omega) sK (by rw[PX] at Kc;omega);rw[hr] at H7;cases H7;refine⟨QW _,λb hb=>?_⟩;simp[Value.ownBlock] at hb;exact .inr (by omega)
   .by_cases Sb:n+m<=cap
    .have kE:n*i.size+news.length<=cur.size:=by rw[hl,hcs,<-Ka];exact LL _ Sb
     have H7:=run_append_room (P:=P) w T ty E i hu hi g n cap cur hg ad m c news hl aM h1 Sb kE;rw[hr] at H7;cases H7;exact⟨BK _,λb hb=> .inl hb⟩
    .have holds:∀j u,xs[j]? =some u->w.cell? ((⟨g,0,none⟩:Addr).add j)=some u:=hown.cells (g:=g) rfl;have sK:((n+m:Nat):Int)<=9223372036854775807:=by simp[maxLen] at Gq;omega
     have H7:=run_append_grow (P:=P) w T ty E i z hu hi hz ⟨g,0,none⟩ n cap xs hown.1 holds ad m c news hl aM (by omega) sK (growslice_fits (by omega) Kc);rw[hr] at H7;cases H7;refine⟨QW _,λb hb=>?_⟩;simp[Value.ownBlock] at hb;exact .inr (by omega)
  exact⟨v',w',hr,h2,⟨h3,Gv.of key.1⟩,key.2⟩
def mJ{ty:Am}(h1:Du P T=true)(h2:Du P T2=true)(args:B8 AV)(w:AR):(Builtin.append_ #[T,T2] ty args).run P w=(Builtin.append_ #[T,T] ty args).run P w:=by
 let⟨e1,u1⟩:=fH h1;let⟨e2,u2⟩:=fH h2;unfold Builtin.append_;have g0:(#[T,T2]:B8 Am)[0]? =some T:=rfl;have g1:(#[T,T2]:B8 Am)[1]? =some T2:=rfl;have g2:(#[T,T]:B8 Am)[0]? =some T:=rfl;have g3:(#[T,T]:B8 Am)[1]? =some T:=rfl;simp[g0,g1,g2,g3];cases args[0]? with
 |none=>rfl
 |some a0=>cases args[1]? with
  |none=>rfl
  |some a1=>
   simp[E0,Et u1,Dm];cases a0<;>try rfl
   simp[E0,Et u1,Et u2,Dm,K6]
def ot(h:Fu P T E sz bytes=true):Du P T=true:=by let⟨i,z,hu,_⟩:=zB h;simp[Du,hu]
def oK(sub:∀r o,H r=some o->w.heap[r]? =some o)(h:(G3 l).ok H v):∃ad cap news,v= .slice ad l.length cap/\DT H l news/\(∀j u,news[j]? =some u->∃x,ad=some x/\w.cell? (x.add j)=some u)/\(ad=none->l.length=0):=by
 let⟨ad,cap,e,_,hx⟩:=h;by_cases hl:l=[]
 .subst hl;exact⟨ad,cap,[],e,rfl,λj u h=>by simp at h,λ_=>rfl⟩
 .let⟨b,off,cs,E,fr,e1,hb,hsz,ho⟩:=hx hl;refine⟨ad,cap,_,e,ho,?_,λe=>by rw[e1] at e;cases e⟩;intro j u hj;refine⟨⟨b,off,none⟩,e1,?_⟩;rw[addr_add];rw[WH] at hj;split at hj
  .simp at hj;simp[World.cell?,sub _ _ hb,hj]
  .cases hj
def vq(BC:∀q∈Ai,q∈Γ){s:Nat}(Ga:Du P T2=true)(hs:look Ai s=some (.same t))(ht:look Ai t=some (.buf E sz l))(hx:Arg Ai x (G3 l2))(hT:Fu P T E sz bytes=true)(hu:Fj sz l2)
 (Gq:l.length+l2.length<=maxLen)(Kc:(l.length+l2.length)*bytes<=140737488355328)(DJ:dd<N):Step P N ops ⟨some dd,.call ⟨.builtin .append,#[.tmp s,x],#[T,T2]⟩,ty,pos,af,none⟩ Γ ((dd,.buf E sz<|l++l2)::del dd (BF t Γ)):=by
 intro w0 H0 a w H BD K Q k;simp[Region.wanted,if_true];have hb:=BD.holds _ (BC _<|B6 ht);let⟨xs,hr,ho,hn⟩:=hb;have e2:Ae a s=Ae a t:=BD.holds _ (BC _<|B6 hs);let⟨ad,cap,news,ex,ho2,hc,Uf⟩:=oK BD.sub<|hx.ok<|BD.weaken BC
 have hlen:news.length=l2.length*sz:=by rw[Mo ho2,KW hu]
 let⟨v',w',F1,h2,h3,h4⟩:=lE hT hr (FQ _) (c:=cap) hlen hc (Rp ho2) Uf Gq Kc ty;unfold Oper.wp;have er:(execOp a.eval ⟨some dd,.call ⟨.builtin .append,#[.tmp s,x],#[T,T2]⟩,ty,pos,af,none⟩).run P w= .ok (.value v') w':=by have e3:a.eval (.tmp s)=Ae a t:=e2;simp[execOp,resolve,invoke,builtin,e3,ex,mJ (ot hT) Ga,F1]
 rw[er,OO];refine k _ w' H (Vk BD (BC _<|B6 ht) h3 (λc hc=>⟨hc,(hn c hc).2⟩) DJ (by simp[AQ.C8]) ⟨xs++news,by simpa using h2,Rb ho ho2,λb hb=>?_⟩ h4);rcases h4 b hb with h|h
 .exact hn b h
 .refine⟨?_,.inl<|Ct BD.below.size h⟩;cases hh:H b with|none=>rfl|some o=>have:=HG BD.sub hh;omega
def agv(BC:∀q∈Ai,q∈Γ){s:Nat}{hv:v.oneCell'=true}(Ga:Du P T2=true)(hs:look Ai s=some (.val<|TEq v hv))(ht:look Ai t=some (.Nt v E sz l))(hx:Arg Ai x (G3 l2))(hT:Fu P T E sz bytes=true)(hu:Fj sz l2)
 (Gq:l.length+l2.length<=maxLen)(Kc:(l.length+l2.length)*bytes<=140737488355328)(DJ:dd<N):Step P N ops ⟨some dd,.call ⟨.builtin .append,#[.tmp s,x],#[T,T2]⟩,ty,pos,af,none⟩ Γ ((dd,.buf E sz<|l++l2)::del dd (BF t Γ)):=by
 intro w0 H0 a w H BD K Q k;simp[Region.wanted,if_true];have hb:=BD.holds _ (BC _<|B6 ht);let⟨xs,hr,ho,hn⟩:=hb;have e2:Ae a s=v:=BD.holds _ (BC _<|B6 hs);let⟨ad,cap,news,ex,ho2,hc,Uf⟩:=oK BD.sub<|hx.ok<|BD.weaken BC
 have hlen:news.length=l2.length*sz:=by rw[Mo ho2,KW hu]
 let⟨v',w',F1,h2,h3,h4⟩:=lE hT hr (FQ _) (c:=cap) hlen hc (Rp ho2) Uf Gq Kc ty;unfold Oper.wp;have er:(execOp a.eval ⟨some dd,.call ⟨.builtin .append,#[.tmp s,x],#[T,T2]⟩,ty,pos,af,none⟩).run P w= .ok (.value v') w':=by have e3:a.eval (.tmp s)=v:=e2;simp[execOp,resolve,invoke,builtin,e3,ex,mJ (ot hT) Ga,F1]
 rw[er,OO];refine k _ w' H (Vk BD (BC _<|B6 ht) h3 (λc hc=>⟨hc,(hn c hc).2⟩) DJ (by simp[AQ.C8]) ⟨xs++news,by simpa using h2,Rb ho ho2,λb hb=>?_⟩ h4);rcases h4 b hb with h|h
 .exact hn b h
 .refine⟨?_,.inl<|Ct BD.below.size h⟩;cases hh:H b with|none=>rfl|some o=>have:=HG BD.sub hh;omega
def aiK{s:Nat}(Ga:Du P T2=true)(hs:look Γ s=some (.same t))(ht:look Γ t=some (.buf E sz l))(hx:Arg Γ x (G3 l2))(hT:Fu P T E sz bytes=true)(hu:Fj sz l2)
 (Gq:l.length+l2.length<=maxLen)(Kc:(l.length+l2.length)*bytes<=140737488355328)(DJ:dd<N):Step P N ops ⟨some dd,.call ⟨.builtin .append,#[.tmp s,x],#[T,T2]⟩,ty,pos,af,none⟩ Γ ((dd,.buf E sz<|l++l2)::del dd (BF t Γ)):=vq (λ_ h=>h) Ga hs ht hx hT hu Gq Kc DJ
def ajD{s:Nat}(Ga:Du P T2=true)(hs:look Γ s=some (.same t))(ht:look Γ t=some (.buf E sz l))(hx:Arg Γ x (G3 l2))(hT:Fu P T E sz bytes=true)(hu:Fj sz l2)
 (Gq:l.length+l2.length<=maxLen)(Kc:(l.length+l2.length)*bytes<=140737488355328)(DJ:dd<N):Q2 P N ops Γ ⟨some dd,.call ⟨.builtin .append,#[.tmp s,x],#[T,T2]⟩,ty,pos,af,none⟩ t dd (.buf E sz<|l++l2):=λ_ BC=>vq BC Ga hs ht hx hT hu Gq Kc DJ
def vM(BC:∀q∈Ai,q∈Γ)(Ga:Du P T2=true)(ht:look Ai t=some (.buf E sz l))(hx:Arg Ai x (G3 l2))(hT:Fu P T E sz bytes=true)(hu:Fj sz l2)
 (Gq:l.length+l2.length<=maxLen)(Kc:(l.length+l2.length)*bytes<=140737488355328)(DJ:dd<N):Step P N ops ⟨some dd,.call ⟨.builtin .append,#[.tmp t,x],#[T,T2]⟩,ty,pos,af,none⟩ Γ ((dd,.buf E sz<|l++l2)::del dd (BF t Γ)):=by
 intro w0 H0 a w H BD K Q k;simp[Region.wanted,if_true];have hb:=BD.holds _ (BC _<|B6 ht);let⟨xs,hr,ho,hn⟩:=hb;let⟨ad,cap,news,ex,ho2,hc,Uf⟩:=oK BD.sub<|hx.ok<|BD.weaken BC
 have hlen:news.length=l2.length*sz:=by rw[Mo ho2,KW hu]
 let⟨v',w',F1,h2,h3,h4⟩:=lE hT hr (FQ _) (c:=cap) hlen hc (Rp ho2) Uf Gq Kc ty;unfold Oper.wp;have er:(execOp a.eval ⟨some dd,.call ⟨.builtin .append,#[.tmp t,x],#[T,T2]⟩,ty,pos,af,none⟩).run P w= .ok (.value v') w':=by have e3:a.eval (.tmp t)=Ae a t:=rfl;simp[execOp,resolve,invoke,builtin,e3,ex,mJ (ot hT) Ga,F1]
 rw[er,OO];refine k _ w' H (Vk BD (BC _<|B6 ht) h3 (λc hc=>⟨hc,(hn c hc).2⟩) DJ (by simp[AQ.C8]) ⟨xs++news,by simpa using h2,Rb ho ho2,λb hb=>?_⟩ h4);rcases h4 b hb with h|h
 .exact hn b h
 .refine⟨?_,.inl<|Ct BD.below.size h⟩;cases hh:H b with|none=>rfl|some o=>have:=HG BD.sub hh;omega
def agw(Ga:Du P T2=true)(ht:look Γ t=some (.buf E sz l))(hx:Arg Γ x (G3 l2))(hT:Fu P T E sz bytes=true)(hu:Fj sz l2)
 (Gq:l.length+l2.length<=maxLen)(Kc:(l.length+l2.length)*bytes<=140737488355328)(DJ:dd<N):Step P N ops ⟨some dd,.call ⟨.builtin .append,#[.tmp t,x],#[T,T2]⟩,ty,pos,af,none⟩ Γ ((dd,.buf E sz<|l++l2)::del dd (BF t Γ)):=vM (λ_ h=>h) Ga ht hx hT hu Gq Kc DJ
def ahS(Ga:Du P T2=true)(ht:look Γ t=some (.buf E sz l))(hx:Arg Γ x (G3 l2))(hT:Fu P T E sz bytes=true)(hu:Fj sz l2)
 (Gq:l.length+l2.length<=maxLen)(Kc:(l.length+l2.length)*bytes<=140737488355328)(DJ:dd<N):Q2 P N ops Γ ⟨some dd,.call ⟨.builtin .append,#[.tmp t,x],#[T,T2]⟩,ty,pos,af,none⟩ t dd (.buf E sz<|l++l2):=λ_ BC=>vM BC Ga ht hx hT hu Gq Kc DJ
def OR(ht:look Γ t=some s)(hl:s.C8=[])(DJ:dd<N)(o:Op)(ho:o= .assign (.tmp t)\/o= .move (.tmp t)):Q2 P N ops Γ ⟨some dd,o,ty,pos,af,none⟩ t dd s:=by
 intro EK BC w0 H0 a w H BD K Q k;simp[Region.wanted,if_true];have er:(execOp a.eval ⟨some dd,o,ty,pos,af,none⟩).run P w= .ok (.value<|Ae a t) w:=by rcases ho with rfl|rfl<;>rfl
 unfold Oper.wp;rw[er,OO];exact k _ w H (Vk BD (BC _<|B6 ht) (nK w) (λ_ e=>by cases e) DJ (by rw[hl];simp) (BD.holds _<|BC _<|B6 ht) λ_ h=> .inl h)
def Cd(ht:look Γ t=some s)(hl:s.C8=[])(DJ:dd<N)(o:Op)(ho:o= .assign (.tmp t)\/o= .move (.tmp t)):Step P N ops ⟨some dd,o,ty,pos,af,none⟩ Γ ((dd,s)::del dd (BF t Γ)):=by
 intro w0 H0 a w H BD K Q k;simp[Region.wanted,if_true];have er:(execOp a.eval ⟨some dd,o,ty,pos,af,none⟩).run P w= .ok (.value<|Ae a t) w:=by rcases ho with rfl|rfl<;>rfl
 unfold Oper.wp;rw[er,OO];exact k _ w H (Vk BD (B6 ht) (nK w) (λ_ e=>by cases e) DJ (by rw[hl];simp) (BD.holds _<|B6 ht) λ_ h=> .inl h)
def Ad{a b:Nat}(h:Nat.blt a b=true):a<b:=FT h
def Ir(n:Nat)(agg:Bool):Ty where
 n:=n
 agg:=agg
 ok:=λ_ v=>Shape n agg v
 mono:=λ_ h=>h
 shape:=λh=>h
def ajH(cs0:B8 AV)(off:Nat):∀(l:A3 AV) (k:Nat),(off+k+l.length<=cs0.size)->(l.zipIdx k).foldl (λcs (x:AV×Nat)=>cs.setIfInBounds (off+x.2) x.1) cs0=(cs0.toList.take (off+k)++l++cs0.toList.drop (off+k+l.length)).toArray:=by
 intro l
 induction l generalizing cs0 with
 |nil=>intro k _;simp
 |cons v l ih=>
  intro k hk;simp[E6] at hk;simp[List.zipIdx_cons,iE];rw[ih _ (k+1) (by simp;omega)]
  congr 1
  simp[iY,E6];have hlt:off+k<cs0.toList.length:=by simp;omega
  have h1:List.take (off+(k+1)) (cs0.toList.set (off+k) v)=List.take (off+k) cs0.toList++[v]:=by rw[<-LD,List.take_succ_eq_append_getElem (by simpa using hlt)];simp[List.take_set];rw[List.set_eq_of_length_le (by simp;omega)]
  have h2:List.drop (off+(k+1)+l.length) (cs0.toList.set (off+k) v)=List.drop (off+k+(l.length+1)) cs0.toList:=by
   rw[iL (by omega)]
   congr 1;omega
  rw[h1,h2];simp
inductive E2(P:CF)(Γ:Ctx):A3 (Nat×CD)->A3 Ty->A3 Ty->Prop where
 |nil {l:A3 Ty}:E2 P Γ [] l l|cons {i:Nat} {x:CD} {τ σ:Ty} {ps:A3 (Nat×CD)} {l l':A3 Ty} (hx:Arg Γ x σ) (hi:l[i]? =some τ) (hn:σ.n=τ.n) (r:E2 P Γ ps (l.set i σ) l'):E2 P Γ ((i,x)::ps) l l'
def FJ(l:A3 Ty):A3 Nat:=l.map (·.n)
def yP{i:Nat}{σ:Ty}(h:l[i]? =some τ)(hn:σ.n=τ.n):FJ (l.set i σ)=FJ l:=by
 simp[FJ,Tv];apply WC;intro j;rw[List.getElem?_set];split
 .rename_i e;subst e;split
  .simp[h,hn]
  .rename_i hlt;have:=(FH.1 h).1;simp at hlt;omega
 .rfl
def E2.fill{ps:A3 (Nat×CD)}{l l':A3 Ty}(h:E2 P Γ ps l l'){place:Nat->AA (Nat×Nat)}(KR:∀i n,(FJ l)[i]? =some n->place i=some (((FJ l).take i).sum,n))
  {w0:Aj P}{H0:HV}{N:Nat}{a:Act}{w:AR}{H:HV}(hs:Sat w0 H0 N Γ a w H):∀{cells:B8 AV},DT H l cells.toList->∃HE,Instr.fill place cells (ps.map λp=>(p.1,a.eval p.2))=some HE/\DT H l' HE.toList:=by
 induction h with
 |nil=>exact λh=>⟨_,rfl,h⟩
 | @cons i x τ σ ps l l' hx hi hn r ih=>
  intro cells Aw;have hv:=hx.ok hs;have hsz:=(σ.shape hv).size;let⟨p1,_⟩:=NO Aw hi;have Mb:=Tp Aw hi hn hv;have abA:=KR i τ.n (by simp[FJ,hi]);have sB:((FJ l).take i).sum=CR (l.take i):=by simp[FJ,CR,qC]
  rw[sB] at abA;have hlen:cells.toList.length=cells.size:=by simp
  rw[hlen] at p1;have abo:=ajH cells (CR<|l.take i) (a.eval x).cells.toList 0 (by simp;omega);simp only[Tw,Fa] at abo;have hnn:(a.eval x).cells.size=τ.n:=by omega
  let⟨HE,h1,h2⟩:=ih (by rw[yP hi hn];exact KR) (cells:=(cells.toList.take (CR<|l.take i)++(a.eval x).cells.toList++cells.toList.drop (CR (l.take i)+(a.eval x).cells.size)).toArray) (by rw[hnn];simpa using Mb);refine⟨HE,?_,h2⟩;simp only[MK,Instr.fill,abA];rw[if_neg (by simp;omega)];have e:Array.foldl (λcs (x:AV×Nat)=>cs.setIfInBounds (CR (List.take i l)+x.snd) x.fst) cells (a.eval x).cells.zipIdx=(List.take (CR<|List.take i l) cells.toList++(a.eval x).cells.toList++List.drop (CR (List.take i l)+(a.eval x).cells.size) cells.toList).toArray:=by rw[<-abo,<-Array.foldl_toList,Array.toList_zipIdx]
  rw[<-h1]
  congr 1
def NS(P:CF)(T:Am)(ns:A3 Nat):Bool:=
 match P.underlying T with|some (.struct fs)=>fs.toList.map (·.offset)==(List.range ns.length).map (λi=>(ns.take i).sum)&&(fs.toList.map (λf=>(P.info? f.type).map (·.size))==ns.map some)|_=>false
theorem ahO{fs:A3 Field}:∀{ns:A3 Nat},fs.map (λf=>(P.info? f.type).map (·.size))=ns.map some->∀w,(fs.mapM λf=>do pure (f.offset,<-Go.sizeOf f.type):Sem (A3<|Nat×Nat)).run P w= .ok ((fs.map (·.offset)).zip ns) w:=by
 induction fs with
 |nil=>intro ns h w;cases ns<;>simp_all
 |cons f fs ih=>
  intro ns h w;cases ns with
  |nil=>simp at h
  |cons n ns=>
   simp only[MK,List.cons.injEq] at h;let⟨h1,h2⟩:=h;cases hi:P.info? f.type with
   |none=>rw[hi] at h1;cases h1
   |some i=>rw[hi] at h1;simp at h1;have:=ih h2 w;simp only[List.mapM_cons,E0,Go.sizeOf,typeInfo,program,Sem.run,hi,K6,Dm,h1];simp only[Go.sizeOf,typeInfo,program] at this;rw[this];simp
def fY(hz:Dn P T (DB l))(hT:NS P T (FJ l)=true)(hp:E2 P Γ ps l l'):Ay P Γ ⟨d,.build T ps.toArray,ty,pos,af,g⟩ (.val<|DB l'):=
 Di λw0 H0 N a w H hs=>by
  let⟨z,hzr,hzo⟩:=hz.run w;obtain⟨zc,rfl,ri⟩:=hzo H;unfold NS at hT;split at hT
  .rename_i fs hu;simp[C4,QU] at hT;let⟨h1,h2⟩:=hT;have hm:=ahO h2 w;have KR:∀i n,(FJ l)[i]? =some n->((fs.toList.map (·.offset)).zip<|FJ l).toArray[i]? =some (((FJ l).take i).sum,n):=by intro i n hi;have hlt:=(FH.1 hi).1;simp[List.getElem?_toArray,h1];rw[qB];refine⟨?_,hi⟩;simp[hlt]
   let⟨HE,hf,Aw⟩:=hp.fill KR hs ri;have hmA:(fs.mapM λf=>do pure (f.offset,<-Go.sizeOf f.type):Sem (B8<|Nat×Nat)).run P w= .ok ((fs.toList.map (·.offset)).zip<|FJ l).toArray w:=by
    have e:(fs.mapM λf=>do pure (f.offset,<-Go.sizeOf f.type):Sem (B8<|Nat×Nat))=List.toArray<$>(fs.toList.mapM λf=>do pure (f.offset,<-Go.sizeOf f.type)):=by rw[<-List.mapM_toArray]
    rw[e,Sem.run_map,hm]
    rfl
   refine⟨.agg HE,?_,⟨HE,rfl,Aw⟩,rfl⟩;have e2:(ps.toArray.map λ(i,x)=>(i,a.eval x)).toList=ps.map λp=>(p.1,a.eval p.2):=by simp
   have hf':Instr.fill (λi=>((fs.toList.map (·.offset)).zip<|FJ l).toArray[i]?) zc (ps.toArray.map λ(i,x)=>(i,a.eval x)).toList=some HE:=by rw[e2];exact hf
   simp only[execOp,Instr.build,E0,hzr,Dm,Et hu,Value.cells];rw[hmA];simp only[Dm];rw[hf'];simp
  .cases hT
def YF(hz:Dn P T (DB l))(hT:LV P T n sz=true)(hu:Fj sz l)(hp:E2 P Γ ps l l'):Ay P Γ ⟨d,.build T ps.toArray,ty,pos,af,g⟩ (.val<|DB l'):=
 Di λw0 H0 N a w H hs=>by
  let⟨z,hzr,hzo⟩:=hz.run w;obtain⟨zc,rfl,ri⟩:=hzo H;let⟨e,i,hue,hi,hsz⟩:=om hT;have KR:∀i n,(FJ l)[i]? =some n->(λi=>some (i*sz,sz)) i=some (((FJ l).take i).sum,n):=by
   intro i n hi;have hlt:=(FH.1 hi).1;simp[FJ] at hlt;simp[FJ,Gy,Option.map_eq_some_iff] at hi;obtain⟨τ,hτ,rfl⟩:=hi;have h1:=hu τ<|LM hτ
   have h2:=KW<|hu.take i
   simp only[CR,E1,EU<|Vz hlt] at h2;simp[FJ,<-List.map_take,h1,h2]
  let⟨HE,hf,Aw⟩:=hp.fill KR hs ri;refine⟨.agg HE,?_,⟨HE,rfl,Aw⟩,rfl⟩;have e2:(ps.toArray.map λ(i,x)=>(i,a.eval x)).toList=ps.map λp=>(p.1,a.eval p.2):=by simp
  have hf':Instr.fill (λi=>some (i*sz,sz)) zc (ps.toArray.map λ(i,x)=>(i,a.eval x)).toList=some HE:=by rw[e2];exact hf
  have IM:(Go.sizeOf e).run P w= .ok sz w:=by simp[Go.sizeOf,typeInfo,program,Sem.run,hi,hsz]
  simp only[execOp,Instr.build,E0,hzr,Dm,Et hue,Value.cells,IM];rw[hf'];simp
def oB{z:AV}(hz:τ.ok H z)(n:Nat):DT H (List.replicate n τ) ((Array.range<|n*τ.n).map<|λi=>z.cells[i%z.cells.size]!).toList:=by
 have hs:=τ.shape hz
 induction n with
 |zero=>simp[DT]
 |succ n ih=>
  have e:((Array.range<|(n+1)*τ.n).map<|λi=>z.cells[i%z.cells.size]!).toList=((Array.range<|n*τ.n).map<|λi=>z.cells[i%z.cells.size]!).toList++z.cells.toList:=by
   simp[Array.toList_map,Array.toList_range];rw[S4,List.range_add,Ge,Tu]
   congr 1
   apply List.ext_getElem
   .simp[hs.size]
   .intro i h1 h2;simp at h2;simp[List.getElem_map,List.getElem_range,Function.comp,Array.getElem_toList];rw[hs.size,PW,Nat.add_mul_mod_self_right,S9 (by rw[<-hs.size];exact h2)];rw[K5]
  rw[e,List.replicate_succ'];exact Rb ih ⟨z,[],by simp,hz,rfl⟩
def Gi(P:CF)(T:Am)(E:Am)(sz:Nat):Bool:=
 match P.underlying T with
 |some (.slice e)=>Nat.beq e E&&(match P.info? e with|some i=>Nat.beq i.size sz|none=>false)
 |_=>false
def uh(hz:Dn P E τ)(hT:Gi P T E sz=true)(hsz:τ.n=sz)(hpos:Nat.blt 0 (n*sz)=true)(hn:Nat.ble (n*sz) 16777216=true)(hp:E2 P Γ ps (List.replicate n τ) l')(hl:l'.length=n):Ay P Γ ⟨d,.buildSlice T n ps.toArray,ty,pos,af,g⟩ (.val<|G3 l'):=
 MC λw0 H0 N a w H hs=>by
  let⟨z,hzr,hzo⟩:=hz.run w;have aqY:=Ad hpos;unfold Gi at hT;split at hT
  .rename_i e hu;simp only[C4] at hT;let⟨h1,h2⟩:=hT;have h1:=E9 h1;subst h1;split at h2
   .rename_i i hi;have h2:=E9 h2;have hz0:=oB (hzo H) n;rw[hsz] at hz0;have KR:∀i m,(FJ<|List.replicate n τ)[i]? =some m->(λi=>some (i*sz,sz)) i=some (((FJ<|List.replicate n τ).take i).sum,m):=by
     intro i m hi;simp only[FJ,iK,List.getElem?_replicate] at hi;split at hi
     .rename_i hlt;simp at hi;subst hi;simp[FJ,iK,ZZ,hsz,EU<|Vz hlt]
     .cases hi
    let⟨HE,hf,Aw⟩:=hp.fill KR hs hz0;have e2:(ps.toArray.map λ(i,x)=>(i,a.eval x)).toList=ps.map λp=>(p.1,a.eval p.2):=by simp
    have IM:(Go.sizeOf e).run P w= .ok sz w:=by simp[Go.sizeOf,typeInfo,program,Sem.run,hi,h2]
    have hle:n*sz<=16777216:=FT hn;have atn:∀zc:B8 AV,((Array.range<|n*sz).map<|λi=>zc[i%zc.size]!)=((Array.range<|n*sz).map<|λi=>z.cells[i%z.cells.size]!)->Instr.fill (λi=>some (i*sz,sz)) ((Array.range<|n*sz).map<|λi=>zc[i%zc.size]!) (ps.toArray.map λ(i,x)=>(i,a.eval x)).toList=some HE:=by intro zc hzc;rw[hzc,e2];exact hf
    have hb:FO w.heap.size w (w.alloc<| .cells HE e):=FO.alloc _;refine⟨.slice (some ⟨w.heap.size,0,none⟩) n n,w.alloc<| .cells HE e,grow H w<|w.alloc<| .cells HE e,?_,Ext.grown hs.sub hb,?_,λb hb=>absurd hb<|AQ.free_spec rfl⟩
    .have h0: ¬n*sz=0:=by omega
     have hff:=atn z.cells rfl;simp only[execOp,Instr.buildSlice,E0,Dm,Et hu,IM];rw[if_neg (by omega)];simp only[E0,K6,Dm,if_neg h0,hzr];rw[hff];simp[newRow]
    .refine⟨_,n,by rw[hl],by omega,λ_=>⟨w.heap.size,0,HE,e,(0,0),rfl,?_,?_,?_⟩⟩
     .simp only[grow,Nat.lt_irrefl,if_false];exact Lt w _
     .have:=Mo Aw;simp at this;omega
     .have hlen:=Mo Aw;rw[Pa,D5 (by omega)];exact QL (Ext.grown hs.sub hb).le Aw
   .cases h2
  .cases hT
end
section
variable[D:DR]
variable{P:Program}{w0:Aj P}{H0:HV}{N:Nat}{Γ An:Ctx}{d:Option Tmp}{ty:TypeId}{pos:String}{af:Array Edge}{g:Option (Nat×Bool)}
def A8{Q:Exit->Act->AR->Prop}{y:Code}(h:Goal P w0 H0 N y Q Γ):EJ w0 H0 N (λa w=>y.wpIn (Fb w0.rd) 0 P Q a w) Γ:=h
def sc(t:Nat){s:AQ}{ts:A3 Nat}(h:look Γ t=some s)(r:ES Γ ts An):ES Γ (t::ts) ((t,s)::An):=ES.cons h r
end
section
variable[D:DR]
variable{P:Program}{w0:Aj P}{H0:HV}{N:Nat}{ops:Array Oper}{Γ An:Ctx}{d:Option Tmp}{ty:TypeId}{pos:String}{af:Array Edge}{g:Option (Nat×Bool)}
variable{sz:Nat}{l:A3 Ty}{T E:Am}{x:CD}{t j p:Nat}{σ:Ty}{H:HV}{ρ:Ty}
def mkB(P:CF)(T E sz bytes:Nat):Bool:=
 match P.underlying T with
 |some (.slice e)=>Nat.beq e E&&(match P.info? e with|some i=>Nat.beq i.size sz&&Nat.beq i.bytes bytes&&Nat.blt 0 sz|none=>false)
 |_=>false
theorem amL{bytes:Nat}{y:CD}{n:Nat}{τ:Ty}(hT:mkB P T E sz bytes=true)(hz:Dn P E τ)(hsz:τ.n=sz)(hx:Arg Γ x (TI .i64 n))(hy:Arg Γ y (TI .i64 n))(hn:n<=9223372036854775807)(hb:bytes*n<=140737488355328):Ay P Γ ⟨d,.makeSlice T x y,ty,pos,af,g⟩ (.buf E sz<|List.replicate n τ):=
 MC λw0 H0 N a w H hs=>by
  let⟨z,hzr,hzo⟩:=hz.run w;have e1:a.eval x= .int .i64 n:=hx.ok hs;have e2:a.eval y= .int .i64 n:=hy.ok hs;unfold mkB at hT;split at hT
  .rename_i e hu;simp only[C4] at hT;let⟨h1,h2⟩:=hT;have h1:=E9 h1;subst h1;split at h2
   .rename_i i hi;simp only[C4] at h2;let⟨⟨h2,h3⟩,h4⟩:=h2;have h2:=E9 h2;have h3:=E9 h3;have h4:=Ad h4;have hz0:=oB (hzo H) n;rw[hsz] at hz0;have hw:IntKind.i64.wrap (n:Int)=n:=wrap_i64 (by unfold Cb;omega);have NA: ¬((bytes:Int)*n>2^48):=by grind
    have IM:∀w,(Go.sizeOf e).run P w= .ok sz w:=λw=>by simp[Go.sizeOf,typeInfo,program,Sem.run,hi,h2]
    have hti:∀w,(typeInfo e).run P w= .ok i w:=λw=>by simp[typeInfo,program,Sem.run,hi]
    have Sb:askRoom ((n:Int).toNat*i.bytes)=pure ():=by unfold askRoom roomBytes;rw[if_neg];rw[h3,Cg,MJ];omega
    have Ba:FO w.heap.size w (w.alloc<| .cells ((Array.range<|n*sz).map<|λi=>z.cells[i%z.cells.size]!) e):=FO.alloc _;have F1:(Instr.makeSlice T (.int .i64 n)<| .int .i64 n).run P w= .ok (.slice (some ⟨w.heap.size,0,none⟩) n n) (w.alloc<| .cells ((Array.range<|n*sz).map<|λi=>z.cells[i%z.cells.size]!) e):=by
     have Iq: ¬((n:Int)<0):=by omega
     unfold Instr.makeSlice;simp only[E0,Et hu,Dm,asInt,asIntOf,K6,hti,hw,h3,Sb,Cg,IM];have aqx:(decide ((n:Int)<0)||decide ((bytes:Int)*n>2^48))=false:=by simp[Iq];omega
     simp only[aqx];simp[U7,false_or,Iq,Int.lt_irrefl,or_self,if_false,E0,K6,Dm,IM];by_cases h0:n*sz=0
     .have Kt:(Array.range 0:B8 Nat)= #[]:=rfl;simp[IM,h0,newRow,Kt]
     .simp[IM,h0,hzr,newRow]
    refine⟨_,_,H,by simp only[execOp,e1,e2,E0,F1,Dm];rfl,Ext.alloc hs.sub _,⟨((Array.range<|n*sz).map<|λi=>z.cells[i%z.cells.size]!).toList,⟨by simp,.inr ⟨w.heap.size,n,_,by simp,FQ _,Lt w _,by simp,?_,by simp,?_⟩⟩,hz0,?_⟩,?_⟩
    .simp[maxLen];omega
    .rw[D5 (by simp)]
    .intro b hb;simp[Value.ownBlock] at hb;subst hb;refine⟨?_,.inl hs.below.size⟩;cases hh:H w.heap.size with|none=>rfl|some o=>have:=HG hs.sub hh;omega
    .intro b hb;simp[AQ.owns,Value.ownBlock] at hb;omega
   .cases h2
  .cases hT
theorem Vu{B:Aj P}{a:Act}{w:AR}{v:AV}(h:(AQ.buf E sz l).holds B a w H v)(hne:l≠[]):∃b cap cs xs,v= .slice (some ⟨b,0,none⟩) l.length cap/\w.heap[b]? =some (.cells cs E (0,0))/\l.length<=cap/\cap<=maxLen/\cs.size=cap*sz/\xs.length=l.length*sz/\cs.toList.take (l.length*sz)=xs/\DT H l xs/\H b=none/\B.EC b:=by
 let⟨xs,⟨hx,hc⟩,ho,hn⟩:=h;rcases hc with⟨e,hl⟩|⟨g,cap,cur,e,hB,hg,hcap,hm,hcs,ht⟩
 .grind
 .subst e;exact⟨g,cap,cur,xs,rfl,hg,hcap,hm,hcs,hx,ht,ho,(hn g rfl).1,(hn g rfl).2⟩
def afK{s:Nat}{ix:CD}{k:IntKind}{i:Int}(hs:look Γ s=some (.same t))(ht:look Γ t=some (.buf E sz l))(hT:G2 P T sz=true)(hi:Arg Γ ix (TI k i))(h0:0<=i)(h1:i<l.length):Ay P Γ ⟨d,.indexAddr T (.tmp s) ix,ty,pos,af,g⟩ (.KE t i.toNat sz):=
 Di λw0 _ _ a w H BD=>by
  let⟨b,cap,cs,xs,e,hb,_⟩:=Vu (BD.holds _<|B6 ht) (λe=>by rw[e] at h1;simp at h1;omega);have e2:Ae a s=Ae a t:=BD.holds _<|B6 hs
  have e3:a.eval (.tmp s)= .slice (some ⟨b,0,none⟩) l.length cap:=e2.trans e;have ei:a.eval ix= .int k i:=hi.ok BD;exact⟨.pointer<|some ⟨b,0+i.toNat*sz,none⟩,by simp[execOp,e3,ei,lD hT b 0 l.length cap h0 h1],⟨b,_,cap,e,by simp⟩,rfl⟩
theorem afJ(hp:look Γ p=some (.KE t j sz))(ht:look Γ t=some (.buf E sz l))(hu:Fj sz l)(hj:l[j]? =some σ)(hT:Bp P T σ.n σ.agg=true):Ay P Γ ⟨d,.load T<| .tmp p,ty,pos,af,g⟩ (.val σ):=
 Di λw0 _ _ a w H BD=>by
  have Jz:=(FH.1 hj).1;let⟨b,cap,cs,xs,e,hb,hcap,_,hcs,hx,htake,ho,_,_⟩:=Vu (BD.holds _<|B6 ht) (λe=>by rw[e] at Jz;simp at Jz);let⟨b',re,bI,e1,e2⟩:=BD.holds _<|B6 hp
  simp only at e e1;rw[e] at e1;cases e1;have e3:a.eval (.tmp p)= .pointer (some ⟨b,j*sz,none⟩):=e2;let⟨p1,p2⟩:=NO ho hj;have hc:CR (l.take j)=j*sz:=by rw[KW<|hu.take _,E1,EU (by omega)]
  rw[hc] at p1 p2;have r8:l.length*sz<=cs.size:=by grind
  have Ny:List.take σ.n (List.drop (j*sz) cs.toList)=List.take σ.n (List.drop (j*sz) xs):=by
   rw[<-htake,MP,ON]
   congr 1;omega
  refine⟨_,?_,p2,rfl⟩;have hr:=RI (P:=P) hT hb (off:=j*sz) (by omega);rw[Ny] at hr;simp[execOp,e3,Instr.loadAt,Instr.sureAddr,hr]
def xq{α:Type _}{cs y:A3 α}{o s n:Nat}(hy:y.length=s)(h1:o+s<=n)(h2:n<=cs.length):List.take n (cs.take o++y++cs.drop (o+s))=List.take o (cs.take n)++y++List.drop (o+s) (cs.take n):=by
 have e1:(cs.take o++y).length=o+s:=by simp[hy];omega
 rw[WA,e1,D5 (by omega),ON,EU (by omega),MP]
theorem uE{Ai:Ctx}(BC:∀q∈Ai,q∈Γ)(hp:look Ai p=some (.KE t j sz))(ht:look Ai t=some (.buf E sz l))(hu:Fj sz l)(hj:l[j]? =some ρ)(hx:Arg Ai x σ)(hn:σ.n=sz)(hT:Bp P T σ.n σ.agg=true):Step P N ops ⟨none,.store T (.tmp p) x,ty,pos,af,none⟩ Γ ((t,.buf E sz<|l.set j σ)::BF t Γ):=by
 intro w0 H0 a w H BD K Q k;simp[Region.wanted,if_true];have Jz:=(FH.1 hj).1;let⟨b,cap,cs,xs,e,hb,hcap,hml,hcs,GN,htake,ho,hH,hB⟩:=Vu (BD.holds _ (BC _<|B6 ht)) (λe=>by rw[e] at Jz;simp at Jz);let⟨b',re,bI,e1,e2⟩:=BD.holds _ (BC _<|B6 hp);simp only at e e1;rw[e] at e1;cases e1;have ep:a.eval (.tmp p)= .pointer (some ⟨b,j*sz,none⟩):=e2;have Hx:=hx.ok<|BD.weaken BC
 have CS:=σ.shape Hx;have hρ:ρ.n=sz:=hu ρ<|LM hj
 have hc:CR (l.take j)=j*sz:=by rw[KW<|hu.take _,E1,EU (by omega)]
 let⟨p1,_⟩:=NO ho hj;rw[hc,hρ] at p1;have Mb:=Tp ho hj (hn.trans hρ.symm) Hx;rw[hc,hρ] at Mb;have r8:l.length*sz<=cs.size:=by grind
 have F1:=T4 (P:=P) (off:=j*sz) (Tj hT) CS.size hb (by rw[hn];omega) CS.cell;rw[hn] at F1;unfold Oper.wp;have er:(execOp a.eval ⟨none,.store T (.tmp p) x,ty,pos,af,none⟩).run P w= .ok .skip (w.setRow b (cs.toList.take (j*sz)++(a.eval x).cells.toList++cs.toList.drop (j*sz+sz)).toArray):=by simp[execOp,ep,Instr.storeAt,Instr.sureAddr,F1]
 rw[er,QZ]
 generalize sI:(cs.toList.take (j*sz)++(a.eval x).cells.toList++cs.toList.drop (j*sz+sz)).toArray=Dv
 have hg:Ed w (w.setRow b Dv) (some b):=Ed.setRow w b _;have hlen:(a.eval x).cells.toList.length=sz:=by rw[Fa,CS.size,hn]
 refine k a _ H (P5 BD (BC _<|B6 ht) hg hB (by simp[AQ.owns,e,Value.ownBlock]) ?_ λc hc=> .inl hc);refine⟨_,⟨?_,.inr ⟨b,cap,Dv,by simpa using e,FQ _,Ts w b _ _ _ _ hb,by simpa using hcap,hml,?_,rfl⟩⟩,?_,?_⟩
 .grind
 .grind
 .have:List.take (l.length*sz) Dv.toList=List.take (j*sz) xs++(a.eval x).cells.toList++List.drop (j*sz+sz) xs:=by rw[<-sI,<-htake];exact xq hlen (by omega) (by simp;omega)
  simp[LH];rw[this];exact Mb
 .intro c hc;simp[e,Value.ownBlock] at hc;subst hc;exact⟨hH,hB⟩
def aeo(hp:look Γ p=some (.KE t j sz))(ht:look Γ t=some (.buf E sz l))(hu:Fj sz l)(hj:l[j]? =some ρ)(hx:Arg Γ x σ)(hn:σ.n=sz)(hT:Bp P T σ.n σ.agg=true):Step P N ops ⟨none,.store T (.tmp p) x,ty,pos,af,none⟩ Γ ((t,.buf E sz<|l.set j σ)::BF t Γ):=uE (λ_ h=>h) hp ht hu hj hx hn hT
def aeS(hp:look Γ p=some (.KE t j sz))(ht:look Γ t=some (.buf E sz l))(hu:Fj sz l)(hj:l[j]? =some ρ)(hx:Arg Γ x σ)(hn:σ.n=sz)(hT:Bp P T σ.n σ.agg=true):Ov P N ops Γ ⟨none,.store T (.tmp p) x,ty,pos,af,none⟩ t (.buf E sz<|l.set j σ):=λ_ BC=>uE BC hp ht hu hj hx hn hT
def ui(hu:Fj sz l):∀{cs:A3 AV},DT H l cs->∀(lo hi:Nat),DT H ((l.take hi).drop lo) ((cs.take<|hi*sz).drop<|lo*sz):=by
 induction l with
 |nil=>intro cs h lo hi;have:cs=[]:=h;subst this;simp[DT]
 |cons τ l ih=>
  rintro cs ⟨v,rest,e,hv,hr⟩ lo hi;subst e;have h1:τ.n=sz:=hu τ (by simp);have hvs:v.cells.toList.length=sz:=by rw[Fa,(τ.shape hv).size,h1]
  cases hi with
  |zero=>simp[DT]
  |succ hi=>
   have ht:List.take ((hi+1)*sz) (v.cells.toList++rest)=v.cells.toList++List.take (hi*sz) rest:=by
    rw[S4,PW,WA,hvs,D5 (by omega)]
    congr 2;omega
   rw[ht];cases lo with
   |zero=>have:=ih (λx hx=>hu x (by simp[hx])) hr 0 hi;simp[Pa,gn,iM] at this⊢;exact⟨v,_,rfl,hv,this⟩
   |succ lo=>
    have hd:List.drop ((lo+1)*sz) (v.cells.toList++List.take (hi*sz) rest)=List.drop (lo*sz) (List.take (hi*sz) rest):=by rw[S4,PW,NX,hvs,Mx (by omega)];simp
    rw[hd];exact ih (λx hx=>hu x (by simp[hx])) hr lo hi
theorem anq(hu:Fj sz l){ad:AA Addr}{len cap:Nat}(h:(G3 l).ok H (.slice ad len cap)){lo hi m:Nat}(hlh:lo<=hi)(hhl:hi<=l.length)(nc:Nat)(hnc:hi-lo<=nc)(hm:m=lo->lo=hi):(G3<|(l.take hi).drop lo).ok H (.slice (if m=lo then ad else ad.map (·.add (lo*sz))) (hi-lo) nc):=by
 let⟨ad',bI,e,hcap,hx⟩:=h;cases e;have hlen:((l.take hi).drop lo).length=hi-lo:=by simp;omega
 refine⟨if m=lo then ad else ad.map (·.add (lo*sz)),nc,by rw[hlen],by omega,λhne=>?_⟩;have hne':l≠[]:=by grind
 have hlt:lo<hi:=by grind
 let⟨b,off,cs,E,fr,e1,hb,hs,ho⟩:=hx hne';subst e1;have hml: ¬m=lo:=λe=>by have:=hm e;omega
 have hlc:CR l=l.length*sz:=KW hu;have BC:(Fj sz<|(l.take hi).drop lo):=λx hx=>hu x<|Qe<|U8 hx
 have hcn:CR ((l.take hi).drop lo)=(hi-lo)*sz:=by rw[KW BC,hlen]
 have hmul:hi*sz<=l.length*sz:=LL _ hhl;have avA:(hi-lo)*sz+lo*sz=hi*sz:=by rw[<-Ka];congr 1;omega
 refine⟨b,off+lo*sz,cs,E,fr,by simp[hml,addr_add],hb,by omega,?_⟩;have:=ui hu ho lo hi;rw[hcn];have e2:List.take ((hi-lo)*sz) (List.drop (off+lo*sz) cs.toList)=List.drop (lo*sz) (List.take (hi*sz)<|List.take (CR l)<|List.drop off cs.toList):=by
  rw[ON,EU (by omega),MP,FR]
  congr 1;omega
 rw[e2];exact this
def akQ{lo hi:AA CD}{i:Nat}(hT:G2 P T sz=true)(hx:Arg Γ x (G3 l))(hu:Fj sz l)
 (Fi:(lo=none/\i=0)\/∃y k,lo=some y/\Arg Γ y (TI k i))(Kv:(hi=none/\j=l.length)\/∃y k,hi=some y/\Arg Γ y (TI k j))(KT:i<=j)(Jz:j<=l.length):Ay P Γ ⟨d,.slice T x lo hi none,ty,pos,af,g⟩ (.val<|G3<|(l.take j).drop i):=
 Di λw0 _ _ a w H hs=>by
  have hxo:=hx.ok hs;have at3:=hxo;let⟨ad,cap,e,hcap,hxx⟩:=at3;rw[e] at hxo;let⟨el,ii,hue,hii,hsz⟩:=pL hT;have IM:∀w,(Go.sizeOf el).run P w= .ok sz w:=λw=>by simp[Go.sizeOf,typeInfo,program,Sem.run,hii,hsz]
  have hbd:(Instr.sliceBounds true l.length cap (lo.map a.eval) (hi.map a.eval) none).run P w= .ok (i,j,cap) w:=by
   have b1:∀(k:IntKind) (code:BoundsCode),(Instr.sliceBound (.int k (j:Int)) cap code).run P w= .ok j w:=λk code=>by
    have:(j:Int)<=cap:=by omega
    simp[Instr.sliceBound,asIntOf];omega
   have b2:∀(k:IntKind) (code:BoundsCode),(Instr.sliceBound (.int k (i:Int)) j code).run P w= .ok i w:=λk code=>by simp[Instr.sliceBound,asIntOf];omega
   rcases Fi with⟨e1,e2⟩|⟨y,k,e1,e2⟩<;>rcases Kv with⟨f1,f2⟩|⟨z,k',f1,f2⟩
   .subst e1;subst f1;subst e2;subst f2;simp[Instr.sliceBounds]
   .subst e1;subst f1;subst e2;have ez:a.eval z= .int k' j:=f2.ok hs;simp[Instr.sliceBounds,ez,b1]
   .subst e1;subst f1;subst f2;have ey:a.eval y= .int k i:=e2.ok hs;simp[Instr.sliceBounds,ey,b2]
   .subst e1;subst f1;have ey:a.eval y= .int k i:=e2.ok hs;have ez:a.eval z= .int k' j:=f2.ok hs;simp[Instr.sliceBounds,ey,ez,b1,b2]
  refine⟨_,?_,anq hu hxo KT Jz (m:=cap) (cap-i) (by omega) (λe=>by omega),rfl⟩;have e3:a.eval x= .slice ad l.length cap:=e;simp[execOp,e3,Instr.sliceAt,Et hue,Instr.slice,hbd,IM]
end
section
variable[D:DR]
variable{P:Program}{N:Nat}{ops:Array Oper}{Γ An:Ctx}{d:Option Tmp}{ty:TypeId}{pos:String}{af:Array Edge}{g:Option (Nat×Bool)}
variable{T:Am}{α:Type}{x:CD}{f:α->Ty}{l:A3 α}{sz t:Nat}{n:Int}{y:CD}{E T':Am}{k:IntKind}{m i r:Int}{H:HV}{w0:Aj P}{j p:Nat}{z:α}{bytes:Nat}{v:AV}{off:Nat}{τ:Ty}{ix:CD}{dd:Nat}{T2:Am}{len:Nat}{a:Act}{w:AR}{Ex:B8 Am}{σ:Ty}{b:Bool}{lo hi:AA CD}{H0:HV}{k':IntKind}{xs:A3 CD}{args Bk:A3 Ty}
def K9{o:Oper}{s s':AQ}(h:Ay P Γ o s)(e:s=s'):Ay P Γ o s':=e▸h
@[reducible] def TS(l:A3 UInt8):Ty:=Sv ⟨l.toArray⟩
@[reducible] def lT{α:Type}(f:α->Ty)(l:A3 α):A3 Ty:=l.map f
@[reducible] def TL{α:Type}(f:α->Ty)(l:A3 α):Ty:=G3<|lT f l
@[reducible] def bL{α:Type}(f:α->Ty)(l:A3 α):Ty:=DB<|lT f l
def TN{α:Type}(f:α->Ty)(l:A3 α):Ty where
 n:=1
 agg:=false
 ok:=λH v=>(TL f l).ok H v/\(l=[]->v= .slice none 0 0)
 mono:=λh k=>⟨(TL f l).mono h k.1,k.2⟩
 shape:=λk=>(TL f l).shape k.1
def AB{α:Type}(l:A3 α):Int->AA α
 | .ofNat n=>l[n]?| .negSucc _=>none
def C6{α:Type}(l:A3 α)(lo hi:Int):AA (A3 α):=bif decide (0<=lo)&&(decide (lo<=hi)&&decide (hi<=l.length)) then some ((l.take hi.toNat).drop lo.toNat) else none
def Hb(n:Int):Bool:=decide (-9223372036854775808<=n)&&decide (n<=9223372036854775807)
def AH(n:Int):AA Int:=bif Hb n then some n else none
def BG{α:Type}(bytes:Nat)(l m:A3 α):AA (A3 α):=bif decide ((l.length+m.length)*bytes<=140737488355328)&&decide (l.length+m.length<=9223372036854775807) then some (l++m) else none
def mk_{α:Type}(bytes:Nat)(n:Int)(z:α):AA (A3 α):=bif decide (0<=n)&&(decide (n<=9223372036854775807)&&decide (bytes*n<=140737488355328)) then some (List.replicate n.toNat z) else none
def IK(l m:A3 UInt8):AA (A3 UInt8):=bif decide (l.length+m.length<=9223372036854775807) then some (l++m) else none
def Gh(m n:Int):AA Int:=bif decide (n=0) then none else AH (m.tdiv n)
def Fs(m n:Int):AA Int:=bif decide (n=0) then none else some (m.tmod n)
def I6{x:α}(h:AB l i=some x):0<=i/\i<l.length/\l[i.toNat]? =some x:=by
 cases i with
 |ofNat n=>have h':l[n]? =some x:=h;have:=(FH.1 h').1;refine⟨Int.natCast_nonneg n,?_,h'⟩;show(n:Int)<_;omega
 |negSucc n=>cases h
theorem xr{r:A3 α}{lo hi:Int}(h:C6 l lo hi=some r):0<=lo/\lo<=hi/\hi<=l.length/\r=(l.take hi.toNat).drop lo.toNat:=by grind [C6]
def aj8(h:Hb n=true):Cb n:=by simpa[Hb,Cb] using h
theorem Yr(h:AH n=some r):Cb n/\r=n:=by
 unfold AH at h;cases hc:Hb n
 .grind
 .rw[hc] at h;exact⟨aj8 hc,(E8 h).symm⟩
theorem Yc{b:Nat}{m r:A3 α}(h:BG b l m=some r):(l.length+m.length)*b<=140737488355328/\l.length+m.length<=9223372036854775807/\r=l++m:=by grind [BG]
theorem amR{b:Nat}{r:A3 α}(h:mk_ b n z=some r):∃m:Nat,n=m/\m<=9223372036854775807/\b*m<=140737488355328/\r=List.replicate m z:=by
 unfold mk_ at h;cases hc:(decide (0<=n)&&(decide (n<=9223372036854775807)&&decide (b*n<=140737488355328)))
 .grind
 .grind
theorem aiW{l m r:A3 UInt8}(h:IK l m=some r):l.length+m.length<=9223372036854775807/\r=l++m:=by
 unfold IK at h;cases hc:decide (l.length+m.length<=9223372036854775807)
 .grind
 .grind
theorem alG(h:Gh m n=some r):n≠0/\Cb (m.tdiv n)/\r=m.tdiv n:=by
 unfold Gh at h;cases hc:decide (n=0)
 .rw[hc] at h;let⟨h1,h2⟩:=Yr h;exact⟨Bg hc,h1,h2⟩
 .grind
theorem akA(h:Fs m n=some r):n≠0/\r=m.tmod n:=by
 unfold Fs at h;cases hc:decide (n=0)
 .grind
 .grind
def dr(l:A3 UInt8):(⟨l.toArray⟩:ByteArray).toList=l:=by
 have key:∀(b:ByteArray) (n:Nat) (i:Nat) (r:A3 UInt8),b.size-i=n->i<=b.size->ByteArray.toList.loop b i r=r.reverse++b.data.toList.drop i:=by
  intro b n
  induction n with
  |zero=>
   intro i r hn hi;unfold ByteArray.toList.loop;have: ¬i<b.size:=by omega
   rw[if_neg this,List.drop_eq_nil_of_le (by simp[Fa];exact po this)];simp
  |succ n ih=>
   intro i r hn hi;unfold ByteArray.toList.loop;have hlt:i<b.size:=by omega
   rw[if_pos hlt,ih (i+1) _ (by omega) (by omega)];have hl:i<b.data.toList.length:=by simpa using hlt
   rw[UC hl];have:b.get! i=b.data.toList[i]:=by
    cases b with
    |mk a=>show a[i]! =_;rw[K5 a i hlt];simp
   simp[this]
 unfold ByteArray.toList;rw[key _ _ 0 [] rfl<|FQ _];simp
def Arg.s{b:ByteArray}{l:A3 UInt8}(h:b=⟨l.toArray⟩):Arg Γ (.const<| .string b) (TS l):=⟨λ_=>by subst h;rfl⟩
def Arg.nl:Arg Γ (.const<| .slice none 0 0) (TL f []):=Arg.abZ
def Arg.nn:Arg Γ (.const<| .slice none 0 0) (TN f []):=⟨λhs=>⟨(Arg.abZ (Γ:=Γ)).ok hs,λ_=>rfl⟩⟩
def rN:∀H v,(TN f l).ok H v->(TL f l).ok H v:=λ_ _ h=>h.1
theorem rO(h:l.isEmpty=false):∀H v,(TL f l).ok H v->(TN f l).ok H v:=by simp_all [Ty.ok,TL,TN]
def NV{m n r:A3 UInt8}(hx:Arg Γ x (TS m))(hy:Arg Γ y (TS n))(h:IK m n=some r):Ay P Γ ⟨d,.binOp .add T x y T',ty,pos,af,g⟩ (.val<|TS r):=
 I9 hx hy λH u v hu hv w _=>by
  cases hu;cases hv;let⟨h1,h2⟩:=aiW h;subst h2;have hsz: ¬(((⟨m.toArray⟩:ByteArray).size+(⟨n.toArray⟩:ByteArray).size:Nat):Int)>IntKind.i64.max:=by
   have e1:(⟨m.toArray⟩:ByteArray).size=m.length:=by simp[ByteArray.size]
   have e2:(⟨n.toArray⟩:ByteArray).size=n.length:=by simp[ByteArray.size]
   rw[e1,e2];have:IntKind.i64.max=9223372036854775807:=rfl;rw[this];omega
  refine⟨.string<|⟨m.toArray⟩++⟨n.toArray⟩,?_,?_⟩
  .simp only[eqGuard,binOp,Op.stringOp,if_neg hsz];rfl
  .show Value.string _=Value.string _
   congr 1
def Pl{m n:A3 UInt8}(hx:Arg Γ x (TS m))(hy:Arg Γ y (TS n)):Ay P Γ ⟨d,.binOp .eql T x y T',ty,pos,af,g⟩ (.val<|Av<|m==n):=by have:=aoE (P:=P) (d:=d) (ty:=ty) (pos:=pos) (af:=af) (g:=g) (T:=T) (T':=T') hx hy;rwa [dr,dr] at this
def aar{m n:A3 UInt8}(hx:Arg Γ x (TS m))(hy:Arg Γ y (TS n)):Ay P Γ ⟨d,.binOp .neq T x y T',ty,pos,af,g⟩ (.val<|Av<| !(m==n)):=by have:=ao9 (P:=P) (d:=d) (ty:=ty) (pos:=pos) (af:=af) (g:=g) (T:=T) (T':=T') hx hy;rwa [dr,dr] at this
def EM{s:A3 UInt8}(hT:isStr P T=true)(hx:Arg Γ x (TS s)):Ay P Γ ⟨d,.call ⟨.builtin .len,#[x],#[T]⟩,ty,pos,af,g⟩ (.val<|TI .i64 s.length):=by
 have:=ahJ (P:=P) (d:=d) (ty:=ty) (pos:=pos) (af:=af) (g:=g) hT hx;have e:(⟨s.toArray⟩:ByteArray).size=s.length:=by simp[ByteArray.size]
 rwa [e] at this
def Mn{s:A3 UInt8}{b:UInt8}(hT:isStr P T=true)(hx:Arg Γ x (TS s))(hy:Arg Γ y (TI k i))(h:AB s i=some b):Ay P Γ ⟨d,.index T x y,ty,pos,af,g⟩ (.val<|TI .u8 b.toNat):=
 Di λ_ _ _ a w H hs=>by
  have e:a.eval x= .string ⟨s.toArray⟩:=hx.ok hs;have e2:a.eval y= .int k i:=hy.ok hs;let⟨h1,h2,h3⟩:=I6 h;have hlt:=(FH.1 h3).1;have h4:(⟨s.toArray⟩:ByteArray)[i.toNat]? =some b:=by
   have atN:i.toNat<(⟨s.toArray⟩:ByteArray).size:=by simpa[ByteArray.size] using hlt
   rw[getElem?_pos (⟨s.toArray⟩:ByteArray) i.toNat atN]
   congr 1
   show s.toArray[i.toNat]'_=b;rw[Gf hlt] at h3;simpa using h3
  exact⟨_,by simp[execOp,e,e2,Instr.index,asIntOf,Et<|nJ hT,h1,h4],rfl,rfl⟩
inductive Lo(Γ:Ctx):AA CD->Int->Int->Prop where
 |none {n:Int}:Lo Γ none n n|some {y:CD} {k:IntKind} {i n:Int} (h:Arg Γ y (TI k i)):Lo Γ (some y) n i
def tY{cap:Nat}{j:Int}(Fi:Lo Γ lo 0 i)(Kv:Lo Γ hi len j)(h0:0<=i)(KT:i<=j)(hj:j<=len)(hlc:len<=cap){N:Nat}(hs:Sat w0 H0 N Γ a w H):(Instr.sliceBounds b len cap (lo.map a.eval) (hi.map a.eval) none).run P w= .ok (i.toNat,j.toNat,cap) w:=by
 have b1:∀(k:IntKind) (code:BoundsCode),(Instr.sliceBound (.int k j) cap code).run P w= .ok j.toNat w:=λk code=>by
  have:0<=j/\j<=cap:=by omega
  simp[Instr.sliceBound,asIntOf,this]
 have b2:∀(k:IntKind) (code:BoundsCode),(Instr.sliceBound (.int k i) j.toNat code).run P w= .ok i.toNat w:=λk code=>by
  have h1:i<=(j.toNat:Int):=by omega
  simp only[Instr.sliceBound,asIntOf,E0,K6,Dm,if_pos<|And.intro h0 h1]
 cases Fi with
 |none=>cases Kv with|none=>simp[Instr.sliceBounds]|some hz=>have ez:=hz.ok hs;simp[rP] at ez;simp[Instr.sliceBounds,ez,b1]
 |some hy=>
  have ey:=hy.ok hs;simp[rP] at ey;cases Kv with
  |none=>
   have b2':∀(k:IntKind) (code:BoundsCode),(Instr.sliceBound (.int k i) len code).run P w= .ok i.toNat w:=λk code=>by simpa using b2 k code
   simp[Instr.sliceBounds,ey,b2']
  |some hz=>have ez:=hz.ok hs;simp[rP] at ez;simp[Instr.sliceBounds,ez,ey,b1,b2]
def HO{s r:A3 UInt8}{j:Int}(hT:isStr P T=true)(hx:Arg Γ x (TS s))(Fi:Lo Γ lo 0 i)(Kv:Lo Γ hi s.length j)(h:C6 s i j=some r):Ay P Γ ⟨d,.slice T x lo hi none,ty,pos,af,g⟩ (.val<|TS r):=
 Di λ_ _ _ a w H hs=>by
  let⟨h1,h2,h3,h4⟩:=xr h;subst h4;have e:a.eval x= .string ⟨s.toArray⟩:=hx.ok hs;have esz:(⟨s.toArray⟩:ByteArray).size=s.length:=by simp[ByteArray.size]
  have hbd:=tY (P:=P) (b:=false) Fi Kv h1 h2 h3 (BK _) hs;refine⟨.string<|(⟨s.toArray⟩:ByteArray).extract i.toNat j.toNat,?_,?_,rfl⟩
  .simp[execOp,e,Instr.sliceAt,Et<|nJ hT,Instr.slice,esz,hbd]
  .show Value.string _=Value.string _
   congr 1
   apply ByteArray.ext;rw[ByteArray.data_extract];simp[List.extract_eq_take_drop,MP]
def KY(hT:Du P T=true)(hx:Arg Γ x (TL f l)):Ay P Γ ⟨d,.call ⟨.builtin .len,#[x],#[T]⟩,ty,pos,af,g⟩ (.val<|TI .i64 l.length):=by have:=aoD (P:=P) (d:=d) (ty:=ty) (pos:=pos) (af:=af) (g:=g) hT hx;rwa [Be] at this
def NN{s:Nat}(hT:Du P T=true)(hs:look Γ s=some (.same t))(ht:look Γ t=some (.buf E sz<|lT f l)):Ay P Γ ⟨d,.call ⟨.builtin .len,#[.tmp s],#[T]⟩,ty,pos,af,g⟩ (.val<|TI .i64 l.length):=by have:=agL (P:=P) (d:=d) (ty:=ty) (pos:=pos) (af:=af) (g:=g) hT hs ht;rwa [Be] at this
def amM(hT:Du P T=true)(ht:look Γ t=some (.buf E sz<|lT f l)):Ay P Γ ⟨d,.call ⟨.builtin .len,#[.tmp t],#[T]⟩,ty,pos,af,g⟩ (.val<|TI .i64 l.length):=
 Di λ_ _ _ a w H BD=>by
  let⟨ad,cap,e⟩:=aaR<|BD.holds _<|B6 ht
  have e3:a.eval (.tmp t)= .slice ad (lT f l).length cap:=e;rw[Be] at e3;exact⟨_,by simp[execOp,resolve,invoke,builtin,e3,nD hT],rfl,rfl⟩
def FF{y:α}(hT:G2 P T sz=true)(hf:∀z,(f z).n=sz)(hx:Arg Γ x (TL f l))(hi:Arg Γ ix (TI k i))(h:AB l i=some y):Ay P Γ ⟨d,.indexAddr T x ix,ty,pos,af,g⟩ (.val<|Jp<|f y):=by let⟨h1,h2,h3⟩:=I6 h;exact agM hx hT (K4 hf l) hi h1 (by rw[Gy,h3];rfl)
def Cy{s:Nat}{y:α}(hT:G2 P T sz=true)(hs:look Γ s=some (.same t))(ht:look Γ t=some (.buf E sz<|lT f l))(hi:Arg Γ ix (TI k i))(h:AB l i=some y):Ay P Γ ⟨d,.indexAddr T (.tmp s) ix,ty,pos,af,g⟩ (.KE t i.toNat sz):=by let⟨h1,h2,h3⟩:=I6 h;exact afK hs ht hT hi h1 (by rw[Be];exact h2)
def FE{y:α}(hf:∀z,(f z).n=sz)(hp:look Γ p=some (.KE t j sz))(ht:look Γ t=some (.buf E sz<|lT f l))(h:l[j]? =some y)(hT:Bp P T (f y).n (f y).agg=true):Ay P Γ ⟨d,.load T<| .tmp p,ty,pos,af,g⟩ (.val<|f y):=afJ hp ht (K4 hf l) (by rw[Gy,h];rfl) hT
def Jh{y:α}(hf:∀z,(f z).n=sz)(hp:look Γ p=some (.KE t j sz))(ht:look Γ t=some (.buf E sz<|lT f l))(h:l[j]? =some z)(hx:Arg Γ x (f y))(hT:Bp P T (f y).n (f y).agg=true):Step P N ops ⟨none,.store T (.tmp p) x,ty,pos,af,none⟩ Γ ((t,.buf E sz<|lT f<|l.set j y)::BF t Γ):=by have:=aeo (P:=P) (N:=N) (ops:=ops) (ty:=ty) (pos:=pos) (af:=af) hp ht (K4 hf l) (by rw[Gy,h];rfl) hx (hf y) hT;rwa [show(lT f l).set j (f y)=lT f (l.set j y) from by simp[lT,Tv]] at this
def pI{y:α}(hf:∀z,(f z).n=sz)(hp:look Γ p=some (.KE t j sz))(ht:look Γ t=some (.buf E sz<|lT f l))(h:l[j]? =some z)(hx:Arg Γ x (f y))(hT:Bp P T (f y).n (f y).agg=true):Ov P N ops Γ ⟨none,.store T (.tmp p) x,ty,pos,af,none⟩ t (.buf E sz<|lT f<|l.set j y):=by have:=aeS (P:=P) (N:=N) (ops:=ops) (ty:=ty) (pos:=pos) (af:=af) hp ht (K4 hf l) (by rw[Gy,h];rfl) hx (hf y) hT;rwa [show(lT f l).set j (f y)=lT f (l.set j y) from by simp[lT,Tv]] at this
def UT:maxLen=9223372036854775807:=rfl
def Dw{m r:A3 α}{s:Nat}(Ga:Du P T2=true)(hT:Fu P T E sz bytes=true)(hf:∀z,(f z).n=sz)(hs:look Γ s=some (.same t))(ht:look Γ t=some (.buf E sz<|lT f l))(hx:Arg Γ x (TL f m))(h:BG bytes l m=some r)(DJ:dd<N):Step P N ops ⟨some dd,.call ⟨.builtin .append,#[.tmp s,x],#[T,T2]⟩,ty,pos,af,none⟩ Γ ((dd,.buf E sz<|lT f r)::del dd (BF t Γ)):=by let⟨h1,h2,h3⟩:=Yc h;subst h3;have:=aiK (P:=P) (Ga:=Ga) (N:=N) (ops:=ops) (ty:=ty) (pos:=pos) (af:=af) hs ht hx hT (K4 hf m) (by rw[Be,Be,UT];exact h2) (by rw[Be,Be];exact h1) DJ;rwa [show lT f l++lT f m=lT f (l++m) from by simp[lT]] at this
def PQ{m r:A3 α}(Ga:Du P T2=true)(hT:Fu P T E sz bytes=true)(hf:∀z,(f z).n=sz)(ht:look Γ t=some (.buf E sz<|lT f l))(hx:Arg Γ x (TL f m))(h:BG bytes l m=some r)(DJ:dd<N):Step P N ops ⟨some dd,.call ⟨.builtin .append,#[.tmp t,x],#[T,T2]⟩,ty,pos,af,none⟩ Γ ((dd,.buf E sz<|lT f r)::del dd (BF t Γ)):=by let⟨h1,h2,h3⟩:=Yc h;subst h3;have:=agw (P:=P) (Ga:=Ga) (N:=N) (ops:=ops) (ty:=ty) (pos:=pos) (af:=af) ht hx hT (K4 hf m) (by rw[Be,Be,UT];exact h2) (by rw[Be,Be];exact h1) DJ;rwa [show lT f l++lT f m=lT f (l++m) from by simp[lT]] at this
def Rr{m r:A3 α}{s:Nat}(Ga:Du P T2=true)(hT:Fu P T E sz bytes=true)(hf:∀z,(f z).n=sz)(hs:look Γ s=some (.same t))(ht:look Γ t=some (.buf E sz<|lT f l))(hx:Arg Γ x (TL f m))(h:BG bytes l m=some r)(DJ:dd<N):Q2 P N ops Γ ⟨some dd,.call ⟨.builtin .append,#[.tmp s,x],#[T,T2]⟩,ty,pos,af,none⟩ t dd (.buf E sz<|lT f r):=by let⟨h1,h2,h3⟩:=Yc h;subst h3;have:=ajD (P:=P) (Ga:=Ga) (N:=N) (ops:=ops) (ty:=ty) (pos:=pos) (af:=af) hs ht hx hT (K4 hf m) (by rw[Be,Be,UT];exact h2) (by rw[Be,Be];exact h1) DJ;rwa [show lT f l++lT f m=lT f (l++m) from by simp[lT]] at this
def an9{m r:A3 α}{s:Nat}{hv:v.oneCell'=true}(Ga:Du P T2=true)(hT:Fu P T E sz bytes=true)(hf:∀z,(f z).n=sz)(hs:look Γ s=some (.val<|TEq v hv))(ht:look Γ t=some (.Nt v E sz<|lT f l))(hx:Arg Γ x (TL f m))(h:BG bytes l m=some r)(DJ:dd<N):Q2 P N ops Γ ⟨some dd,.call ⟨.builtin .append,#[.tmp s,x],#[T,T2]⟩,ty,pos,af,none⟩ t dd (.buf E sz<|lT f r):=λEK BC=>by let⟨h1,h2,h3⟩:=Yc h;subst h3;have:=agv (P:=P) (Ga:=Ga) (N:=N) (ops:=ops) (ty:=ty) (pos:=pos) (af:=af) BC hs ht hx hT (K4 hf m) (by rw[Be,Be,UT];exact h2) (by rw[Be,Be];exact h1) DJ;rwa [show lT f l++lT f m=lT f (l++m) from by simp[lT]] at this
def Pd{m r:A3 α}(Ga:Du P T2=true)(hT:Fu P T E sz bytes=true)(hf:∀z,(f z).n=sz)(ht:look Γ t=some (.buf E sz<|lT f l))(hx:Arg Γ x (TL f m))(h:BG bytes l m=some r)(DJ:dd<N):Q2 P N ops Γ ⟨some dd,.call ⟨.builtin .append,#[.tmp t,x],#[T,T2]⟩,ty,pos,af,none⟩ t dd (.buf E sz<|lT f r):=by let⟨h1,h2,h3⟩:=Yc h;subst h3;have:=ahS (P:=P) (Ga:=Ga) (N:=N) (ops:=ops) (ty:=ty) (pos:=pos) (af:=af) ht hx hT (K4 hf m) (by rw[Be,Be,UT];exact h2) (by rw[Be,Be];exact h1) DJ;rwa [show lT f l++lT f m=lT f (l++m) from by simp[lT]] at this
def CO(f:α->Ty)(E:Am)(sz:Nat):Ay P Γ ⟨d,.assign<| .const<| .slice none 0 0,ty,pos,af,g⟩ (.buf E sz<|lT f []):=aix
def CX(ht:look Γ t=some (.buf E sz<|lT f l)):II w0 N Γ ((t,.val<|TL f l)::BF t Γ):=amA ht
def Ps(f:α->Ty){r:A3 α}(hT:mkB P T E sz bytes=true)(hz:Dn P E (f z))(hsz:(f z).n=sz)(hx:Arg Γ x (TI .i64 n))(hy:Arg Γ y (TI .i64 n))(h:mk_ bytes n z=some r):Ay P Γ ⟨d,.makeSlice T x y,ty,pos,af,g⟩ (.buf E sz<|lT f r):=by let⟨m,h1,h2,h3,h4⟩:=amR h;subst h1;subst h4;have:=amL (P:=P) (d:=d) (ty:=ty) (pos:=pos) (af:=af) (g:=g) hT hz hsz hx hy h2 h3;rwa [show List.replicate m (f z)=lT f (List.replicate m z) from by simp[lT]] at this
def OD{r:A3 α}{j:Int}(hT:G2 P T sz=true)(hf:∀z,(f z).n=sz)(hx:Arg Γ x (TL f l))(Fi:Lo Γ lo 0 i)(Kv:Lo Γ hi l.length j)(h:C6 l i j=some r):Ay P Γ ⟨d,.slice T x lo hi none,ty,pos,af,g⟩ (.val<|TL f r):=by
 let⟨h1,h2,h3,h4⟩:=xr h;subst h4;have hi':((i.toNat:Nat):Int)=i:=by omega
 have hj':((j.toNat:Nat):Int)=j:=by omega
 have:=akQ (P:=P) (d:=d) (ty:=ty) (pos:=pos) (af:=af) (g:=g) (lo:=lo) (hi:=hi) (i:=i.toNat) (j:=j.toNat) hT hx (K4 hf l)
  (by cases Fi with|none=>exact .inl ⟨rfl,rfl⟩|some hy=>exact .inr ⟨_,_,rfl,by rw[hi'];exact hy⟩)
  (by cases Kv with|none=>exact .inl ⟨rfl,by rw[Be];omega⟩|some hy=>exact .inr ⟨_,_,rfl,by rw[hj'];exact hy⟩)
  (by omega) (by rw[Be];omega)
 rwa [show((lT f l).take j.toNat).drop i.toNat=lT f ((l.take j.toNat).drop i.toNat) from by simp[lT,qC,List.map_drop]] at this
def xE(h:Du P T=true)(ad:AA Addr)(n c:Nat)(w:AR):(Op.equal T (.slice ad n c)<| .slice none 0 0).run P w= .ok ad.isNone w:=by
 let⟨e,hu⟩:=fH h;have key:∀d,(Op.equalIn (d+1) T (.slice ad n c)<| .slice none 0 0).run P w= .ok ad.isNone w:=by intro d;unfold Op.equalIn;cases ad<;>simp[Et hu]
 exact key 9999
def abP(h:(TN f l).ok H v):∃ad n c,v= .slice ad n c/\ad.isNone=l.isEmpty:=by
 let⟨⟨ad,cap,e,_,hx⟩,hn⟩:=h;cases l with
 |nil=>exact⟨none,0,0,hn rfl,rfl⟩
 |cons y l=>let⟨b,off,cs,E,fr,e1,_⟩:=hx (by simp[lT]);exact⟨ad,_,cap,e,by subst e1;rfl⟩
def MO(hT:Du P T=true)(hx:Arg Γ x (TN f l)):Ay P Γ ⟨d,.binOp .eql T x (.const<| .slice none 0 0) T',ty,pos,af,g⟩ (.val<|Av l.isEmpty):=
 Di λ_ _ _ a w H hs=>by
  let⟨ad,n,c,e,h⟩:=abP<|hx.ok hs
  refine⟨.bool ad.isNone,?_,by rw[h];rfl,rfl⟩;have e2:a.eval (.const<| .slice none 0 0)= .slice none 0 0:=rfl;simp[execOp,e,e2,eqGuard,binOp,xE hT]
def aoA(hT:Du P T=true)(hx:Arg Γ x (TN f l)):Ay P Γ ⟨d,.binOp .neq T x (.const<| .slice none 0 0) T',ty,pos,af,g⟩ (.val<|Av<| !l.isEmpty):=
 Di λ_ _ _ a w H hs=>by
  let⟨ad,n,c,e,h⟩:=abP<|hx.ok hs
  refine⟨.bool<| !ad.isNone,?_,by rw[h];rfl,rfl⟩;have e2:a.eval (.const<| .slice none 0 0)= .slice none 0 0:=rfl;simp[execOp,e,e2,eqGuard,binOp,xE hT]
def Cq(hx:Arg Γ x (TI .i64 m))(hy:Arg Γ y (TI .i64 n))(h:AH (m+n)=some r):Ay P Γ ⟨d,.binOp .add T x y T',ty,pos,af,g⟩ (.val<|TI .i64 r):=by let⟨h1,h2⟩:=Yr h;subst h2;exact amO hx hy h1
def CW(hx:Arg Γ x (TI .i64 m))(hy:Arg Γ y (TI .i64 n))(h:AH (m-n)=some r):Ay P Γ ⟨d,.binOp .sub T x y T',ty,pos,af,g⟩ (.val<|TI .i64 r):=by let⟨h1,h2⟩:=Yr h;subst h2;exact amF hx hy h1
def Ll(hx:Arg Γ x (TI .i64 m))(hy:Arg Γ y (TI .i64 n))(h:AH (m*n)=some r):Ay P Γ ⟨d,.binOp .mul T x y T',ty,pos,af,g⟩ (.val<|TI .i64 r):=by let⟨h1,h2⟩:=Yr h;subst h2;exact amK hx hy h1
def pU(hx:Arg Γ x (TI .i64 n))(h:AH (-n)=some r):Ay P Γ ⟨d,.unOp .neg T x,ty,pos,af,g⟩ (.val<|TI .i64 r):=by let⟨h1,h2⟩:=Yr h;subst h2;exact amJ hx h1
def NU(hx:Arg Γ x (TI .i64 m))(hy:Arg Γ y (TI .i64 n))(h:Gh m n=some r):Ay P Γ ⟨d,.binOp .quo T x y T',ty,pos,af,g⟩ (.val<|TI .i64 r):=by let⟨h1,h2,h3⟩:=alG h;subst h3;exact amI hx hy h1 h2
def LA(hx:Arg Γ x (TI k m))(hy:Arg Γ y (TI k n))(h:Fs m n=some r):Ay P Γ ⟨d,.binOp .rem T x y T',ty,pos,af,g⟩ (.val<|TI k r):=by let⟨h1,h2⟩:=akA h;subst h2;exact ao8 hx hy h1
@[reducible] def wr(k:IntKind)(n:Int):Int:=k.wrap n
def Ul(k:IntKind)(m n:Int):AA Int:=bif decide (n=0) then none else some (wr k<|m.tdiv n)
theorem pT(hx:Arg Γ x (TI k m))(hy:Arg Γ y (TI k n))(h:Ul k m n=some r):Ay P Γ ⟨d,.binOp .quo T x y T',ty,pos,af,g⟩ (.val<|TI k r):=by
 unfold Ul at h;cases hc:decide (n=0)
 .rw[hc] at h;have:=(E8 h);subst this;exact aap hx hy<|Bg hc
 .grind
def GW(op:BinOp)(k:IntKind)(x y:Int):Int:=
 let a:=BitVec.ofInt k.bits x
 let b:=BitVec.ofInt k.bits y
 match op with| .and=>k.wrap (a&&&b).toNat| .or=>k.wrap (a|||b).toNat| .xor=>k.wrap (a^^^b).toNat| .andNot=>k.wrap (a&&& ~~~b).toNat|_=>0
def pX(hx:Arg Γ x (TI k m))(hy:Arg Γ y (TI k n)):Ay P Γ ⟨d,.binOp .and T x y T',ty,pos,af,g⟩ (.val<|TI k<|GW .and k m n):=
 I9 hx hy λH u v hu hv w _=>by cases hu;cases hv;exact⟨_,by simp[eqGuard,binOp,Op.intBits];rfl,rfl⟩
def qV(hx:Arg Γ x (TI k m))(hy:Arg Γ y (TI k n)):Ay P Γ ⟨d,.binOp .or T x y T',ty,pos,af,g⟩ (.val<|TI k<|GW .or k m n):=
 I9 hx hy λH u v hu hv w _=>by cases hu;cases hv;exact⟨_,by simp[eqGuard,binOp,Op.intBits];rfl,rfl⟩
def Ma(k:IntKind)(x y:Int):AA Int:=bif decide (y<0) then none else some (k.wrap<|x*2^(min y.toNat k.bits))
def MZ(k:IntKind)(x y:Int):AA Int:=bif decide (y<0) then none else some (x.fdiv<|2^(min y.toNat k.bits))
theorem Zy(hx:Arg Γ x (TI k m))(hy:Arg Γ y (TI k' n))(h:Ma k m n=some r):Ay P Γ ⟨d,.binOp .shl T x y T',ty,pos,af,g⟩ (.val<|TI k r):=
 I9 hx hy λH u v hu hv w _=>by
  cases hu;cases hv;unfold Ma at h;cases hc:decide (n<0)
  .rw[hc] at h;have:=E8 h;subst this;exact⟨_,by simp only[eqGuard,binOp,Op.shift,if_neg<|Bg hc];rfl,rfl⟩
  .grind
theorem UN(hx:Arg Γ x (TI k m))(hy:Arg Γ y (TI k' n))(h:MZ k m n=some r):Ay P Γ ⟨d,.binOp .shr T x y T',ty,pos,af,g⟩ (.val<|TI k r):=
 I9 hx hy λH u v hu hv w _=>by
  cases hu;cases hv;unfold MZ at h;cases hc:decide (n<0)
  .rw[hc] at h;have:=E8 h;subst this;exact⟨_,by simp only[eqGuard,binOp,Op.shift,if_neg<|Bg hc];rfl,rfl⟩
  .grind
def asv:IntKind->IntKind->Bool:=λa b=>decide<|a=b
def Sq(P:CF)(T:Am)(k:IntKind):Bool:=match P.underlying T with|some (.int k')=>asv k k'|_=>false
def xd(h:Sq P T k=true):P.underlying T=some (.int k):=by
 unfold Sq at h;split at h
 .rename_i k' hu;rw[hu,Ar h]
 .cases h
def Rn{S:Am}(hS:Sq P S k=true)(hT:Sq P T k'=true)(hx:Arg Γ x (TI k n)):Ay P Γ ⟨d,.convert S T x,ty,pos,af,g⟩ (.val<|TI k'<|wr k' n):=
 Di λ_ _ _ a w H hs=>by have e:a.eval x= .int k n:=hx.ok hs;exact⟨_,by simp[execOp,e,convert,Et<|xd hS,Et<|xd hT,Conv.intToInt],rfl,rfl⟩
def pW{m n:Bool}(hT:Wr P T=true)(hx:Arg Γ x (Av m))(hy:Arg Γ y (Av n)):Ay P Γ ⟨d,.binOp .eql T x y T',ty,pos,af,g⟩ (.val<|Av<|m==n):=aoF hT hx hy
def gR{m n:Bool}(hT:Wr P T=true)(hx:Arg Γ x (Av m))(hy:Arg Γ y (Av n)):Ay P Γ ⟨d,.binOp .neq T x y T',ty,pos,af,g⟩ (.val<|Av<| !(m==n)):=
 I9 hx hy λH u v hu hv w _=>by
  cases hu;cases hv;have hu:P.underlying T=some .bool:=by
   unfold Wr at hT;split at hT
   .assumption
   .cases hT
  refine⟨.bool<| !(m==n),?_,rfl⟩;have e:(Op.equal T (.bool m)<| .bool n).run P w= .ok (m==n) w:=run_equalIn_bool w 9999 T m n hu;simp[eqGuard,binOp,e]
def mx_(x y:Int):Int:=bif decide (x<y) then y else x
def mn_(x y:Int):Int:=bif decide (y<x) then y else x
theorem gU(hx:Arg Γ x (TI k m))(hy:Arg Γ y (TI k n)):Ay P Γ ⟨d,.call ⟨.builtin .max,#[x,y],Ex⟩,ty,pos,af,g⟩ (.val<|TI k<|mx_ m n):=
 Di λ_ _ _ a w H hs=>by
  have e:a.eval x= .int k m:=hx.ok hs;have e2:a.eval y= .int k n:=hy.ok hs;refine⟨.int k<|if n>m then n else m,?_,?_,rfl⟩
  .simp[execOp,resolve,invoke,builtin,e,e2,Builtin.max_,Builtin.max2]
  .show Value.int k _=Value.int k _;unfold mx_;cases hc:decide (m<n)
   .grind
   .grind
theorem za(hx:Arg Γ x (TI k m))(hy:Arg Γ y (TI k n)):Ay P Γ ⟨d,.call ⟨.builtin .min,#[x,y],Ex⟩,ty,pos,af,g⟩ (.val<|TI k<|mn_ m n):=
 Di λ_ _ _ a w H hs=>by
  have e:a.eval x= .int k m:=hx.ok hs;have e2:a.eval y= .int k n:=hy.ok hs;refine⟨.int k<|if n<m then n else m,?_,?_,rfl⟩
  .simp[execOp,resolve,invoke,builtin,e,e2,Builtin.min_,Builtin.min2]
  .show Value.int k _=Value.int k _;unfold mn_;cases hc:decide (n<m)
   .grind
   .grind
structure qN(P:CF)(f:FuncId)(args:A3 Ty)(Bk:A3 Ty):Prop where
 run:∀(w:AR) (H:HV) (vs:A3 AV),Ec H args vs->∃v w',(callFunc f vs.toArray).run P w= .ok (.value v) w'/\FO w.heap.size w w'/\LQ H Bk v
def Pk{f:FuncId}(hf:qN P f args Bk)(ha:AT Γ xs args):Ay P Γ ⟨d,.call ⟨.value<| .func f,xs.toArray,Ex⟩,ty,pos,af,g⟩ (Ip Bk):=
 MC λw0 H0 N a w H hs=>by
  let⟨v,w',h1,h2,h3⟩:=hf.run w H _<|ha.ok hs
  have e:execOp a.eval ⟨d,.call ⟨.value<| .func f,xs.toArray,Ex⟩,ty,pos,af,g⟩=callFunc f (#[]++xs.toArray.map a.eval++ #[]):=rfl;have e2:(#[]++xs.toArray.map a.eval++ #[])=(xs.map a.eval).toArray:=by simp
  refine⟨v,w',H,by rw[e,e2,h1],⟨h2,HV.le.refl _,λ_ _=>rfl,λr o h=>?_⟩,VV h3,λb e=>absurd e<|AQ.free_spec Vd⟩;rw[h2.block r<|HG hs.sub h];exact hs.sub r o h
def oO{n:Nat}{agg:Bool}(h:Bp P T n agg=true){cs:B8 AV}(hl:off+n<=cs.size)(w:AR):(part T cs off).run P w= .ok (Gp agg ((cs.toList.drop off).take n).toArray) w:=by
 let⟨h1,h2,h3⟩:=ye h;cases agg
 .have hn:=h3 rfl;subst hn;have hlt:off<cs.size:=by omega
  simp[part,h1,hlt,Gp]
 .simp[part,E0,h1,h2,Dm,if_true,K6,Gp]
  congr 2
  apply Array.ext';simp[Array.toList_extract,List.extract_eq_take_drop]
def qe(P:CF)(T F:Am)(k off:Nat):Bool:=
 match P.underlying T with
 |some (.struct fs)=>match fs[k]? with|some f=>Nat.beq f.offset off&&Nat.beq f.type F|none=>false
 |_=>false
def afL{F:Am}{k:Nat}(hT:qe P T F k off=true)(hF:Bp P F σ.n σ.agg=true)(ha:τ.agg=true)(hx:Arg Γ x τ)(hp:BL τ off σ):Ay P Γ ⟨d,.field T x k,ty,pos,af,g⟩ (.val σ):=
 Di λ_ _ _ a w H hs=>by
  have hv:=hx.ok hs;let⟨p1,p2⟩:=hp _ _ hv;have CS:=τ.shape hv;have e:a.eval x= .agg (a.eval x).cells:=by rw[<-show Gp τ.agg (a.eval x).cells= .agg (a.eval x).cells from by rw[ha];rfl];exact CS.eq
  unfold qe at hT;split at hT
  .rename_i fs hu;split at hT
   .rename_i fd hfd;simp only[C4] at hT;have e1:=E9 hT.1;have e2:=E9 hT.2;refine⟨_,?_,p2,rfl⟩
    generalize (a.eval x).cells=cs at e p1
    have hr:=oO (P:=P) hF p1 w;simp[execOp,e,Instr.field,E0,Et hu,Dm,hfd,asAgg,K6,e1,e2,hr]
   .cases hT
  .cases hT
def ja(P:CF)(T E:Am)(len sz:Nat):Bool:=
 match P.underlying T with
 |some (.array n e)=>Nat.beq n len&&Nat.beq e E&&(match P.info? e with|some i=>Nat.beq i.size sz|none=>false)
 |_=>false
def BL.arr{i:Nat}{y:α}(hf:∀z,(f z).n=sz)(h:l[i]? =some y):BL (bL f l) (i*sz) (f y):=by refine BL.agg (i:=i) (by rw[Gy,h];rfl) ?_;have hlt:=(FH.1 h).1;rw[KW<|(K4 hf l).take i,E1,Be,EU (by omega)]
def Gx.arr{i:Nat}{y:α}(hf:∀z,(f z).n=sz)(h:l[i]? =some z):Gx (bL f l) (i*sz) (f y) (bL f<|l.set i y):=by have hlt:=(FH.1 h).1;have:=Gx.agg (l:=lT f l) (i:=i) (off:=i*sz) (σ:=f y) (ρ:=f z) (by rw[Gy,h];rfl) (by rw[hf,hf]) (by rw[KW<|(K4 hf l).take i,E1,Be,EU (by omega)]);rwa [show(lT f l).set i (f y)=lT f (l.set i y) from by simp[lT,Tv]] at this
def Z6{y:α}(hT:ja P T E len sz=true)(hE:Bp P E (f y).n (f y).agg=true)(hf:∀z,(f z).n=sz)(hlen:l.length=len)(hx:Arg Γ x (bL f l))(hi:Arg Γ ix (TI k i))(h:AB l i=some y):Ay P Γ ⟨d,.index T x ix,ty,pos,af,g⟩ (.val<|f y):=
 Di λ_ _ _ a w H hs=>by
  let⟨h0,h1,h2⟩:=I6 h;have hv:=hx.ok hs;let⟨p1,p2⟩:=BL.arr hf h2 _ _ hv;let⟨cs,e,_⟩:=hv;have ei:a.eval ix= .int k i:=hi.ok hs;rw[e] at p1 p2;simp[Value.cells] at p1 p2;unfold ja at hT;split at hT
  .rename_i n el hu;simp only[C4] at hT;let⟨⟨e1,e2⟩,e3⟩:=hT;have e1:=E9 e1;have e2:=E9 e2;subst e2;split at e3
   .rename_i ii hii;have e3:=E9 e3;have hr:=oO (P:=P) hE p1 w;have hsz:(Go.sizeOf el).run P w= .ok sz w:=by simp[Go.sizeOf,typeInfo,program,Sem.run,hii,e3]
    have hb:0<=i/\i<(n:Int):=⟨h0,by omega⟩;refine⟨_,?_,p2,rfl⟩;simp[execOp,e,ei,Instr.index,asIntOf,E0,K6,Dm,Et hu,if_pos hb,hsz,hr]
   .cases e3
  .cases hT
def SH{y:α}(h:look Γ t=some (.own T'<|bL f l))(hT:LV P T len sz=true)(hlen:l.length=len)(hi:Arg Γ ix (TI k i))(hy:AB l i=some y):Ay P Γ ⟨d,.indexAddr T (.tmp t) ix,ty,pos,af,g⟩ (.ptr t<|i.toNat*sz):=by let⟨h0,h1,_⟩:=I6 hy;exact v8 h hT hi h0 (by omega)
def akG{ps:A3 (Nat×CD)}{l l':A3 Ty}(hp:E2 P Γ ps l l'):FJ l'=FJ l:=by induction hp with|nil=>rfl|cons hx hi hn r ih=>rw[ih,yP hi hn]
theorem wV{n:Nat}{ps:A3 (Nat×CD)}{l':A3 Ty}(hz:Dn P E τ)(hT:Gi P T E sz=true)(hsz:τ.n=sz)(hpos:Nat.blt 0 (n*sz)=true)(hn:Nat.ble (n*sz) 16777216=true)(hp:E2 P Γ ps (List.replicate n τ) l')(hl:l'.length=n):Ay P Γ ⟨d,.buildSlice T n ps.toArray,ty,pos,af,g⟩ (.buf E sz l'):=
 MC λw0 H0 N a w H hs=>by
  let⟨z,hzr,hzo⟩:=hz.run w;have aqY:=Ad hpos;unfold Gi at hT;split at hT
  .rename_i e hu;simp only[C4] at hT;let⟨h1,h2⟩:=hT;have h1:=E9 h1;subst h1;split at h2
   .rename_i i hi;have h2:=E9 h2;have hz0:=oB (hzo H) n;rw[hsz] at hz0;have KR:∀i m,(FJ<|List.replicate n τ)[i]? =some m->(λi=>some (i*sz,sz)) i=some (((FJ<|List.replicate n τ).take i).sum,m):=by
     intro i m hi;simp only[FJ,iK,List.getElem?_replicate] at hi;split at hi
     .rename_i hlt;simp at hi;subst hi;simp[FJ,iK,ZZ,hsz,EU<|Vz hlt]
     .cases hi
    let⟨HE,hf,Aw⟩:=hp.fill KR hs hz0;have e2:(ps.toArray.map λ(i,x)=>(i,a.eval x)).toList=ps.map λp=>(p.1,a.eval p.2):=by simp
    have IM:(Go.sizeOf e).run P w= .ok sz w:=by simp[Go.sizeOf,typeInfo,program,Sem.run,hi,h2]
    have hle:n*sz<=16777216:=FT hn;have hff:Instr.fill (λi=>some (i*sz,sz)) ((Array.range<|n*sz).map<|λi=>z.cells[i%z.cells.size]!) (ps.toArray.map λ(i,x)=>(i,a.eval x)).toList=some HE:=by grind
    have hb:FO w.heap.size w (w.alloc<| .cells HE e):=FO.alloc _;have avB:=Mo Aw;have hns:FJ l'=FJ (List.replicate n τ):=akG hp;have hcl:CR l'=n*sz:=by have:CR l'=(FJ l').sum:=rfl;rw[this,hns];simp[FJ,hsz]
    have hcs:HE.size=n*sz:=by grind
    refine⟨.slice (some ⟨w.heap.size,0,none⟩) n n,w.alloc<| .cells HE e,H,?_,Ext.alloc hs.sub _,⟨HE.toList,⟨by rw[hl];simpa using hcs,.inr ⟨w.heap.size,n,HE,by rw[hl],FQ _,Lt w _,by omega,?_,hcs,?_⟩⟩,Aw,?_⟩,?_⟩
    .have h0: ¬n*sz=0:=by omega
     simp only[execOp,Instr.buildSlice,E0,Dm,Et hu,IM];rw[if_neg (by omega)];simp only[E0,K6,Dm,if_neg h0,hzr];rw[hff];simp[newRow]
    .rw[UT];have:n<=n*sz:=by
      rcases LJ sz with h|h
      .grind
      .exact Nat.le_mul_of_pos_right n h
     omega
    .grind
    .intro b hb;simp[Value.ownBlock] at hb;subst hb;refine⟨?_,.inl hs.below.size⟩;cases hh:H w.heap.size with|none=>rfl|some o=>have:=HG hs.sub hh;omega
    .intro b hb;simp[AQ.owns,Value.ownBlock] at hb;omega
   .cases h2
  .cases hT
theorem not_true(h:(!b)=true):b=false:=by cases b<;>simp_all
def CN{y:α}(h:AB l i=some y):l[i.toNat]? =some y:=(I6 h).2.2
def aL{y:α}{n:Nat}(e:l.length=n)(h:AB l i=some y):i<n:=by have:=(I6 h).2.1;omega
theorem uc{l:A3 Ty}(h:τ.n=sz)(r:Fj sz l):Fj sz (τ::l):=by simp_all [Ty.n,Fj]
def un:Fj sz []:=λx hx=>by cases hx
def Sat.aam(hs:Sat w0 H0 N Γ a w H){s:AQ}(h:s.holds w0 a w H (Ae a t))(hb:s.free=true):Sat w0 H0 N ((t,s)::BF t Γ) a w H:=by
 refine⟨hs.nd,hs.sz,hs.below,hs.FW,hs.sub,?_,?_,hs.gl⟩
 .intro p hp;rcases Aq.1 hp with e|hp
  .subst e;exact h
  .exact hs.holds p (DL p hp).1
 .intro p hp q hq hne b hpb;rcases Aq.1 hp with e|hp
  .subst e;exact absurd hpb<|AQ.free_spec hb
  .rcases Aq.1 hq with e|hq
   .subst e;exact AQ.free_spec hb
   .exact hs.sep p (DL p hp).1 q (DL q hq).1 hne b hpb
def EX{s:Nat}(hs:look Γ s=some (.same t))(ht:look Γ t=some (.val τ)):II w0 N Γ ((s,.val τ)::BF s Γ):=λ_ _ _ H h=>by
 have e:=h.holds _<|B6 hs
 have k:=h.holds _<|B6 ht
 exact⟨H,h.aam (by show τ.ok H _;rw[show _=_ from e];exact k) rfl⟩
def aca{Gk:Ty}(ht:look Γ t=some (.val τ))(hi:∀H v,τ.ok H v->Gk.ok H v):II w0 N Γ ((t,.val Gk)::BF t Γ):=λ_ _ _ H h=>⟨H,h.aam (hi _ _<|h.holds _<|B6 ht) rfl⟩
def Gn(ht:look Γ t=some (.val<|TN f l)):II w0 N Γ ((t,.val<|TL f l)::BF t Γ):=aca ht rN
def tNL(h:l.isEmpty=false)(ht:look Γ t=some (.val<|TL f l)):II w0 N Γ ((t,.val<|TN f l)::BF t Γ):=aca ht<|rO h
def Arg.c(h:v.oneCell'=true):Arg Γ (.const v) (Ir 1 false):=⟨λ_=>Shape.one h⟩
def zTL:(TL f []).ok H (.slice none 0 0):=⟨none,0,rfl,BK _,λh=>absurd rfl h⟩
def zTN:(TN f []).ok H (.slice none 0 0):=⟨zTL,λ_=>rfl⟩
def Ki{n:Nat}{agg:Bool}(h:(Nat.beq v.cells.size n&&v.cells.toList.all (λc=>c.oneCell'))=true)(e:v=Gp agg v.cells):Shape n agg v:=by simp only[C4] at h;exact⟨E9 h.1,λc hc=>Dj.1 h.2 c hc,e⟩
def Ei{α:Type}(i k:Int)(y x:α):α:=bif decide (i=k) then y else x
def Gx.bG{a b c y:α}(hf:∀z,(f z).n=sz)(h:AB [a,b,c] i=some z):Gx (DB [f a,f b,f c]) (i.toNat*sz) (f y) (DB [f<|Ei i 0 y a,f<|Ei i 1 y b,f<|Ei i 2 y c]):=by
 let⟨h0,h1,h2⟩:=I6 h;have:=Gx.arr (y:=y) hf h2;simp only[E6,ZO] at h1;have hi:i=0\/i=1\/i=2:=by omega
 rcases hi with e|e|e<;>(subst e;exact this)
def Zz{t' o n:Nat}(h:look Γ t=some (.ptr t' o))(hT:LV P T n sz=true)(hi:Arg Γ ix (TI k i))(h0:0<=i)(h1:i<n):Ay P Γ ⟨d,.indexAddr T (.tmp t) ix,ty,pos,af,g⟩ (.ptr t'<|o+i.toNat*sz):=Mh h hT hi h0 h1
def Yh{f:FuncId}(hc:Gd P f=true)
 (h:∀(H:HV) (vs:A3 AV),Ec H args vs->∃rI N1,Ec H rI vs/\Ef P f rI (.vs N1)/\∀H' v,LQ H' N1 v->LQ H' Bk v):Ef P f args (.vs Bk):=
 ⟨hc,λw H vs sub gl Aw=>by let⟨rI,N1,h1,h2,h3⟩:=h H vs Aw;exact(h2.run w H vs sub gl h1).mono λ_ w' ⟨v,e,hb,H',k1,k2,k3⟩=>⟨v,e,hb,H',k1,k2,h3 H' v k3⟩⟩
structure UR{α:Type}[DecidableEq α](P:CF)(T:Am)(f:α->Ty):Prop where
 run:∀(H:HV) (u v:AV) (x y:α),(f x).ok H u->(f y).ok H v->∀w:AR,(Op.equal T u v).run P w= .ok (decide<|x=y) w
 guard:∀(H:HV) (u v:AV) (x y:α),(f x).ok H u->(f y).ok H v->∀(o:BinOp) (p q:CD) (w:AR),(eqGuard o T p q u v).run P w= .ok () w
 agg:∀x,(f x).agg=true
def WV[DecidableEq α]{m n:α}(h:UR P T f)(hx:Arg Γ x (f m))(hy:Arg Γ y (f n)):Ay P Γ ⟨d,.binOp .eql T x y T',ty,pos,af,g⟩ (.val<|Av<|decide<|m=n):=
 I9 hx hy λH u v hu hv w _=>by have e1:=h.run H u v m n hu hv w;have e2:=h.guard H u v m n hu hv .eql x y w;refine⟨.bool<|decide<|m=n,?_,rfl⟩;have a1:=((f m).shape hu).eq;have a2:=((f n).shape hv).eq;rw[h.agg] at a1 a2;simp only[Gp] at a1 a2;simp only[E0,e2,Dm];rw[a1,a2] at e1⊢;simp[binOp,e1]
def qW[DecidableEq α]{m n:α}(h:UR P T f)(hx:Arg Γ x (f m))(hy:Arg Γ y (f n)):Ay P Γ ⟨d,.binOp .neq T x y T',ty,pos,af,g⟩ (.val<|Av<| !decide (m=n)):=
 I9 hx hy λH u v hu hv w _=>by have e1:=h.run H u v m n hu hv w;have e2:=h.guard H u v m n hu hv .neq x y w;refine⟨.bool<| !decide (m=n),?_,rfl⟩;have a1:=((f m).shape hu).eq;have a2:=((f n).shape hv).eq;rw[h.agg] at a1 a2;simp only[Gp] at a1 a2;simp only[E0,e2,Dm];rw[a1,a2] at e1⊢;simp[binOp,e1]
def AN:A3 Int->Int
 |[]=>0|x::l=>x+18446744073709551616*AN l
def okW(l:A3 Int):Prop:=∀x∈l,0<=x/\x<18446744073709551616
@[reducible] def Cj(x:Int×A3 Int):Ty:=DB [(TI .i64) x.1,(TN<|TI .u64) x.2]
def Ci(r:Int×A3 Int)(z:Int):Prop:=(r.2=[]/\r.1=z/\Cb z)\/(r.2≠[]/\(r.1=1\/r.1= -1)/\okW r.2/\r.2.getLast?≠some 0/\z=r.1*AN r.2/\9223372036854775807<AN r.2)
def EI(z:Int):Ty:=TEx 2 true (λr=>Ci r z) Cj (λ_=>rfl)<|λ_=>rfl
@[reducible] def Bw(q:Rat):Ty:=DB [EI q.num,EI q.den]
def Xp{k:Nat}(h:look Γ p=some (.KE t j sz))(hf:GX P T k off=true):Ay P Γ ⟨d,.fieldAddr T (.tmp p) k,ty,pos,af,g⟩ (.bpf t<|j*sz+off):=
 Di λ_ _ _ a w _ hs=>by
  let⟨b,len,cap,e1,e2⟩:=hs.holds _<|B6 h
  have e':a.eval (.tmp p)= .pointer (some ⟨b,j*sz,none⟩):=e2;exact⟨.pointer<|some ⟨b,j*sz+off,none⟩,by simp[execOp,e',YE hf],⟨b,len,cap,e1,rfl⟩,rfl⟩
theorem anX{B:Aj P}{l:A3 Ty}{ρ:Ty}(h:(AQ.buf E sz l).holds B a w H v)(hu:Fj sz l)(hj:l[j]? =some ρ):∃b cap cs,v= .slice (some ⟨b,0,none⟩) l.length cap/\w.heap[b]? =some (.cells cs E (0,0))/\j*sz+sz<=cs.size/\ρ.ok H (Gp ρ.agg ((cs.toList.drop<|j*sz).take ρ.n).toArray):=by
 have Jz:=(FH.1 hj).1;let⟨b,cap,cs,xs,e,hb,hcap,_,hcs,hx,htake,ho,_,_⟩:=Vu h (λe=>by rw[e] at Jz;simp at Jz);let⟨p1,p2⟩:=NO ho hj;have hρ:=hu ρ<|LM hj
 have hc:CR (l.take j)=j*sz:=by rw[KW<|hu.take _,E1,EU (by omega)]
 rw[hc] at p1 p2;have r8:l.length*sz<=cs.size:=by grind
 have Ny:List.take ρ.n (List.drop (j*sz) cs.toList)=List.take ρ.n (List.drop (j*sz) xs):=by
  rw[<-htake,MP,ON]
  congr 1;omega
 refine⟨b,cap,cs,e,hb,by omega,?_⟩;rw[Ny];exact p2
def eG{y:α}(hf:∀z,(f z).n=sz)(hp:look Γ p=some (.bpf t<|j*sz+off))(ht:look Γ t=some (.buf E sz<|lT f l))(h:l[j]? =some y)(ha:(f y).agg=true)(hq:BL (f y) off σ)(hT:Bp P T σ.n σ.agg=true):Ay P Γ ⟨d,.load T<| .tmp p,ty,pos,af,g⟩ (.val σ):=
 Di λw0 _ _ a w H BD=>by
  let⟨b,cap,cs,e,hb,hsz,Aw⟩:=anX (BD.holds _<|B6 ht) (K4 hf l) (j:=j) (ρ:=f y) (by rw[Gy,h];rfl);let⟨b',re,bI,e1,e2⟩:=BD.holds _<|B6 hp
  simp only at e e1;rw[e] at e1;cases e1;have e3:a.eval (.tmp p)= .pointer (some ⟨b,j*sz+off,none⟩):=e2;rw[ha] at Aw;let⟨h1,h2⟩:=hq _ _ Aw;simp only[Y3] at h1 h2;have hn:=hf y;have hlen:(List.take (f y).n<|List.drop (j*sz) cs.toList).toArray.size=(f y).n:=by simp;omega
  rw[hlen] at h1;refine⟨_,?_,h2,rfl⟩;have hr:=RI (P:=P) hT hb (off:=j*sz+off) (by omega);have Ny:List.take σ.n (List.drop (j*sz+off) cs.toList)=List.take σ.n (List.drop off<|List.take (f y).n<|List.drop (j*sz) cs.toList):=by
   rw[MP,ON,FR]
   congr 1;omega
  rw[Ny] at hr;simp[execOp,e3,Instr.loadAt,Instr.sureAddr,hr]
theorem alv{Ai:Ctx}(BC:∀q∈Ai,q∈Γ){y y':α}(hf:∀z,(f z).n=sz)(hp:look Ai p=some (.bpf t<|j*sz+off))(ht:look Ai t=some (.buf E sz<|lT f l))(h:l[j]? =some y)(hx:Arg Ai x σ)(ha:(f y).agg=true)(hs:Gx (f y) off σ (f y'))(hT:Bp P T σ.n σ.agg=true):Step P N ops ⟨none,.store T (.tmp p) x,ty,pos,af,none⟩ Γ ((t,.buf E sz<|lT f<|l.set j y')::BF t Γ):=by
 intro w0 H0 a w H BD K Q k;simp[Region.wanted,if_true];have hj:(lT f l)[j]? =some (f y):=by grind
 have hu:=K4 hf l;have Jz:=(FH.1 hj).1;let⟨b,cap,cs,xs,e,hb,hcap,hml,hcs,GN,htake,ho,hH,hB⟩:=Vu (BD.holds _<|BC _<|B6 ht) (λe=>by rw[e] at Jz;simp at Jz);let⟨b',re,bI,e1,e2⟩:=BD.holds _<|BC _<|B6 hp
 simp only at e e1;rw[e] at e1;cases e1;have ep:a.eval (.tmp p)= .pointer (some ⟨b,j*sz+off,none⟩):=e2;have Hx:=hx.ok<|BD.weaken BC
 have CS:=σ.shape Hx;have hc:CR ((lT f l).take j)=j*sz:=by rw[KW<|hu.take _,E1,EU<|Vz Jz]
 let⟨p1,p2⟩:=NO ho hj;rw[hc,hf y] at p1;rw[hc,hf y] at p2;have r8:(lT f l).length*sz<=cs.size:=by grind
 generalize Ny:List.take sz (List.drop (j*sz) xs)=Kr at p2
 have jS:Kr.length=sz:=by grind
 rw[ha] at p2;let⟨s1,x',s2,s3⟩:=hs _ _ _ p2 Hx;simp[Y3,iH,jS] at s1;simp only[Y3] at s3;have Mb:=Tp ho hj ((hf y').trans (hf y).symm) s2;rw[hc,hf y] at Mb;have F1:=T4 (P:=P) (off:=j*sz+off) (Tj hT) CS.size hb (by omega) CS.cell;unfold Oper.wp;have er:(execOp a.eval ⟨none,.store T (.tmp p) x,ty,pos,af,none⟩).run P w= .ok .skip (w.setRow b (cs.toList.take (j*sz+off)++(a.eval x).cells.toList++cs.toList.drop (j*sz+off+σ.n)).toArray):=by simp[execOp,ep,Instr.storeAt,Instr.sureAddr,F1]
 rw[er,QZ]
 generalize sI:(cs.toList.take (j*sz+off)++(a.eval x).cells.toList++cs.toList.drop (j*sz+off+σ.n)).toArray=Dv
 have hg:Ed w (w.setRow b Dv) (some b):=Ed.setRow w b _;have hlen:(a.eval x).cells.toList.length=σ.n:=by rw[Fa,CS.size]
 have at6:x'.cells.toList=List.take off Kr++(a.eval x).cells.toList++List.drop (off+σ.n) Kr:=by rw[s3]
 have atx:Dv.toList=cs.toList.take (j*sz+off)++(a.eval x).cells.toList++cs.toList.drop (j*sz+off+σ.n):=by rw[<-sI]
 refine k a _ H (P5 BD (BC _<|B6 ht) hg hB (by simp[AQ.owns,e,Value.ownBlock]) ?_ λc hc=> .inl hc);have hl2:(lT f<|l.set j y').length=(lT f l).length:=by simp
 have att:Dv.size=cs.size:=by grind
 refine⟨List.take ((lT f l).length*sz) Dv.toList,⟨?_,.inr ⟨b,cap,Dv,by rw[hl2];simpa using e,FQ _,Ts w b _ _ _ _ hb,by rw[hl2];exact hcap,hml,by rw[att,hcs],by rw[hl2]⟩⟩,?_,?_⟩
 .grind
 .have aqb:List.take ((lT f l).length*sz) Dv.toList=List.take (j*sz) xs++x'.cells.toList++List.drop (j*sz+sz) xs:=by
   have hy:(a.eval x).cells.toList.length=σ.n:=hlen;rw[atx,xq hy (by omega) (by rw[Fa];omega),htake,at6];have t1:List.take (j*sz+off) xs=List.take (j*sz) xs++List.take off Kr:=by grind
   have t2:List.drop (j*sz+off+σ.n) xs=List.drop (off+σ.n) Kr++List.drop (j*sz+sz) xs:=by
    rw[<-Ny,MP,FR];have:List.drop (j*sz+sz) xs=List.drop (sz-(off+σ.n)) (List.drop (j*sz+(off+σ.n)) xs):=by rw[FR];congr 1;omega
    rw[this,Oc]
    congr 1;omega
   rw[t1,t2];simp[HY]
  rw[aqb];rw[show lT f (l.set j y')=(lT f l).set j (f y') from by simp[lT,Tv]];exact Mb
 .intro c hc;simp[e,Value.ownBlock] at hc;subst hc;exact⟨hH,hB⟩
def ans{y y':α}(hf:∀z,(f z).n=sz)(hp:look Γ p=some (.bpf t<|j*sz+off))(ht:look Γ t=some (.buf E sz<|lT f l))(h:l[j]? =some y)(hx:Arg Γ x σ)(ha:(f y).agg=true)(hs:Gx (f y) off σ (f y'))(hT:Bp P T σ.n σ.agg=true):Step P N ops ⟨none,.store T (.tmp p) x,ty,pos,af,none⟩ Γ ((t,.buf E sz<|lT f<|l.set j y')::BF t Γ):=alv (λ_ h=>h) hf hp ht h hx ha hs hT
def ak5(hT:Gi P T E sz=true)(w:AR):(Instr.buildSlice T 0 #[]).run P w= .ok (.slice (some ⟨w.heap.size,0,none⟩) 0 0) (w.alloc<| .cells #[] E):=by
 unfold Gi at hT;split at hT
 .rename_i e hu;simp only[C4] at hT;let⟨h1,h2⟩:=hT;have h1:=E9 h1;subst h1;split at h2
  .rename_i i hi;have h2:=E9 h2;have IM:(Go.sizeOf e).run P w= .ok sz w:=by simp[Go.sizeOf,typeInfo,program,Sem.run,hi,h2]
   have Kt:(Array.range 0:B8 Nat)= #[]:=rfl;simp only[Instr.buildSlice,E0,Dm,Et hu,IM,gn];rw[if_neg (by omega)];simp[newRow,Instr.fill,Kt]
  .cases h2
 .cases hT
def Rs(f:α->Ty)(hT:Gi P T E sz=true):Ay P Γ ⟨d,.buildSlice T 0 #[],ty,pos,af,g⟩ (.buf E sz<|lT f []):=
 MC λw0 H0 N a w H hs=>by
  refine⟨.slice (some ⟨w.heap.size,0,none⟩) 0 0,w.alloc<| .cells #[] E,H,by simp only[execOp,E0,Array.map_empty,ak5 hT];rfl,Ext.alloc hs.sub _,⟨[],⟨by simp,.inr ⟨w.heap.size,0,#[],rfl,FQ _,Lt w _,BK _,by rw[UT];omega,by simp,by simp⟩⟩,rfl,?_⟩,?_⟩
  .intro b hb;simp[Value.ownBlock] at hb;subst hb;refine⟨?_,.inl hs.below.size⟩;cases hh:H w.heap.size with|none=>rfl|some o=>have:=HG hs.sub hh;omega
  .intro b hb;simp[AQ.owns,Value.ownBlock] at hb;omega
def aiw{T:Nat}{l:A3 Ty}(hT:LV P T len sz=true)(hu:Fj sz l)(hl:l.length=len)(hx:Arg Γ x (Jp<|DB l)):Ay P Γ ⟨d,.slice T x none none none,ty,pos,af,g⟩ (.val<|G3 l):=
 Di λw0 _ _ a w H hs=>by
  let⟨b,off,cs,E,fr,e,hb,hsz,Aw⟩:=hx.ok hs;let⟨el,i,hu2,hi,h2⟩:=om hT;have IM:∀w,(Go.sizeOf el).run P w= .ok sz w:=λw=>by simp[Go.sizeOf,typeInfo,program,Sem.run,hi,h2]
  refine⟨.slice (some<|if len=0 then⟨b,off,none⟩ else(⟨b,off,none⟩:Addr).add (0*sz)) len len,?_,?_,rfl⟩
  .simp[execOp,e,Instr.sliceAt,Et hu2,Instr.sureAddr,Instr.sliceBounds,IM]
  .let⟨cs2,e2,ho⟩:=Aw;have sG:cs2=(List.take (DB l).n<|List.drop off cs.toList).toArray:=by have:(DB l).agg=true:=rfl;rw[this] at e2;simp only[Gp] at e2;exact(Value.agg.inj e2).symm
   refine⟨_,len,by rw[hl],by omega,λhne=>⟨b,off,cs,E,fr,?_,hb,hsz,?_⟩⟩
   .simp[addr_add]
   .rw[sG] at ho;exact ho
def Flat(τ:Ty):Prop:=∀H H' v,τ.ok H v->τ.ok H' v
def Flat.int:Flat (TI k n):=λ_ _ _ h=>h
def Flat.bool:Flat (Av b):=λ_ _ _ h=>h
inductive Kf(Γ:Ctx):A3 CD->A3 Ty->Prop where
 |nil:Kf Γ [] []|cons {x:CD} {τ:Ty} {xs:A3 CD} {l:A3 Ty} (h:Arg Γ x τ) (r:Kf Γ xs l):Kf Γ (x::xs) (τ::l)|buf {t:Nat} {E:Am} {sz:Nat} {bl:A3 Ty} {xs:A3 CD} {l:A3 Ty} (h:look Γ t=some (.buf E sz bl)) (r:Kf Γ xs l):Kf Γ (.tmp t::xs) (G3 bl::l)|same {s t:Nat} {E:Am} {sz:Nat} {bl:A3 Ty} {xs:A3 CD} {l:A3 Ty} (hs:look Γ s=some (.same t)) (h:look Γ t=some (.buf E sz bl)) (r:Kf Γ xs l):Kf Γ (.tmp s::xs) (G3 bl::l)
def full(w:AR):HV:=λr=>w.heap[r]?
def Kf.ok{xs:A3 CD}{l:A3 Ty}(h:Kf Γ xs l){w0:Aj P}{H0:HV}{N:Nat}{a:Act}{w:AR}{H:HV}(hs:Sat w0 H0 N Γ a w H):Ec (full w) l (xs.map a.eval):=by
 have hle:HV.le H (full w):=hs.sub
 induction h with
 |nil=>rfl|cons h _ ih=>exact⟨_,_,rfl,Ty.mono _ hle<|h.ok hs,ih⟩|buf h _ ih=>exact⟨_,_,rfl,WS (hs.holds _<|B6 h) hle<|λb _ _ o ho=>ho,ih⟩
 | @same s t E sz bl xs l hsm h _ ih=>
  refine⟨_,_,rfl,?_,ih⟩;have e:Ae a s=Ae a t:=hs.holds _<|B6 hsm
  show(G3 bl).ok _ (Ae a s);rw[e];exact WS (hs.holds _<|B6 h) hle<|λb _ _ o ho=>ho
def yL{H H':HV}:∀{l:A3 Ty} {vs:A3 AV},(∀τ∈l,Flat τ)->Ec H l vs->Ec H' l vs
 |[],_,_,e=>e|τ::_,_,hf,⟨v,rest,e,hv,hr⟩=>⟨v,rest,e,hf τ (by simp) _ _ _ hv,yL (λx hx=>hf x (by simp[hx])) hr⟩
def ah4{H':HV}{l:A3 Ty}(hf:∀τ∈l,Flat τ)(h:LQ H l v):LQ H' l v:=by match l,h with|[],h=>exact h|[τ],h=>exact hf τ (by simp) _ _ _ h|τ::Gk::l,⟨vs,e,h⟩=>exact⟨vs,e,yL hf h⟩
def xR{f:FuncId}(hf:Ef P f args (.vs Bk))(ha:Kf Γ xs args)(hfl:∀τ∈Bk,Flat τ):Ay P Γ ⟨d,.call ⟨.value<| .func f,xs.toArray,Ex⟩,ty,pos,af,g⟩ (Ip Bk):=by
 intro w0 H0 N a w H hs K Q k;unfold Oper.wp;have e:execOp a.eval ⟨d,.call ⟨.value<| .func f,xs.toArray,Ex⟩,ty,pos,af,g⟩=callFunc f (#[]++xs.toArray.map a.eval++ #[]):=rfl;rw[e,P6 hf.can,W8];have e2:(#[]++xs.toArray.map a.eval++ #[])=(xs.map a.eval).toArray:=by simp
 rw[e2];refine(hf.run w (full w) _ (λ_ _ h=>h) (hs.gl.mono hs.sub)<|ha.ok hs).mono ?_;rintro e w' ⟨v,rfl,hb,H',h1,h2,h3⟩;have he:Ext w H w' H:=⟨hb,HV.le.refl _,λ_ _=>rfl,λr o h=>by rw[hb.block r<|HG hs.sub h];exact hs.sub r o h⟩;exact k v w' H he (VV<|ah4 hfl h3)<|λb e=>absurd e<|AQ.free_spec Vd
def flc{l:A3 Ty}(h:Flat τ)(r:∀x∈l,Flat x):∀x∈τ::l,Flat x:=λx hx=>by
 rcases Aq.1 hx with e|hx
 .rw[e];exact h
 .exact r x hx
def fln:∀x∈([]:A3 Ty),Flat x:=λx hx=>by cases hx
end
section
variable[D:DR]
variable{P:Program}{w0:Aj P}{H0:HV}{N:Nat}{Q:Exit->Act->World->Prop}{Γ An:Ctx}
def agf{w0:Aj P}(hr:w0.rd=none):Fb w0.rd=Fence.wide:=by rw[hr];rfl
def anI{c:Code}(hr:w0.rd=none)(h:Goal P w0 H0 N c (Exit.noGoto Q) Γ):Goal P w0 H0 N (.scope c) Q Γ:=λa w H hs=>by have:=h a w H hs;rw[agf hr] at this⊢;exact wpIn_wide.2<|wp_scope_straight<|wpIn_wide.1 this
def anL{l:Nat}(k:EJ w0 H0 N (Q .normal) Γ):Goal P w0 H0 N (.label l) Q Γ:=λa w H hs=>wpIn_label<|k a w H hs
end
section
variable[D:DR]
variable{P:Program}{N:Nat}{ops:Array Oper}{Γ An:Ctx}{d:Option Tmp}{ty:TypeId}{pos:String}{af:Array Edge}{g:Option (Nat×Bool)}
variable{α β:Type}{A:α->A3 Ty}{R:β->A3 Ty}
def L1(P:CF){α β:Type}(A:α->A3 Ty)(R:β->A3 Ty)(g:α->AA β):Ty where
 n:=1
 agg:=false
 ok:=λH v=>∃f cap F2,v= .func (.func f) #[] cap/\Ec H F2 cap.toList/\∀a r,g a=some r-> @Ef DR.strict P f (A a++F2) (.vs<|R r)
 mono:=λh ⟨f,cap,F2,e,k,hf⟩=>⟨f,cap,F2,e,Yl h k,hf⟩
 shape:=λ⟨_,_,_,e,_,_⟩=>by subst e;exact Shape.one rfl
def YP{H:HV}:∀{l:A3 Ty} {vs:A3 AV} {l':A3 Ty} {vs':A3 AV},Ec H l vs->Ec H l' vs'->Ec H (l++l') (vs++vs')
 |[],_,_,_,e,h=>by subst e;exact h|_::_,_,_,_,⟨v,rest,e,hv,hr⟩,h=>by subst e;exact⟨v,_,rfl,hv,YP hr h⟩
def fX{fn:α->AA β}{t:Nat}{xs:A3 CD}{Ex:B8 Am}{x:α}{r:β}(hf:look Γ t=some (.val<|L1 P A R fn))(h:fn x=some r)(ha:AT Γ xs (A x)):Ay P Γ ⟨d,.call ⟨.value<| .tmp t,xs.toArray,Ex⟩,ty,pos,af,g⟩ (Ip<|R r):=by
 intro w0 H0 N a w H hs K Q k;let⟨f,cap,F2,e,hc,IU⟩:=hs.holds _<|B6 hf
 have hf:=(IU x r h).arc (D:=D);unfold Oper.wp;have e1:a.eval (.tmp t)= .func (.func f) #[] cap:=e;have e0:execOp a.eval ⟨d,.call ⟨.value<| .tmp t,xs.toArray,Ex⟩,ty,pos,af,g⟩=callFunc f (#[]++xs.toArray.map a.eval++cap):=by
  simp[execOp,resolve,e1,Deferred.ofValue,pure_bind]
  rfl
 rw[e0,P6 hf.can,W8];have e2:(#[]++xs.toArray.map a.eval++cap)=(xs.map a.eval++cap.toList).toArray:=by simp
 rw[e2];refine(hf.run w H _ hs.sub hs.gl<|YP (ha.ok hs) hc).mono ?_;rintro e w' ⟨v,rfl,hb,H',h1,h2,h3⟩;have he:Ext w H w' H':=⟨hb,λr o h=>by rw[h1 r<|HG hs.sub h];exact h,h1,h2⟩;exact k v w' H' he (VV h3)<|λb e=>absurd e<|AQ.free_spec Vd
def mQ{fn:α->AA β}{f:FuncId}{xs:A3 CD}{F2:A3 Ty}(ha:AT Γ xs F2)(h:∀a r,fn a=some r-> @Ef DR.strict P f (A a++F2) (.vs<|R r)):Ay P Γ ⟨d,.makeFunc (.func f) #[] xs.toArray,ty,pos,af,g⟩ (.val<|L1 P A R fn):=
 Di λ_ _ _ a w H hs=>by refine⟨.func (.func f) #[] (xs.map a.eval).toArray,?_,⟨f,_,F2,rfl,by simpa using ha.ok hs,h⟩,rfl⟩;simp[execOp,Instr.makeFunc]
def Arg.fn{α β:Type}{A:α->A3 Ty}{R:β->A3 Ty}{fn:α->AA β}{f:FuncId}(h:∀a r,fn a=some r-> @Ef DR.strict P f (A a) (.vs<|R r)):Arg Γ (.func f) (L1 P A R fn):=⟨λ_=>⟨f,#[],[],rfl,rfl,λa r e=>by simpa using h a r e⟩⟩
def ajz{w0:Aj P}{H0:HV}{a:Act}{w w':AR}{H H':HV}{row:AA Nat}(hs:Sat w0 H0 N Γ a w H)(hg:Ed w w' row)(Hd:∀b,row=some b->w0.EC b/\H b=none/\∀l,w.heap[b]? ≠some (.deferred l))(hle:HV.le H H')(hold:∀b,b<w.heap.size->row≠some b->H' b=H b)(BC:∀b o,H' b=some o->w'.heap[b]? =some o)
  (hn:∀p∈An,p∈Γ/\∀b,p.2.owns w (Ae a p.1) b->row≠some b):Sat w0 H0 N An a w' H':=by
 have E3:∀b,b<w.heap.size->row≠some b->w'.heap[b]? =w.heap[b]? /\H' b=H b:=λb hb hn=>⟨hg.block b hb<|λe=>hn e.symm,hold b hb hn⟩
 refine Vl (ds:=a.defers) hs (hs.below.LS hg<|λk hk=>(Hd k hk).1) hg.drawn ?_ hg.size hle BC ?_ ?_ ?_
 .intro _ r hr hx;exact hold r (Jj hr hs.below.size) (λe=>by
   rcases(Hd r e).1 with h|h
   .omega
   .exact hx h)
 .intro _ b hb Fi;exact E3 b hb (λe=>by have:=Aj.QS (Hd b e).1;omega)
 .intro p hp;exact⟨(hn p hp).1,λb hb=>E3 b (AQ.JC (hs.holds p (hn p hp).1) hb).1<|(hn p hp).2 b hb⟩
 .exact hs.nd.kept λD _ h1 h2=>by
   have:=E3 D (lt_of_heap h1)<|λe=>(Hd D e).2.2 _ h1
   exact⟨by rw[this.1];exact h1,by rw[this.2];exact h2⟩
end
section
variable[D:DR]
def JX{α σ ρ:Type}:A3 α->((σ->AA ρ)->α->σ->AA ρ)->σ->(σ->AA ρ)->AA ρ
 |[],_,s,K=>K s|x::xs,B,s,K=>B (λs=>JX xs B s K) x s
structure Qv(M:Nat->Prop)(w:AR)(H:HV)(w':AR)(H':HV):Prop where
 size:w.heap.size<=w'.heap.size
 os:w'.os=w.os
 tape:w'.tape=w.tape
 output:w'.output=w.output
 drawn:Gv w w'
 le:HV.le H H'
 E3:∀b,b<w.heap.size-> ¬M b->w'.heap[b]? =w.heap[b]? /\H' b=H b
 sub:∀r o,H' r=some o->w'.heap[r]? =some o
def Zk{α σ ρ:Type}(P:CF)(l:Nat)(enc:α->A3 Ty)(Bd:(σ->AA ρ)->α->σ->AA ρ)(r:ρ)(J:σ->Inv->Prop)(Jx:Inv->Prop)(n0:Nat):Prop:=
 ∀(next:σ->AA ρ) (x:α) (s:σ) (I:Inv) (W:AR) (H:HV) (vs:A3 AV),Bd next x s=some r->J s I->I.n=n0->I.p W H->(∀r o,H r=some o->W.heap[r]? =some o)->LP P H->Ec H (enc x) vs->YieldAt (Fb none) 0 P l vs.toArray W λe W'=>∃H' I',I'.n=n0/\I'.p W' H'/\Qv I.M W H W' H'/\(∀b,I'.M b->I.M b\/W.heap.size<=b)/\
   ((e= .returned (.bool true)/\∃s',next s'=some r/\J s' I')\/(e= .returned (.bool false)/\Jx I'))
def Yw(P:CF)(gf:FuncId)(F2:A3 Ty){α:Type}(enc:α->A3 Ty)(L:A3 α):Prop:=
 Gd P gf=true/\∀{σ ρ:Type} (Bd:(σ->AA ρ)->α->σ->AA ρ) (K:σ->AA ρ) (s0:σ) (r:ρ),JX L Bd s0 K=some r->∀(l:Nat) (J:σ->Inv->Prop) (Jx:Inv->Prop) (w:AR) (H:HV) (cvs:A3 AV) (I0:Inv),(∀r o,H r=some o->w.heap[r]? =some o)->LP P H->Ec H F2 cvs->J s0 I0->I0.n=w.heap.size->I0.p w H->Zk P l enc Bd r J Jx w.heap.size->Calls P gf (.func (.yield l) #[] #[]::cvs).toArray w λe w'=>(∃v,e= .returned v)/\∃H' I',I'.p w' H'/\(∀r o,H' r=some o->w'.heap[r]? =some o)/\((∃s,K s=some r/\J s I')\/Jx I')
def Un(P:CF){α:Type}(enc:α->A3 Ty)(o:AA (A3 α)):Ty where
 n:=1
 agg:=false
 ok:=λH v=>∃gf cap F2,v= .func (.func gf) #[] cap/\Ec H F2 cap.toList/\∀L,o=some L->Yw P gf F2 enc L
 mono:=λh ⟨gf,cap,F2,e,k,s⟩=>⟨gf,cap,F2,e,Yl h k,s⟩
 shape:=λ⟨_,_,_,e,_⟩=>by subst e;exact Shape.one rfl
end
section
variable[D:DR]
variable{P:Program}{w0:Aj P}{H0:HV}{N:Nat}{Q:Exit->Act->World->Prop}{Γ An:Ctx}
variable{w:AR}{H:HV}{T:A3 Nat}{l:Nat}{rc:Loop}{σ ρ:Type}{r:ρ}{ts:A3 Nat}{a:Act}
def a7(N:Nat)(T:A3 Nat)(Γ:Ctx):Bool:=Γ.all λp=>Nat.blt p.1 N&&T.contains p.1&&p.2.C8.all (λt=>T.contains t)&& !p.2.Ev
theorem PC{N:Nat}{Γ:Ctx}(h:a7 N T Γ=true){p:Nat×AQ}(hp:p∈Γ):p.1<N/\p.1∈T/\(∀t∈p.2.C8,t∈T)/\p.2.Ev=false:=by(simp_all [a7,AQ.C8,AQ.Ev]<;>grind)
def pins(N:Nat)(T:A3 Nat)(pv:Nat->AV):Ctx:=T.map λt=>(N+1+t,.KM t<|pv t)
def params:A3 Nat->A3 Ty->Ctx
 |p::ps,τ::τs=>(p,.val τ)::params ps τs|_,_=>[]
def busy(rc:Loop):Loop:={rc with state:= .busy}
def rQ(wr:Aj P)(Hr:HV)(N l:Nat)(rc:Loop)(T:A3 Nat)(pv:Nat->AV){σ ρ:Type}(Ai:σ->Ctx)(KK:AA Ctx)(next:σ->AA ρ)(r:ρ):Exit->Act->AR->Prop
 | .normal,a,w=>∃s',next s'=some r/\∃H,Sat wr Hr N ((N,.Dt l<|busy rc)::(pins N T pv++Ai s')) a w H| .ret,a,w=>∃G,KK=some G/\∃H,Sat wr Hr N ((N,.Dt l<|busy rc)::(pins N T pv++G)) a w H|_,_,_=>False
def aab(wr:Aj P)(Hr:HV)(N l:Nat)(rc:Loop)(T:A3 Nat)(pv:Nat->AV){σ ρ:Type}(body:Code)(Ai:σ->Ctx)(KK:AA Ctx)(next:σ->AA ρ)(r:ρ):Exit->Act->AR->Prop
 | .normal,a,w=>∃Γa H,Sat wr Hr N ((N,.Dt l rc)::Γa) a w H/\BF N Γa=Γa/\Goal P wr Hr N body (rQ wr Hr N l rc T pv Ai KK next r) ((N,.Dt l<|busy rc)::Γa)|_,_,_=>False
def rD{wr:Aj P}{Hr:HV}{pv:Nat->AV}{body:Code}{Ai:σ->Ctx}{KK:AA Ctx}{next:σ->AA ρ}{Γa:Ctx}
 (h:ES Γ ts ((N,.Dt l rc)::Γa))(hf:BF N Γa=Γa)(g:Goal P wr Hr N body (rQ wr Hr N l rc T pv Ai KK next r) ((N,.Dt l<|busy rc)::Γa)):EJ wr Hr N (aab wr Hr N l rc T pv body Ai KK next r .normal) Γ:=λ_ _ H hs=>⟨Γa,H,hs.weaken h.sub,hf,g⟩
def im{wr:Aj P}{Hr:HV}{pv:Nat->AV}{Ai:σ->Ctx}{KK:AA Ctx}{next:σ->AA ρ}{s':σ}(hm:next s'=some r)
 (h:ES Γ ts ((N,.Dt l<|busy rc)::(pins N T pv++Ai s'))):EJ wr Hr N (rQ wr Hr N l rc T pv Ai KK next r .normal) Γ:=λ_ _ H hs=>⟨s',hm,H,hs.weaken h.sub⟩
def Ed.putObj(w:AR)(l:Nat)(o:Obj):Ed w (w.putObj l o) (some l):=⟨⟨rfl,rfl,rfl,by simp,λj _ hj=>Zd (λe=>hj (by rw[e]))⟩,BK _⟩
def Z2{k:Nat}{rc':Loop}(hs:Sat w0 H0 N Γ a w H)(hk:(k,.Dt l rc)∈Γ):Sat w0 H0 N ((k,.Dt l rc')::BF k Γ) a (w.putObj l<| .loop rc') H:=by let⟨h1,h2,h3⟩:=hs.holds _ hk;exact P5 hs hk (Ed.putObj w l _) h3 rfl ⟨qA<|lt_of_heap h1,h2,h3⟩ λc hc=> .inl hc
def Sat.ane(hs:Sat w0 H0 N Γ a w H):∀{G:Ctx},(∀p∈G,p.2.free=true/\p.2.holds w0 a w H (Ae a p.1))->Sat w0 H0 N (G++Γ) a w H:=λ{G} h=>by
 refine⟨hs.nd,hs.sz,hs.below,hs.FW,hs.sub,?_,?_,hs.gl⟩
 .intro p hp;rcases C3.1 hp with hp|hp
  .exact(h p hp).2
  .exact hs.holds p hp
 .intro p hp q hq hne b hb Ba;rcases C3.1 hp with hp|hp
  .exact AQ.free_spec (h p hp).1 hb
  .rcases C3.1 hq with hq|hq
   .exact AQ.free_spec (h q hq).1 Ba
   .exact hs.sep p hp q hq hne b hb Ba
def vw{w:AR}{H:HV}:∀{ps:A3 Nat} {τs:A3 Ty} {vs:A3 AV} {Γ:Ctx} {a:Act},Ec H τs vs->ps.length=τs.length->(∀p∈ps,p<N/\Jl p Γ=true)->ps.Nodup->Sat w0 H0 N Γ a w H->∃G,(∀q∈params ps τs++Γ,q∈G)/\Sat w0 H0 N G {tmps:=(ps.zip vs).foldl (λt (p,v)=>t.setIfInBounds p v) a.tmps,defers:=a.defers} w H
 |[],[],vs,Γ,a,ho,_,_,_,hs=>by have:vs=[]:=ho;subst this;exact⟨Γ,λq hq=>hq,hs⟩
 |[],_::_,_,_,_,_,hl,_,_,_=>by simp at hl|_::_,[],_,_,_,_,hl,_,_,_=>by simp at hl
 |p::ps,τ::τs,_,Γ,a,⟨v,rest,e,hv,hr⟩,hl,hp,hn,hs=>by
  subst e;let⟨hn1,IW⟩:=List.nodup_cons.1 hn;have h1:=QK hs (hp p (by simp)).1 (hp p (by simp)).2 (s:= .val τ) (v:=v) (by simp[AQ.C8]) hv<|λb h=>h.elim
  let⟨G,hG,hS⟩:=vw (ps:=ps) (τs:=τs) (vs:=rest) (Γ:=(p,.val τ)::Γ) hr (by simpa using hl) (λq hq=>⟨(hp q (by simp[hq])).1,by have:=(hp q (by simp[hq])).2;simp only[Jl,OM,C4] at this⊢;refine⟨⟨?_,by simp[AQ.C8]⟩,this⟩;simp[MI,ne_eq];exact λe=>hn1<|e▸hq⟩) IW h1
  refine⟨G,λq hq=>hG q ?_,hS⟩;simp[params,SA,Aq,C3] at hq⊢;rcases hq with h|h|h
  .exact .inr<| .inl h
  .exact .inl h
  .exact .inr<| .inr h
def Marks.tail{B:Aj P}{w:AR}{H:HV}:∀{l m:A3 Deferred},Marks B w H (l++m)->Marks B w H m
 |[],_,h=>h|_::_,_,h=>Marks.tail h.2
def Marks.both{B B':Aj P}{w w':AR}{H H':HV}:∀{l:A3 Deferred},Marks B w H l->Marks B' w' H' l->Marks B w' H' l
 |[],_,_=>trivial
 |_::_,⟨⟨D,e,h1,_,_,h4⟩,hr⟩,⟨⟨D',e',_,g2,g3,_⟩,gr⟩=>by rw[e] at e';cases e';exact⟨⟨D,e,h1,g2,g3,h4⟩,hr.both gr⟩
def jw(w0:Aj P)(H0:HV)(N:Nat)(Γ:Ctx)(a:Act)(n1:Nat)(M:Nat->Prop)(F6:∀p∈Γ,p.2.Ev=false)(hn:w0.n<=n1)(hD:∀D,({target:= .collected D,args:= #[]}:Deferred)∈a.defers++w0.ds->D<n1):Inv where
 n:=n1
 M:=M
 p:=λW H=>Sat w0 H0 N Γ a W H/\∀b,M b↔∃p∈Γ,p.2.owns W (Ae a p.1) b
 lt:=λ⟨hS,hM⟩ hb=>by let⟨p,hp,hb⟩:=(hM _).1 hb;exact AQ.JC (hS.holds p hp) hb
 step:=λ{w w' H H'} ⟨hS,hM⟩ F=>by
  have hk:∀p∈Γ,∀b,p.2.owns w (Ae a p.1) b->w'.heap[b]? =w.heap[b]? /\H' b=H b:=λp hp b hb=>by have h1:=(AQ.JC (hS.holds p hp) hb).1;have h2:M b:=(hM b).2 ⟨p,hp,hb⟩;exact⟨F.E3 b h1<| .inr h2,F.view b h1<| .inr h2⟩
  refine⟨Vl (ds:=a.defers) hS ?_ F.drawn ?_ F.size F.le F.sub ?_ (λp hp=>⟨hp,hk p hp⟩) ?_,λb=>?_⟩
  .exact⟨F.os.trans hS.below.os,F.tape.trans hS.below.tape,F.output.trans hS.below.output,Ct hS.below.drawn F.drawn,Ct hS.below.size F.size,λhv k hk hx=>(F.E3 k (Jj hk hS.below.size)<| .inl<|Jj hk hn).trans<|hS.below.block hv k hk hx⟩
  .exact λ_ r hr _=>F.view r (Jj hr hS.below.size)<| .inl<|Jj hr hn
  .rintro⟨p,hp,hi⟩;rw[F6 p hp] at hi;cases hi
  .exact hS.nd.kept λD hm h1 h2=>⟨by rw[F.E3 D (lt_of_heap h1)<| .inl<|hD D hm];exact h1,by rw[F.view D (lt_of_heap h1)<| .inl<|hD D hm];exact h2⟩
  .rw[hM b];have key:∀p∈Γ,∀b,p.2.owns w' (Ae a p.1) b↔p.2.owns w (Ae a p.1) b:=λp hp b=>by refine(AQ.VZ (n:=0) (w':=w') (H':=H') (hS.holds p hp) (λhi=>by rw[F6 p hp] at hi;cases hi) ?_).2 b;exact⟨F.size,F.os,F.tape,F.output,F.drawn,F.le,λb _ h=>h.elim (λh=>by omega)<|λh=>(hk p hp b h).1,λb _ h=>h.elim (λh=>by omega)<|λh=>(hk p hp b h).2,F.sub⟩
   exact⟨λ⟨p,hp,h⟩=>⟨p,hp,(key p hp b).2 h⟩,λ⟨p,hp,h⟩=>⟨p,hp,(key p hp b).1 h⟩⟩
def qK{k:Nat}:∀{Γ:Ctx},(∀p∈Γ,p.1≠k)->BF k Γ=Γ
 |[],_=>rfl
 |p::Γ,h=>by
  have h1:Nat.beq p.1 k=false:=by
   cases hb:Nat.beq p.1 k
   .rfl
   .exact absurd (E9 hb) (h p (by simp))
  simp[BF,h1,As];rw[qK λq hq=>h q (by simp[hq])]
def Sat.defs{ds:A3 Deferred}(hs:Sat w0 H0 N Γ a w H)(hm:Marks w0 w H (ds++w0.ds)):Sat w0 H0 N Γ {a with defers:=ds} w H:=Vl (ds:=ds) hs hs.below (BK _) (λ_ _ _ _=>rfl) (BK _) (HV.le.refl _) hs.sub (λ_ _ _ _=>⟨rfl,rfl⟩) (λp hp=>⟨hp,λ_ _=>⟨rfl,rfl⟩⟩) hm
def y9{a3 aD:Act}{W W4:AR}{Hc H3:HV}{M:Nat->Prop}{G G':Ctx}(hS:Sat w0 H0 N G aD W Hc)(hds:w0.ds=[])(hrd:w0.rd=none)
 (hM:∀b,M b->w0.EC b/\Hc b=none)(wr:Aj P)(hwr:wr=⟨W,M,some l,false,aD.defers,0,FQ _,λ_ _=>FQ _⟩)
 (Hz:Sat wr Hc N ((N,.Dt l rc)::(pins N T (λt=>Ae aD t)++G')) a3 W4 H3)(hT:a7 N T G'=true):Sat w0 H0 N ((N,.Dt l rc)::G') aD W4 H3/\Qv M W Hc W4 H3/\∀p∈(N,AQ.Dt l rc)::G',∀b,p.2.owns W4 (Ae aD p.1) b->M b\/W.heap.size<=b:=by
 have hwn:wr.n=W.heap.size:=by rw[hwr];rfl
 have hwX:wr.X=M:=by rw[hwr]
 have hwv:wr.Iw=false:=by rw[hwr]
 have atA:wr.ds=aD.defers:=by rw[hwr]
 have hww:wr.w=W:=by rw[hwr]
 have KM:∀t∈T,Ae a3 t=Ae aD t:=λt ht=>Hz.holds (N+1+t,.KM t<|Ae aD t)<|By _<|IB _<|BU.2 ⟨t,ht,rfl⟩
 have mem:∀p∈(N,AQ.Dt l rc)::G',p∈(N,AQ.Dt l rc)::(pins N T (λt=>Ae aD t)++G'):=λp hp=>by
  rcases Aq.1 hp with e|hp
  .subst e;simp
  .exact By _<|SB _ hp
 have EC:∀b,wr.EC b->w0.EC b:=λb hb=>by
  rcases hb with hb|hb
  .exact .inl<|Ct hS.below.size<|hwn▸hb
  .exact(hM b<|hwX▸hb).1
 have hle:HV.le Hc H3:=λr o h=>by have hlt:=HG hS.sub h;rw[Hz.FW hwv r (by rw[hwn];exact hlt) (λhx=>by have:=(hM r<|hwX▸hx).2;rw[this] at h;cases h)];exact h
 have E3:∀b,b<W.heap.size-> ¬M b->W4.heap[b]? =W.heap[b]? /\H3 b=Hc b:=λb hb hn=>by have h1:=Hz.below.block hwv b (by rw[hwn];exact hb) (by rw[hwX];exact hn);rw[hww] at h1;exact⟨h1,Hz.FW hwv b (by rw[hwn];exact hb) (by rw[hwX];exact hn)⟩
 have hsz:W.heap.size<=W4.heap.size:=by have:=Hz.below.size;rw[hwn] at this;exact this
 have hos:W4.os=W.os:=by have:=Hz.below.os;rw[hww] at this;exact this
 have hta:W4.tape=W.tape:=by have:=Hz.below.tape;rw[hww] at this;exact this
 have hou:W4.output=W.output:=by have:=Hz.below.output;rw[hww] at this;exact this
 have hdr:Gv W W4:=by have:=Hz.below.drawn;rw[hww] at this;exact this
 have low:∀k,k<w0.n-> ¬w0.X k-> ¬M k:=λk hk hx hm=>by
  rcases(hM k hm).1 with h|h
  .omega
  .exact hx h
 have rV:∀p∈(N,AQ.Dt l rc)::G',∀b,p.2.owns W4 (Ae aD p.1) b↔p.2.owns W4 (Ae a3 p.1) b:=λp hp b=>by
  rcases Aq.1 hp with e|hp
  .subst e;exact Iff.rfl
  .rw[KM _ (PC hT hp).2.1]
 refine⟨⟨?_,hS.sz,?_,?_,Hz.sub,?_,?_,Hz.gl⟩,⟨hsz,hos,hta,hou,hdr,hle,E3,Hz.sub⟩,?_⟩
 .have h1:=Hz.nd.tail;rw[atA] at h1;have h2:=hS.nd;rw[hds,Ig] at h2⊢;exact h2.both h1
 .exact⟨hos.trans hS.below.os,hta.trans hS.below.tape,hou.trans hS.below.output,Ct hS.below.drawn hdr,Ct hS.below.size hsz,λhv k hk hx=>(E3 k (Jj hk hS.below.size)<|low k hk hx).1.trans<|hS.below.block hv k hk hx⟩
 .exact λhv r hr hx=>(E3 r (Jj hr hS.below.size)<|low r hr hx).2.trans<|hS.FW hv r hr hx
 .intro p hp;have h1:=Hz.holds p<|mem p hp
  have hi:p.2.Ev=false:=by
   rcases Aq.1 hp with e|hp
   .subst e;rfl
   .exact(PC hT hp).2.2.2
  have h2:=AQ.Rc (B':=w0) hi h1 λb hb=>EC b<|AQ.PI hi h1 hb
  rcases Aq.1 hp with e|hp
  .subst e;exact h2
  .let⟨_,hk,hl,_⟩:=PC hT hp;rw[<-KM _ hk];exact AQ.PH (λt ht=>(KM t<|hl t ht).symm) h2
 .intro p hp q hq hne b hb Ba;exact Hz.sep p (mem p hp) q (mem q hq) hne b ((rV p hp b).1 hb)<|(rV q hq b).1 Ba
 .intro p hp b hb;have h1:=Hz.holds p<|mem p hp
  have hi:p.2.Ev=false:=by
   rcases Aq.1 hp with e|hp
   .subst e;rfl
   .exact(PC hT hp).2.2.2
  rcases AQ.PI hi h1 ((rV p hp b).1 hb) with h|h
  .exact .inr<|hwn▸h
  .exact .inl<|hwX▸h
def qG{α:Type}{gt:Tmp}{psl:A3 Tmp}{assign body:Code}{enc:α->A3 Ty}{L:A3 α}{o:AA (A3 α)}(T:A3 Nat)(Ai:σ->Ctx)(KK:AA Ctx)
 {Bd:(σ->AA ρ)->α->σ->AA ρ}{K:σ->AA ρ}{s0:σ}
 (hm:JX L Bd s0 K=some r)(ho:o=some L)(hrd:w0.rd=none)(hds:w0.ds=[])(hg:look Γ gt=some (.val<|Un P enc o))(h0:ES Γ ts (Ai s0))
 (hT:∀s,a7 N T (Ai s)=true)(hTx:∀G,KK=some G->a7 N T G=true)(hps:∀x,(enc x).length=psl.length)(hpN:(psl.all λp=>Nat.blt p N&& !T.contains p)=true)(IV:psl.Nodup)
 (round:∀(wr:Aj P) (Hr:HV) (l:Nat) (rc:Loop) (pv:Nat->AV) (next:σ->AA ρ) (x:α) (s:σ),wr.rd=some l->Bd next x s=some r->Goal P wr Hr N assign (aab wr Hr N l rc T pv body Ai KK next r) (params psl (enc x)++((N,.Dt l rc)::(pins N T pv++Ai s))))
 (kk:∀s,K s=some r->EJ w0 H0 N (Q .normal) (Ai s))(kx:∀G,KK=some G->EJ w0 H0 N (Q .ret) G):Goal P w0 H0 N (.rangeFunc (.tmp gt) psl.toArray assign body) Q Γ:=by
 intro a w H hs;have hinv:∀s,∀p∈Ai s,p.2.Ev=false:=λs p hp=>(PC (hT s) hp).2.2.2
 have abm:∀s,∀p∈Ai s,p.1≠N:=λs p hp=>Nat.ne_of_lt (PC (hT s) hp).1
 rw[hrd];refine wpIn_rangeFunc ?_;intro fn _;let⟨gf,cap,F2,eg,hcap,Wj⟩:=hs.holds _<|B6 hg
 let⟨Ug,aqh⟩:=Wj L ho;simp only at eg;obtain⟨E4,R3⟩:∃E4:Loop,E4={state:= .ready,pending:=none,fn,tmps:=a.tmps,params:=psl.toArray,assign,body,defers:=w.heap.size}:=⟨_,rfl⟩;obtain⟨W1,hW1⟩:∃W1,(w.alloc<| .deferred<|some []).alloc (.loop E4)=W1:=⟨_,rfl⟩;obtain⟨aD,haD⟩:∃aD:Act,{a with defers:={target:= .collected w.heap.size,args:= #[]}::a.defers}=aD:=⟨_,rfl⟩;have avV:W1.heap.size=w.heap.size+2:=by rw[<-hW1];simp
 have hL1:W1.heap[w.heap.size+1]? =some (.loop E4):=by rw[<-hW1];have:=World.alloc_heap_new (w.alloc<| .deferred<|some []) (.loop E4);rwa [World.size_alloc] at this
 have hK1:W1.heap[w.heap.size]? =some (.deferred<|some []):=by rw[<-hW1];exact(Below.heap_alloc _ _ _ (by simp)).trans<|World.alloc_heap_new w _
 have hHn:∀b,w.heap.size<=b->H b=none:=λb hb=>by cases hh:H b with|none=>rfl|some o=>have:=HG hs.sub hh;omega
 have he:Ext w H W1 H:=by
  have e1:=Ext.alloc hs.sub (w:=w)<| .deferred<|some []
  have e2:=Ext.alloc e1.sub (w:=w.alloc<| .deferred<|some [])<| .loop E4
  rw[hW1] at e2;refine⟨⟨?_,Ct e1.below.drawn e2.below.drawn⟩,HV.le.refl _,λ_ _=>rfl,e2.sub⟩;have h1:=e1.below.toBelow;have h2:=e2.below.toBelow;exact h1.trans (h2.mono (by simp))
 have hsD:Sat w0 H0 N ((N,.Dt (w.heap.size+1) E4)::Ai s0) aD W1 H:=by
  have hs1:=fQ (hs.weaken h0.sub) he;have hmk:Marks w0 W1 H (aD.defers++w0.ds):=by
   rw[<-haD];refine⟨⟨w.heap.size,rfl,λ_=>hs.below.size,hK1,hHn _<|BK _,?_⟩,hs1.nd⟩;intro e he1 he2;have:∀{l:A3 Deferred},Marks w0 w H l->e∈l->False:=by
    intro l
    induction l with
    |nil=>intro _ h;cases h
    |cons x l ih=>
     rintro⟨⟨D,ex,_,g2,_,_⟩,gr⟩ h;rcases Aq.1 h with h|h
     .subst h;rw[ex] at he2;have hD:D=w.heap.size:=by injection he2 with h _;injection h
      subst hD;have:=lt_of_heap g2;omega
     .exact ih gr h
   exact this hs.nd he1
  have KQ:Sat w0 H0 N (Ai s0) aD W1 H:=by rw[<-haD] at hmk⊢;exact hs1.defs hmk
  refine⟨KQ.nd,KQ.sz,KQ.below,KQ.FW,KQ.sub,?_,?_,KQ.gl⟩
  .intro p hp;rcases Aq.1 hp with e|hp
   .subst e;exact⟨hL1,hHn _ (by omega),.inl (Ct hs.below.size (by omega))⟩
   .exact KQ.holds p hp
  .have key:∀q∈Ai s0,¬q.2.owns W1 (Ae aD q.1) (w.heap.size+1):=λq hq hb=>by
    have Ba:q.2.owns W1 (Ae a q.1) (w.heap.size+1):=by rw[<-haD] at hb;exact hb
    have:=(AQ.JC ((hs.weaken h0.sub).holds q hq)<|(AQ.fU he ((hs.weaken h0.sub).holds q hq) _).1 Ba).1;omega
   intro p hp q hq hne b hb Ba;rcases Aq.1 hp with e|hp<;>rcases Aq.1 hq with e'|hq
   .subst e;subst e';exact hne rfl
   .subst e;cases hb;exact key q hq Ba
   .subst e';cases Ba;exact key p hp hb
   .exact KQ.sep p hp q hq hne b hb Ba
 have hDl:∀D,({target:= .collected D,args:= #[]}:Deferred)∈aD.defers++w0.ds->D<W1.heap.size:=by
  intro D hD;have:∀{l:A3 Deferred},Marks w0 W1 H l->({target:= .collected D,args:= #[]}:Deferred)∈l->D<W1.heap.size:=by
   intro l
   induction l with
   |nil=>intro _ h;cases h
   |cons x l ih=>
    rintro⟨⟨D',ex,_,g2,_,_⟩,gr⟩ h;rcases Aq.1 h with h|h
    .rw[ex] at h;have hD:D=D':=by injection h with h _;injection h
     subst hD;exact lt_of_heap g2
    .exact ih gr h
  exact this hsD.nd hD
 have hn1:w0.n<=W1.heap.size:=by have:=hs.below.size;omega
 have kD:∀s,∀p∈(N,AQ.Dt (w.heap.size+1) E4)::Ai s,p.2.Ev=false:=λs p hp=>by
  rcases Aq.1 hp with e|hp
  .subst e;rfl
  .exact hinv s p hp
 have b9:∃rcx:Loop,rcx={E4 with state:= .done,pending:=some .ret}:=⟨_,rfl⟩;let⟨rcx,b9⟩:=b9;have acN:∀G,KK=some G->∀p∈(N,AQ.Dt (w.heap.size+1) rcx)::G,p.2.Ev=false:=λG hG p hp=>by
  rcases Aq.1 hp with e|hp
  .subst e;rfl
  .exact(PC (hTx G hG) hp).2.2.2
 let J:σ->Inv->Prop:=λs I=>∃M,I=jw w0 H0 N ((N,.Dt (w.heap.size+1) E4)::Ai s) aD W1.heap.size M (kD s) hn1 hDl
 let Jx:Inv->Prop:=λI=>∃G,∃hG:KK=some G,∃M,I=jw w0 H0 N ((N,.Dt (w.heap.size+1) rcx)::G) aD W1.heap.size M (acN G hG) hn1 hDl
 refine⟨w.heap.size+1,[{target:= .collected w.heap.size,args:= #[]}],W1,{target:= .fn (.func gf) cap,args:= #[.func (.yield<|w.heap.size+1) #[] #[]]},W1,gf,#[.func (.yield<|w.heap.size+1) #[] #[]]++cap,W1,?_,?_,?_,?_,(λe=>by cases e),?_⟩
 .rw[<-hW1,R3];exact run_enterLoop_outer _ _ _ _ _
 .have eg':a.eval (.tmp gt)= .func (.func gf) #[] cap:=eg;simp only[resolve,eg'];simp[go_sem]
 .intro f' _;trivial
 .have:=P6 Ug (#[.func (.yield<|w.heap.size+1) #[] #[]]++cap) W1;simp only[invoke];exact this
 ·
  have ec:(#[.func (.yield<|w.heap.size+1) #[] #[]]++cap:B8 AV)=(.func (.yield<|w.heap.size+1) #[] #[]::cap.toList).toArray:=by apply Array.ext';simp
  rw[ec];refine CallsIn.aba (abH<|aqh Bd K s0 r hm (w.heap.size+1) J Jx W1 H cap.toList _ hsD.sub hsD.gl (Yl (HV.le.refl _) hcap) ⟨λb=>∃p∈(N,AQ.Dt (w.heap.size+1) E4)::Ai s0,p.2.owns W1 (Ae aD p.1) b,rfl⟩ rfl ⟨hsD,λb=>Iff.rfl⟩ ?_) ?_
  ·
   rintro next x s I W Hc vs hBd ⟨M,rfl⟩ _ ⟨hS,hM⟩ BC hgl hvs
   have hM':∀b,M b->w0.EC b/\Hc b=none:=λb hb=>by let⟨p,hp,hb⟩:=(hM b).1 hb;exact⟨AQ.PI (kD s p hp) (hS.holds p hp) hb,(AQ.JC (hS.holds p hp) hb).2.1⟩
   let⟨hl1,hl2,hl3⟩:=hS.holds (N,.Dt (w.heap.size+1) E4) (by simp);have La:vs.length=psl.length:=by rw[Rw hvs,hps x]
   have hy:=run_yield (P:=P) (args:=vs.toArray) hl1 (by rw[R3];simpa using La);refine⟨E4.fn,_,E4.assign,E4.body,hy,roundIn_of_wpIn trivial ?_⟩;have ea:E4.assign=assign:=by rw[R3]
   have eb:E4.body=body:=by rw[R3]
   have et:((E4.params.zip vs.toArray).foldl (λtmps (t,a)=>tmps.setIfInBounds t a) E4.tmps)=((psl.zip vs).foldl (λt (p,v)=>t.setIfInBounds p v) aD.tmps):=by rw[R3,<-haD];simp
   rw[ea,eb,et];obtain⟨wr,hwr⟩:∃wr:Aj P,wr=⟨W,M,some<|w.heap.size+1,false,aD.defers,0,FQ _,λ_ _=>FQ _⟩:=⟨_,rfl⟩;have rj:wr.rd=some (w.heap.size+1):=by rw[hwr]
   have Kt:Sat wr Hc N ((N,.Dt (w.heap.size+1) E4)::Ai s) {aD with defers:=[]} W Hc:=by
    refine⟨?_,hS.sz,?_,λ_ _ _ _=>rfl,hS.sub,?_,hS.sep,hS.gl⟩
    .rw[hwr];show Marks _ W Hc ([]++aD.defers);have h2:=hS.nd;rw[hds,Ig] at h2;have:∀{l:A3 Deferred},Marks w0 W Hc l->Marks (⟨W,M,some<|w.heap.size+1,false,aD.defers,0,FQ _,λ_ _=>FQ _⟩:Aj P) W Hc l:=by
      intro l
      induction l with|nil=>exact λ_=>trivial|cons x l ih=>exact λ⟨⟨D,e,_,g2,g3,g4⟩,gr⟩=>⟨⟨D,e,(λh=>by cases h),g2,g3,g4⟩,ih gr⟩
     exact this h2
    .rw[hwr];exact⟨rfl,rfl,rfl,BK _,BK _,λ_ _ _ _=>rfl⟩
    .intro p hp;refine AQ.PH (a:=aD) (λ_ _=>rfl)<|AQ.Rc (kD s p hp) (hS.holds p hp) λb hb=>?_
     rw[hwr];exact .inr<|(hM b).2 ⟨p,hp,hb⟩
   have hr1:Sat wr Hc N (pins N T (λt=>Ae aD t)++((N,.Dt (w.heap.size+1) E4)::Ai s)) {aD with defers:=[]} W Hc:=by
    refine Kt.ane λp hp=>?_
    obtain⟨t,ht,rfl⟩:=BU.1 hp;exact⟨rfl,rfl⟩
   let⟨G,hG,H7⟩:=vw (ps:=psl) (τs:=enc x) (vs:=vs) hvs (hps x).symm (λp hp=>by
    have h1:=Dj.1 hpN p hp;simp only[C4,G5] at h1;have hpT:p∉T:=λh=>by have:=UA.2 h;rw[h1.2] at this;cases this
    refine⟨Ad h1.1,Dj.2 λq hq=>?_⟩;have hlt:=Ad h1.1;simp only[C4,MI,ne_eq,G5];rcases C3.1 hq with hq|hq
    .obtain⟨t,ht,rfl⟩:=BU.1 hq;refine⟨by simp only;omega,?_⟩;simp only[AQ.C8,List.contains_cons,List.contains_nil,ZI,ZY,ne_eq];exact λe=>hpT<|e▸ht
    .rcases Aq.1 hq with e|hq
     .subst e;exact⟨by simp only;omega,rfl⟩
     .let⟨_,k2,k3,_⟩:=PC (hT s) hq;refine⟨λe=>hpT<|e▸k2,?_⟩;cases hc:q.2.C8.contains p
      .rfl
      .exact absurd (k3 p<|UA.1 hc) hpT) IV hr1
   have hr3:Sat wr Hc N (params psl (enc x)++((N,.Dt (w.heap.size+1) E4)::(pins N T (λt=>Ae aD t)++Ai s))) _ W Hc:=H7.weaken λq hq=>hG q (by
    simp only[C3,Aq] at hq⊢;rcases hq with h|h|h|h
    .exact .inl h
    .exact .inr<| .inr<| .inl h
    .exact .inr<| .inl h
    .exact .inr<| .inr<| .inr h)
   have acX:=round wr Hc (w.heap.size+1) E4 (λt=>Ae aD t) next x s rj hBd _ W Hc hr3
   rw[rj] at acX;refine Vx (F:=Fb<|some<|w.heap.size+1) acX ?_;rintro e a1 W2 hq;cases e with
   |normal=>
    let⟨Γa,H2,hS2,hdk,hgo⟩:=hq;have hb0:=hS2.holds (N,.Dt (w.heap.size+1) E4) (by simp);refine⟨_,run_beginRound hb0.1 (by rw[R3]),?_⟩;have acZ:=Z2 (l:=w.heap.size+1) (rc:=E4) (rc':=busy E4) hS2 (k:=N) (by simp);have edk:BF N ((N,AQ.Dt (w.heap.size+1) E4)::Γa)=Γa:=by
     have:Nat.beq N N=true:=by simp
     simp only[BF,this,BI];exact hdk
    rw[edk] at acZ;have abq:=hgo a1 _ H2 acZ;rw[rj] at abq;refine Vx (F:=Fb<|some<|w.heap.size+1) abq ?_;rintro e a3 W3 hq3;cases e with
    |normal=>
     let⟨s',HJ,H3,hS3⟩:=hq3;have hb3:=hS3.holds (N,.Dt (w.heap.size+1)<|busy E4) (by simp);have Hz:=Z2 (l:=w.heap.size+1) (rc:=busy E4) (rc':=E4) hS3 (k:=N) (by simp);have sR:BF N ((N,AQ.Dt (w.heap.size+1)<|busy E4)::(pins N T (λt=>Ae aD t)++Ai s'))=pins N T (λt=>Ae aD t)++Ai s':=by
      have:Nat.beq N N=true:=by simp
      simp only[BF,this,BI];refine qK λp hp=>?_
      rcases C3.1 hp with hp|hp
      .obtain⟨t,_,rfl⟩:=BU.1 hp;simp only;omega
      .exact abm s' p hp
     rw[sR] at Hz;let⟨hB1,hB2,hB3⟩:=y9 hS hds hrd hM' wr hwr Hz<|hT s'
     have erc:({busy E4 with state:=if(none:AA Code).isNone then .ready else .done,pending:=none}:Loop)=E4:=by rw[R3];rfl
     refine⟨_,_,run_endRound none hb3.1,H3,jw w0 H0 N ((N,.Dt (w.heap.size+1) E4)::Ai s') aD W1.heap.size (λb=>∃p∈(N,AQ.Dt (w.heap.size+1) E4)::Ai s',p.2.owns (W3.putObj (w.heap.size+1)<| .loop E4) (Ae aD p.1) b) (kD s') hn1 hDl,rfl,?_,?_,?_,.inl ⟨rfl,s',HJ,_,rfl⟩⟩
     .rw[erc];exact⟨hB1,λb=>Iff.rfl⟩
     .rw[erc];exact hB2
     .rintro b ⟨p,hp,hb⟩;exact hB3 p hp b hb
    |ret=>
     let⟨G,hG,H3,hS3⟩:=hq3;have hb3:=hS3.holds (N,.Dt (w.heap.size+1)<|busy E4) (by simp);have Hz:=Z2 (l:=w.heap.size+1) (rc:=busy E4) (rc':=rcx) hS3 (k:=N) (by simp);have sR:BF N ((N,AQ.Dt (w.heap.size+1)<|busy E4)::(pins N T (λt=>Ae aD t)++G))=pins N T (λt=>Ae aD t)++G:=by
      have:Nat.beq N N=true:=by simp
      simp only[BF,this,BI];refine qK λp hp=>?_
      rcases C3.1 hp with hp|hp
      .obtain⟨t,_,rfl⟩:=BU.1 hp;simp only;omega
      .exact Nat.ne_of_lt (PC (hTx G hG) hp).1
     rw[sR] at Hz;let⟨hB1,hB2,hB3⟩:=y9 hS hds hrd hM' wr hwr Hz<|hTx G hG
     have erc:({busy E4 with state:=if(some Code.ret:AA Code).isNone then .ready else .done,pending:=some .ret}:Loop)=rcx:=by rw[b9];rfl
     refine⟨_,_,run_endRound (some .ret) hb3.1,H3,jw w0 H0 N ((N,.Dt (w.heap.size+1) rcx)::G) aD W1.heap.size (λb=>∃p∈(N,AQ.Dt (w.heap.size+1) rcx)::G,p.2.owns (W3.putObj (w.heap.size+1)<| .loop rcx) (Ae aD p.1) b) (acN G hG) hn1 hDl,rfl,?_,?_,?_,.inr ⟨rfl,G,hG,_,rfl⟩⟩
     .rw[erc];exact⟨hB1,λb=>Iff.rfl⟩
     .rw[erc];exact hB2
     .rintro b ⟨p,hp,hb⟩;exact hB3 p hp b hb
    |exit id=>exact hq3.elim|goto t=>exact hq3.elim|panic ch=>exact hq3.elim|outgrown=>exact hq3.elim
   |ret=>exact hq.elim|exit id=>exact hq.elim|goto t=>exact hq.elim|panic ch=>exact hq.elim|outgrown=>exact hq.elim
  ·
   rintro e w3 ⟨⟨v,rfl⟩,H',I',hp,av9,(⟨s,hK,M,rfl⟩|⟨G,hG,M,rfl⟩)⟩
   .let⟨hS,_⟩:=hp;let⟨hl1,_,_⟩:=hS.holds (N,.Dt (w.heap.size+1) E4) (by simp);have hel:=run_endLoop (P:=P) hl1 (by rw[R3];simp);have epe:E4.pending=none:=by rw[R3]
    rw[epe] at hel;refine⟨none,_,hel,?_⟩;have h5:=Z2 (l:=w.heap.size+1) (rc:=E4) (rc':={E4 with state:= .exhausted,pending:=none}) hS (k:=N) (by simp);have h6:Sat w0 H0 N (Ai s) aD (w3.putObj (w.heap.size+1)<| .loop {E4 with state:= .exhausted,pending:=none}) H':=h5.weaken λq hq=>by
     refine By _<|PL ?_<|abm s q hq
     exact By _ hq
    have:=kk s hK aD _ H' h6;rw[<-haD] at this;exact this
   .let⟨hS,_⟩:=hp;let⟨hl1,_,_⟩:=hS.holds (N,.Dt (w.heap.size+1) rcx) (by simp);have hel:=run_endLoop (P:=P) hl1 (by rw[b9];simp);have epe:rcx.pending=some .ret:=by rw[b9]
    rw[epe] at hel;refine⟨some .ret,_,hel,?_⟩;refine wpIn_ret ?_;have h5:=Z2 (l:=w.heap.size+1) (rc:=rcx) (rc':={rcx with state:= .exhausted,pending:=some .ret}) hS (k:=N) (by simp);have h6:Sat w0 H0 N G aD (w3.putObj (w.heap.size+1)<| .loop {rcx with state:= .exhausted,pending:=some .ret}) H':=h5.weaken λq hq=>by
     refine By _<|PL ?_<|Nat.ne_of_lt (PC (hTx G hG) hq).1
     exact By _ hq
    have:=kx G hG aD _ H' h6;rw[<-haD] at this;exact this
end
section
variable[D:DR]
def Aj.iter(P:CF)(w:AR):Aj P:=⟨w,KO,none,true,[],w.heap.size,BK _,λ_ h=>h.elim⟩
end
section
variable[D:DR]
variable{P:Program}{w0:Aj P}{H0:HV}{N:Nat}{Q:Exit->Act->World->Prop}{Γ An:Ctx}
variable{σ ρ:Type}{r:ρ}{J:σ->Inv->Prop}{I:Inv}{Jx:Inv->Prop}{α:Type}{enc:α->A3 Ty}{ts:A3 Nat}{fn:Func}{s:σ}{ops:B8 Oper}{xs:A3 CD}{ty:Am}{pos:String}{af:B8 Edge}{K:σ->AA ρ}{a:Act}{w:AR}{H:HV}{Bd:(σ->AA ρ)->α->σ->AA ρ}{l:Nat}{next:σ->AA ρ}{x:α}{t dy dn:Nat}{Ex:B8 Am}{KH tb:Am}{pos':String}{LX:B8 Edge}{GZ:Ctx}
def kK{σ ρ:Type}(K:σ->AA ρ)(r:ρ)(J:σ->Inv->Prop)(Jx:Inv->Prop)(e:Ending)(w':AR):Prop:=(∃v,e= .returned v)/\∃H' I',I'.p w' H'/\(∀r o,H' r=some o->w'.heap[r]? =some o)/\((∃s,K s=some r/\J s I')\/Jx I')
def rT(P:CF)(fn:Func)(R:Ending->AR->Prop):Exit->Act->AR->Prop:=bodyPostM (Fb none) 0 P fn R
def SO(l:Nat):Ty:=TEq (.func (.yield l) #[] #[]) rfl
def xX(hX:(w0.ds,w0.rd)=([],none))(hr:fn.results= #[])(hI:look Γ N=some (.inv I))(hK:(∃s,K s=some r/\J s I)\/Jx I)
 (hs:Sat w0 H0 N Γ a w H):LeavesInM (Fb none) 0 P fn a.tmps (kK K r J Jx) a.defers .returning w:=by
 refine VR (congrArg (λp=>p.1) hX) (congrArg (λp=>p.2) hX) (a:=a) (ds:=a.defers) hs λw H hs=>?_
 refine⟨.tuple #[],?_,⟨_,rfl⟩,H,I,(hs.holds _<|B6 hI).1,hs.sub,hK⟩;rw[YO (rs:=[]) (by rw[hr])];simp
def abK(hX:(w0.ds,w0.rd)=([],none))(hr:fn.results= #[])(hI:look Γ N=some (.inv I))(hK:K s=some r)(hJ:J s I):EJ w0 H0 N (λa w=>rT P fn (kK K r J Jx) .normal a w) Γ:=λ_ _ _ hs=>xX hX hr hI (.inl ⟨s,hK,hJ⟩) hs
def aaQ(hX:(w0.ds,w0.rd)=([],none))(hr:fn.results= #[])(hI:look Γ N=some (.inv I))(hJ:Jx I):EJ w0 H0 N (λa w=>rT P fn (kK K r J Jx) .ret a w) Γ:=λ_ _ _ hs=>xX hX hr hI (.inr hJ) hs
theorem wH{gf:FuncId}{c:Code}{F2:A3 Ty}{L:A3 α}{N:Nat}(hf:P.funcs[gf]? =some fn)(hb:fn.body=some c)(hN:fn.ntmps=N)(hn:F2.length+1<=N)(hc:Gd P gf=true)
 (h:∀{σ ρ:Type} (Bd:(σ->AA ρ)->α->σ->AA ρ) (K:σ->AA ρ) (s0:σ) (r:ρ),JX L Bd s0 K=some r->∀(l:Nat) (J:σ->Inv->Prop) (Jx:Inv->Prop) (w:AR) (H:HV) (I0:Inv),J s0 I0->I0.n=w.heap.size->Zk P l enc Bd r J Jx w.heap.size->Goal P (Aj.iter P w) H N c (rT P fn<|kK K r J Jx) ((N,.inv I0)::HZ 0 (SO l::F2))):Yw P gf F2 enc L:=by
 subst hN;refine⟨hc,λBd K s0 r hm l J Jx w H cvs I0 sub gl Aw hJ hI hIp hy=>?_⟩;have sA:Ec H (SO l::F2) (.func (.yield l) #[] #[]::cvs):=⟨_,_,rfl,rfl,Aw⟩;have hS:=xf (P:=P) (n:=fn.ntmps) sub gl sA (by simpa using hn);refine(callsIn_wide (n:=0)).1<|callsIn_of_wp_marks (F:=Fence.wide) hf hb trivial<|h Bd K s0 r hm l J Jx w H I0 hJ hI hy _ w H ?_
 have F6:∀p∈HZ 0 (SO l::F2),p.2.Ev=false/\∀v b,¬p.2.owns w v b:=by
  have:∀(l:A3 Ty) (i:Nat),∀p∈HZ i l,p.2.Ev=false:=by
   intro l
   induction l with
   |nil=>intro i p hp;simp[HZ] at hp
   |cons τ l ih=>
    intro i p hp;simp[HZ,Aq] at hp;rcases hp with e|hp
    .subst e;rfl
    .exact ih _ p hp
  exact λp hp=>⟨this _ _ p hp,λv b=>nN p hp⟩
 refine⟨trivial,hS.sz,⟨rfl,rfl,rfl,BK _,BK _,λ_ _ _ _=>rfl⟩,λ_ _ _ _=>rfl,hS.sub,?_,?_,hS.gl⟩
 .intro p hp;rcases Aq.1 hp with e|hp
  .subst e;exact⟨hIp,hI⟩
  .exact AQ.Rc (F6 p hp).1 (hS.holds p hp) λb hb=>absurd hb<|(F6 p hp).2 _ b
 .intro p hp q hq hne b hb Ba;rcases Aq.1 hp with e|hp
  .grind
  .grind
theorem aiR{w':AR}{H':HV}{k:Nat}{I':Inv}(hv:w0.Iw=true)(Fi:w0.lo=w0.n)(hs:Sat w0 H0 N Γ a w H)(hk:(k,.inv I)∈Γ)(F6:∀q∈BF k Γ,q.2.Ev=false)
 (hy:Qv I.M w H w' H')(hI:I'.n=w0.n)(hp:I'.p w' H')(hM:∀b,I'.M b->I.M b\/w.heap.size<=b):Sat w0 H0 N ((k,.inv I')::BF k Γ) a w' H':=by
 have hIk:=hs.holds _ hk;have other:∀q∈BF k Γ,∀b,q.2.owns w (Ae a q.1) b-> ¬I.M b:=λq hq b hb hm=>hs.sep q (DL q hq).1 _ hk (DL q hq).2 b hb hm
 have Ld:∀q∈BF k Γ,∀b,q.2.owns w (Ae a q.1) b->w'.heap[b]? =w.heap[b]? /\H' b=H b:=λq hq b hb=>hy.E3 b (AQ.JC (hs.holds q (DL q hq).1) hb).1 (other q hq b hb)
 have key:∀q∈BF k Γ,q.2.holds w0 a w' H' (Ae a q.1)/\∀b,q.2.owns w' (Ae a q.1) b↔q.2.owns w (Ae a q.1) b:=λq hq=>by refine AQ.VZ (n:=0) (hs.holds q (DL q hq).1) (λhi=>by rw[F6 q hq] at hi;cases hi) ?_;exact⟨hy.size,hy.os,hy.tape,hy.output,hy.drawn,hy.le,λb _ h=>h.elim (λh=>by omega)<|λh=>(Ld q hq b h).1,λb _ h=>h.elim (λh=>by omega)<|λh=>(Ld q hq b h).2,hy.sub⟩
 refine⟨?_,hs.sz,?_,λh=>by(rw[hv] at h;cases h),hy.sub,?_,?_,hs.gl.mono hy.le⟩
 .refine hs.nd.kept λD _ h1 h2=>?_
  have hn: ¬I.M D:=λhm=>by let⟨_,_,o,ho,Jw⟩:=I.lt hIk.1 hm;rw[h1] at ho;cases ho;exact Jw
  have:=hy.E3 D (lt_of_heap h1) hn;exact⟨by rw[this.1];exact h1,by rw[this.2];exact h2⟩
 .exact⟨hy.os.trans hs.below.os,hy.tape.trans hs.below.tape,hy.output.trans hs.below.output,Ct hs.below.drawn hy.drawn,Ct hs.below.size hy.size,λh=>by rw[hv] at h;cases h⟩
 .intro q hq;rcases Aq.1 hq with e|hq
  .subst e;exact⟨hp,by rw[Fi];exact hI⟩
  .grind
 .have low:∀q∈BF k Γ,∀b,q.2.owns w' (Ae a q.1) b-> ¬I'.M b:=λq hq b hb hm=>by
   have hb:=((key q hq).2 b).1 hb;rcases hM b hm with h|h
   .grind
   .have:=(AQ.JC (hs.holds q (DL q hq).1) hb).1;omega
  intro q hq r hr hne b hb Ba;rcases Aq.1 hq with e|hq<;>rcases Aq.1 hr with e'|hr
  .grind
  .subst e;exact low r hr b Ba hb
  .subst e';exact low q hq b hb Ba
  .exact hs.sep q (DL q hq).1 r (DL r hr).1 hne b (((key q hq).2 b).1 hb)<|((key r hr).2 b).1 Ba
def JN.ant{l:A3 Oper}(h:JN P w0 N ops l Γ An):Jn l=true->∀(l2:A3 Oper) (H0:HV) (a:Act) (w:AR) (H:HV),Sat w0 H0 N Γ a w H->∀(Q:Exit->Act->AR->Prop),(∀a' w' H',Sat w0 H0 N An a' w' H'->wpListIn (Fb w0.rd) 0 P ops Q l2 a' w')->wpListIn (Fb w0.rd) 0 P ops Q (l++l2) a w:=by
 induction h with
 |done=>exact λ_ _ _ _ _ H hs _ k=>k _ _ H hs|fin h=>exact λ_ _ _ _ _ H hs _ k=>k _ _ H<|hs.weaken h.sub
 | @cons _ _ _ o l h _ ih=>
  intro Aw l2 H0 a w H hs Q k;have Es:=h w0 H0 a w H hs (wpListIn (Fb w0.rd) 0 P ops Q<|l++l2) Q λa' w' H' DO=>ih (wC Aw) l2 H0 a' w' H' DO Q k
  show wpListIn _ _ _ _ _ (o::(l++l2)) a w;unfold wpListIn;split
  .rename_i hw;rw[if_pos hw] at Es;exact Z5 (nF Aw (by simp)) Es
  .rename_i hw;rw[if_neg hw] at Es;exact⟨λ_ _=>trivial,Es⟩
 |ghost h _ ih=>intro Aw l2 H0 a w H hs Q k;let⟨H',DO⟩:=h H0 a w H hs;exact ih Aw l2 H0 a w H' DO Q k
def yOk(N dy dn:Nat)(Γ:Ctx):Bool:=Γ.all λp=>p.1 !=N&&p.1 !=dy&&p.1 !=dn&&p.2.C8.all (λt=>t !=dy&&t !=dn)&& !p.2.Ev
theorem vo
 {Q:Exit->Act->AR->Prop}
 (hv:(w0.Iw,w0.rd,w0.X)=(true,none,KO))(Fi:w0.lo=w0.n)(hy:Zk P l enc Bd r J Jx w0.n)
 (hm:Bd next x s=some r)(hJ:J s I)(ht:look Γ t=some (.val<|SO l))(ha:AT Γ xs (enc x))(hI:look Γ N=some (.inv I))(Kl:ES Γ ts GZ)(Aw:yOk N dy dn GZ=true)(hdy:dy<N)(hdn:dn<N)
 (kt:∀s' I',next s'=some r->J s' I'->EJ w0 H0 N (Q .normal) ((dn,.val<|Av false)::(N,.inv I')::GZ))(kf:∀I',Jx I'->EJ w0 H0 N (Q .normal) ((dn,.val<|Av true)::(N,.inv I')::GZ))
 (hs:Sat w0 H0 N Γ a w H):wpListIn (Fb w0.rd) 0 P ops Q [⟨some dy,.call ⟨.value<| .tmp t,xs.toArray,Ex⟩,ty,pos,af,none⟩,⟨some dn,.unOp .not tb<| .tmp dy,KH,pos',LX,none⟩] a w:=by
 obtain⟨hv1,hv2,hv3⟩:w0.Iw=true/\w0.rd=none/\w0.X=KO:=by grind
 have e1:a.eval (.tmp t)= .func (.yield l) #[] #[]:=hs.holds _<|B6 ht
 have hI0:=hs.holds _<|B6 hI
 have hIn:I.n=w0.n:=by rw[<-Fi];exact hI0.2
 let⟨fn,tmps,assign,body,F1,aoU⟩:=hy next x s I w H (xs.map a.eval) hm hJ hIn hI0.1 hs.sub hs.gl<|ha.ok hs
 unfold wpListIn;have hw:Region.wanted (⟨some dy,.call ⟨.value<| .tmp t,xs.toArray,Ex⟩,ty,pos,af,none⟩:Oper) (yielded ops a.tmps)=true:=rfl;rw[if_pos hw];refine⟨λ_ _=>trivial,?_⟩;rw[Oper.semAt_eq _ _ _ (by intro c e;cases e)];have e0:execOp a.eval ⟨some dy,.call ⟨.value<| .tmp t,xs.toArray,Ex⟩,ty,pos,af,none⟩=Instr.yield l (#[]++xs.toArray.map a.eval++ #[]):=by
  simp[execOp,resolve,e1,Deferred.ofValue,pure_bind]
  rfl
 have e2:(#[]++xs.toArray.map a.eval++ #[])=(xs.map a.eval).toArray:=by simp
 rw[e0,e2,F1];refine⟨(λe=>by cases e),?_⟩;rw[hv2];refine RoundIn.mono aoU ?_;rintro e w' ⟨H',I',au6,au5,aqV,hM,ar7⟩;have avb:∀q∈GZ,q∈BF N Γ:=λq hq=>by have h1:=Dj.1 Aw q hq;simp[C4,MI,ne_eq] at h1;exact PL (Kl.sub q hq) h1.1.1.1.1
 have hinv:∀q∈BF N ((N,.inv I)::GZ),q.2.Ev=false:=λq hq=>by
  have hq':=DL q hq;rcases Aq.1 hq'.1 with e|h
  .grind
  .have h1:=Dj.1 Aw q h;simp[C4,G5] at h1;exact h1.2
 have hs1:Sat w0 H0 N ((N,.inv I)::GZ) a w H:=hs.weaken λq hq=>by
  rcases Aq.1 hq with e|h
  .subst e;exact B6 hI
  .exact Kl.sub q h
 have KQ:=aiR hv1 Fi hs1 (k:=N) (by simp) hinv aqV au6 au5 hM;have hfr:∀d,(d=dy\/d=dn)->Jl d ((N,.inv I')::GZ)=true:=by
  intro d hd;simp only[Jl,OM,C4,Dj,MI,ne_eq];refine⟨⟨by rcases hd with h|h<;>subst h<;>omega,by simp[AQ.C8]⟩,λq hq=>?_⟩;have h1:=Dj.1 Aw q hq;simp[C4,MI,ne_eq,Dj] at h1;let⟨⟨⟨⟨h2,h3⟩,h4⟩,h5⟩,h6⟩:=h1;refine⟨by rcases hd with h|h<;>subst h<;>assumption,?_⟩;simp[G5,q9,Ij];intro hm;have:=h5 d hm;rcases hd with h|h<;>subst h
  .exact this.1 rfl
  .exact this.2 rfl
 have hs3:Sat w0 H0 N ((N,.inv I')::GZ) a w' H':=KQ.weaken λq hq=>by
  rcases Aq.1 hq with e|h
  .subst e;simp
  .refine By _ (PL (By _ h) ?_);have h1:=Dj.1 Aw q h;simp[C4,MI,ne_eq] at h1;exact h1.1.1.1.1
 have fin:∀b:Bool,e= .returned (.bool b)->EJ w0 H0 N (Q .normal) ((dn,.val<|Av !b)::(N,.inv I')::GZ)->(match e with
   | .returned v=>wpListIn (Fb none) 0 P ops Q [⟨some dn,.unOp .not tb<| .tmp dy,KH,pos',LX,none⟩] (a.put (some dy) v) w'| .panicked chain=>Q (.panic chain) a w'
   | .outgrown=>LetsOut Q):=by
  intro b eb kk;subst eb;have hs4:=QK hs3 hdy (hfr dy<| .inl rfl) (s:= .val<|Av b) (v:= .bool b) (by simp[AQ.C8]) rfl<|λc h=>h.elim
  have KU:JN P w0 N ops [⟨some dn,.unOp .not tb<| .tmp dy,KH,pos',LX,none⟩] ((dy,.val<|Av b)::(N,.inv I')::GZ) ((dn,.val<|Av !b)::del dn ((dy,.val<|Av b)::(N,.inv I')::GZ)):=JN.cons (Step.over (DX (Arg.t (t:=dy) (by simp[look]))) rfl rfl hdn rfl) JN.done
  have:=KU.sound rfl H0 _ w' H' hs4 Q (λa' w' H' DO=>kk a' w' H' (DO.weaken λq hq=>by
   rcases Aq.1 hq with e|h
   .subst e;simp
   .refine By _ (Ry (By _ h) ?_ ?_)
    .exact(YJ (hfr dn<| .inr rfl) q h).1
    .exact(YJ (hfr dn<| .inr rfl) q h).2))
  rw[hv2] at this;exact this
 rcases ar7 with⟨rfl,s',HJ,hJ'⟩|⟨rfl,hJ'⟩
 .grind
 .grind
def anG
 {l1:A3 Oper}{id:Nat}{Fy:Ctx}
 (hv:(w0.Iw,w0.rd,w0.X)=(true,none,KO))(Fi:w0.lo=w0.n)(hy:Zk P l enc Bd r J Jx w0.n)
 (hm:Bd next x s=some r)(hJ:J s I)(ry:ops=List.toArray (l1++([⟨some dy,.call ⟨.value<| .tmp t,xs.toArray,Ex⟩,ty,pos,af,none⟩,⟨some dn,.unOp .not tb<| .tmp dy,KH,pos',LX,none⟩]:A3 Oper)))(rz:Jn l1=true)(KU:JN P w0 N ops l1 Γ Fy)
 (ht:look Fy t=some (.val<|SO l))(ha:AT Fy xs (enc x))(hI:look Fy N=some (.inv I))(Kl:ES Fy ts GZ)(Aw:yOk N dy dn GZ=true)(hdy:dy<N)(hdn:dn<N)
 (kt:∀s' I',next s'=some r->J s' I'->EJ w0 H0 N (Q .normal) ((dn,.val<|Av false)::(N,.inv I')::GZ))(kf:∀I',Jx I'->EJ w0 H0 N (Q .normal) ((dn,.val<|Av true)::(N,.inv I')::GZ)):Goal P w0 H0 N (.region id ops false) Q Γ:=by
 subst ry;exact λa w H hs=>wpIn_region_lit<|KU.ant rz _ H0 a w H hs Q λa' w' H' DO=>vo hv Fi hy hm hJ ht ha hI Kl Aw hdy hdn kt kf DO
def aks
 {id k:Nat}{Fy:Ctx}{tsr:A3 Nat}{S:A3 Ctx}
 (hv:(w0.Iw,w0.rd,w0.X)=(true,none,KO))(Fi:w0.lo=w0.n)(hy:Zk P l enc Bd r J Jx w0.n)
 (hm:Bd next x s=some r)(hJ:J s I)(kl:A3 (A3<|Nat×A3 Nat))(L:A3 Nat)(av Dq:A3 (A3 Nat))(Dp:A3 Bool)(hmx:P.follows .mixedOrders=true)(hc:(Np ops av&&St k kl Dq Dp L av&&Qg ops k av)=true)
 (rz:Jn (ops.toList.take k)=true)(hp:Er P N ops Γ [] (ops.toList.take k) Dq Dp S)(Jy:S.reverse.map Kk=kl)(hL:OQ Γ=L)(hsl:ES (S.flatten++Γ) ts Fy)
 (ry:ops.toList.drop k=[⟨some dy,.call ⟨.value<| .tmp t,xs.toArray,Ex⟩,ty,pos,af,none⟩,⟨some dn,.unOp .not tb<| .tmp dy,KH,pos',LX,none⟩])
 (ht:look Fy t=some (.val<|SO l))(ha:AT Fy xs (enc x))(hI:look Fy N=some (.inv I))(Kl:ES Fy tsr GZ)(Aw:yOk N dy dn GZ=true)(hdy:dy<N)(hdn:dn<N)
 (kt:∀s' I',next s'=some r->J s' I'->EJ w0 H0 N (Q .normal) ((dn,.val<|Av false)::(N,.inv I')::GZ))(kf:∀I',Jx I'->EJ w0 H0 N (Q .normal) ((dn,.val<|Av true)::(N,.inv I')::GZ)):Goal P w0 H0 N (.region id ops true) Q Γ:=by
 simp[C4] at hc;refine λa w H hs=>zF hmx rz hc.1.1 hc.1.2 hc.2 Jy hL hp hsl (H0:=H0) (λa w H hs=>?_) hs
 rw[ry];exact vo hv Fi hy hm hJ ht ha hI Kl Aw hdy hdn kt kf hs
def ach{P:CF}{α σ ρ:Type}(w0:Aj P)(H0:HV)(N:Nat)(J:σ->Inv->Prop)(st:α->σ)(JT:α->Ctx)(k:α->AA ρ)(r:ρ)(a:Act)(w:AR):Prop:=∃i I,k i=some r/\J (st i) I/\∃H,Sat w0 H0 N ((N,.inv I)::JT i) a w H
def abI{st:α->σ}{JT:α->Ctx}{k:α->AA ρ}{i:α}(hm:k i=some r)(hJ:J (st i) I)(h:ES Γ ts ((N,.inv I)::JT i)):EJ w0 H0 N (λa w=>ach w0 H0 N J st JT k r a w) Γ:=λ_ _ H hs=>⟨i,I,hm,hJ,H,hs.weaken h.sub⟩
def aaF{τ:Type}(st:τ->σ)(Ai:τ->Ctx){n:Nat}{B:(τ->AA ρ)->τ->AA ρ}{s0:τ}{I0:Inv}{c:Code}(hm:lp n B s0=some r)(hJ:J (st s0) I0)(h0:ES Γ ts ((N,.inv I0)::Ai s0))
 (round:∀(k:τ->AA ρ) (s:τ) (I:Inv),B k s=some r->J (st s) I->Goal P w0 H0 N c (Exit.then (ach w0 H0 N J st Ai k r) Q) ((N,.inv I)::Ai s)):Goal P w0 H0 N (.loop c) Q Γ:=by
 intro a w H hs;refine wp_loop_ghost (λ(i:Nat×τ) a w=>lp i.1 B i.2=some r/\∃I H,J (st i.2) I/\Sat w0 H0 N ((N,.inv I)::Ai i.2) a w H) (λi=>i.1) (n,s0) ⟨hm,I0,H,hJ,hs.weaken h0.sub⟩ ?_;rintro⟨m,s⟩ a w ⟨hl,I,H,hJ,hs⟩;cases m with
 |zero=>cases hl
 |succ m=>
  refine Vx (round (lp m B) s I hl hJ a w H hs) λe a' w' q=>?_
  cases e with|normal=>let⟨i,I',hi,hJ',H',DO⟩:=q;exact⟨(m,i),⟨hi,I',H',hJ',DO⟩,Nat.lt_succ_self m⟩|_=>exact q
def wD{o:AA (A3 α)}{f:FuncId}{F2:A3 Ty}{d:AA Tmp}{g:AA (Nat×Bool)}(ha:AT Γ xs F2)(h:∀L,o=some L->Yw P f F2 enc L):Ay P Γ ⟨d,.makeFunc (.func f) #[] xs.toArray,ty,pos,af,g⟩ (.val<|Un P enc o):=
 Di λ_ _ _ a w H hs=>by refine⟨.func (.func f) #[] (xs.map a.eval).toArray,?_,⟨f,_,F2,rfl,by simpa using ha.ok hs,h⟩,rfl⟩;simp[execOp,Instr.makeFunc]
end
section
variable[D:DR]
variable{P:Program}{w0:Aj P}{H0:HV}{N:Nat}{ops:Array Oper}{Q:Exit->Act->World->Prop}{Γ An:Ctx}{d:Option Tmp}{ty:TypeId}{pos:String}{af:Array Edge}{g:Option (Nat×Bool)}
variable{w:AR}{H:HV}{a:Act}{t i:Nat}{T:Am}{gg:Bool}{B:Aj P}{off:Nat}{T':Am}{p:Nat}{v:AV}{u b:Nat}
def Bl:A3 Bt->Nat->Nat
 |[],_=>0|_::_,0=>0|p::l,i+1=>p.n+Bl l i
def pv(p:Bt)(off:Nat)(cs:A3 AV):AV:=Gp p.agg ((cs.drop off).take p.n).toArray
def PF{w:AR}{b:Nat}:∀{ps:A3 Bt} {cs:A3 AV},G9 w b ps cs↔∃(i:Nat) (p:Bt),ps[i]? =some p/\p.owns w (pv p (Bl ps i) cs) b
 |[],cs=>by simp[G9]
 |p::l,cs=>by
  simp[G9,PF (ps:=l)];constructor
  .rintro(h|⟨i,q,h1,h2⟩)
   .exact⟨0,p,rfl,by simpa[pv,Bl] using h⟩
   .exact⟨i+1,q,by simpa using h1,by simpa[pv,Bl,FR] using h2⟩
  .rintro⟨i,q,h1,h2⟩;cases i with|zero=>simp at h1;subst h1;exact .inl (by simpa[pv,Bl] using h2)|succ i=>exact .inr ⟨i,q,by simpa using h1,by simpa[pv,Bl,FR] using h2⟩
def oL{w:AR}:∀{ps:A3 Bt} {cs:A3 AV},Ns w ps cs↔∀(i j:Nat) (p q:Bt),i<j->ps[i]? =some p->ps[j]? =some q->∀b,p.owns w (pv p (Bl ps i) cs) b-> ¬q.owns w (pv q (Bl ps j) cs) b
 |[],cs=>by simp[Ns]
 |p::l,cs=>by
  simp[Ns,oL (ps:=l)];constructor
  .rintro⟨h1,h2⟩ i j a b KT ha hb c hc FC;cases j with
   |zero=>omega
   |succ j=>
    have Ba:l[j]? =some b:=by simpa using hb
    have H8:b.owns w (pv b (Bl l j)<|cs.drop p.n) c:=by simpa[pv,Bl,FR] using FC
    cases i with
    |zero=>simp at ha;subst ha;exact h1 c (by simpa[pv,Bl] using hc)<|PF.2 ⟨j,b,Ba,H8⟩
    |succ i=>exact h2 i j a b (by omega) (by simpa using ha) Ba c (by simpa[pv,Bl,FR] using hc) H8
  .intro h;refine⟨λb hb ho=>?_,λi j a b KT ha hb c hc FC=>?_⟩
   .let⟨j,q,h1,h2⟩:=PF.1 ho;exact h 0 (j+1) p q (by omega) rfl (by simpa using h1) b (by simpa[pv,Bl] using hb) (by simpa[pv,Bl,FR] using h2)
   .exact h (i+1) (j+1) a b (by omega) (by simpa using ha) (by simpa using hb) c (by simpa[pv,Bl,FR] using hc) (by simpa[pv,Bl,FR] using FC)
def YN{n:Nat}{agg:Bool}(h:Shape n agg v):v.cells.toList.length=n:=by simpa using h.size
def Ql{B:Aj P}{a:Act}{w:AR}{H:HV}:∀{ps:A3 Bt} {cs:A3 AV} {i:Nat} {p:Bt},J2 B a w H ps cs->ps[i]? =some p->Bl ps i+p.n<=cs.length/\Shape p.n p.agg (pv p (Bl ps i) cs)/\p.holds B a w H (pv p (Bl ps i) cs)/\(pv p (Bl ps i) cs).cells.toList=(cs.drop<|Bl ps i).take p.n
 |[],_,i,_,_,h=>by simp at h
 |p::l,_,0,q,⟨v,rest,e,CS,hv,hr⟩,h=>by
  simp at h;subst h;subst e;have hl:=YN CS;have e1:pv p (Bl (p::l) 0) (v.cells.toList++rest)=v:=by simpa[pv,Bl] using(QM (rest:=rest) CS).1
  rw[e1];refine⟨by simp[Bl];have:=CS.size;omega,CS,hv,?_⟩;simp[Bl,Pa];rw[<-hl,iA]
 |p::l,_,i+1,q,⟨v,rest,e,CS,hv,hr⟩,h=>by
  simp at h;subst e;let⟨h1,h2,h3,h4⟩:=Ql hr h;have hd:List.drop (Bl (p::l)<|i+1) (v.cells.toList++rest)=List.drop (Bl l i) rest:=by simp[Bl];rw[<-YN CS,NX];simp
  have e1:pv q (Bl (p::l)<|i+1) (v.cells.toList++rest)=pv q (Bl l i) rest:=by simp[pv,hd]
  rw[e1,hd];refine⟨?_,h2,h3,h4⟩;have:=CS.size;simp[Bl];omega
def zd{B:Aj P}{a:Act}{w:AR}{H:HV}:∀{ps:A3 Bt} {cs:A3 AV},J2 B a w H ps cs->cs.length=(ps.map Bt.n).sum
 |[],_,e=>by have e:_=[]:=e;subst e;rfl
 |p::l,_,⟨v,rest,e,CS,hv,hr⟩=>by subst e;have:=zd hr;have h2:=CS.size;simp[this,h2]
theorem pY{B:Aj P}{a:Act}{w:AR}{H:HV}:∀{ps:A3 Bt} {cs:A3 AV} {i:Nat} {p q:Bt} {x:AV},J2 B a w H ps cs->ps[i]? =some p->Shape q.n q.agg x->q.n=p.n->q.holds B a w H x->J2 B a w H (ps.set i q) (cs.take (Bl ps i)++x.cells.toList++cs.drop (Bl ps i+p.n))/\Bl (ps.set i q) i=Bl ps i/\pv q (Bl ps i) (cs.take (Bl ps i)++x.cells.toList++cs.drop (Bl ps i+p.n))=x/\
  ∀(j:Nat) (r:Bt),j≠i->ps[j]? =some r->Bl (ps.set i q) j=Bl ps j/\pv r (Bl ps j) (cs.take (Bl ps i)++x.cells.toList++cs.drop (Bl ps i+p.n))=pv r (Bl ps j) cs
 |[],_,i,_,_,_,_,h,_,_,_=>by simp at h
 |p::l,_,0,q,r,x,⟨v,rest,e,CS,hv,hr⟩,h,hx,hn,hq=>by
  simp at h;subst h;subst e;have hl:=YN CS;have GN:=YN hx;have hd:List.drop (Bl (p::l) 0+p.n) (v.cells.toList++rest)=rest:=by simp[Bl,PX];rw[<-hl,ZJ]
  rw[hd];simp only[List.set_cons_zero,Bl,List.take_zero,K7];refine⟨⟨x,rest,rfl,hx,hq,hr⟩,trivial,by simpa[pv] using(QM (rest:=rest) hx).1,?_⟩;intro j s hj hs;cases j with
  |zero=>exact absurd rfl hj
  |succ j=>
   simp[Bl,hn,true_and,pv];have e1:List.drop (p.n+Bl l j) (x.cells.toList++rest)=List.drop (Bl l j) rest:=by rw[<-hn,<-GN,NX];simp
   have e2:List.drop (p.n+Bl l j) (v.cells.toList++rest)=List.drop (Bl l j) rest:=by rw[<-hl,NX];simp
   rw[e1,e2]
 |p::l,_,i+1,q,r,x,⟨v,rest,e,CS,hv,hr⟩,h,hx,hn,hq=>by
  simp at h;subst e;have hl:=YN CS;let⟨h1,h2,h3,h4⟩:=pY hr h hx hn hq;have et:List.take (Bl (p::l)<|i+1) (v.cells.toList++rest)=v.cells.toList++List.take (Bl l i) rest:=by simp[Bl];rw[<-hl,WA];simp[D5]
  have ed:List.drop (Bl (p::l) (i+1)+q.n) (v.cells.toList++rest)=List.drop (Bl l i+q.n) rest:=by
   simp[Bl];rw[<-hl,LD,NX];simp
   done
  have ec:List.take (Bl (p::l)<|i+1) (v.cells.toList++rest)++x.cells.toList++List.drop (Bl (p::l) (i+1)+q.n) (v.cells.toList++rest)=v.cells.toList++(List.take (Bl l i) rest++x.cells.toList++List.drop (Bl l i+q.n) rest):=by grind
  rw[ec];have sh:∀(s:Bt) (o:Nat) (Dv:A3 AV),pv s (p.n+o) (v.cells.toList++Dv)=pv s o Dv:=λs o Dv=>by
   simp[pv];have:List.drop (p.n+o) (v.cells.toList++Dv)=List.drop o Dv:=by rw[NX,Mx (by omega),hl];simp
   rw[this]
  refine⟨⟨v,_,rfl,CS,hv,h1⟩,by simp[Bl,h2],?_,?_⟩
  .simp only[Bl];rw[sh];exact h3
  .intro j s hj hs;cases j with
   |zero=>simp at hs;subst hs;refine⟨rfl,?_⟩;simp only[Bl];have g1:=(QM (rest:=List.take (Bl l i) rest++x.cells.toList++List.drop (Bl l i+q.n) rest) CS).1;have g2:=(QM (rest:=rest) CS).1;simp only[pv,Pa];rw[g1,g2]
   |succ j=>let⟨k1,k2⟩:=h4 j s (by omega) (by simpa using hs);refine⟨by simp[Bl,k1],?_⟩;simp only[Bl];rw[sh,sh];exact k2
theorem Vn{ps:A3 Bt}{cs:A3 AV}{p q:Bt}{x:AV}(h:J2 B a w H ps cs)(hs:Ns w ps cs)(hi:ps[i]? =some p)(hx:Shape q.n q.agg x)(hn:q.n=p.n)(hq:q.holds B a w H x)
 (ru:∀b,q.owns w x b->p.owns w (pv p (Bl ps i) cs) b\/ ¬G9 w b ps cs):∃Dv,Dv=cs.take (Bl ps i)++x.cells.toList++cs.drop (Bl ps i+p.n)/\J2 B a w H (ps.set i q) Dv/\Ns w (ps.set i q) Dv/\
   (∀b,G9 w b (ps.set i q) Dv->q.owns w x b\/(G9 w b ps cs/\ ¬p.owns w (pv p (Bl ps i) cs) b)):=by
 let⟨h1,h2,h3,h4⟩:=pY h hi hx hn hq;have hlt:=(FH.1 hi).1;have at':∀j s,(ps.set i q)[j]? =some s->(j=i/\s=q)\/(j≠i/\ps[j]? =some s):=λj s hj=>by
  by_cases e:j=i
  .grind
  .grind
 have DO:=oL.1 hs;have sym:∀j s,j≠i->ps[j]? =some s->∀b,s.owns w (pv s (Bl ps j) cs) b-> ¬p.owns w (pv p (Bl ps i) cs) b:=λj s hj hjs b hb Ba=>by
  rcases Nat.lt_or_gt_of_ne hj with h|h
  .grind
  .grind
 have avI:∀j s,j≠i->ps[j]? =some s->∀b,s.owns w (pv s (Bl ps j) cs) b-> ¬q.owns w x b:=λj s hj hjs b hb Ba=>by
  rcases ru b Ba with h|h
  .grind
  .exact h<|PF.2 ⟨j,s,hjs,hb⟩
 refine⟨_,rfl,h1,oL.2 ?_,λb hb=>?_⟩
 .grind
 .let⟨j,s,hj,hb⟩:=PF.1 hb;rcases at' j s hj with⟨rfl,rfl⟩|⟨nj,ej⟩
  .grind
  .rw[(h4 j s nj ej).1,(h4 j s nj ej).2] at hb;exact .inr ⟨PF.2 ⟨j,s,ej,hb⟩,sym j s nj ej b hb⟩
def gK{ps:A3 Bt}{cs:A3 AV}{p:Bt}(h:J2 B a w H ps cs)(hi:ps[i]? =some p):cs.take (Bl ps i)++(pv p (Bl ps i) cs).cells.toList++cs.drop (Bl ps i+p.n)=cs:=by let⟨h1,_,_,h4⟩:=Ql h hi;rw[h4,<-FR,HY,Oc,Oc]
theorem aiS{dd:Nat}{s s' sd:AQ}(hs:Sat w0 H0 N Γ a w H)(ht:(t,s)∈Γ)(DJ:dd<N)(hne:dd≠t)(hl:dd∉sd.C8)
 (DO:s'.holds w0 (a.put (some dd) v) w H (Ae a t))(hv:sd.holds w0 a w H v)(o1:∀b,s'.owns w (Ae a t) b->s.owns w (Ae a t) b)(o2:∀b,sd.owns w v b->s.owns w (Ae a t) b)
 (o3:∀b,sd.owns w v b-> ¬s'.owns w (Ae a t) b):Sat w0 H0 N ((dd,sd)::(t,s')::del dd (BF t Γ)) (a.put (some dd) v) w H:=by
 have sub:∀q∈del dd (BF t Γ),q∈Γ/\q.1≠t:=λq hq=>DL q<|ML q hq
 have h1:Sat w0 H0 N ((dd,sd)::del dd (BF t Γ)) (a.put (some dd) v) w H:=QK (hs.weaken λq hq=>(sub q hq).1) DJ PN hl hv λb hb q hq hqb=>hs.sep _ ht q (sub q hq).1 (λe=>(sub q hq).2 e.symm) b (o2 b hb) hqb
 have et:Ae (a.put (some dd) v) t=Ae a t:=PD hne;have ed:Ae (a.put (some dd) v) dd=v:=VT (by rw[hs.sz];exact DJ);have eo:∀q∈del dd (BF t Γ),Ae (a.put (some dd) v) q.1=Ae a q.1:=λq hq=>PD (qi hq).1.symm
 have key:∀q∈(dd,sd)::del dd (BF t Γ),∀b,s'.owns w (Ae a t) b-> ¬q.2.owns w (Ae (a.put (some dd) v) q.1) b:=λq hq b hb hqb=>by
  rcases Aq.1 hq with e|hq
  .grind
  .rw[eo q hq] at hqb;exact hs.sep _ ht q (sub q hq).1 (λe=>(sub q hq).2 e.symm) b (o1 b hb) hqb
 have h2:Sat w0 H0 N ((t,s')::(dd,sd)::del dd (BF t Γ)) (a.put (some dd) v) w H:=by
  refine⟨h1.nd,h1.sz,h1.below,h1.FW,h1.sub,?_,?_,h1.gl⟩
  .intro q hq;rcases Aq.1 hq with e|hq
   .grind
   .exact h1.holds q hq
  .intro q hq r hr hn b hb Ba;rcases Aq.1 hq with e|hq<;>rcases Aq.1 hr with e'|hr
   .grind
   .grind
   .grind
   .exact h1.sep q hq r hr hn b hb Ba
 refine h2.weaken λq hq=>?_
 simp[Aq] at hq⊢;rcases hq with h|h|h
 .grind
 .exact .inl h
 .grind
inductive FI(Γ:Ctx):Nat->Nat->Nat->Prop where
 |ptr {p t off:Nat} (h:look Γ p=some (.ptr t off)):FI Γ p t off|box {t:Nat} {T:Am} {g:Bool} {ps:A3 Bt} (h:look Γ t=some (.D7 T g ps)):FI Γ t t 0
def FI.ok{ps:A3 Bt}(h:FI Γ p t off)(ht:look Γ t=some (.D7 T gg ps))(hs:Sat w0 H0 N Γ a w H):∃b cs,Ae a t= .pointer (some ⟨b,0,none⟩)/\a.eval (.tmp p)= .pointer (some ⟨b,off,none⟩)/\w.heap[b]? =some (.cells cs T (0,0))/\H b=none/\w0.EC b/\J2 w0 a w H ps cs.toList/\Ns w ps cs.toList/\ ¬G9 w b ps cs.toList:=by
 let⟨b,cs,e,hb,hn,hm,ho,IU,hx⟩:=hs.holds _<|B6 ht
 simp only at e;refine⟨b,cs,e,?_,hb,hn,hm,ho,IU,hx⟩;cases h with
 |ptr h=>
  let⟨b',e1,e2⟩:=hs.holds _<|B6 h
  simp only at e1 e2;rw[e] at e1;cases e1;exact e2
 |box h=>exact e
def Re{k:Nat}{ps:A3 Bt}(h:look Γ t=some (.D7 T' gg ps))(hf:GX P T k off=true):Ay P Γ ⟨d,.fieldAddr T (.tmp t) k,ty,pos,af,g⟩ (.ptr t off):=
 Di λ_ _ _ a w _ hs=>by
  let⟨b,cs,e,_⟩:=hs.holds _<|B6 h
  have e':a.eval (.tmp t)= .pointer (some ⟨b,0,none⟩):=e;exact⟨.pointer<|some ⟨b,0+off,none⟩,by simp[execOp,e',YE hf],⟨b,e,by simp⟩,rfl⟩
def xD{p:Bt}{cs:B8 AV}{E:Am}{w':AR}{ps:A3 Bt}(hT:Bp P T p.n p.agg=true)(hb:w.heap[b]? =some (.cells cs E (0,0)))(h:J2 B a w' H ps cs.toList)(hi:ps[i]? =some p):(loadVar T ⟨b,Bl ps i,none⟩).run P w= .ok (pv p (Bl ps i) cs.toList) w:=by let⟨h1,_,_,_⟩:=Ql h hi;exact RI hT hb (by simpa using h1)
def aas{ps:A3 Bt}{τ:Ty}(hp:FI Γ p t off)(ht:look Γ t=some (.D7 T' gg ps))(hi:ps[i]? =some (.val τ))(ho:Bl ps i=off)(hT:Bp P T τ.n τ.agg=true):Ay P Γ ⟨d,.load T<| .tmp p,ty,pos,af,g⟩ (.val τ):=
 Di λ_ _ _ a w _ hs=>by let⟨b,cs,e,ep,hb,_,_,Aw,_⟩:=hp.ok ht hs;subst ho;let⟨_,_,h3,_⟩:=Ql Aw hi;refine⟨_,?_,h3,rfl⟩;simp[execOp,ep,Instr.loadAt,Instr.sureAddr,xD (p:= .val τ) hT hb Aw hi]
def Bt.sty:Bt->AQ
 | .buf E sz l=> .buf E sz l| .map K E Eb sz EZ=> .Gm K E Eb sz EZ|_=> .gone
def Bt.aiI:∀{p:Bt},p.holds B a w H v->p.sty.holds B a w H v
 | .val _,_=>trivial| .any _ _,_=>trivial| .sm _,_=>trivial| .buf _ _ _,h=>h| .map _ _ _ _ _,h=>h
def Bt.Yg:∀{p:Bt},p.sty.owns w v b↔p.owns w v b
 | .val _=>Iff.rfl| .any _ _=>Iff.rfl| .sm _=>Iff.rfl| .buf _ _ _=>Iff.rfl| .map _ _ _ _ _=>Iff.rfl
def Bt.aiH:∀{p:Bt},p.sty.C8=[]
 | .val _=>rfl| .any _ _=>rfl| .sm _=>rfl| .buf _ _ _=>rfl| .map _ _ _ _ _=>rfl
def SY(d:Nat):Bool->Bt
 |true=> .sm d|false=> .any 1 false
theorem aA3{Ai:Ctx}(BC:∀q∈Ai,q∈Γ){dd:Nat}{ps:A3 Bt}{pp:Bt}(sm:Bool)(hp:FI Ai p t off)(ht:look Ai t=some (.D7 T' gg ps))(hi:ps[i]? =some pp)(ho:Bl ps i=off)(h1:pp.n=1)(hg:pp.agg=false)(hT:Bp P T 1 false=true)
 (DJ:dd<N)(hne:dd≠t)(hd:dd∉Qq ps):Step P N ops ⟨some dd,.load T<| .tmp p,ty,pos,af,none⟩ Γ ((dd,pp.sty)::(t,.D7 T' gg<|ps.set i<|SY dd sm)::del dd (BF t Γ)):=by
 intro w0 H0 a w H BD K Q k;simp[Region.wanted,if_true];let⟨b,cs,e,ep,hb,hn,hm,Aw,IU,hx⟩:=hp.ok ht<|BD.weaken BC
 subst ho;let⟨h2,h3,h4,h5⟩:=Ql Aw hi;have F1:=xD (p:=pp) (by rw[h1,hg];exact hT) hb Aw hi
 generalize hv:pv pp (Bl ps i) cs.toList=v at*
 unfold Oper.wp;have er:(execOp a.eval ⟨some dd,.load T<| .tmp p,ty,pos,af,none⟩).run P w= .ok (.value v) w:=by simp[execOp,ep,Instr.loadAt,Instr.sureAddr,F1]
 rw[er,OO];have hv1:v.oneCell'=true:=by rw[h1,hg] at h3;exact(mL h3).1
 have HJ:(SY dd sm).n=pp.n:=by rw[h1];cases sm<;>rfl
 have CS:Shape (SY dd sm).n (SY dd sm).agg v:=by rw[h1,hg] at h3;cases sm<;>exact h3
 have sA:J2 w0 (a.put (some dd) v) w H ps cs.toList:=To (λu hu=>PD<|λe=>hd<|e▸hu) Aw;have hq:(SY dd sm).holds w0 (a.put (some dd) v) w H v:=by
  cases sm
  .exact Shape.one hv1
  .exact⟨(VT (by rw[BD.sz];exact DJ)).symm,hv1⟩
 have F6:∀c,¬(SY dd sm).owns w v c:=λc h=>by cases sm<;>exact h
 let⟨Dv,hcs,k1,k2,k3⟩:=Vn sA IU hi CS HJ hq<|λc hc=>absurd hc<|F6 c
 have hcc:Dv=cs.toList:=by rw[hcs,<-hv];exact gK Aw hi
 rw[hcc] at k1 k2 k3;refine k _ _ H (aiS BD (BC _<|B6 ht) DJ hne (by rw[Bt.aiH];simp) ?_ (Bt.aiI h4) ?_ ?_ ?_)
 .refine⟨b,cs,e,hb,hn,hm,k1,k2,λhc=>?_⟩;rcases k3 b hc with h|h
  .exact F6 b h
  .exact hx h.1
 .rintro c ⟨c',e',hc⟩;simp[e] at e';cases e';refine⟨b,e,?_⟩;rcases hc with hc|⟨cs2,hb2,hc⟩
  .exact .inl hc
  .grind
 .intro c hc;exact⟨b,e,.inr ⟨cs,hb,PF.2 ⟨i,pp,hi,by rw[hv];exact Bt.Yg.1 hc⟩⟩⟩
 .rintro c hc ⟨c',e',FC⟩;simp[e] at e';cases e';have hc:=Bt.Yg.1 hc;rcases FC with FC|⟨cs2,hb2,FC⟩
  .subst FC;exact hx (PF.2 ⟨i,pp,hi,by rw[hv];exact hc⟩)
  .grind
theorem pJ{Ai:Ctx}(BC:∀q∈Ai,q∈Γ){ps:A3 Bt}{pp q:Bt}{x:CD}(hp:FI Ai p t off)(ht:look Ai t=some (.D7 T' gg ps))(hi:ps[i]? =some pp)(ho:Bl ps i=off)(hn:q.n=pp.n)
 (hT:Bp P T q.n q.agg=true)(hq:∀(a:Act) (w:AR) (H:HV),Sat w0 H0 N Ai a w H->Shape q.n q.agg (a.eval x)/\q.holds w0 a w H (a.eval x))(F6:∀w v b,¬q.owns w v b)
 (BD:Sat w0 H0 N Γ a w H){K:Act->AR->Prop}(k:∀w',Sat w0 H0 N ((t,.D7 T' gg<|ps.set i q)::BF t Γ) a w' H->K a w'):(⟨none,.store T (.tmp p) x,ty,pos,af,none⟩:Oper).wp P a w K Q:=by
 let⟨b,cs,e,ep,hb,hnb,hm,Aw,IU,hx⟩:=hp.ok ht<|BD.weaken BC
 subst ho;let⟨CS,hqh⟩:=hq a w H<|BD.weaken BC
 let⟨h2,_,_,_⟩:=Ql Aw hi;let⟨Dv,hcs,k1,k2,k3⟩:=Vn Aw IU hi CS hn hqh<|λc hc=>absurd hc<|F6 _ _ c
 have F1:=T4 (P:=P) (x:=a.eval x) (off:=Bl ps i) (Tj hT) CS.size hb (by rw[hn];simpa using h2) CS.cell;rw[hn,<-hcs] at F1;unfold Oper.wp;have er:(execOp a.eval ⟨none,.store T (.tmp p) x,ty,pos,af,none⟩).run P w= .ok .skip (w.setRow b Dv.toArray):=by simp[execOp,ep,Instr.storeAt,Instr.sureAddr,F1]
 rw[er,QZ];have hg:Ed w (w.setRow b Dv.toArray) (some b):=Ed.setRow w b _;have Ba:(w.setRow b Dv.toArray).heap[b]? =some (.cells Dv.toArray T' (0,0)):=Ts w b _ _ _ _ hb;have hnx: ¬G9 w b (ps.set i q) Dv:=λhc=>by
  rcases k3 b hc with h|h
  .grind
  .exact hx h.1
 have Ld:=gW (w':=w.setRow b Dv.toArray) (H':=H) (HV.le.refl H) k1 (λc hc=>⟨hg.block c (QG k1 hc).1 (λe=>by cases e;exact hnx hc),rfl⟩);refine k _ (P5 BD (BC _<|B6 ht) hg hm ⟨b,e,.inl rfl⟩ ⟨b,Dv.toArray,e,Ba,hnb,hm,by simpa using Ld.1,by simpa using Ld.2.2 k2,by simpa using λh=>hnx<|(Ld.2.1 b).1 h⟩ ?_);rintro c ⟨c',e',hc⟩;simp[e] at e';cases e';rcases hc with hc|⟨cs2,hb2,hc⟩
 .subst hc;exact .inl ⟨c,e,.inl rfl⟩
 .rw[Ba] at hb2;cases hb2;have hc:=(Ld.2.1 c).1 (by simpa using hc);rcases k3 c hc with h|h
  .grind
  .exact .inl ⟨b,e,.inr ⟨cs,hb,h.1⟩⟩
def anr{ps:A3 Bt}{pp:Bt}{x:CD}{σ:Ty}(hp:FI Γ p t off)(ht:look Γ t=some (.D7 T' gg ps))(hi:ps[i]? =some pp)(ho:Bl ps i=off)(hx:Arg Γ x σ)(hn:σ.n=pp.n)(hT:Bp P T σ.n σ.agg=true):Step P N ops ⟨none,.store T (.tmp p) x,ty,pos,af,none⟩ Γ ((t,.D7 T' gg<|ps.set i<| .val σ)::BF t Γ):=by intro w0 H0 a w H hs K Q k;simp[Region.wanted,if_true];exact pJ (λ_ h=>h) (q:= .val σ) hp ht hi ho hn hT (λa w H hs=>⟨σ.shape<|hx.ok hs,hx.ok hs⟩) (λ_ _ _ h=>h) hs λw' DO=>k a w' H DO
inductive Q1(Γ:Ctx)(u:Nat):Prop where
 |buf {E:Am} {sz:Nat} {l:A3 Ty} (h:look Γ u=some (.buf E sz l))|Gm {K E Eb:Am} {sz:Nat} {l:A3 (Ty×DC)} (h:look Γ u=some (.Gm K E Eb sz l))|D7 {T:Am} {g:Bool} {l:A3 Bt} (h:look Γ u=some (.D7 T g l))
def Q1.ok(h:Q1 Γ u)(hs:Sat w0 H0 N Γ a w H):(Ae a u).oneCell'=true:=by
 cases h with
 |buf h=>
  let⟨xs,⟨_,hr⟩,_,_⟩:=hs.holds _<|B6 h
  rcases hr with⟨e,_⟩|⟨g,cap,cur,e,_⟩
  .simp only at e;rw[e];rfl
  .simp only at e;rw[e];rfl
 |Gm h=>
  let⟨r,es,e,_⟩:=hs.holds _<|B6 h
  simp only at e;rw[e];rfl
 |D7 h=>
  let⟨b,cs,e,_⟩:=hs.holds _<|B6 h
  simp only at e;rw[e];rfl
def qQ{ps:A3 Bt}{pp:Bt}(hp:FI Γ p t off)(ht:look Γ t=some (.D7 T' gg ps))(hi:ps[i]? =some pp)(ho:Bl ps i=off)(hu:Q1 Γ u)(hn:pp.n=1)(hT:Bp P T 1 false=true):Step P N ops ⟨none,.store T (.tmp p)<| .tmp u,ty,pos,af,none⟩ Γ ((t,.D7 T' gg<|ps.set i<| .sm u)::BF t Γ):=by intro w0 H0 a w H hs K Q k;simp[Region.wanted,if_true];exact pJ (λ_ h=>h) (x:= .tmp u) (q:= .sm u) hp ht hi ho hn.symm hT (λa w H hs=>⟨Shape.one<|hu.ok hs,rfl,hu.ok hs⟩) (λ_ _ _ h=>h) hs λw' DO=>k a w' H DO
def pH{ps:A3 Bt}{pp:Bt}(hp:FI Γ p t off)(ht:look Γ t=some (.D7 T' gg ps))(hi:ps[i]? =some pp)(ho:Bl ps i=off)(hu:Q1 Γ u)(hn:pp.n=1)(hT:Bp P T 1 false=true):Ov P N ops Γ ⟨none,.store T (.tmp p)<| .tmp u,ty,pos,af,none⟩ t (.D7 T' gg<|ps.set i<| .sm u):=λEK BC=>by intro w0 H0 a w H hs K Q k;simp[Region.wanted,if_true];exact pJ BC (x:= .tmp u) (q:= .sm u) hp ht hi ho hn.symm hT (λa w H hs=>⟨Shape.one<|hu.ok hs,rfl,hu.ok hs⟩) (λ_ _ _ h=>h) hs λw' DO=>k a w' H DO
theorem nC{s':AQ}{us:A3 Nat}{G:Ctx}(hs:Sat w0 H0 N Γ a w H)(ht:∀q∈G,q∈Γ/\q.1≠t)(hh:s'.holds w0 a w H (Ae a t))
 (ho:∀b,s'.owns w (Ae a t) b->∃p∈Γ,(p.1=t\/p.1∈us)/\p.2.owns w (Ae a p.1) b)(hu:∀q∈G,q.1∉us):Sat w0 H0 N ((t,s')::G) a w H:=by
 have key:∀q∈G,∀b,s'.owns w (Ae a t) b-> ¬q.2.owns w (Ae a q.1) b:=λq hq b hb hqb=>by
  let⟨p,hp,h1,h2⟩:=ho b hb;refine hs.sep p hp q (ht q hq).1 (λe=>?_) b h2 hqb;rcases h1 with h1|h1
  .grind
  .grind
 refine⟨hs.nd,hs.sz,hs.below,hs.FW,hs.sub,?_,?_,hs.gl⟩
 .intro q hq;rcases Aq.1 hq with e|hq
  .subst e;exact hh
  .exact hs.holds q (ht q hq).1
 .intro q hq r hr hn b hb Ba;rcases Aq.1 hq with e|hq<;>rcases Aq.1 hr with e'|hr
  .grind
  .grind
  .grind
  .exact hs.sep q (ht q hq).1 r (ht r hr).1 hn b hb Ba
theorem anF{w0:Aj P}{ps:A3 Bt}(pp:Bt)(ht:look Γ t=some (.D7 T' gg ps))(hi:ps[i]? =some (.sm u))(hu:look Γ u=some pp.sty)(hne:(u !=t)=true)(hpp:(pp.n,pp.agg)=(1,false))(hg: ¬pp.sty= .gone):II w0 N Γ ((t,.D7 T' gg<|ps.set i pp)::BF t (BF u Γ)):=λH0 a w H hs=>by
 let⟨b,cs,e,hb,hnb,hm,Aw,IU,hx⟩:=hs.holds _<|B6 ht
 have hph:=hs.holds _<|B6 hu
 simp only at e hph;have hut:u≠t:=by simpa using hne
 let⟨_,h3,h4,_⟩:=Ql Aw hi;have hv:pv (.sm u) (Bl ps i) cs.toList=Ae a u:=h4.1;have h1:pp.n=1:=congrArg Prod.fst hpp;have h2:pp.agg=false:=congrArg Prod.snd hpp;have CS:Shape pp.n pp.agg (Ae a u):=by rw[h1,h2,<-hv];exact h3
 have hq:pp.holds w0 a w H (Ae a u):=by cases pp with|buf E sz l=>exact hph|map K E Eb sz EZ=>exact hph|val τ=>exact absurd rfl hg|any n g=>exact absurd rfl hg|sm v=>exact absurd rfl hg
 have ru:∀c,pp.owns w (Ae a u) c-> ¬G9 w c ps cs.toList:=λc hc ho=>by refine hs.sep _ (B6 hu) _ (B6 ht) hut c (Bt.Yg.2 hc) ⟨b,e,.inr ⟨cs,hb,ho⟩⟩
 have avX: ¬pp.owns w (Ae a u) b:=λhc=>hs.sep _ (B6 hu) _ (B6 ht) hut b (Bt.Yg.2 hc) ⟨b,e,.inl rfl⟩
 let⟨Dv,hcs,k1,k2,k3⟩:=Vn Aw IU hi CS (by rw[h1];rfl) hq<|λc hc=> .inr<|ru c hc
 have hcc:Dv=cs.toList:=by rw[hcs,<-hv];exact gK Aw hi
 rw[hcc] at k1 k2 k3;refine⟨H,nC (us:=[u]) hs (λq hq=>⟨(DL q (DL q hq).1).1,(DL q hq).2⟩) ⟨b,cs,e,hb,hnb,hm,k1,k2,λhc=>?_⟩ ?_ (λq hq=>by simpa using(DL q (DL q hq).1).2)⟩
 .grind
 .rintro c ⟨c',e',hc⟩;simp[e] at e';cases e';rcases hc with hc|⟨cs2,hb2,hc⟩
  .exact⟨_,B6 ht,.inl rfl,b,e,.inl hc⟩
  .rw[hb] at hb2;cases hb2;rcases k3 c hc with h|h
   .exact⟨_,B6 hu,.inr (by simp),Bt.Yg.2 h⟩
   .exact⟨_,B6 ht,.inl rfl,b,e,.inr ⟨cs,hb,h.1⟩⟩
inductive Gj:A3 Ty->A3 Bt->Prop where
 |nil:Gj [] []|val {τ:Ty} {l:A3 Ty} {ps:A3 Bt} (r:Gj l ps):Gj (τ::l) (.val τ::ps)|buf {α:Type} {f:α->Ty} {x:A3 α} {E:Am} {sz:Nat} {l:A3 Ty} {ps:A3 Bt} (hx:x=[]) (r:Gj l ps):Gj (TN f x::l) (.buf E sz []::ps)
def xF{E:Am}{sz:Nat}:Ke B w H E sz [] (.slice none 0 0):=⟨[],⟨by simp,.inl ⟨rfl,rfl⟩⟩,rfl,λb h=>by simp[Value.ownBlock] at h⟩
end
end Trn
