/-
  Part of the proof of SolidFacets.
-/
import Derived.Test.YtiacmffbhnfhdaaGreatDoorEa
set_option maxRecDepth 100000
set_option maxHeartbeats 20000000
set_option linter.all false
open Go Go.RowKit Go.Proofs
namespace Trn
section
variable[D:DR]
variable{P:Program}{N:Nat}{ops:Array Oper}{Γ Al:Ctx}{d:Option Tmp}{ty:TypeId}{pos:String}{af:Array Edge}{g:Option (Nat×Bool)}
variable{T:Ah}{l:A3 Ty}{sz t:Nat}{E:Ah}{bytes:Nat}{x:CB}{dd:Nat}{w:AQ}{H:HV}{T2:Ah}{w0:Ae P}{l2:A3 Ty}{a:Act}{τ:Ty}{s:Nat}{H0:HV}{v:AR}{ps:A3 (Nat×CB)}{l':A3 Ty}{n:Nat}{Ag:Ctx}
def Dx(P:C7)(T:Ah):Bool:=match P.underlying T with|some (.slice _)=>true|_=>false
def fA(h:Dx P T=true):∃e,P.underlying T=some (.slice e):=by
 unfold Dx at h;split at h
 ·rename_i e hu;exact⟨e,hu⟩
 ·cases h
def isStr(P:C7)(T:Ah):Bool:=match P.underlying T with|some .string=>true|_=>false
def nD(h:isStr P T=true):P.underlying T=some .string:=by
 unfold isStr at h;split at h
 ·assumption
 ·cases h
def n5{ty:Ah}(h:Dx P T=true)(ad:A9 Addr)(n c:Nat)(w:AQ):(Builtin.len_ #[T] ty #[.slice ad n c]).run P w= .ok (.int .i64 n) w:=by
 obtain⟨e,hu⟩:=fA h;simp[Builtin.len_,F0 hu,goInt]
def aoR(hT:Dx P T=true)(hx:Arg Γ x (FT l)):B1 P Γ ⟨d,.call ⟨.builtin .len,#[x],#[T]⟩,ty,pos,af,g⟩ (.val<|TI .i64 l.length):=
 Di λ_ _ _ a w H hs=>by
  obtain⟨ad,cap,e,_⟩:=hx.ok hs;exact⟨_,by simp[execOp,resolve,invoke,builtin,e,n5 hT],rfl,rfl⟩
def ah7{s:ByteArray}(hT:isStr P T=true)(hx:Arg Γ x (Sl s)):B1 P Γ ⟨d,.call ⟨.builtin .len,#[x],#[T]⟩,ty,pos,af,g⟩ (.val<|TI .i64 s.size):=
 Di λ_ _ _ a w H hs=>by
  have e:a.eval x= .string s:=hx.ok hs;exact⟨_,by simp[execOp,resolve,invoke,builtin,e,Builtin.len_,F0<|nD hT,goInt],rfl,rfl⟩
def aaC{B:Ae P}(h:(AN.buf E sz l).holds B a w H v):∃ad cap,v= .slice ad l.length cap:=by
 obtain⟨xs,⟨_,hc⟩,_⟩:=h;rcases hc with⟨e,hl⟩|⟨g,cap,cur,e,_⟩
 ·exact⟨none,0,by rw[e,hl]⟩
 ·exact⟨_,cap,e⟩
def agN(hT:Dx P T=true)(hs:look Γ s=some (.same t))(ht:look Γ t=some (.buf E sz l)):B1 P Γ ⟨d,.call ⟨.builtin .len,#[.tmp s],#[T]⟩,ty,pos,af,g⟩ (.val<|TI .i64 l.length):=
 Di λ_ _ _ a w H BA=>by
  obtain⟨ad,cap,e⟩:=aaC<|BA.holds _<|B5 ht
  have e2:Ab a s=Ab a t:=BA.holds _<|B5 hs
  have e3:a.eval (.tmp s)= .slice ad l.length cap:=e2.trans e;exact⟨_,by simp[execOp,resolve,invoke,builtin,e3,n5 hT],rfl,rfl⟩
def Dc:B1 P Γ ⟨d,.move<| .tmp t,ty,pos,af,g⟩ (.same t):=
 Di λ_ _ _ a _ _ _=>⟨Ab a t,rfl,rfl,rfl⟩
def ait:B1 P Γ ⟨d,.assign<| .const<| .slice none 0 0,ty,pos,af,g⟩ (.buf E sz []):=
 aiu λw0 _ _ a w _ _=>⟨.slice none 0 0,rfl,⟨[],World.ownsRow_nil w _ _ _,rfl,λb h=>by simp[Value.ownBlock] at h⟩,λb h=>by simp[AN.owns,Value.ownBlock] at h⟩
open Classical in
def v7(hs:Sat w0 H0 N Γ a w H){s s':AN}(ht:(t,s)∈Γ)(S:Nat->Prop)(hS:∀b,S b->s.owns w (Ab a t) b/\w0.EI b)
 (hv:s'.holds w0 a w (λr=>if S r then w.heap[r]? else H r) (Ab a t))(ho:∀b,s'.owns w (Ab a t) b->s.owns w (Ab a t) b):Sat w0 H0 N ((t,s')::BF t Γ) a w (λr=>if S r then w.heap[r]? else H r):=by
 have low:∀b,S b->b<w.heap.size/\H b=none/\∃o,w.heap[b]? =some o/\Zk o:=λb h=>AN.J5 (hs.holds _ ht) (hS b h).1
 have hle:HV.le H (λr=>if S r then w.heap[r]? else H r):=by
  intro r o h;by_cases e:S r
  ·rw[(low r e).2.1] at h;cases h
  ·simp[e,h]
 have rM:∀q∈BF t Γ,∀b,q.2.owns w (Ab a q.1) b-> ¬S b:=by
  intro q hq b Kf e;exact hs.sep _ ht q (DI q hq).1 (λe=>(DI q hq).2 e.symm) b (hS b e).1 Kf
 have IH:Sat w0 H0 N (BF t Γ) a w (λr=>if S r then w.heap[r]? else H r):=by
  refine Ve (ds:=a.defers) hs hs.below (BM _) ?_ (BM _) hle ?_ ?_ ?_ ?_
  ·intro _ r hr hx;have: ¬S r:=λe=>by
    rcases(hS r e).2 with h|h
    ·omega
    ·exact hx h
   simp[this]
  ·intro r o h;by_cases e:S r
   ·simpa[e] using h
   ·simp only[e,if_false] at h;exact hs.sub r o h
  ·intro _ b _ hb;have: ¬S b:=λe=>by have:=Ae.QC (hS b e).2;omega
   simp[this]
  ·intro p hp;exact⟨(DI p hp).1,λb hb=>⟨rfl,by simp[rM p hp b hb]⟩⟩
  ·refine hs.nd.kept λD _ h1 h2=>⟨h1,?_⟩
   have: ¬S D:=λe=>by
    obtain⟨_,_,o,ho,LH⟩:=low D e;rw[h1] at ho;cases ho;exact LH
   simp[this,h2]
 refine⟨IH.nd,IH.sz,IH.below,IH.GK,IH.sub,?_,?_,IH.gl⟩
 ·intro p hp;rcases Ai.1 hp with e|hp
  ·subst e;exact hv
  ·exact IH.holds p hp
 ·intro p hp q hq hne b hb BD;rcases Ai.1 hp with e|hp
  ·subst e;rcases Ai.1 hq with e|hq
   ·subst e;exact hne rfl
   ·exact hs.sep _ ht q (DI q hq).1 hne b (ho b hb) BD
  ·rcases Ai.1 hq with e|hq
   ·subst e;exact hs.sep p (DI p hp).1 _ ht hne b hb<|ho b BD
   ·exact IH.sep p hp q hq hne b hb BD
open Classical in
def df(hs:Sat w0 H0 N Γ a w H){s:AN}(ht:(t,s)∈Γ)(S:Nat->Prop)(hS:∀b,S b->s.owns w (Ab a t) b/\w0.EI b)
 (hv:τ.ok (λr=>if S r then w.heap[r]? else H r) (Ab a t)):Sat w0 H0 N ((t,.val τ)::BF t Γ) a w (λr=>if S r then w.heap[r]? else H r):=v7 (s':= .val τ) hs ht S hS hv<|λ_ h=>h.elim
def alx(hs:Sat w0 H0 N Γ a w H)(ht:look Γ t=some (.buf E sz l)):∃H',Sat w0 H0 N ((t,.val<|FT l)::BF t Γ) a w H':=by
 have hb:=hs.holds _<|B5 ht
 obtain⟨xs,hr,ho,hn⟩:=hb;refine⟨_,df hs (B5 ht) (λb=>(Ab a t).ownBlock=some b) (λb h=>⟨h,(hn b h).2⟩) ?_⟩;refine QT (a:=a) ⟨xs,hr,ho,hn⟩ ?_ (λb hb _ o hbo=>by simp[hb,hbo]);intro r o h;by_cases e:(Ab a t).ownBlock=some r
 ·rw[(hn r e).1] at h;cases h
 ·simp[e,h]
def amA(ht:look Γ t=some (.buf E sz l)):IK w0 N Γ ((t,.val<|FT l)::BF t Γ):=λ_ _ _ _ hs=>alx hs ht
def ajm(hs:Sat w0 H0 N Γ a w H)(ht:look Γ t=some (.own T τ)):∃H',Sat w0 H0 N ((t,.val<|JX τ)::BF t Γ) a w H':=by
 obtain⟨b,x,e,hb,hx,hH,hB⟩:=hs.holds _<|B5 ht
 simp only at e;refine⟨_,df hs (B5 ht) (λc=>c=b) (λc h=>by subst h;exact⟨⟨_,e,rfl⟩,hB⟩) ?_⟩;have C6:=τ.shape hx;refine⟨b,0,x.cells,T,(0,0),e,by simp[hb],by rw[C6.size];omega,?_⟩;rw[nP C6.size,<-C6.eq];refine τ.mono ?_ hx;intro r o h;by_cases e:r=b
 ·subst e;rw[hH] at h;cases h
 ·simp[e,h]
def Rl(ht:look Γ t=some (.own T τ)):IK w0 N Γ ((t,.val<|JX τ)::BF t Γ):=λ_ _ _ _ hs=>ajm hs ht
def G0(P:C7)(T:Ah)(E:Ah)(sz bytes:Nat):Bool:=
 match P.underlying T with
 |some (.slice e)=>Nat.beq e E&&(match P.info? e with
  |some i=>Nat.beq i.size sz&&Nat.beq i.bytes bytes&&(match i.zero with|some z=>Nat.beq z.cells.size sz|none=>false)&&Nat.ble 1 sz
  |none=>false)
 |_=>false
def zA(h:G0 P T E sz bytes=true):∃i z,P.underlying T=some (.slice E)/\P.info? E=some i/\i.zero=some z/\i.size=sz/\i.bytes=bytes/\z.cells.size=sz/\0<sz:=by
 unfold G0 at h;split at h
 ·rename_i e hu;simp only[Bx] at h;obtain⟨h1,h2⟩:=h;have h1:=EG h1;subst h1;split at h2
  ·rename_i i hi;simp only[Bx] at h2;obtain⟨⟨⟨h3,h4⟩,h5⟩,h6⟩:=h2;split at h5
   ·rename_i z hz;exact⟨i,z,hu,hi,hz,EG h3,EG h4,EG h5,F1 h6⟩
   ·cases h5
  ·cases h2
 ·cases h
def ko(hT:G0 P T E sz bytes=true){B:Nat}{xs:A3 AR}(hown:w.ownsRow B E sz v n xs)(hB:B<=w.heap.size)
 {ad:A9 Addr}{m c:Nat}{news:A3 AR}(hl:news.length=m*sz)(aql:∀j u,news[j]? =some u->∃x,ad=some x/\w.cell? (x.add j)=some u)(h1:∀u∈news,u.oneCell'=true)(had:ad=none->m=0)
 (Gq:n+m<=maxLen)(KO:(n+m)*bytes<=140737488355328)(ty:Ah):
  ∃v' w',(Builtin.append_ #[T,T] ty #[v,.slice ad m c]).run P w= .ok v' w'/\w'.ownsRow B E sz v' (n+m) (xs++news)/\Ef w w' v.ownBlock/\∀b,v'.ownBlock=some b->v.ownBlock=some b\/w.heap.size<=b:=by
 obtain⟨i,z,hu,hi,hz,hsz,hby,hzs,hpos⟩:=zA hT;cases ad with
 |none=>
  have hm:=had rfl;subst hm;have hn:news=[]:=Js (by simpa using hl);subst hn;refine⟨v,w,?_,by simpa using hown,⟨⟨rfl,rfl,rfl,BM _,λ_ _ _=>rfl⟩,BM _⟩,λb hb=> .inl hb⟩;rcases hown.2 with⟨rfl,rfl⟩|⟨g,cap,cur,rfl,hbg,hg,hnc,_⟩
  ·simp[Builtin.append_,F0 hu,Go.sizeOf,typeInfo,program,Sem.run,hi,Builtin.lenOf,Builtin.firstCells]
  ·simp[Builtin.append_,F0 hu,Go.sizeOf,typeInfo,program,Sem.run,hi,Builtin.lenOf,Builtin.firstCells,hnc,storeCells]
 |some ad=>
  have Zy:∀j u,news[j]? =some u->w.cell? (ad.add j)=some u:=λj u h=>by
   obtain⟨x,e,hx⟩:=aql j u h;cases e;exact hx
  obtain⟨v',w',hr,h2,h3,h4⟩:=run_append_own (P:=P) w B T ty E i z sz bytes hu hi hz hsz hby hzs hpos v n xs hown ad m c news hl Zy h1 Gq KO hB;have key:w.drawn<=w'.drawn/\∀b,v'.ownBlock=some b->v.ownBlock=some b\/w.heap.size<=b:=by
   subst hsz;subst hby;rcases hown.2 with⟨rfl,rfl⟩|⟨g,cap,cur,rfl,hbg,hg,hnc,hcm,hcs,htake⟩
   ·by_cases hm:m=0
    ·subst hm;have hf:=run_firstCells_some (P:=P) w i.size 0 ad 0 c news hl Zy;have Hj:(Builtin.append_ #[T,T] ty #[.slice none 0 0,.slice (some ad) 0 c]).run P w= .ok (.slice none 0 0) w:=by
      have hn0:news=[]:=Js (by simpa using hl);subst hn0;simp only[Builtin.firstCells] at hf;simp[Builtin.append_,F0 hu,Go.sizeOf,typeInfo,program,Sem.run,hi,Builtin.lenOf,Builtin.firstCells,loadCells,loadCellsFrom]
     rw[hr] at Hj;cases Hj;exact⟨BM _,λb hb=>by simp[Value.ownBlock] at hb⟩
    ·have sU:(m:Int)<=9223372036854775807:=by simp only[maxLen] at Gq;omega
     have Hj:=run_append_nil (P:=P) (w:=w) T ty E i z hu hi hz ad m c news hl Zy (by omega) sU (by rw[PH] at KO;omega);rw[hr] at Hj;cases Hj;refine⟨QG _,λb hb=>?_⟩;simp[Value.ownBlock] at hb;exact .inr (by omega)
   ·by_cases SN:n+m<=cap
    ·have jf:n*i.size+news.length<=cur.size:=by rw[hl,hcs,<-JR];exact J9 _ SN
     have Hj:=run_append_room (P:=P) w T ty E i hu hi g n cap cur hg ad m c news hl Zy h1 SN jf;rw[hr] at Hj;cases Hj;exact⟨BM _,λb hb=> .inl hb⟩
    ·have holds:∀j u,xs[j]? =some u->w.cell? ((⟨g,0,none⟩:Addr).add j)=some u:=hown.cells (g:=g) rfl;have sU:((n+m:Nat):Int)<=9223372036854775807:=by simp only[maxLen] at Gq;omega
     have Hj:=run_append_grow (P:=P) w T ty E i z hu hi hz ⟨g,0,none⟩ n cap xs hown.1 holds ad m c news hl Zy (by omega) sU (growslice_fits (by omega) KO);rw[hr] at Hj;cases Hj;refine⟨QG _,λb hb=>?_⟩;simp[Value.ownBlock] at hb;exact .inr (by omega)
  exact⟨v',w',hr,h2,⟨h3,Gu.of key.1⟩,key.2⟩
def mF{ty:Ah}(h1:Dx P T=true)(h2:Dx P T2=true)(args:B6 AR)(w:AQ):(Builtin.append_ #[T,T2] ty args).run P w=(Builtin.append_ #[T,T] ty args).run P w:=by
 obtain⟨e1,u1⟩:=fA h1;obtain⟨e2,u2⟩:=fA h2;unfold Builtin.append_;have g0:(#[T,T2]:B6 Ah)[0]? =some T:=rfl;have g1:(#[T,T2]:B6 Ah)[1]? =some T2:=rfl;have g2:(#[T,T]:B6 Ah)[0]? =some T:=rfl;have g3:(#[T,T]:B6 Ah)[1]? =some T:=rfl;simp only[g0,g1,g2,g3];cases args[0]? with
 |none=>rfl
 |some a0=>cases args[1]? with
  |none=>rfl
  |some a1=>
   simp only[E4,F0 u1,Dp];cases a0<;>try rfl
   simp only[E4,F0 u1,F0 u2,Dp,Jp]
def om(h:G0 P T E sz bytes=true):Dx P T=true:=by
 obtain⟨i,z,hu,_⟩:=zA h;simp[Dx,hu]
def oJ(sub:∀r o,H r=some o->w.heap[r]? =some o)(h:(FT l).ok H v):∃ad cap news,v= .slice ad l.length cap/\DJ H l news/\(∀j u,news[j]? =some u->∃x,ad=some x/\w.cell? (x.add j)=some u)/\(ad=none->l.length=0):=by
 obtain⟨ad,cap,e,_,hx⟩:=h;by_cases hl:l=[]
 ·subst hl;exact⟨ad,cap,[],e,rfl,λj u h=>by simp at h,λ_=>rfl⟩
 ·obtain⟨b,off,cs,E,fr,e1,hb,hsz,ho⟩:=hx hl;refine⟨ad,cap,_,e,ho,?_,λe=>by rw[e1] at e;cases e⟩;intro j u hj;refine⟨⟨b,off,none⟩,e1,?_⟩;rw[addr_add];rw[WC] at hj;split at hj
  ·simp at hj;simp[World.cell?,sub _ _ hb,hj]
  ·cases hj
def w8(BE:∀q∈Ag,q∈Γ)(Gc:Dx P T2=true)(hs:look Ag s=some (.same t))(ht:look Ag t=some (.buf E sz l))(hx:Arg Ag x (FT l2))(hT:G0 P T E sz bytes=true)(hu:Fq sz l2)
 (Gq:l.length+l2.length<=maxLen)(KO:(l.length+l2.length)*bytes<=140737488355328)(DH:dd<N):
  Step P N ops ⟨some dd,.call ⟨.builtin .append,#[.tmp s,x],#[T,T2]⟩,ty,pos,af,none⟩ Γ ((dd,.buf E sz<|l++l2)::del dd (BF t Γ)):=by
 intro w0 H0 a w H BA K Q k;simp only[Region.wanted,if_true];have hb:=BA.holds _ (BE _<|B5 ht);obtain⟨xs,hr,ho,hn⟩:=hb;have e2:Ab a s=Ab a t:=BA.holds _ (BE _<|B5 hs);obtain⟨ad,cap,news,ex,ho2,hc,UX⟩:=oJ BA.sub<|hx.ok<|BA.weaken BE
 have hlen:news.length=l2.length*sz:=by rw[Md ho2,KG hu]
 obtain⟨v',w',F9,h2,h3,h4⟩:=ko hT hr (FM _) (c:=cap) hlen hc (Rg ho2) UX Gq KO ty;unfold Oper.wp;have er:(execOp a.eval ⟨some dd,.call ⟨.builtin .append,#[.tmp s,x],#[T,T2]⟩,ty,pos,af,none⟩).run P w= .ok (.value v') w':=by
  have e3:a.eval (.tmp s)=Ab a t:=e2;simp[execOp,resolve,invoke,builtin,e3,ex,mF (om hT) Gc,F9]
 rw[er,OJ];refine k _ w' H (Vd BA (BE _<|B5 ht) h3 (λc hc=>⟨hc,(hn c hc).2⟩) DH (by simp[AN.By]) ⟨xs++news,by simpa using h2,RT ho ho2,λb hb=>?_⟩ h4);rcases h4 b hb with h|h
 ·exact hn b h
 ·refine⟨?_,.inl<|Ca BA.below.size h⟩;cases hh:H b with
  |none=>rfl
  |some o=>have:=HH BA.sub hh;omega
def agr(BE:∀q∈Ag,q∈Γ){hv:v.oneCell'=true}(Gc:Dx P T2=true)(hs:look Ag s=some (.val<|TEq v hv))(ht:look Ag t=some (.Nk v E sz l))(hx:Arg Ag x (FT l2))(hT:G0 P T E sz bytes=true)(hu:Fq sz l2)
 (Gq:l.length+l2.length<=maxLen)(KO:(l.length+l2.length)*bytes<=140737488355328)(DH:dd<N):
  Step P N ops ⟨some dd,.call ⟨.builtin .append,#[.tmp s,x],#[T,T2]⟩,ty,pos,af,none⟩ Γ ((dd,.buf E sz<|l++l2)::del dd (BF t Γ)):=by
 intro w0 H0 a w H BA K Q k;simp only[Region.wanted,if_true];have hb:=BA.holds _ (BE _<|B5 ht);obtain⟨xs,hr,ho,hn⟩:=hb;have e2:Ab a s=v:=BA.holds _ (BE _<|B5 hs);obtain⟨ad,cap,news,ex,ho2,hc,UX⟩:=oJ BA.sub<|hx.ok<|BA.weaken BE
 have hlen:news.length=l2.length*sz:=by rw[Md ho2,KG hu]
 obtain⟨v',w',F9,h2,h3,h4⟩:=ko hT hr (FM _) (c:=cap) hlen hc (Rg ho2) UX Gq KO ty;unfold Oper.wp;have er:(execOp a.eval ⟨some dd,.call ⟨.builtin .append,#[.tmp s,x],#[T,T2]⟩,ty,pos,af,none⟩).run P w= .ok (.value v') w':=by
  have e3:a.eval (.tmp s)=v:=e2;simp[execOp,resolve,invoke,builtin,e3,ex,mF (om hT) Gc,F9]
 rw[er,OJ];refine k _ w' H (Vd BA (BE _<|B5 ht) h3 (λc hc=>⟨hc,(hn c hc).2⟩) DH (by simp[AN.By]) ⟨xs++news,by simpa using h2,RT ho ho2,λb hb=>?_⟩ h4);rcases h4 b hb with h|h
 ·exact hn b h
 ·refine⟨?_,.inl<|Ca BA.below.size h⟩;cases hh:H b with
  |none=>rfl
  |some o=>have:=HH BA.sub hh;omega
def aiB(Gc:Dx P T2=true)(hs:look Γ s=some (.same t))(ht:look Γ t=some (.buf E sz l))(hx:Arg Γ x (FT l2))(hT:G0 P T E sz bytes=true)(hu:Fq sz l2)
 (Gq:l.length+l2.length<=maxLen)(KO:(l.length+l2.length)*bytes<=140737488355328)(DH:dd<N):
  Step P N ops ⟨some dd,.call ⟨.builtin .append,#[.tmp s,x],#[T,T2]⟩,ty,pos,af,none⟩ Γ ((dd,.buf E sz<|l++l2)::del dd (BF t Γ)):=w8 (λ_ h=>h) Gc hs ht hx hT hu Gq KO DH
def aj8(Gc:Dx P T2=true)(hs:look Γ s=some (.same t))(ht:look Γ t=some (.buf E sz l))(hx:Arg Γ x (FT l2))(hT:G0 P T E sz bytes=true)(hu:Fq sz l2)
 (Gq:l.length+l2.length<=maxLen)(KO:(l.length+l2.length)*bytes<=140737488355328)(DH:dd<N):
  Pn P N ops Γ ⟨some dd,.call ⟨.builtin .append,#[.tmp s,x],#[T,T2]⟩,ty,pos,af,none⟩ t dd (.buf E sz<|l++l2):=λ_ BE=>w8 BE Gc hs ht hx hT hu Gq KO DH
def vP(BE:∀q∈Ag,q∈Γ)(Gc:Dx P T2=true)(ht:look Ag t=some (.buf E sz l))(hx:Arg Ag x (FT l2))(hT:G0 P T E sz bytes=true)(hu:Fq sz l2)
 (Gq:l.length+l2.length<=maxLen)(KO:(l.length+l2.length)*bytes<=140737488355328)(DH:dd<N):
  Step P N ops ⟨some dd,.call ⟨.builtin .append,#[.tmp t,x],#[T,T2]⟩,ty,pos,af,none⟩ Γ ((dd,.buf E sz<|l++l2)::del dd (BF t Γ)):=by
 intro w0 H0 a w H BA K Q k;simp only[Region.wanted,if_true];have hb:=BA.holds _ (BE _<|B5 ht);obtain⟨xs,hr,ho,hn⟩:=hb;obtain⟨ad,cap,news,ex,ho2,hc,UX⟩:=oJ BA.sub<|hx.ok<|BA.weaken BE
 have hlen:news.length=l2.length*sz:=by rw[Md ho2,KG hu]
 obtain⟨v',w',F9,h2,h3,h4⟩:=ko hT hr (FM _) (c:=cap) hlen hc (Rg ho2) UX Gq KO ty;unfold Oper.wp;have er:(execOp a.eval ⟨some dd,.call ⟨.builtin .append,#[.tmp t,x],#[T,T2]⟩,ty,pos,af,none⟩).run P w= .ok (.value v') w':=by
  have e3:a.eval (.tmp t)=Ab a t:=rfl;simp[execOp,resolve,invoke,builtin,e3,ex,mF (om hT) Gc,F9]
 rw[er,OJ];refine k _ w' H (Vd BA (BE _<|B5 ht) h3 (λc hc=>⟨hc,(hn c hc).2⟩) DH (by simp[AN.By]) ⟨xs++news,by simpa using h2,RT ho ho2,λb hb=>?_⟩ h4);rcases h4 b hb with h|h
 ·exact hn b h
 ·refine⟨?_,.inl<|Ca BA.below.size h⟩;cases hh:H b with
  |none=>rfl
  |some o=>have:=HH BA.sub hh;omega
def ags(Gc:Dx P T2=true)(ht:look Γ t=some (.buf E sz l))(hx:Arg Γ x (FT l2))(hT:G0 P T E sz bytes=true)(hu:Fq sz l2)
 (Gq:l.length+l2.length<=maxLen)(KO:(l.length+l2.length)*bytes<=140737488355328)(DH:dd<N):
  Step P N ops ⟨some dd,.call ⟨.builtin .append,#[.tmp t,x],#[T,T2]⟩,ty,pos,af,none⟩ Γ ((dd,.buf E sz<|l++l2)::del dd (BF t Γ)):=vP (λ_ h=>h) Gc ht hx hT hu Gq KO DH
def ahJ(Gc:Dx P T2=true)(ht:look Γ t=some (.buf E sz l))(hx:Arg Γ x (FT l2))(hT:G0 P T E sz bytes=true)(hu:Fq sz l2)
 (Gq:l.length+l2.length<=maxLen)(KO:(l.length+l2.length)*bytes<=140737488355328)(DH:dd<N):
  Pn P N ops Γ ⟨some dd,.call ⟨.builtin .append,#[.tmp t,x],#[T,T2]⟩,ty,pos,af,none⟩ t dd (.buf E sz<|l++l2):=λ_ BE=>vP BE Gc ht hx hT hu Gq KO DH
def NN{s:AN}(ht:look Γ t=some s)(hl:s.By=[])(DH:dd<N)(o:Op)(ho:o= .assign (.tmp t)\/o= .move (.tmp t)):
  Pn P N ops Γ ⟨some dd,o,ty,pos,af,none⟩ t dd s:=by
 intro Ds BE w0 H0 a w H BA K Q k;simp only[Region.wanted,if_true];have er:(execOp a.eval ⟨some dd,o,ty,pos,af,none⟩).run P w= .ok (.value<|Ab a t) w:=by rcases ho with rfl|rfl<;>rfl
 unfold Oper.wp;rw[er,OJ];exact k _ w H (Vd BA (BE _<|B5 ht) (nE w) (λ_ e=>by cases e) DH (by rw[hl];simp) (BA.holds _<|BE _<|B5 ht) λ_ h=> .inl h)
def CP{s:AN}(ht:look Γ t=some s)(hl:s.By=[])(DH:dd<N)(o:Op)(ho:o= .assign (.tmp t)\/o= .move (.tmp t)):
  Step P N ops ⟨some dd,o,ty,pos,af,none⟩ Γ ((dd,s)::del dd (BF t Γ)):=by
 intro w0 H0 a w H BA K Q k;simp only[Region.wanted,if_true];have er:(execOp a.eval ⟨some dd,o,ty,pos,af,none⟩).run P w= .ok (.value<|Ab a t) w:=by rcases ho with rfl|rfl<;>rfl
 unfold Oper.wp;rw[er,OJ];exact k _ w H (Vd BA (B5 ht) (nE w) (λ_ e=>by cases e) DH (by rw[hl];simp) (BA.holds _<|B5 ht) λ_ h=> .inl h)
def AZ{a b:Nat}(h:Nat.blt a b=true):a<b:=F1 h
def Ir(n:Nat)(agg:Bool):Ty where
 n:=n
 agg:=agg
 ok:=λ_ v=>Shape n agg v
 mono:=λ_ h=>h
 shape:=λh=>h
def ajB(cs0:B6 AR)(off:Nat):∀(l:A3 AR) (k:Nat),(off+k+l.length<=cs0.size)->
  (l.zipIdx k).foldl (λcs (x:AR×Nat)=>cs.setIfInBounds (off+x.2) x.1) cs0=(cs0.toList.take (off+k)++l++cs0.toList.drop (off+k+l.length)).toArray:=by
 intro l
 induction l generalizing cs0 with
 |nil=>intro k _;simp
 |cons v l ih=>
  intro k hk;simp only[Dj] at hk;simp only[List.zipIdx_cons,gS];rw[ih _ (k+1) (by simp;omega)]
  congr 1
  simp only[iD,Dj];have hlt:off+k<cs0.toList.length:=by simp;omega
  have h1:List.take (off+(k+1)) (cs0.toList.set (off+k) v)=List.take (off+k) cs0.toList++[v]:=by
   rw[<-Kx,List.take_succ_eq_append_getElem (by simpa using hlt)];simp[List.take_set];rw[List.set_eq_of_length_le (by simp;omega)]
  have h2:List.drop (off+(k+1)+l.length) (cs0.toList.set (off+k) v)=List.drop (off+k+(l.length+1)) cs0.toList:=by
   rw[gk (by omega)]
   congr 1;omega
  rw[h1,h2];simp
inductive Dv(P:C7)(Γ:Ctx):A3 (Nat×CB)->A3 Ty->A3 Ty->Prop where
 |nil {l:A3 Ty}:Dv P Γ [] l l
 |cons {i:Nat} {x:CB} {τ σ:Ty} {ps:A3 (Nat×CB)} {l l':A3 Ty} (hx:Arg Γ x σ) (hi:l[i]? =some τ) (hn:σ.n=τ.n) (r:Dv P Γ ps (l.set i σ) l'):Dv P Γ ((i,x)::ps) l l'
def FQ(l:A3 Ty):A3 Nat:=l.map (·.n)
def yV{i:Nat}{σ:Ty}(h:l[i]? =some τ)(hn:σ.n=τ.n):FQ (l.set i σ)=FQ l:=by
 simp only[FQ,Tj];apply WA;intro j;rw[List.getElem?_set];split
 ·rename_i e;subst e;split
  ·simp[h,hn]
  ·rename_i hlt;have:=(GD.1 h).1;simp at hlt;omega
 ·rfl
def Dv.fill{ps:A3 (Nat×CB)}{l l':A3 Ty}(h:Dv P Γ ps l l'){place:Nat->A9 (Nat×Nat)}(Jg:∀i n,(FQ l)[i]? =some n->place i=some (((FQ l).take i).sum,n))
  {w0:Ae P}{H0:HV}{N:Nat}{a:Act}{w:AQ}{H:HV}(hs:Sat w0 H0 N Γ a w H):∀{cells:B6 AR},DJ H l cells.toList->
   ∃HF,Instr.fill place cells (ps.map λp=>(p.1,a.eval p.2))=some HF/\DJ H l' HF.toList:=by
 induction h with
 |nil=>exact λh=>⟨_,rfl,h⟩
 | @cons i x τ σ ps l l' hx hi hn r ih=>
  intro cells As;have hv:=hx.ok hs;have hsz:=(σ.shape hv).size;obtain⟨p1,_⟩:=N7 As hi;have MP:=Te As hi hn hv;have ab6:=Jg i τ.n (by simp[FQ,hi]);have sM:((FQ l).take i).sum=CH (l.take i):=by simp[FQ,CH,qM]
  rw[sM] at ab6;have hlen:cells.toList.length=cells.size:=by simp
  rw[hlen] at p1;have abk:=ajB cells (CH<|l.take i) (a.eval x).cells.toList 0 (by simp;omega);simp only[Tk,Ex] at abk;have hnn:(a.eval x).cells.size=τ.n:=by omega
  obtain⟨HF,h1,h2⟩:=ih (by rw[yV hi hn];exact Jg) (cells:=(cells.toList.take (CH<|l.take i)++(a.eval x).cells.toList++cells.toList.drop (CH (l.take i)+(a.eval x).cells.size)).toArray) (by rw[hnn];simpa using MP);refine⟨HF,?_,h2⟩;simp only[Mf,Instr.fill,ab6];rw[if_neg (by simp;omega)];have e:Array.foldl (λcs (x:AR×Nat)=>cs.setIfInBounds (CH (List.take i l)+x.snd) x.fst) cells (a.eval x).cells.zipIdx=(List.take (CH<|List.take i l) cells.toList++(a.eval x).cells.toList++List.drop (CH (List.take i l)+(a.eval x).cells.size) cells.toList).toArray:=by
   rw[<-abk,<-Array.foldl_toList,Array.toList_zipIdx]
  rw[<-h1]
  congr 1
def ND(P:C7)(T:Ah)(ns:A3 Nat):Bool:=
 match P.underlying T with
 |some (.struct fs)=>fs.toList.map (·.offset)==(List.range ns.length).map (λi=>(ns.take i).sum)&&(fs.toList.map (λf=>(P.info? f.type).map (·.size))==ns.map some)
 |_=>false
theorem ahF{fs:A3 Field}:∀{ns:A3 Nat},fs.map (λf=>(P.info? f.type).map (·.size))=ns.map some->∀w,(fs.mapM λf=>do pure (f.offset,<-Go.sizeOf f.type):Sem (A3<|Nat×Nat)).run P w= .ok ((fs.map (·.offset)).zip ns) w:=by
 induction fs with
 |nil=>intro ns h w;cases ns<;>simp_all
 |cons f fs ih=>
  intro ns h w;cases ns with
  |nil=>simp at h
  |cons n ns=>
   simp only[Mf,List.cons.injEq] at h;obtain⟨h1,h2⟩:=h;cases hi:P.info? f.type with
   |none=>rw[hi] at h1;cases h1
   |some i=>
    rw[hi] at h1;simp at h1;have:=ih h2 w;simp only[List.mapM_cons,E4,Go.sizeOf,typeInfo,program,Sem.run,hi,Jp,Dp,h1];simp only[Go.sizeOf,typeInfo,program] at this;rw[this];simp
def fQ(hz:Dk P T (DG l))(hT:ND P T (FQ l)=true)(hp:Dv P Γ ps l l'):B1 P Γ ⟨d,.build T ps.toArray,ty,pos,af,g⟩ (.val<|DG l'):=
 Di λw0 H0 N a w H hs=>by
  obtain⟨z,hzr,hzo⟩:=hz.run w;obtain⟨zc,rfl,sE⟩:=hzo H;unfold ND at hT;split at hT
  ·rename_i fs hu;simp only[Bx,QF] at hT;obtain⟨h1,h2⟩:=hT;have hm:=ahF h2 w;have Jg:∀i n,(FQ l)[i]? =some n->((fs.toList.map (·.offset)).zip<|FQ l).toArray[i]? =some (((FQ l).take i).sum,n):=by
    intro i n hi;have hlt:=(GD.1 hi).1;simp only[List.getElem?_toArray,h1];rw[qL];refine⟨?_,hi⟩;simp[hlt]
   obtain⟨HF,hf,As⟩:=hp.fill Jg hs sE;have hmA:(fs.mapM λf=>do pure (f.offset,<-Go.sizeOf f.type):Sem (B6<|Nat×Nat)).run P w= .ok ((fs.toList.map (·.offset)).zip<|FQ l).toArray w:=by
    have e:(fs.mapM λf=>do pure (f.offset,<-Go.sizeOf f.type):Sem (B6<|Nat×Nat))=List.toArray<$>(fs.toList.mapM λf=>do pure (f.offset,<-Go.sizeOf f.type)):=by
     rw[<-List.mapM_toArray]
    rw[e,Sem.run_map,hm]
    rfl
   refine⟨.agg HF,?_,⟨HF,rfl,As⟩,rfl⟩;have e2:(ps.toArray.map λ(i,x)=>(i,a.eval x)).toList=ps.map λp=>(p.1,a.eval p.2):=by simp
   have hf':Instr.fill (λi=>((fs.toList.map (·.offset)).zip<|FQ l).toArray[i]?) zc (ps.toArray.map λ(i,x)=>(i,a.eval x)).toList=some HF:=by rw[e2];exact hf
   simp only[execOp,Instr.build,E4,hzr,Dp,F0 hu,Value.cells];rw[hmA];simp only[Dp];rw[hf'];simp
  ·cases hT
def YI(hz:Dk P T (DG l))(hT:LB P T n sz=true)(hu:Fq sz l)(hp:Dv P Γ ps l l'):B1 P Γ ⟨d,.build T ps.toArray,ty,pos,af,g⟩ (.val<|DG l'):=
 Di λw0 H0 N a w H hs=>by
  obtain⟨z,hzr,hzo⟩:=hz.run w;obtain⟨zc,rfl,sE⟩:=hzo H;obtain⟨e,i,hue,hi,hsz⟩:=oj hT;have Jg:∀i n,(FQ l)[i]? =some n->(λi=>some (i*sz,sz)) i=some (((FQ l).take i).sum,n):=by
   intro i n hi;have hlt:=(GD.1 hi).1;simp[FQ] at hlt;simp only[FQ,Gg,Option.map_eq_some_iff] at hi;obtain⟨τ,hτ,rfl⟩:=hi;have h1:=hu τ<|OV hτ
   have h2:=KG<|hu.take i
   simp only[CH,Dn,EN<|Vw hlt] at h2;simp[FQ,<-List.map_take,h1,h2]
  obtain⟨HF,hf,As⟩:=hp.fill Jg hs sE;refine⟨.agg HF,?_,⟨HF,rfl,As⟩,rfl⟩;have e2:(ps.toArray.map λ(i,x)=>(i,a.eval x)).toList=ps.map λp=>(p.1,a.eval p.2):=by simp
  have hf':Instr.fill (λi=>some (i*sz,sz)) zc (ps.toArray.map λ(i,x)=>(i,a.eval x)).toList=some HF:=by rw[e2];exact hf
  have IQ:(Go.sizeOf e).run P w= .ok sz w:=by simp[Go.sizeOf,typeInfo,program,Sem.run,hi,hsz]
  simp only[execOp,Instr.build,E4,hzr,Dp,F0 hue,Value.cells,IQ];rw[hf'];simp
def o8{z:AR}(hz:τ.ok H z)(n:Nat):DJ H (List.replicate n τ) ((Array.range<|n*τ.n).map<|λi=>z.cells[i%z.cells.size]!).toList:=by
 have hs:=τ.shape hz
 induction n with
 |zero=>simp[DJ]
 |succ n ih=>
  have e:((Array.range<|(n+1)*τ.n).map<|λi=>z.cells[i%z.cells.size]!).toList=((Array.range<|n*τ.n).map<|λi=>z.cells[i%z.cells.size]!).toList++z.cells.toList:=by
   simp only[Array.toList_map,Array.toList_range];rw[Ru,List.range_add,Mg,QH]
   congr 1
   apply List.ext_getElem
   ·simp[hs.size]
   ·intro i h1 h2;simp at h2;simp only[List.getElem_map,List.getElem_range,Function.comp,Array.getElem_toList];rw[hs.size,PG,Nat.add_mul_mod_self_right,S1 (by rw[<-hs.size];exact h2)];rw[Jo]
  rw[e,List.replicate_succ'];exact RT ih ⟨z,[],by simp,hz,rfl⟩
def Gj(P:C7)(T:Ah)(E:Ah)(sz:Nat):Bool:=
 match P.underlying T with
 |some (.slice e)=>Nat.beq e E&&(match P.info? e with|some i=>Nat.beq i.size sz|none=>false)
 |_=>false
def lQ(hz:Dk P E τ)(hT:Gj P T E sz=true)(hsz:τ.n=sz)(hpos:Nat.blt 0 (n*sz)=true)(hn:Nat.ble (n*sz) 16777216=true)(hp:Dv P Γ ps (List.replicate n τ) l')(hl:l'.length=n):
  B1 P Γ ⟨d,.buildSlice T n ps.toArray,ty,pos,af,g⟩ (.val<|FT l'):=
 Lz λw0 H0 N a w H hs=>by
  obtain⟨z,hzr,hzo⟩:=hz.run w;have abg:=AZ hpos;unfold Gj at hT;split at hT
  ·rename_i e hu;simp only[Bx] at hT;obtain⟨h1,h2⟩:=hT;have h1:=EG h1;subst h1;split at h2
   ·rename_i i hi;have h2:=EG h2;have hz0:=o8 (hzo H) n;rw[hsz] at hz0;have Jg:∀i m,(FQ<|List.replicate n τ)[i]? =some m->(λi=>some (i*sz,sz)) i=some (((FQ<|List.replicate n τ).take i).sum,m):=by
     intro i m hi;simp only[FQ,gj,List.getElem?_replicate] at hi;split at hi
     ·rename_i hlt;simp at hi;subst hi;simp[FQ,gj,ZP,hsz,EN<|Vw hlt]
     ·cases hi
    obtain⟨HF,hf,As⟩:=hp.fill Jg hs hz0;have e2:(ps.toArray.map λ(i,x)=>(i,a.eval x)).toList=ps.map λp=>(p.1,a.eval p.2):=by simp
    have IQ:(Go.sizeOf e).run P w= .ok sz w:=by simp[Go.sizeOf,typeInfo,program,Sem.run,hi,h2]
    have hle:n*sz<=16777216:=F1 hn;have atW:∀zc:B6 AR,((Array.range<|n*sz).map<|λi=>zc[i%zc.size]!)=((Array.range<|n*sz).map<|λi=>z.cells[i%z.cells.size]!)->Instr.fill (λi=>some (i*sz,sz)) ((Array.range<|n*sz).map<|λi=>zc[i%zc.size]!) (ps.toArray.map λ(i,x)=>(i,a.eval x)).toList=some HF:=by
     intro zc hzc;rw[hzc,e2];exact hf
    have hb:FL w.heap.size w (w.alloc<| .cells HF e):=FL.alloc _;refine⟨.slice (some ⟨w.heap.size,0,none⟩) n n,w.alloc<| .cells HF e,grow H w<|w.alloc<| .cells HF e,?_,Ext.grown hs.sub hb,?_,λb hb=>absurd hb<|AN.free_spec rfl⟩
    ·have h0: ¬n*sz=0:=by omega
     have hff:=atW z.cells rfl;simp only[execOp,Instr.buildSlice,E4,Dp,F0 hu,IQ];rw[if_neg (by omega)];simp only[E4,Jp,Dp,if_neg h0,hzr];rw[hff];simp[newRow]
    ·refine⟨_,n,by rw[hl],by omega,λ_=>⟨w.heap.size,0,HF,e,(0,0),rfl,?_,?_,?_⟩⟩
     ·simp only[grow,Nat.lt_irrefl,if_false];exact Lc w _
     ·have:=Md As;simp at this;omega
     ·have hlen:=Md As;rw[PJ,Cd (by omega)];exact Q8 (Ext.grown hs.sub hb).le As
   ·cases h2
  ·cases hT
end
section
variable[D:DR]
variable{P:Program}{w0:Ae P}{H0:HV}{N:Nat}{Γ Al:Ctx}{d:Option Tmp}{ty:TypeId}{pos:String}{af:Array Edge}{g:Option (Nat×Bool)}
def A7{Q:Exit->Act->AQ->Prop}{y:Code}(h:Goal P w0 H0 N y Q Γ):ES w0 H0 N (λa w=>y.wpIn (Fk w0.rd) 0 P Q a w) Γ:=h
def sc(t:Nat){s:AN}{ts:A3 Nat}(h:look Γ t=some s)(r:E7 Γ ts Al):E7 Γ (t::ts) ((t,s)::Al):=E7.cons h r
def E7.conv{t:Nat}{s s':AN}{ts:A3 Nat}(h:look Γ t=some s)(e:s=s')(r:E7 Γ ts Al):E7 Γ (t::ts) ((t,s')::Al):=e▸E7.cons h r
end
section
variable[D:DR]
variable{P:Program}{w0:Ae P}{H0:HV}{N:Nat}{ops:Array Oper}{Γ Al:Ctx}{d:Option Tmp}{ty:TypeId}{pos:String}{af:Array Edge}{g:Option (Nat×Bool)}
variable{sz:Nat}{l:A3 Ty}{T E:Ah}{x:CB}{t j p:Nat}{σ:Ty}{H:HV}{ρ:Ty}
def mkB(P:C7)(T E sz bytes:Nat):Bool:=
 match P.underlying T with
 |some (.slice e)=>Nat.beq e E&&(match P.info? e with|some i=>Nat.beq i.size sz&&Nat.beq i.bytes bytes&&Nat.blt 0 sz|none=>false)
 |_=>false
def amP{bytes:Nat}{y:CB}{n:Nat}{τ:Ty}(hT:mkB P T E sz bytes=true)(hz:Dk P E τ)(hsz:τ.n=sz)(hx:Arg Γ x (TI .i64 n))(hy:Arg Γ y (TI .i64 n))(hn:n<=9223372036854775807)(hb:bytes*n<=140737488355328):
  B1 P Γ ⟨d,.makeSlice T x y,ty,pos,af,g⟩ (.buf E sz<|List.replicate n τ):=
 Lz λw0 H0 N a w H hs=>by
  obtain⟨z,hzr,hzo⟩:=hz.run w;have e1:a.eval x= .int .i64 n:=hx.ok hs;have e2:a.eval y= .int .i64 n:=hy.ok hs;unfold mkB at hT;split at hT
  ·rename_i e hu;simp only[Bx] at hT;obtain⟨h1,h2⟩:=hT;have h1:=EG h1;subst h1;split at h2
   ·rename_i i hi;simp only[Bx] at h2;obtain⟨⟨h2,h3⟩,h4⟩:=h2;have h2:=EG h2;have h3:=EG h3;have h4:=AZ h4;have hz0:=o8 (hzo H) n;rw[hsz] at hz0;have hw:IntKind.i64.wrap (n:Int)=n:=wrap_i64 (by unfold DX;omega);have MQ: ¬((bytes:Int)*n>2^48):=by
     have:((bytes*n:Nat):Int)<=140737488355328:=by omega
     simp only[NL] at this;omega
    have IQ:∀w,(Go.sizeOf e).run P w= .ok sz w:=λw=>by simp[Go.sizeOf,typeInfo,program,Sem.run,hi,h2]
    have hti:∀w,(typeInfo e).run P w= .ok i w:=λw=>by simp[typeInfo,program,Sem.run,hi]
    have SN:askRoom ((n:Int).toNat*i.bytes)=pure ():=by
     unfold askRoom roomBytes;rw[if_neg];rw[h3,Ch,Kt];omega
    have BD:FL w.heap.size w (w.alloc<| .cells ((Array.range<|n*sz).map<|λi=>z.cells[i%z.cells.size]!) e):=FL.alloc _;have F9:(Instr.makeSlice T (.int .i64 n)<| .int .i64 n).run P w= .ok (.slice (some ⟨w.heap.size,0,none⟩) n n) (w.alloc<| .cells ((Array.range<|n*sz).map<|λi=>z.cells[i%z.cells.size]!) e):=by
     have Iq: ¬((n:Int)<0):=by omega
     unfold Instr.makeSlice;simp only[E4,F0 hu,Dp,asInt,asIntOf,Jp,hti,hw,h3,SN,Ch,IQ];have arD:(decide ((n:Int)<0)||decide ((bytes:Int)*n>2^48))=false:=by simp[Iq];omega
     simp only[arD];simp only[Tw,false_or,Iq,Int.lt_irrefl,or_self,if_false,E4,Jp,Dp,IQ];by_cases h0:n*sz=0
     ·have Kd:(Array.range 0:B6 Nat)= #[]:=rfl;simp[IQ,h0,newRow,Kd]
     ·simp[IQ,h0,hzr,newRow]
    refine⟨_,_,H,by simp only[execOp,e1,e2,E4,F9,Dp];rfl,Ext.alloc hs.sub _,⟨((Array.range<|n*sz).map<|λi=>z.cells[i%z.cells.size]!).toList,⟨by simp,.inr ⟨w.heap.size,n,_,by simp,FM _,Lc w _,by simp,?_,by simp,?_⟩⟩,hz0,?_⟩,?_⟩
    ·simp only[maxLen];omega
    ·rw[Cd (by simp)]
    ·intro b hb;simp[Value.ownBlock] at hb;subst hb;refine⟨?_,.inl hs.below.size⟩;cases hh:H w.heap.size with
     |none=>rfl
     |some o=>have:=HH hs.sub hh;omega
    ·intro b hb;simp[AN.owns,Value.ownBlock] at hb;omega
   ·cases h2
  ·cases hT
def Vp{B:Ae P}{a:Act}{w:AQ}{v:AR}(h:(AN.buf E sz l).holds B a w H v)(hne:l≠[]):∃b cap cs xs,v= .slice (some ⟨b,0,none⟩) l.length cap/\w.heap[b]? =some (.cells cs E (0,0))/\l.length<=cap/\cap<=maxLen/\cs.size=cap*sz/\xs.length=l.length*sz/\cs.toList.take (l.length*sz)=xs/\DJ H l xs/\H b=none/\B.EI b:=by
 obtain⟨xs,⟨hx,hc⟩,ho,hn⟩:=h;rcases hc with⟨e,hl⟩|⟨g,cap,cur,e,hB,hg,hcap,hm,hcs,ht⟩
 ·exact absurd (Js hl) hne
 ·subst e;exact⟨g,cap,cur,xs,rfl,hg,hcap,hm,hcs,hx,ht,ho,(hn g rfl).1,(hn g rfl).2⟩
def afO{s:Nat}{ix:CB}{k:IntKind}{i:Int}(hs:look Γ s=some (.same t))(ht:look Γ t=some (.buf E sz l))(hT:G7 P T sz=true)(hi:Arg Γ ix (TI k i))(h0:0<=i)(h1:i<l.length):
  B1 P Γ ⟨d,.indexAddr T (.tmp s) ix,ty,pos,af,g⟩ (.Jy t i.toNat sz):=
 Di λw0 _ _ a w H BA=>by
  obtain⟨b,cap,cs,xs,e,hb,_⟩:=Vp (BA.holds _<|B5 ht) (λe=>by rw[e] at h1;simp at h1;omega);have e2:Ab a s=Ab a t:=BA.holds _<|B5 hs
  have e3:a.eval (.tmp s)= .slice (some ⟨b,0,none⟩) l.length cap:=e2.trans e;have ei:a.eval ix= .int k i:=hi.ok BA;exact⟨.pointer<|some ⟨b,0+i.toNat*sz,none⟩,by simp[execOp,e3,ei,kn hT b 0 l.length cap h0 h1],⟨b,_,cap,e,by simp⟩,rfl⟩
def afN(hp:look Γ p=some (.Jy t j sz))(ht:look Γ t=some (.buf E sz l))(hu:Fq sz l)(hj:l[j]? =some σ)(hT:Bm P T σ.n σ.agg=true):
  B1 P Γ ⟨d,.load T<| .tmp p,ty,pos,af,g⟩ (.val σ):=
 Di λw0 _ _ a w H BA=>by
  have JI:=(GD.1 hj).1;obtain⟨b,cap,cs,xs,e,hb,hcap,_,hcs,hx,htake,ho,_,_⟩:=Vp (BA.holds _<|B5 ht) (λe=>by rw[e] at JI;simp at JI);obtain⟨b',sC,aw,e1,e2⟩:=BA.holds _<|B5 hp
  simp only at e e1;rw[e] at e1;cases e1;have e3:a.eval (.tmp p)= .pointer (some ⟨b,j*sz,none⟩):=e2;obtain⟨p1,p2⟩:=N7 ho hj;have hc:CH (l.take j)=j*sz:=by rw[KG<|hu.take _,Dn,EN (by omega)]
  rw[hc] at p1 p2;have jE:l.length*sz<=cs.size:=by rw[hcs];exact J9 _ hcap
  have Ll:List.take σ.n (List.drop (j*sz) cs.toList)=List.take σ.n (List.drop (j*sz) xs):=by
   rw[<-htake,MA,NJ]
   congr 1;omega
  refine⟨_,?_,p2,rfl⟩;have hr:=R9 (P:=P) hT hb (off:=j*sz) (by omega);rw[Ll] at hr;simp[execOp,e3,Instr.loadAt,Instr.sureAddr,hr]
def y4{α:Type _}{cs y:A3 α}{o s n:Nat}(hy:y.length=s)(h1:o+s<=n)(h2:n<=cs.length):
  List.take n (cs.take o++y++cs.drop (o+s))=List.take o (cs.take n)++y++List.drop (o+s) (cs.take n):=by
 have e1:(cs.take o++y).length=o+s:=by simp[hy];omega
 rw[W9,e1,Cd (by omega),NJ,EN (by omega),MA]
def uL{Ag:Ctx}(BE:∀q∈Ag,q∈Γ)(hp:look Ag p=some (.Jy t j sz))(ht:look Ag t=some (.buf E sz l))(hu:Fq sz l)(hj:l[j]? =some ρ)(hx:Arg Ag x σ)(hn:σ.n=sz)(hT:Bm P T σ.n σ.agg=true):
  Step P N ops ⟨none,.store T (.tmp p) x,ty,pos,af,none⟩ Γ ((t,.buf E sz<|l.set j σ)::BF t Γ):=by
 intro w0 H0 a w H BA K Q k;simp only[Region.wanted,if_true];have JI:=(GD.1 hj).1;obtain⟨b,cap,cs,xs,e,hb,hcap,hml,hcs,GR,htake,ho,hH,hB⟩:=Vp (BA.holds _ (BE _<|B5 ht)) (λe=>by rw[e] at JI;simp at JI);obtain⟨b',sC,aw,e1,e2⟩:=BA.holds _ (BE _<|B5 hp);simp only at e e1;rw[e] at e1;cases e1;have ep:a.eval (.tmp p)= .pointer (some ⟨b,j*sz,none⟩):=e2;have I1:=hx.ok<|BA.weaken BE
 have C6:=σ.shape I1;have hρ:ρ.n=sz:=hu ρ<|OV hj
 have hc:CH (l.take j)=j*sz:=by rw[KG<|hu.take _,Dn,EN (by omega)]
 obtain⟨p1,_⟩:=N7 ho hj;rw[hc,hρ] at p1;have MP:=Te ho hj (hn.trans hρ.symm) I1;rw[hc,hρ] at MP;have jE:l.length*sz<=cs.size:=by rw[hcs];exact J9 _ hcap
 have F9:=Sq (P:=P) (off:=j*sz) (TZ hT) C6.size hb (by rw[hn];omega) C6.cell;rw[hn] at F9;unfold Oper.wp;have er:(execOp a.eval ⟨none,.store T (.tmp p) x,ty,pos,af,none⟩).run P w= .ok .skip (w.setRow b (cs.toList.take (j*sz)++(a.eval x).cells.toList++cs.toList.drop (j*sz+sz)).toArray):=by
  simp[execOp,ep,Instr.storeAt,Instr.sureAddr,F9]
 rw[er,QI]
 generalize ah:(cs.toList.take (j*sz)++(a.eval x).cells.toList++cs.toList.drop (j*sz+sz)).toArray=E2
 have hg:Ef w (w.setRow b E2) (some b):=Ef.setRow w b _;have hlen:(a.eval x).cells.toList.length=sz:=by rw[Ex,C6.size,hn]
 refine k a _ H (Ov BA (BE _<|B5 ht) hg hB (by simp[AN.owns,e,Value.ownBlock]) ?_ λc hc=> .inl hc);refine⟨_,⟨?_,.inr ⟨b,cap,E2,by simpa using e,FM _,Th w b _ _ _ _ hb,by simpa using hcap,hml,?_,rfl⟩⟩,?_,?_⟩
 ·rw[<-ah];simp only[Jq,Dn,WB,ED,hlen,IC,Ex];omega
 ·rw[<-ah,<-hcs];simp only[WB,ED,Dn,hlen,IC,Ex];omega
 ·have:List.take (l.length*sz) E2.toList=List.take (j*sz) xs++(a.eval x).cells.toList++List.drop (j*sz+sz) xs:=by
   rw[<-ah,<-htake];exact y4 hlen (by omega) (by simp;omega)
  simp only[Jq];rw[this];exact MP
 ·intro c hc;simp[e,Value.ownBlock] at hc;subst hc;exact⟨hH,hB⟩
def af0(hp:look Γ p=some (.Jy t j sz))(ht:look Γ t=some (.buf E sz l))(hu:Fq sz l)(hj:l[j]? =some ρ)(hx:Arg Γ x σ)(hn:σ.n=sz)(hT:Bm P T σ.n σ.agg=true):
  Step P N ops ⟨none,.store T (.tmp p) x,ty,pos,af,none⟩ Γ ((t,.buf E sz<|l.set j σ)::BF t Γ):=uL (λ_ h=>h) hp ht hu hj hx hn hT
def aeV(hp:look Γ p=some (.Jy t j sz))(ht:look Γ t=some (.buf E sz l))(hu:Fq sz l)(hj:l[j]? =some ρ)(hx:Arg Γ x σ)(hn:σ.n=sz)(hT:Bm P T σ.n σ.agg=true):
  Pl P N ops Γ ⟨none,.store T (.tmp p) x,ty,pos,af,none⟩ t (.buf E sz<|l.set j σ):=λ_ BE=>uL BE hp ht hu hj hx hn hT
def uj(hu:Fq sz l):∀{cs:A3 AR},DJ H l cs->∀(lo hi:Nat),DJ H ((l.take hi).drop lo) ((cs.take<|hi*sz).drop<|lo*sz):=by
 induction l with
 |nil=>intro cs h lo hi;have:cs=[]:=h;subst this;simp[DJ]
 |cons τ l ih=>
  rintro cs ⟨v,rest,e,hv,hr⟩ lo hi;subst e;have h1:τ.n=sz:=hu τ (by simp);have hvs:v.cells.toList.length=sz:=by rw[Ex,(τ.shape hv).size,h1]
  cases hi with
  |zero=>simp[DJ]
  |succ hi=>
   have ht:List.take ((hi+1)*sz) (v.cells.toList++rest)=v.cells.toList++List.take (hi*sz) rest:=by
    rw[Ru,PG,W9,hvs,Cd (by omega)]
    congr 2;omega
   rw[ht];cases lo with
   |zero=>
    have:=ih (λx hx=>hu x (by simp[hx])) hr 0 hi;simp only[PJ,gH,gp] at this⊢;exact⟨v,_,rfl,hv,this⟩
   |succ lo=>
    have hd:List.drop ((lo+1)*sz) (v.cells.toList++List.take (hi*sz) rest)=List.drop (lo*sz) (List.take (hi*sz) rest):=by
     rw[Ru,PG,NM,hvs,Mo (by omega)];simp
    rw[hd];exact ih (λx hx=>hu x (by simp[hx])) hr lo hi
def anu(hu:Fq sz l){ad:A9 Addr}{len cap:Nat}(h:(FT l).ok H (.slice ad len cap)){lo hi m:Nat}(hlh:lo<=hi)(hhl:hi<=l.length)(nc:Nat)(hnc:hi-lo<=nc)(hm:m=lo->lo=hi):
  (FT<|(l.take hi).drop lo).ok H (.slice (if m=lo then ad else ad.map (·.add (lo*sz))) (hi-lo) nc):=by
 obtain⟨ad',aw,e,hcap,hx⟩:=h;cases e;have hlen:((l.take hi).drop lo).length=hi-lo:=by simp;omega
 refine⟨if m=lo then ad else ad.map (·.add (lo*sz)),nc,by rw[hlen],by omega,λhne=>?_⟩;have hne':l≠[]:=by intro e;subst e;simp at hne
 have hlt:lo<hi:=by
  apply Cl;intro Kh;exact hne (Js (by omega))
 obtain⟨b,off,cs,E,fr,e1,hb,hs,ho⟩:=hx hne';subst e1;have hml: ¬m=lo:=λe=>by have:=hm e;omega
 have hlc:CH l=l.length*sz:=KG hu;have BE:(Fq sz<|(l.take hi).drop lo):=λx hx=>hu x<|QP<|Tx hx
 have hcn:CH ((l.take hi).drop lo)=(hi-lo)*sz:=by rw[KG BE,hlen]
 have hmul:hi*sz<=l.length*sz:=J9 _ hhl;have av5:(hi-lo)*sz+lo*sz=hi*sz:=by rw[<-JR];congr 1;omega
 refine⟨b,off+lo*sz,cs,E,fr,by simp[hml,addr_add],hb,by omega,?_⟩;have:=uj hu ho lo hi;rw[hcn];have e2:List.take ((hi-lo)*sz) (List.drop (off+lo*sz) cs.toList)=List.drop (lo*sz) (List.take (hi*sz)<|List.take (CH l)<|List.drop off cs.toList):=by
  rw[NJ,EN (by omega),MA,FW]
  congr 1;omega
 rw[e2];exact this
def akI{lo hi:A9 CB}{i:Nat}(hT:G7 P T sz=true)(hx:Arg Γ x (FT l))(hu:Fq sz l)
 (Fp:(lo=none/\i=0)\/∃y k,lo=some y/\Arg Γ y (TI k i))(Kg:(hi=none/\j=l.length)\/∃y k,hi=some y/\Arg Γ y (TI k j))(LJ:i<=j)(JI:j<=l.length):
  B1 P Γ ⟨d,.slice T x lo hi none,ty,pos,af,g⟩ (.val<|FT<|(l.take j).drop i):=
 Di λw0 _ _ a w H hs=>by
  have hxo:=hx.ok hs;have ass:=hxo;obtain⟨ad,cap,e,hcap,hxx⟩:=ass;rw[e] at hxo;obtain⟨el,ii,hue,hii,hsz⟩:=pL hT;have IQ:∀w,(Go.sizeOf el).run P w= .ok sz w:=λw=>by simp[Go.sizeOf,typeInfo,program,Sem.run,hii,hsz]
  have hbd:(Instr.sliceBounds true l.length cap (lo.map a.eval) (hi.map a.eval) none).run P w= .ok (i,j,cap) w:=by
   have b1:∀(k:IntKind) (code:BoundsCode),(Instr.sliceBound (.int k (j:Int)) cap code).run P w= .ok j w:=λk code=>by
    have:(j:Int)<=cap:=by omega
    simp[Instr.sliceBound,asIntOf];omega
   have b2:∀(k:IntKind) (code:BoundsCode),(Instr.sliceBound (.int k (i:Int)) j code).run P w= .ok i w:=λk code=>by
    simp[Instr.sliceBound,asIntOf];omega
   rcases Fp with⟨e1,e2⟩|⟨y,k,e1,e2⟩<;>rcases Kg with⟨f1,f2⟩|⟨z,k',f1,f2⟩
   ·subst e1;subst f1;subst e2;subst f2;simp[Instr.sliceBounds]
   ·subst e1;subst f1;subst e2;have ez:a.eval z= .int k' j:=f2.ok hs;simp[Instr.sliceBounds,ez,b1]
   ·subst e1;subst f1;subst f2;have ey:a.eval y= .int k i:=e2.ok hs;simp[Instr.sliceBounds,ey,b2]
   ·subst e1;subst f1;have ey:a.eval y= .int k i:=e2.ok hs;have ez:a.eval z= .int k' j:=f2.ok hs;simp[Instr.sliceBounds,ey,ez,b1,b2]
  refine⟨_,?_,anu hu hxo LJ JI (m:=cap) (cap-i) (by omega) (λe=>by omega),rfl⟩;have e3:a.eval x= .slice ad l.length cap:=e;simp[execOp,e3,Instr.sliceAt,F0 hue,Instr.slice,hbd,IQ]
end
section
variable[D:DR]
variable{P:Program}{N:Nat}{ops:Array Oper}{Γ Al:Ctx}{d:Option Tmp}{ty:TypeId}{pos:String}{af:Array Edge}{g:Option (Nat×Bool)}
variable{T:Ah}{α:Type}{x:CB}{f:α->Ty}{l:A3 α}{sz t:Nat}{n:Int}{y:CB}{E T':Ah}{k:IntKind}{m i r:Int}{H:HV}{w0:Ae P}{j p:Nat}{z:α}{bytes:Nat}{v:AR}{off:Nat}{τ:Ty}{ix:CB}{dd:Nat}{T2:Ah}{len:Nat}{a:Act}{w:AQ}{F4:B6 Ah}{σ:Ty}{b:Bool}{lo hi:A9 CB}{H0:HV}{k':IntKind}{xs:A3 CB}{args Bb:A3 Ty}
def Ju{o:Oper}{s s':AN}(h:B1 P Γ o s)(e:s=s'):B1 P Γ o s':=e▸h
@[reducible] def TS(l:A3 UInt8):Ty:=Sl ⟨l.toArray⟩
@[reducible] def lT{α:Type}(f:α->Ty)(l:A3 α):A3 Ty:=l.map f
@[reducible] def TL{α:Type}(f:α->Ty)(l:A3 α):Ty:=FT<|lT f l
@[reducible] def b9{α:Type}(f:α->Ty)(l:A3 α):Ty:=DG<|lT f l
def TN{α:Type}(f:α->Ty)(l:A3 α):Ty where
 n:=1
 agg:=false
 ok:=λH v=>(TL f l).ok H v/\(l=[]->v= .slice none 0 0)
 mono:=λh k=>⟨(TL f l).mono h k.1,k.2⟩
 shape:=λk=>(TL f l).shape k.1
def AA{α:Type}(l:A3 α):Int->A9 α
 | .ofNat n=>l[n]?
 | .negSucc _=>none
def C2{α:Type}(l:A3 α)(lo hi:Int):A9 (A3 α):=bif decide (0<=lo)&&(decide (lo<=hi)&&decide (hi<=l.length)) then some ((l.take hi.toNat).drop lo.toNat) else none
def Hd(n:Int):Bool:=decide (-9223372036854775808<=n)&&decide (n<=9223372036854775807)
def AG(n:Int):A9 Int:=bif Hd n then some n else none
def BH{α:Type}(bytes:Nat)(l m:A3 α):A9 (A3 α):=bif decide ((l.length+m.length)*bytes<=140737488355328)&&decide (l.length+m.length<=9223372036854775807) then some (l++m) else none
def mk_{α:Type}(bytes:Nat)(n:Int)(z:α):A9 (A3 α):=bif decide (0<=n)&&(decide (n<=9223372036854775807)&&decide (bytes*n<=140737488355328)) then some (List.replicate n.toNat z) else none
def IN(l m:A3 UInt8):A9 (A3 UInt8):=bif decide (l.length+m.length<=9223372036854775807) then some (l++m) else none
def Gi(m n:Int):A9 Int:=bif decide (n=0) then none else AG (m.tdiv n)
def Fy(m n:Int):A9 Int:=bif decide (n=0) then none else some (m.tmod n)
def HW{x:α}(h:AA l i=some x):0<=i/\i<l.length/\l[i.toNat]? =some x:=by
 cases i with
 |ofNat n=>
  have h':l[n]? =some x:=h;have:=(GD.1 h').1;refine⟨Int.natCast_nonneg n,?_,h'⟩;show(n:Int)<_;omega
 |negSucc n=>cases h
theorem y5{r:A3 α}{lo hi:Int}(h:C2 l lo hi=some r):0<=lo/\lo<=hi/\hi<=l.length/\r=(l.take hi.toNat).drop lo.toNat:=by grind [C2]
def aj3(h:Hd n=true):DX n:=by simpa[Hd,DX] using h
def Yn(h:AG n=some r):DX n/\r=n:=by
 unfold AG at h;cases hc:Hd n
 ·rw[hc] at h;cases h
 ·rw[hc] at h;exact⟨aj3 hc,(E5 h).symm⟩
theorem Yc{b:Nat}{m r:A3 α}(h:BH b l m=some r):(l.length+m.length)*b<=140737488355328/\l.length+m.length<=9223372036854775807/\r=l++m:=by grind [BH]
def amU{b:Nat}{r:A3 α}(h:mk_ b n z=some r):∃m:Nat,n=m/\m<=9223372036854775807/\b*m<=140737488355328/\r=List.replicate m z:=by
 unfold mk_ at h;cases hc:(decide (0<=n)&&(decide (n<=9223372036854775807)&&decide (b*n<=140737488355328)))
 ·rw[hc] at h;cases h
 ·rw[hc] at h;simp only[Bx,Tu] at hc;refine⟨n.toNat,by omega,by omega,?_,(E5 h).symm⟩;have h1:((b*n.toNat:Nat):Int)=b*n:=by rw[NL,Int.toNat_of_nonneg hc.1]
  have:=hc.2.2;omega
def aiJ{l m r:A3 UInt8}(h:IN l m=some r):l.length+m.length<=9223372036854775807/\r=l++m:=by
 unfold IN at h;cases hc:decide (l.length+m.length<=9223372036854775807)
 ·rw[hc] at h;cases h
 ·rw[hc] at h;exact⟨An hc,(E5 h).symm⟩
def alC(h:Gi m n=some r):n≠0/\DX (m.tdiv n)/\r=m.tdiv n:=by
 unfold Gi at h;cases hc:decide (n=0)
 ·rw[hc] at h;obtain⟨h1,h2⟩:=Yn h;exact⟨BQ hc,h1,h2⟩
 ·rw[hc] at h;cases h
def ajv(h:Fy m n=some r):n≠0/\r=m.tmod n:=by
 unfold Fy at h;cases hc:decide (n=0)
 ·rw[hc] at h;exact⟨BQ hc,(E5 h).symm⟩
 ·rw[hc] at h;cases h
def db(l:A3 UInt8):(⟨l.toArray⟩:ByteArray).toList=l:=by
 have key:∀(b:ByteArray) (n:Nat) (i:Nat) (r:A3 UInt8),b.size-i=n->i<=b.size->ByteArray.toList.loop b i r=r.reverse++b.data.toList.drop i:=by
  intro b n
  induction n with
  |zero=>
   intro i r hn hi;unfold ByteArray.toList.loop;have: ¬i<b.size:=by omega
   rw[if_neg this,List.drop_eq_nil_of_le (by simp only[Ex];exact ZJ this)];simp
  |succ n ih=>
   intro i r hn hi;unfold ByteArray.toList.loop;have hlt:i<b.size:=by omega
   rw[if_pos hlt,ih (i+1) _ (by omega) (by omega)];have hl:i<b.data.toList.length:=by simpa using hlt
   rw[U4 hl];have:b.get! i=b.data.toList[i]:=by
    cases b with
    |mk a=>
     show a[i]! =_;rw[Jo a i hlt];simp
   simp[this]
 unfold ByteArray.toList;rw[key _ _ 0 [] rfl<|FM _];simp
def Arg.s{b:ByteArray}{l:A3 UInt8}(h:b=⟨l.toArray⟩):Arg Γ (.const<| .string b) (TS l):=⟨λ_=>by subst h;rfl⟩
def Arg.nn:Arg Γ (.const<| .slice none 0 0) (TN f []):=⟨λhs=>⟨(Arg.aqc (Γ:=Γ)).ok hs,λ_=>rfl⟩⟩
def jL:∀H v,(TN f l).ok H v->(TL f l).ok H v:=λ_ _ h=>h.1
theorem jM(h:l.isEmpty=false):∀H v,(TL f l).ok H v->(TN f l).ok H v:=by simp_all [Ty.ok,TL,TN]
def NH{m n r:A3 UInt8}(hx:Arg Γ x (TS m))(hy:Arg Γ y (TS n))(h:IN m n=some r):B1 P Γ ⟨d,.binOp .add T x y T',ty,pos,af,g⟩ (.val<|TS r):=
 IA hx hy λH u v hu hv w _=>by
  cases hu;cases hv;obtain⟨h1,h2⟩:=aiJ h;subst h2;have hsz: ¬(((⟨m.toArray⟩:ByteArray).size+(⟨n.toArray⟩:ByteArray).size:Nat):Int)>IntKind.i64.max:=by
   have e1:(⟨m.toArray⟩:ByteArray).size=m.length:=by simp[ByteArray.size]
   have e2:(⟨n.toArray⟩:ByteArray).size=n.length:=by simp[ByteArray.size]
   rw[e1,e2];have:IntKind.i64.max=9223372036854775807:=rfl;rw[this];omega
  refine⟨.string<|⟨m.toArray⟩++⟨n.toArray⟩,?_,?_⟩
  ·simp only[eqGuard,binOp,Op.stringOp,if_neg hsz];rfl
  ·show Value.string _=Value.string _
   congr 1
def PW{m n:A3 UInt8}(hx:Arg Γ x (TS m))(hy:Arg Γ y (TS n)):B1 P Γ ⟨d,.binOp .eql T x y T',ty,pos,af,g⟩ (.val<|Ay<|m==n):=by
 have:=aoS (P:=P) (d:=d) (ty:=ty) (pos:=pos) (af:=af) (g:=g) (T:=T) (T':=T') hx hy;rwa [db,db] at this
def aah{m n:A3 UInt8}(hx:Arg Γ x (TS m))(hy:Arg Γ y (TS n)):B1 P Γ ⟨d,.binOp .neq T x y T',ty,pos,af,g⟩ (.val<|Ay<| !(m==n)):=by
 have:=aoM (P:=P) (d:=d) (ty:=ty) (pos:=pos) (af:=af) (g:=g) (T:=T) (T':=T') hx hy;rwa [db,db] at this
def Eh{s:A3 UInt8}(hT:isStr P T=true)(hx:Arg Γ x (TS s)):B1 P Γ ⟨d,.call ⟨.builtin .len,#[x],#[T]⟩,ty,pos,af,g⟩ (.val<|TI .i64 s.length):=by
 have:=ah7 (P:=P) (d:=d) (ty:=ty) (pos:=pos) (af:=af) (g:=g) hT hx;have e:(⟨s.toArray⟩:ByteArray).size=s.length:=by simp[ByteArray.size]
 rwa [e] at this
def Mc{s:A3 UInt8}{b:UInt8}(hT:isStr P T=true)(hx:Arg Γ x (TS s))(hy:Arg Γ y (TI k i))(h:AA s i=some b):B1 P Γ ⟨d,.index T x y,ty,pos,af,g⟩ (.val<|TI .u8 b.toNat):=
 Di λ_ _ _ a w H hs=>by
  have e:a.eval x= .string ⟨s.toArray⟩:=hx.ok hs;have e2:a.eval y= .int k i:=hy.ok hs;obtain⟨h1,h2,h3⟩:=HW h;have hlt:=(GD.1 h3).1;have h4:(⟨s.toArray⟩:ByteArray)[i.toNat]? =some b:=by
   have atB:i.toNat<(⟨s.toArray⟩:ByteArray).size:=by simpa[ByteArray.size] using hlt
   rw[getElem?_pos (⟨s.toArray⟩:ByteArray) i.toNat atB]
   congr 1
   show s.toArray[i.toNat]'_=b;rw[Gy hlt] at h3;simpa using h3
  exact⟨_,by simp[execOp,e,e2,Instr.index,asIntOf,F0<|nD hT,h1,h4],rfl,rfl⟩
inductive Lo(Γ:Ctx):A9 CB->Int->Int->Prop where
 |none {n:Int}:Lo Γ none n n
 |some {y:CB} {k:IntKind} {i n:Int} (h:Arg Γ y (TI k i)):Lo Γ (some y) n i
def tt{cap:Nat}{j:Int}(Fp:Lo Γ lo 0 i)(Kg:Lo Γ hi len j)(h0:0<=i)(LJ:i<=j)(hj:j<=len)(hlc:len<=cap){N:Nat}(hs:Sat w0 H0 N Γ a w H):
  (Instr.sliceBounds b len cap (lo.map a.eval) (hi.map a.eval) none).run P w= .ok (i.toNat,j.toNat,cap) w:=by
 have b1:∀(k:IntKind) (code:BoundsCode),(Instr.sliceBound (.int k j) cap code).run P w= .ok j.toNat w:=λk code=>by
  have:0<=j/\j<=cap:=by omega
  simp[Instr.sliceBound,asIntOf,this]
 have b2:∀(k:IntKind) (code:BoundsCode),(Instr.sliceBound (.int k i) j.toNat code).run P w= .ok i.toNat w:=λk code=>by
  have h1:i<=(j.toNat:Int):=by omega
  simp only[Instr.sliceBound,asIntOf,E4,Jp,Dp,if_pos<|And.intro h0 h1]
 cases Fp with
 |none=>
  cases Kg with
  |none=>simp[Instr.sliceBounds]
  |some hz=>have ez:=hz.ok hs;simp only[rY] at ez;simp[Instr.sliceBounds,ez,b1]
 |some hy=>
  have ey:=hy.ok hs;simp only[rY] at ey;cases Kg with
  |none=>
   have b2':∀(k:IntKind) (code:BoundsCode),(Instr.sliceBound (.int k i) len code).run P w= .ok i.toNat w:=λk code=>by simpa using b2 k code
   simp[Instr.sliceBounds,ey,b2']
  |some hz=>have ez:=hz.ok hs;simp only[rY] at ez;simp[Instr.sliceBounds,ez,ey,b1,b2]
def HT{s r:A3 UInt8}{j:Int}(hT:isStr P T=true)(hx:Arg Γ x (TS s))(Fp:Lo Γ lo 0 i)(Kg:Lo Γ hi s.length j)(h:C2 s i j=some r):
  B1 P Γ ⟨d,.slice T x lo hi none,ty,pos,af,g⟩ (.val<|TS r):=
 Di λ_ _ _ a w H hs=>by
  obtain⟨h1,h2,h3,h4⟩:=y5 h;subst h4;have e:a.eval x= .string ⟨s.toArray⟩:=hx.ok hs;have esz:(⟨s.toArray⟩:ByteArray).size=s.length:=by simp[ByteArray.size]
  have hbd:=tt (P:=P) (b:=false) Fp Kg h1 h2 h3 (BM _) hs;refine⟨.string<|(⟨s.toArray⟩:ByteArray).extract i.toNat j.toNat,?_,?_,rfl⟩
  ·simp[execOp,e,Instr.sliceAt,F0<|nD hT,Instr.slice,esz,hbd]
  ·show Value.string _=Value.string _
   congr 1
   apply ByteArray.ext;rw[ByteArray.data_extract];simp[List.extract_eq_take_drop,MA]
def J3(hT:Dx P T=true)(hx:Arg Γ x (TL f l)):B1 P Γ ⟨d,.call ⟨.builtin .len,#[x],#[T]⟩,ty,pos,af,g⟩ (.val<|TI .i64 l.length):=by
 have:=aoR (P:=P) (d:=d) (ty:=ty) (pos:=pos) (af:=af) (g:=g) hT hx;rwa [Bp] at this
def M1{s:Nat}(hT:Dx P T=true)(hs:look Γ s=some (.same t))(ht:look Γ t=some (.buf E sz<|lT f l)):B1 P Γ ⟨d,.call ⟨.builtin .len,#[.tmp s],#[T]⟩,ty,pos,af,g⟩ (.val<|TI .i64 l.length):=by
 have:=agN (P:=P) (d:=d) (ty:=ty) (pos:=pos) (af:=af) (g:=g) hT hs ht;rwa [Bp] at this
def zX(hT:Dx P T=true)(ht:look Γ t=some (.buf E sz<|lT f l)):B1 P Γ ⟨d,.call ⟨.builtin .len,#[.tmp t],#[T]⟩,ty,pos,af,g⟩ (.val<|TI .i64 l.length):=
 Di λ_ _ _ a w H BA=>by
  obtain⟨ad,cap,e⟩:=aaC<|BA.holds _<|B5 ht
  have e3:a.eval (.tmp t)= .slice ad (lT f l).length cap:=e;rw[Bp] at e3;exact⟨_,by simp[execOp,resolve,invoke,builtin,e3,n5 hT],rfl,rfl⟩
def EX{y:α}(hT:G7 P T sz=true)(hf:∀z,(f z).n=sz)(hx:Arg Γ x (TL f l))(hi:Arg Γ ix (TI k i))(h:AA l i=some y):
  B1 P Γ ⟨d,.indexAddr T x ix,ty,pos,af,g⟩ (.val<|JX<|f y):=by
 obtain⟨h1,h2,h3⟩:=HW h;exact agP hx hT (Jn hf l) hi h1 (by rw[Gg,h3];rfl)
def Cj{s:Nat}{y:α}(hT:G7 P T sz=true)(hs:look Γ s=some (.same t))(ht:look Γ t=some (.buf E sz<|lT f l))(hi:Arg Γ ix (TI k i))(h:AA l i=some y):
  B1 P Γ ⟨d,.indexAddr T (.tmp s) ix,ty,pos,af,g⟩ (.Jy t i.toNat sz):=by
 obtain⟨h1,h2,h3⟩:=HW h;exact afO hs ht hT hi h1 (by rw[Bp];exact h2)
def F7{y:α}(hf:∀z,(f z).n=sz)(hp:look Γ p=some (.Jy t j sz))(ht:look Γ t=some (.buf E sz<|lT f l))(h:l[j]? =some y)(hT:Bm P T (f y).n (f y).agg=true):
  B1 P Γ ⟨d,.load T<| .tmp p,ty,pos,af,g⟩ (.val<|f y):=
 afN hp ht (Jn hf l) (by rw[Gg,h];rfl) hT
def JP{y:α}(hf:∀z,(f z).n=sz)(hp:look Γ p=some (.Jy t j sz))(ht:look Γ t=some (.buf E sz<|lT f l))(h:l[j]? =some z)(hx:Arg Γ x (f y))(hT:Bm P T (f y).n (f y).agg=true):
  Step P N ops ⟨none,.store T (.tmp p) x,ty,pos,af,none⟩ Γ ((t,.buf E sz<|lT f<|l.set j y)::BF t Γ):=by
 have:=af0 (P:=P) (N:=N) (ops:=ops) (ty:=ty) (pos:=pos) (af:=af) hp ht (Jn hf l) (by rw[Gg,h];rfl) hx (hf y) hT;rwa [show(lT f l).set j (f y)=lT f (l.set j y) from by simp[lT,Tj]] at this
def pI{y:α}(hf:∀z,(f z).n=sz)(hp:look Γ p=some (.Jy t j sz))(ht:look Γ t=some (.buf E sz<|lT f l))(h:l[j]? =some z)(hx:Arg Γ x (f y))(hT:Bm P T (f y).n (f y).agg=true):
  Pl P N ops Γ ⟨none,.store T (.tmp p) x,ty,pos,af,none⟩ t (.buf E sz<|lT f<|l.set j y):=by
 have:=aeV (P:=P) (N:=N) (ops:=ops) (ty:=ty) (pos:=pos) (af:=af) hp ht (Jn hf l) (by rw[Gg,h];rfl) hx (hf y) hT;rwa [show(lT f l).set j (f y)=lT f (l.set j y) from by simp[lT,Tj]] at this
def UK:maxLen=9223372036854775807:=rfl
def Dy{m r:A3 α}{s:Nat}(Gc:Dx P T2=true)(hT:G0 P T E sz bytes=true)(hf:∀z,(f z).n=sz)(hs:look Γ s=some (.same t))(ht:look Γ t=some (.buf E sz<|lT f l))(hx:Arg Γ x (TL f m))(h:BH bytes l m=some r)(DH:dd<N):
  Step P N ops ⟨some dd,.call ⟨.builtin .append,#[.tmp s,x],#[T,T2]⟩,ty,pos,af,none⟩ Γ ((dd,.buf E sz<|lT f r)::del dd (BF t Γ)):=by
 obtain⟨h1,h2,h3⟩:=Yc h;subst h3;have:=aiB (P:=P) (Gc:=Gc) (N:=N) (ops:=ops) (ty:=ty) (pos:=pos) (af:=af) hs ht hx hT (Jn hf m) (by rw[Bp,Bp,UK];exact h2) (by rw[Bp,Bp];exact h1) DH;rwa [show lT f l++lT f m=lT f (l++m) from by simp[lT]] at this
def PC{m r:A3 α}(Gc:Dx P T2=true)(hT:G0 P T E sz bytes=true)(hf:∀z,(f z).n=sz)(ht:look Γ t=some (.buf E sz<|lT f l))(hx:Arg Γ x (TL f m))(h:BH bytes l m=some r)(DH:dd<N):
  Step P N ops ⟨some dd,.call ⟨.builtin .append,#[.tmp t,x],#[T,T2]⟩,ty,pos,af,none⟩ Γ ((dd,.buf E sz<|lT f r)::del dd (BF t Γ)):=by
 obtain⟨h1,h2,h3⟩:=Yc h;subst h3;have:=ags (P:=P) (Gc:=Gc) (N:=N) (ops:=ops) (ty:=ty) (pos:=pos) (af:=af) ht hx hT (Jn hf m) (by rw[Bp,Bp,UK];exact h2) (by rw[Bp,Bp];exact h1) DH;rwa [show lT f l++lT f m=lT f (l++m) from by simp[lT]] at this
def Ta{m r:A3 α}{s:Nat}(Gc:Dx P T2=true)(hT:G0 P T E sz bytes=true)(hf:∀z,(f z).n=sz)(hs:look Γ s=some (.same t))(ht:look Γ t=some (.buf E sz<|lT f l))(hx:Arg Γ x (TL f m))(h:BH bytes l m=some r)(DH:dd<N):
  Pn P N ops Γ ⟨some dd,.call ⟨.builtin .append,#[.tmp s,x],#[T,T2]⟩,ty,pos,af,none⟩ t dd (.buf E sz<|lT f r):=by
 obtain⟨h1,h2,h3⟩:=Yc h;subst h3;have:=aj8 (P:=P) (Gc:=Gc) (N:=N) (ops:=ops) (ty:=ty) (pos:=pos) (af:=af) hs ht hx hT (Jn hf m) (by rw[Bp,Bp,UK];exact h2) (by rw[Bp,Bp];exact h1) DH;rwa [show lT f l++lT f m=lT f (l++m) from by simp[lT]] at this
def anC{m r:A3 α}{s:Nat}{hv:v.oneCell'=true}(Gc:Dx P T2=true)(hT:G0 P T E sz bytes=true)(hf:∀z,(f z).n=sz)(hs:look Γ s=some (.val<|TEq v hv))(ht:look Γ t=some (.Nk v E sz<|lT f l))(hx:Arg Γ x (TL f m))(h:BH bytes l m=some r)(DH:dd<N):
  Pn P N ops Γ ⟨some dd,.call ⟨.builtin .append,#[.tmp s,x],#[T,T2]⟩,ty,pos,af,none⟩ t dd (.buf E sz<|lT f r):=λDs BE=>by
 obtain⟨h1,h2,h3⟩:=Yc h;subst h3;have:=agr (P:=P) (Gc:=Gc) (N:=N) (ops:=ops) (ty:=ty) (pos:=pos) (af:=af) BE hs ht hx hT (Jn hf m) (by rw[Bp,Bp,UK];exact h2) (by rw[Bp,Bp];exact h1) DH;rwa [show lT f l++lT f m=lT f (l++m) from by simp[lT]] at this
def Ku{m r:A3 α}(Gc:Dx P T2=true)(hT:G0 P T E sz bytes=true)(hf:∀z,(f z).n=sz)(ht:look Γ t=some (.buf E sz<|lT f l))(hx:Arg Γ x (TL f m))(h:BH bytes l m=some r)(DH:dd<N):
  Pn P N ops Γ ⟨some dd,.call ⟨.builtin .append,#[.tmp t,x],#[T,T2]⟩,ty,pos,af,none⟩ t dd (.buf E sz<|lT f r):=by
 obtain⟨h1,h2,h3⟩:=Yc h;subst h3;have:=ahJ (P:=P) (Gc:=Gc) (N:=N) (ops:=ops) (ty:=ty) (pos:=pos) (af:=af) ht hx hT (Jn hf m) (by rw[Bp,Bp,UK];exact h2) (by rw[Bp,Bp];exact h1) DH;rwa [show lT f l++lT f m=lT f (l++m) from by simp[lT]] at this
def C4(f:α->Ty)(E:Ah)(sz:Nat):B1 P Γ ⟨d,.assign<| .const<| .slice none 0 0,ty,pos,af,g⟩ (.buf E sz<|lT f []):=ait
def CD(ht:look Γ t=some (.buf E sz<|lT f l)):IK w0 N Γ ((t,.val<|TL f l)::BF t Γ):=amA ht
def Pc(f:α->Ty){r:A3 α}(hT:mkB P T E sz bytes=true)(hz:Dk P E (f z))(hsz:(f z).n=sz)(hx:Arg Γ x (TI .i64 n))(hy:Arg Γ y (TI .i64 n))(h:mk_ bytes n z=some r):
  B1 P Γ ⟨d,.makeSlice T x y,ty,pos,af,g⟩ (.buf E sz<|lT f r):=by
 obtain⟨m,h1,h2,h3,h4⟩:=amU h;subst h1;subst h4;have:=amP (P:=P) (d:=d) (ty:=ty) (pos:=pos) (af:=af) (g:=g) hT hz hsz hx hy h2 h3;rwa [show List.replicate m (f z)=lT f (List.replicate m z) from by simp[lT]] at this
def M0{r:A3 α}{j:Int}(hT:G7 P T sz=true)(hf:∀z,(f z).n=sz)(hx:Arg Γ x (TL f l))(Fp:Lo Γ lo 0 i)(Kg:Lo Γ hi l.length j)(h:C2 l i j=some r):
  B1 P Γ ⟨d,.slice T x lo hi none,ty,pos,af,g⟩ (.val<|TL f r):=by
 obtain⟨h1,h2,h3,h4⟩:=y5 h;subst h4;have hi':((i.toNat:Nat):Int)=i:=by omega
 have hj':((j.toNat:Nat):Int)=j:=by omega
 have:=akI (P:=P) (d:=d) (ty:=ty) (pos:=pos) (af:=af) (g:=g) (lo:=lo) (hi:=hi) (i:=i.toNat) (j:=j.toNat) hT hx (Jn hf l)
  (by cases Fp with
   |none=>exact .inl ⟨rfl,rfl⟩
   |some hy=>exact .inr ⟨_,_,rfl,by rw[hi'];exact hy⟩)
  (by cases Kg with
   |none=>exact .inl ⟨rfl,by rw[Bp];omega⟩
   |some hy=>exact .inr ⟨_,_,rfl,by rw[hj'];exact hy⟩)
  (by omega) (by rw[Bp];omega)
 rwa [show((lT f l).take j.toNat).drop i.toNat=lT f ((l.take j.toNat).drop i.toNat) from by simp[lT,qM,List.map_drop]] at this
def xK(h:Dx P T=true)(ad:A9 Addr)(n c:Nat)(w:AQ):(Op.equal T (.slice ad n c)<| .slice none 0 0).run P w= .ok ad.isNone w:=by
 obtain⟨e,hu⟩:=fA h;have key:∀d,(Op.equalIn (d+1) T (.slice ad n c)<| .slice none 0 0).run P w= .ok ad.isNone w:=by
  intro d;unfold Op.equalIn;cases ad<;>simp[F0 hu]
 exact key 9999
def abK(h:(TN f l).ok H v):∃ad n c,v= .slice ad n c/\ad.isNone=l.isEmpty:=by
 obtain⟨⟨ad,cap,e,_,hx⟩,hn⟩:=h;cases l with
 |nil=>exact⟨none,0,0,hn rfl,rfl⟩
 |cons y l=>
  obtain⟨b,off,cs,E,fr,e1,_⟩:=hx (by simp[lT]);exact⟨ad,_,cap,e,by subst e1;rfl⟩
def Lb(hT:Dx P T=true)(hx:Arg Γ x (TN f l)):B1 P Γ ⟨d,.binOp .eql T x (.const<| .slice none 0 0) T',ty,pos,af,g⟩ (.val<|Ay l.isEmpty):=
 Di λ_ _ _ a w H hs=>by
  obtain⟨ad,n,c,e,h⟩:=abK<|hx.ok hs
  refine⟨.bool ad.isNone,?_,by rw[h];rfl,rfl⟩;have e2:a.eval (.const<| .slice none 0 0)= .slice none 0 0:=rfl;simp[execOp,e,e2,eqGuard,binOp,xK hT]
def aoO(hT:Dx P T=true)(hx:Arg Γ x (TN f l)):B1 P Γ ⟨d,.binOp .neq T x (.const<| .slice none 0 0) T',ty,pos,af,g⟩ (.val<|Ay<| !l.isEmpty):=
 Di λ_ _ _ a w H hs=>by
  obtain⟨ad,n,c,e,h⟩:=abK<|hx.ok hs
  refine⟨.bool<| !ad.isNone,?_,by rw[h];rfl,rfl⟩;have e2:a.eval (.const<| .slice none 0 0)= .slice none 0 0:=rfl;simp[execOp,e,e2,eqGuard,binOp,xK hT]
def CY(hx:Arg Γ x (TI .i64 m))(hy:Arg Γ y (TI .i64 n))(h:AG (m+n)=some r):B1 P Γ ⟨d,.binOp .add T x y T',ty,pos,af,g⟩ (.val<|TI .i64 r):=by
 obtain⟨h1,h2⟩:=Yn h;subst h2;exact amR hx hy h1
def CQ(hx:Arg Γ x (TI .i64 m))(hy:Arg Γ y (TI .i64 n))(h:AG (m-n)=some r):B1 P Γ ⟨d,.binOp .sub T x y T',ty,pos,af,g⟩ (.val<|TI .i64 r):=by
 obtain⟨h1,h2⟩:=Yn h;subst h2;exact amI hx hy h1
def LW(hx:Arg Γ x (TI .i64 m))(hy:Arg Γ y (TI .i64 n))(h:AG (m*n)=some r):B1 P Γ ⟨d,.binOp .mul T x y T',ty,pos,af,g⟩ (.val<|TI .i64 r):=by
 obtain⟨h1,h2⟩:=Yn h;subst h2;exact amO hx hy h1
def pU(hx:Arg Γ x (TI .i64 n))(h:AG (-n)=some r):B1 P Γ ⟨d,.unOp .neg T x,ty,pos,af,g⟩ (.val<|TI .i64 r):=by
 obtain⟨h1,h2⟩:=Yn h;subst h2;exact amN hx h1
def NG(hx:Arg Γ x (TI .i64 m))(hy:Arg Γ y (TI .i64 n))(h:Gi m n=some r):B1 P Γ ⟨d,.binOp .quo T x y T',ty,pos,af,g⟩ (.val<|TI .i64 r):=by
 obtain⟨h1,h2,h3⟩:=alC h;subst h3;exact amJ hx hy h1 h2
def Ks(hx:Arg Γ x (TI k m))(hy:Arg Γ y (TI k n))(h:Fy m n=some r):B1 P Γ ⟨d,.binOp .rem T x y T',ty,pos,af,g⟩ (.val<|TI k r):=by
 obtain⟨h1,h2⟩:=ajv h;subst h2;exact aoL hx hy h1
@[reducible] def wr(k:IntKind)(n:Int):Int:=k.wrap n
def Ue(k:IntKind)(m n:Int):A9 Int:=bif decide (n=0) then none else some (wr k<|m.tdiv n)
def pT(hx:Arg Γ x (TI k m))(hy:Arg Γ y (TI k n))(h:Ue k m n=some r):B1 P Γ ⟨d,.binOp .quo T x y T',ty,pos,af,g⟩ (.val<|TI k r):=by
 unfold Ue at h;cases hc:decide (n=0)
 ·rw[hc] at h;have:=(E5 h);subst this;exact aae hx hy<|BQ hc
 ·rw[hc] at h;cases h
def GY(op:BinOp)(k:IntKind)(x y:Int):Int:=
 let a:=BitVec.ofInt k.bits x
 let b:=BitVec.ofInt k.bits y
 match op with
 | .and=>k.wrap (a&&&b).toNat
 | .or=>k.wrap (a|||b).toNat
 | .xor=>k.wrap (a^^^b).toNat
 | .andNot=>k.wrap (a&&& ~~~b).toNat
 |_=>0
def pb(hx:Arg Γ x (TI k m))(hy:Arg Γ y (TI k n)):B1 P Γ ⟨d,.binOp .and T x y T',ty,pos,af,g⟩ (.val<|TI k<|GY .and k m n):=
 IA hx hy λH u v hu hv w _=>by
  cases hu;cases hv;exact⟨_,by simp[eqGuard,binOp,Op.intBits];rfl,rfl⟩
def qh(hx:Arg Γ x (TI k m))(hy:Arg Γ y (TI k n)):B1 P Γ ⟨d,.binOp .or T x y T',ty,pos,af,g⟩ (.val<|TI k<|GY .or k m n):=
 IA hx hy λH u v hu hv w _=>by
  cases hu;cases hv;exact⟨_,by simp[eqGuard,binOp,Op.intBits];rfl,rfl⟩
def MO(k:IntKind)(x y:Int):A9 Int:=bif decide (y<0) then none else some (k.wrap<|x*2^(min y.toNat k.bits))
def MN(k:IntKind)(x y:Int):A9 Int:=bif decide (y<0) then none else some (x.fdiv<|2^(min y.toNat k.bits))
def Zl(hx:Arg Γ x (TI k m))(hy:Arg Γ y (TI k' n))(h:MO k m n=some r):B1 P Γ ⟨d,.binOp .shl T x y T',ty,pos,af,g⟩ (.val<|TI k r):=
 IA hx hy λH u v hu hv w _=>by
  cases hu;cases hv;unfold MO at h;cases hc:decide (n<0)
  ·rw[hc] at h;have:=E5 h;subst this;exact⟨_,by simp only[eqGuard,binOp,Op.shift,if_neg<|BQ hc];rfl,rfl⟩
  ·rw[hc] at h;cases h
def UC(hx:Arg Γ x (TI k m))(hy:Arg Γ y (TI k' n))(h:MN k m n=some r):B1 P Γ ⟨d,.binOp .shr T x y T',ty,pos,af,g⟩ (.val<|TI k r):=
 IA hx hy λH u v hu hv w _=>by
  cases hu;cases hv;unfold MN at h;cases hc:decide (n<0)
  ·rw[hc] at h;have:=E5 h;subst this;exact⟨_,by simp only[eqGuard,binOp,Op.shift,if_neg<|BQ hc];rfl,rfl⟩
  ·rw[hc] at h;cases h
def asq:IntKind->IntKind->Bool:=λa b=>decide<|a=b
def Sg(P:C7)(T:Ah)(k:IntKind):Bool:=match P.underlying T with|some (.int k')=>asq k k'|_=>false
def xh(h:Sg P T k=true):P.underlying T=some (.int k):=by
 unfold Sg at h;split at h
 ·rename_i k' hu;rw[hu,An h]
 ·cases h
def Re{S:Ah}(hS:Sg P S k=true)(hT:Sg P T k'=true)(hx:Arg Γ x (TI k n)):B1 P Γ ⟨d,.convert S T x,ty,pos,af,g⟩ (.val<|TI k'<|wr k' n):=
 Di λ_ _ _ a w H hs=>by
  have e:a.eval x= .int k n:=hx.ok hs;exact⟨_,by simp[execOp,e,convert,F0<|xh hS,F0<|xh hT,Conv.intToInt],rfl,rfl⟩
def pY{m n:Bool}(hT:Wx P T=true)(hx:Arg Γ x (Ay m))(hy:Arg Γ y (Ay n)):B1 P Γ ⟨d,.binOp .eql T x y T',ty,pos,af,g⟩ (.val<|Ay<|m==n):=aoT hT hx hy
def pW{m n:Bool}(hT:Wx P T=true)(hx:Arg Γ x (Ay m))(hy:Arg Γ y (Ay n)):B1 P Γ ⟨d,.binOp .neq T x y T',ty,pos,af,g⟩ (.val<|Ay<| !(m==n)):=
 IA hx hy λH u v hu hv w _=>by
  cases hu;cases hv;have hu:P.underlying T=some .bool:=by
   unfold Wx at hT;split at hT
   ·assumption
   ·cases hT
  refine⟨.bool<| !(m==n),?_,rfl⟩;have e:(Op.equal T (.bool m)<| .bool n).run P w= .ok (m==n) w:=run_equalIn_bool w 9999 T m n hu;simp[eqGuard,binOp,e]
def mx_(x y:Int):Int:=bif decide (x<y) then y else x
def mn_(x y:Int):Int:=bif decide (y<x) then y else x
def fp(hx:Arg Γ x (TI k m))(hy:Arg Γ y (TI k n)):B1 P Γ ⟨d,.call ⟨.builtin .max,#[x,y],F4⟩,ty,pos,af,g⟩ (.val<|TI k<|mx_ m n):=
 Di λ_ _ _ a w H hs=>by
  have e:a.eval x= .int k m:=hx.ok hs;have e2:a.eval y= .int k n:=hy.ok hs;refine⟨.int k<|if n>m then n else m,?_,?_,rfl⟩
  ·simp[execOp,resolve,invoke,builtin,e,e2,Builtin.max_,Builtin.max2]
  ·show Value.int k _=Value.int k _;unfold mx_;cases hc:decide (m<n)
   ·rw[if_neg<|BQ hc];rfl
   ·rw[if_pos<|An hc];rfl
def zW(hx:Arg Γ x (TI k m))(hy:Arg Γ y (TI k n)):B1 P Γ ⟨d,.call ⟨.builtin .min,#[x,y],F4⟩,ty,pos,af,g⟩ (.val<|TI k<|mn_ m n):=
 Di λ_ _ _ a w H hs=>by
  have e:a.eval x= .int k m:=hx.ok hs;have e2:a.eval y= .int k n:=hy.ok hs;refine⟨.int k<|if n<m then n else m,?_,?_,rfl⟩
  ·simp[execOp,resolve,invoke,builtin,e,e2,Builtin.min_,Builtin.min2]
  ·show Value.int k _=Value.int k _;unfold mn_;cases hc:decide (n<m)
   ·rw[if_neg<|BQ hc];rfl
   ·rw[if_pos<|An hc];rfl
structure qZ(P:C7)(f:FuncId)(args:A3 Ty)(Bb:A3 Ty):Prop where
 run:∀(w:AQ) (H:HV) (vs:A3 AR),Ee H args vs->∃v w',(callFunc f vs.toArray).run P w= .ok (.value v) w'/\FL w.heap.size w w'/\KR H Bb v
def PV{f:FuncId}(hf:qZ P f args Bb)(ha:AO Γ xs args):
  B1 P Γ ⟨d,.call ⟨.value<| .func f,xs.toArray,F4⟩,ty,pos,af,g⟩ (Ip Bb):=
 Lz λw0 H0 N a w H hs=>by
  obtain⟨v,w',h1,h2,h3⟩:=hf.run w H _<|ha.ok hs
  have e:execOp a.eval ⟨d,.call ⟨.value<| .func f,xs.toArray,F4⟩,ty,pos,af,g⟩=callFunc f (#[]++xs.toArray.map a.eval++ #[]):=rfl;have e2:(#[]++xs.toArray.map a.eval++ #[])=(xs.map a.eval).toArray:=by simp
  refine⟨v,w',H,by rw[e,e2,h1],⟨h2,HV.le.refl _,λ_ _=>rfl,λr o h=>?_⟩,VQ h3,λb e=>absurd e<|AN.free_spec VX⟩;rw[h2.block r<|HH hs.sub h];exact hs.sub r o h
def oN{n:Nat}{agg:Bool}(h:Bm P T n agg=true){cs:B6 AR}(hl:off+n<=cs.size)(w:AQ):(part T cs off).run P w= .ok (Gp agg ((cs.toList.drop off).take n).toArray) w:=by
 obtain⟨h1,h2,h3⟩:=yf h;cases agg
 ·have hn:=h3 rfl;subst hn;have hlt:off<cs.size:=by omega
  simp[part,h1,hlt,Gp]
 ·simp only[part,E4,h1,h2,Dp,if_true,Jp,Gp]
  congr 2
  apply Array.ext';simp[Array.toList_extract,List.extract_eq_take_drop]
def ig(P:C7)(T F:Ah)(k off:Nat):Bool:=
 match P.underlying T with
 |some (.struct fs)=>match fs[k]? with
  |some f=>Nat.beq f.offset off&&Nat.beq f.type F
  |none=>false
 |_=>false
def vB{F:Ah}{k:Nat}(hT:ig P T F k off=true)(hF:Bm P F σ.n σ.agg=true)(ha:τ.agg=true)(hx:Arg Γ x τ)(hp:BN τ off σ):B1 P Γ ⟨d,.field T x k,ty,pos,af,g⟩ (.val σ):=
 Di λ_ _ _ a w H hs=>by
  have hv:=hx.ok hs;obtain⟨p1,p2⟩:=hp _ _ hv;have C6:=τ.shape hv;have e:a.eval x= .agg (a.eval x).cells:=by rw[<-show Gp τ.agg (a.eval x).cells= .agg (a.eval x).cells from by rw[ha];rfl];exact C6.eq
  unfold ig at hT;split at hT
  ·rename_i fs hu;split at hT
   ·rename_i fd hfd;simp only[Bx] at hT;have e1:=EG hT.1;have e2:=EG hT.2;refine⟨_,?_,p2,rfl⟩
    generalize (a.eval x).cells=cs at e p1
    have hr:=oN (P:=P) hF p1 w;simp only[execOp,e,Instr.field,E4,F0 hu,Dp,hfd,asAgg,Jp,e1,e2,hr]
   ·cases hT
  ·cases hT
def jG(P:C7)(T E:Ah)(len sz:Nat):Bool:=
 match P.underlying T with
 |some (.array n e)=>Nat.beq n len&&Nat.beq e E&&(match P.info? e with|some i=>Nat.beq i.size sz|none=>false)
 |_=>false
def BN.arr{i:Nat}{y:α}(hf:∀z,(f z).n=sz)(h:l[i]? =some y):BN (b9 f l) (i*sz) (f y):=by
 refine BN.agg (i:=i) (by rw[Gg,h];rfl) ?_;have hlt:=(GD.1 h).1;rw[KG<|(Jn hf l).take i,Dn,Bp,EN (by omega)]
def Gv.arr{i:Nat}{y:α}(hf:∀z,(f z).n=sz)(h:l[i]? =some z):Gv (b9 f l) (i*sz) (f y) (b9 f<|l.set i y):=by
 have hlt:=(GD.1 h).1;have:=Gv.agg (l:=lT f l) (i:=i) (off:=i*sz) (σ:=f y) (ρ:=f z) (by rw[Gg,h];rfl) (by rw[hf,hf]) (by rw[KG<|(Jn hf l).take i,Dn,Bp,EN (by omega)]);rwa [show(lT f l).set i (f y)=lT f (l.set i y) from by simp[lT,Tj]] at this
def Yz{y:α}(hT:jG P T E len sz=true)(hE:Bm P E (f y).n (f y).agg=true)(hf:∀z,(f z).n=sz)(hlen:l.length=len)(hx:Arg Γ x (b9 f l))(hi:Arg Γ ix (TI k i))(h:AA l i=some y):
  B1 P Γ ⟨d,.index T x ix,ty,pos,af,g⟩ (.val<|f y):=
 Di λ_ _ _ a w H hs=>by
  obtain⟨h0,h1,h2⟩:=HW h;have hv:=hx.ok hs;obtain⟨p1,p2⟩:=BN.arr hf h2 _ _ hv;obtain⟨cs,e,_⟩:=hv;have ei:a.eval ix= .int k i:=hi.ok hs;rw[e] at p1 p2;simp only[Value.cells] at p1 p2;unfold jG at hT;split at hT
  ·rename_i n el hu;simp only[Bx] at hT;obtain⟨⟨e1,e2⟩,e3⟩:=hT;have e1:=EG e1;have e2:=EG e2;subst e2;split at e3
   ·rename_i ii hii;have e3:=EG e3;have hr:=oN (P:=P) hE p1 w;have hsz:(Go.sizeOf el).run P w= .ok sz w:=by simp[Go.sizeOf,typeInfo,program,Sem.run,hii,e3]
    have hb:0<=i/\i<(n:Int):=⟨h0,by omega⟩;refine⟨_,?_,p2,rfl⟩;simp only[execOp,e,ei,Instr.index,asIntOf,E4,Jp,Dp,F0 hu,if_pos hb,hsz,hr]
   ·cases e3
  ·cases hT
def PU{y:α}(h:look Γ t=some (.own T'<|b9 f l))(hT:LB P T len sz=true)(hlen:l.length=len)(hi:Arg Γ ix (TI k i))(hy:AA l i=some y):
  B1 P Γ ⟨d,.indexAddr T (.tmp t) ix,ty,pos,af,g⟩ (.ptr t<|i.toNat*sz):=by
 obtain⟨h0,h1,_⟩:=HW hy;exact vA h hT hi h0 (by omega)
def ak3{ps:A3 (Nat×CB)}{l l':A3 Ty}(hp:Dv P Γ ps l l'):FQ l'=FQ l:=by
 induction hp with
 |nil=>rfl
 |cons hx hi hn r ih=>rw[ih,yV hi hn]
def wg{n:Nat}{ps:A3 (Nat×CB)}{l':A3 Ty}(hz:Dk P E τ)(hT:Gj P T E sz=true)(hsz:τ.n=sz)(hpos:Nat.blt 0 (n*sz)=true)(hn:Nat.ble (n*sz) 16777216=true)(hp:Dv P Γ ps (List.replicate n τ) l')(hl:l'.length=n):
  B1 P Γ ⟨d,.buildSlice T n ps.toArray,ty,pos,af,g⟩ (.buf E sz l'):=
 Lz λw0 H0 N a w H hs=>by
  obtain⟨z,hzr,hzo⟩:=hz.run w;have abg:=AZ hpos;unfold Gj at hT;split at hT
  ·rename_i e hu;simp only[Bx] at hT;obtain⟨h1,h2⟩:=hT;have h1:=EG h1;subst h1;split at h2
   ·rename_i i hi;have h2:=EG h2;have hz0:=o8 (hzo H) n;rw[hsz] at hz0;have Jg:∀i m,(FQ<|List.replicate n τ)[i]? =some m->(λi=>some (i*sz,sz)) i=some (((FQ<|List.replicate n τ).take i).sum,m):=by
     intro i m hi;simp only[FQ,gj,List.getElem?_replicate] at hi;split at hi
     ·rename_i hlt;simp at hi;subst hi;simp[FQ,gj,ZP,hsz,EN<|Vw hlt]
     ·cases hi
    obtain⟨HF,hf,As⟩:=hp.fill Jg hs hz0;have e2:(ps.toArray.map λ(i,x)=>(i,a.eval x)).toList=ps.map λp=>(p.1,a.eval p.2):=by simp
    have IQ:(Go.sizeOf e).run P w= .ok sz w:=by simp[Go.sizeOf,typeInfo,program,Sem.run,hi,h2]
    have hle:n*sz<=16777216:=F1 hn;have hff:Instr.fill (λi=>some (i*sz,sz)) ((Array.range<|n*sz).map<|λi=>z.cells[i%z.cells.size]!) (ps.toArray.map λ(i,x)=>(i,a.eval x)).toList=some HF:=by
     rw[e2];exact hf
    have hb:FL w.heap.size w (w.alloc<| .cells HF e):=FL.alloc _;have aqq:=Md As;have hns:FQ l'=FQ (List.replicate n τ):=ak3 hp;have hcl:CH l'=n*sz:=by
     have:CH l'=(FQ l').sum:=rfl;rw[this,hns];simp[FQ,hsz]
    have hcs:HF.size=n*sz:=by rw[<-hcl,<-aqq];simp
    refine⟨.slice (some ⟨w.heap.size,0,none⟩) n n,w.alloc<| .cells HF e,H,?_,Ext.alloc hs.sub _,⟨HF.toList,⟨by rw[hl];simpa using hcs,.inr ⟨w.heap.size,n,HF,by rw[hl],FM _,Lc w _,by omega,?_,hcs,?_⟩⟩,As,?_⟩,?_⟩
    ·have h0: ¬n*sz=0:=by omega
     simp only[execOp,Instr.buildSlice,E4,Dp,F0 hu,IQ];rw[if_neg (by omega)];simp only[E4,Jp,Dp,if_neg h0,hzr];rw[hff];simp[newRow]
    ·rw[UK];have:n<=n*sz:=by
      rcases L2 sz with h|h
      ·subst h;simp at abg
      ·exact Nat.le_mul_of_pos_right n h
     omega
    ·rw[hl,Cd (by simp;omega)]
    ·intro b hb;simp[Value.ownBlock] at hb;subst hb;refine⟨?_,.inl hs.below.size⟩;cases hh:H w.heap.size with
     |none=>rfl
     |some o=>have:=HH hs.sub hh;omega
    ·intro b hb;simp[AN.owns,Value.ownBlock] at hb;omega
   ·cases h2
  ·cases hT
theorem not_true(h:(!b)=true):b=false:=by cases b<;>simp_all
def CC{y:α}(h:AA l i=some y):l[i.toNat]? =some y:=(HW h).2.2
def Zx{y:α}{n:Nat}(e:l.length=n)(h:AA l i=some y):i<n:=by
 have:=(HW h).2.1;omega
theorem uc{l:A3 Ty}(h:τ.n=sz)(r:Fq sz l):Fq sz (τ::l):=by simp_all [Ty.n,Fq]
def un:Fq sz []:=λx hx=>by cases hx
def Sat.aac(hs:Sat w0 H0 N Γ a w H){s:AN}(h:s.holds w0 a w H (Ab a t))(hb:s.free=true):Sat w0 H0 N ((t,s)::BF t Γ) a w H:=by
 refine⟨hs.nd,hs.sz,hs.below,hs.GK,hs.sub,?_,?_,hs.gl⟩
 ·intro p hp;rcases Ai.1 hp with e|hp
  ·subst e;exact h
  ·exact hs.holds p (DI p hp).1
 ·intro p hp q hq hne b hpb;rcases Ai.1 hp with e|hp
  ·subst e;exact absurd hpb<|AN.free_spec hb
  ·rcases Ai.1 hq with e|hq
   ·subst e;exact AN.free_spec hb
   ·exact hs.sep p (DI p hp).1 q (DI q hq).1 hne b hpb
def EO{s:Nat}(hs:look Γ s=some (.same t))(ht:look Γ t=some (.val τ)):IK w0 N Γ ((s,.val τ)::BF s Γ):=λ_ _ _ H h=>by
 have e:=h.holds _<|B5 hs
 have k:=h.holds _<|B5 ht
 exact⟨H,h.aac (by show τ.ok H _;rw[show _=_ from e];exact k) rfl⟩
def acW{Gl:Ty}(ht:look Γ t=some (.val τ))(hi:∀H v,τ.ok H v->Gl.ok H v):IK w0 N Γ ((t,.val Gl)::BF t Γ):=λ_ _ _ H h=>
 ⟨H,h.aac (hi _ _<|h.holds _<|B5 ht) rfl⟩
def GQ(ht:look Γ t=some (.val<|TN f l)):IK w0 N Γ ((t,.val<|TL f l)::BF t Γ):=acW ht jL
def tNL(h:l.isEmpty=false)(ht:look Γ t=some (.val<|TL f l)):IK w0 N Γ ((t,.val<|TN f l)::BF t Γ):=acW ht<|jM h
def Arg.c(h:v.oneCell'=true):Arg Γ (.const v) (Ir 1 false):=⟨λ_=>Shape.one h⟩
def zTL:(TL f []).ok H (.slice none 0 0):=⟨none,0,rfl,BM _,λh=>absurd rfl h⟩
def zTN:(TN f []).ok H (.slice none 0 0):=⟨zTL,λ_=>rfl⟩
def KU{n:Nat}{agg:Bool}(h:(Nat.beq v.cells.size n&&v.cells.toList.all (λc=>c.oneCell'))=true)(e:v=Gp agg v.cells):Shape n agg v:=by
 simp only[Bx] at h;exact⟨EG h.1,λc hc=>DZ.1 h.2 c hc,e⟩
def Er{α:Type}(i k:Int)(y x:α):α:=bif decide (i=k) then y else x
def Gv.ak{a b c y:α}(hf:∀z,(f z).n=sz)(h:AA [a,b,c] i=some z):Gv (DG [f a,f b,f c]) (i.toNat*sz) (f y) (DG [f<|Er i 0 y a,f<|Er i 1 y b,f<|Er i 2 y c]):=by
 obtain⟨h0,h1,h2⟩:=HW h;have:=Gv.arr (y:=y) hf h2;simp only[Dj,W6] at h1;have hi:i=0\/i=1\/i=2:=by omega
 rcases hi with e|e|e<;>(subst e;exact this)
def Zn{t' o n:Nat}(h:look Γ t=some (.ptr t' o))(hT:LB P T n sz=true)(hi:Arg Γ ix (TI k i))(h0:0<=i)(h1:i<n):
  B1 P Γ ⟨d,.indexAddr T (.tmp t) ix,ty,pos,af,g⟩ (.ptr t'<|o+i.toNat*sz):=Ox h hT hi h0 h1
def Yg{f:FuncId}(hc:GL P f=true)
 (h:∀(H:HV) (vs:A3 AR),Ee H args vs->∃Wy L6,Ee H Wy vs/\E0 P f Wy (.vs L6)/\∀H' v,KR H' L6 v->KR H' Bb v):E0 P f args (.vs Bb):=
 ⟨hc,λw H vs sub gl As=>by
  obtain⟨Wy,L6,h1,h2,h3⟩:=h H vs As;exact(h2.run w H vs sub gl h1).mono λ_ w' ⟨v,e,hb,H',k1,k2,k3⟩=>⟨v,e,hb,H',k1,k2,h3 H' v k3⟩⟩
structure UH{α:Type}[DecidableEq α](P:C7)(T:Ah)(f:α->Ty):Prop where
 run:∀(H:HV) (u v:AR) (x y:α),(f x).ok H u->(f y).ok H v->∀w:AQ,(Op.equal T u v).run P w= .ok (decide<|x=y) w
 guard:∀(H:HV) (u v:AR) (x y:α),(f x).ok H u->(f y).ok H v->∀(o:BinOp) (p q:CB) (w:AQ),(eqGuard o T p q u v).run P w= .ok () w
 agg:∀x,(f x).agg=true
def WW[DecidableEq α]{m n:α}(h:UH P T f)(hx:Arg Γ x (f m))(hy:Arg Γ y (f n)):B1 P Γ ⟨d,.binOp .eql T x y T',ty,pos,af,g⟩ (.val<|Ay<|decide<|m=n):=
 IA hx hy λH u v hu hv w _=>by
  have e1:=h.run H u v m n hu hv w;have e2:=h.guard H u v m n hu hv .eql x y w;refine⟨.bool<|decide<|m=n,?_,rfl⟩;have a1:=((f m).shape hu).eq;have a2:=((f n).shape hv).eq;rw[h.agg] at a1 a2;simp only[Gp] at a1 a2;simp only[E4,e2,Dp];rw[a1,a2] at e1⊢;simp[binOp,e1]
def Zm[DecidableEq α]{m n:α}(h:UH P T f)(hx:Arg Γ x (f m))(hy:Arg Γ y (f n)):B1 P Γ ⟨d,.binOp .neq T x y T',ty,pos,af,g⟩ (.val<|Ay<| !decide (m=n)):=
 IA hx hy λH u v hu hv w _=>by
  have e1:=h.run H u v m n hu hv w;have e2:=h.guard H u v m n hu hv .neq x y w;refine⟨.bool<| !decide (m=n),?_,rfl⟩;have a1:=((f m).shape hu).eq;have a2:=((f n).shape hv).eq;rw[h.agg] at a1 a2;simp only[Gp] at a1 a2;simp only[E4,e2,Dp];rw[a1,a2] at e1⊢;simp[binOp,e1]
def AJ:A3 Int->Int
 |[]=>0
 |x::l=>x+18446744073709551616*AJ l
def okW(l:A3 Int):Prop:=∀x∈l,0<=x/\x<18446744073709551616
@[reducible] def CX(x:Int×A3 Int):Ty:=DG [(TI .i64) x.1,(TN<|TI .u64) x.2]
def CT(r:Int×A3 Int)(z:Int):Prop:=
 (r.2=[]/\r.1=z/\DX z)\/(r.2≠[]/\(r.1=1\/r.1= -1)/\okW r.2/\r.2.getLast?≠some 0/\z=r.1*AJ r.2/\9223372036854775807<AJ r.2)
def ER(z:Int):Ty:=TEx 2 true (λr=>CT r z) CX (λ_=>rfl)<|λ_=>rfl
@[reducible] def Br(q:Rat):Ty:=DG [ER q.num,ER q.den]
def Xw{k:Nat}(h:look Γ p=some (.Jy t j sz))(hf:Ga P T k off=true):B1 P Γ ⟨d,.fieldAddr T (.tmp p) k,ty,pos,af,g⟩ (.bpf t<|j*sz+off):=
 Di λ_ _ _ a w _ hs=>by
  obtain⟨b,len,cap,e1,e2⟩:=hs.holds _<|B5 h
  have e':a.eval (.tmp p)= .pointer (some ⟨b,j*sz,none⟩):=e2;exact⟨.pointer<|some ⟨b,j*sz+off,none⟩,by simp[execOp,e',YH hf],⟨b,len,cap,e1,rfl⟩,rfl⟩
def anZ{B:Ae P}{l:A3 Ty}{ρ:Ty}(h:(AN.buf E sz l).holds B a w H v)(hu:Fq sz l)(hj:l[j]? =some ρ):
  ∃b cap cs,v= .slice (some ⟨b,0,none⟩) l.length cap/\w.heap[b]? =some (.cells cs E (0,0))/\j*sz+sz<=cs.size/\ρ.ok H (Gp ρ.agg ((cs.toList.drop<|j*sz).take ρ.n).toArray):=by
 have JI:=(GD.1 hj).1;obtain⟨b,cap,cs,xs,e,hb,hcap,_,hcs,hx,htake,ho,_,_⟩:=Vp h (λe=>by rw[e] at JI;simp at JI);obtain⟨p1,p2⟩:=N7 ho hj;have hρ:=hu ρ<|OV hj
 have hc:CH (l.take j)=j*sz:=by rw[KG<|hu.take _,Dn,EN (by omega)]
 rw[hc] at p1 p2;have jE:l.length*sz<=cs.size:=by rw[hcs];exact J9 _ hcap
 have Ll:List.take ρ.n (List.drop (j*sz) cs.toList)=List.take ρ.n (List.drop (j*sz) xs):=by
  rw[<-htake,MA,NJ]
  congr 1;omega
 refine⟨b,cap,cs,e,hb,by omega,?_⟩;rw[Ll];exact p2
def di{y:α}(hf:∀z,(f z).n=sz)(hp:look Γ p=some (.bpf t<|j*sz+off))(ht:look Γ t=some (.buf E sz<|lT f l))(h:l[j]? =some y)(ha:(f y).agg=true)(hq:BN (f y) off σ)(hT:Bm P T σ.n σ.agg=true):
  B1 P Γ ⟨d,.load T<| .tmp p,ty,pos,af,g⟩ (.val σ):=
 Di λw0 _ _ a w H BA=>by
  obtain⟨b,cap,cs,e,hb,hsz,As⟩:=anZ (BA.holds _<|B5 ht) (Jn hf l) (j:=j) (ρ:=f y) (by rw[Gg,h];rfl);obtain⟨b',sC,aw,e1,e2⟩:=BA.holds _<|B5 hp
  simp only at e e1;rw[e] at e1;cases e1;have e3:a.eval (.tmp p)= .pointer (some ⟨b,j*sz+off,none⟩):=e2;rw[ha] at As;obtain⟨h1,h2⟩:=hq _ _ As;simp only[Y6] at h1 h2;have hn:=hf y;have hlen:(List.take (f y).n<|List.drop (j*sz) cs.toList).toArray.size=(f y).n:=by simp;omega
  rw[hlen] at h1;refine⟨_,?_,h2,rfl⟩;have hr:=R9 (P:=P) hT hb (off:=j*sz+off) (by omega);have Ll:List.take σ.n (List.drop (j*sz+off) cs.toList)=List.take σ.n (List.drop off<|List.take (f y).n<|List.drop (j*sz) cs.toList):=by
   rw[MA,NJ,FW]
   congr 1;omega
  rw[Ll] at hr;simp[execOp,e3,Instr.loadAt,Instr.sureAddr,hr]
def alv{Ag:Ctx}(BE:∀q∈Ag,q∈Γ){y y':α}(hf:∀z,(f z).n=sz)(hp:look Ag p=some (.bpf t<|j*sz+off))(ht:look Ag t=some (.buf E sz<|lT f l))(h:l[j]? =some y)(hx:Arg Ag x σ)(ha:(f y).agg=true)(hs:Gv (f y) off σ (f y'))(hT:Bm P T σ.n σ.agg=true):
  Step P N ops ⟨none,.store T (.tmp p) x,ty,pos,af,none⟩ Γ ((t,.buf E sz<|lT f<|l.set j y')::BF t Γ):=by
 intro w0 H0 a w H BA K Q k;simp only[Region.wanted,if_true];have hj:(lT f l)[j]? =some (f y):=by rw[Gg,h];rfl
 have hu:=Jn hf l;have JI:=(GD.1 hj).1;obtain⟨b,cap,cs,xs,e,hb,hcap,hml,hcs,GR,htake,ho,hH,hB⟩:=Vp (BA.holds _<|BE _<|B5 ht) (λe=>by rw[e] at JI;simp at JI);obtain⟨b',sC,aw,e1,e2⟩:=BA.holds _<|BE _<|B5 hp
 simp only at e e1;rw[e] at e1;cases e1;have ep:a.eval (.tmp p)= .pointer (some ⟨b,j*sz+off,none⟩):=e2;have I1:=hx.ok<|BA.weaken BE
 have C6:=σ.shape I1;have hc:CH ((lT f l).take j)=j*sz:=by rw[KG<|hu.take _,Dn,EN<|Vw JI]
 obtain⟨p1,p2⟩:=N7 ho hj;rw[hc,hf y] at p1;rw[hc,hf y] at p2;have jE:(lT f l).length*sz<=cs.size:=by rw[hcs];exact J9 _ hcap
 generalize Ll:List.take sz (List.drop (j*sz) xs)=Kb at p2
 have jA:Kb.length=sz:=by rw[<-Ll];simp;omega
 rw[ha] at p2;obtain⟨s1,x',s2,s3⟩:=hs _ _ _ p2 I1;simp only[Y6,WB,jA] at s1;simp only[Y6] at s3;have MP:=Te ho hj ((hf y').trans (hf y).symm) s2;rw[hc,hf y] at MP;have F9:=Sq (P:=P) (off:=j*sz+off) (TZ hT) C6.size hb (by omega) C6.cell;unfold Oper.wp;have er:(execOp a.eval ⟨none,.store T (.tmp p) x,ty,pos,af,none⟩).run P w= .ok .skip (w.setRow b (cs.toList.take (j*sz+off)++(a.eval x).cells.toList++cs.toList.drop (j*sz+off+σ.n)).toArray):=by
  simp[execOp,ep,Instr.storeAt,Instr.sureAddr,F9]
 rw[er,QI]
 generalize ah:(cs.toList.take (j*sz+off)++(a.eval x).cells.toList++cs.toList.drop (j*sz+off+σ.n)).toArray=E2
 have hg:Ef w (w.setRow b E2) (some b):=Ef.setRow w b _;have hlen:(a.eval x).cells.toList.length=σ.n:=by rw[Ex,C6.size]
 have asu:x'.cells.toList=List.take off Kb++(a.eval x).cells.toList++List.drop (off+σ.n) Kb:=by rw[s3]
 have acS:E2.toList=cs.toList.take (j*sz+off)++(a.eval x).cells.toList++cs.toList.drop (j*sz+off+σ.n):=by rw[<-ah]
 refine k a _ H (Ov BA (BE _<|B5 ht) hg hB (by simp[AN.owns,e,Value.ownBlock]) ?_ λc hc=> .inl hc);have hl2:(lT f<|l.set j y').length=(lT f l).length:=by simp
 have acR:E2.size=cs.size:=by
  rw[<-Ex,acS];simp only[ED,Dn,hlen,IC,Ex];omega
 refine⟨List.take ((lT f l).length*sz) E2.toList,⟨?_,.inr ⟨b,cap,E2,by rw[hl2];simpa using e,FM _,Th w b _ _ _ _ hb,by rw[hl2];exact hcap,hml,by rw[acR,hcs],by rw[hl2]⟩⟩,?_,?_⟩
 ·rw[hl2];show(List.take ((lT f l).length*sz) E2.toList).length=(lT f l).length*sz;rw[Dn,Ex (xs:=E2),acR];exact EN jE
 ·have aqm:List.take ((lT f l).length*sz) E2.toList=List.take (j*sz) xs++x'.cells.toList++List.drop (j*sz+sz) xs:=by
   have hy:(a.eval x).cells.toList.length=σ.n:=hlen;rw[acS,y4 hy (by omega) (by rw[Ex];omega),htake,asu];have t1:List.take (j*sz+off) xs=List.take (j*sz) xs++List.take off Kb:=by
    rw[List.take_add,<-Ll,NJ,EN (by omega)]
   have t2:List.drop (j*sz+off+σ.n) xs=List.drop (off+σ.n) Kb++List.drop (j*sz+sz) xs:=by
    rw[<-Ll,MA,FW];have:List.drop (j*sz+sz) xs=List.drop (sz-(off+σ.n)) (List.drop (j*sz+(off+σ.n)) xs):=by
     rw[FW];congr 1;omega
    rw[this,OX]
    congr 1;omega
   rw[t1,t2];simp[ID]
  rw[aqm];rw[show lT f (l.set j y')=(lT f l).set j (f y') from by simp[lT,Tj]];exact MP
 ·intro c hc;simp[e,Value.ownBlock] at hc;subst hc;exact⟨hH,hB⟩
def anx{y y':α}(hf:∀z,(f z).n=sz)(hp:look Γ p=some (.bpf t<|j*sz+off))(ht:look Γ t=some (.buf E sz<|lT f l))(h:l[j]? =some y)(hx:Arg Γ x σ)(ha:(f y).agg=true)(hs:Gv (f y) off σ (f y'))(hT:Bm P T σ.n σ.agg=true):
  Step P N ops ⟨none,.store T (.tmp p) x,ty,pos,af,none⟩ Γ ((t,.buf E sz<|lT f<|l.set j y')::BF t Γ):=alv (λ_ h=>h) hf hp ht h hx ha hs hT
def ajq(hT:Gj P T E sz=true)(w:AQ):(Instr.buildSlice T 0 #[]).run P w= .ok (.slice (some ⟨w.heap.size,0,none⟩) 0 0) (w.alloc<| .cells #[] E):=by
 unfold Gj at hT;split at hT
 ·rename_i e hu;simp only[Bx] at hT;obtain⟨h1,h2⟩:=hT;have h1:=EG h1;subst h1;split at h2
  ·rename_i i hi;have h2:=EG h2;have IQ:(Go.sizeOf e).run P w= .ok sz w:=by simp[Go.sizeOf,typeInfo,program,Sem.run,hi,h2]
   have Kd:(Array.range 0:B6 Nat)= #[]:=rfl;simp only[Instr.buildSlice,E4,Dp,F0 hu,IQ,gH];rw[if_neg (by omega)];simp[newRow,Instr.fill,Kd]
  ·cases h2
 ·cases hT
def PB(f:α->Ty)(hT:Gj P T E sz=true):B1 P Γ ⟨d,.buildSlice T 0 #[],ty,pos,af,g⟩ (.buf E sz<|lT f []):=
 Lz λw0 H0 N a w H hs=>by
  refine⟨.slice (some ⟨w.heap.size,0,none⟩) 0 0,w.alloc<| .cells #[] E,H,by simp only[execOp,E4,Array.map_empty,ajq hT];rfl,Ext.alloc hs.sub _,⟨[],⟨by simp,.inr ⟨w.heap.size,0,#[],rfl,FM _,Lc w _,BM _,by rw[UK];omega,by simp,by simp⟩⟩,rfl,?_⟩,?_⟩
  ·intro b hb;simp[Value.ownBlock] at hb;subst hb;refine⟨?_,.inl hs.below.size⟩;cases hh:H w.heap.size with
   |none=>rfl
   |some o=>have:=HH hs.sub hh;omega
  ·intro b hb;simp[AN.owns,Value.ownBlock] at hb;omega
def ais{T:Nat}{l:A3 Ty}(hT:LB P T len sz=true)(hu:Fq sz l)(hl:l.length=len)(hx:Arg Γ x (JX<|DG l)):B1 P Γ ⟨d,.slice T x none none none,ty,pos,af,g⟩ (.val<|FT l):=
 Di λw0 _ _ a w H hs=>by
  obtain⟨b,off,cs,E,fr,e,hb,hsz,As⟩:=hx.ok hs;obtain⟨el,i,hu2,hi,h2⟩:=oj hT;have IQ:∀w,(Go.sizeOf el).run P w= .ok sz w:=λw=>by simp[Go.sizeOf,typeInfo,program,Sem.run,hi,h2]
  refine⟨.slice (some<|if len=0 then⟨b,off,none⟩ else(⟨b,off,none⟩:Addr).add (0*sz)) len len,?_,?_,rfl⟩
  ·simp[execOp,e,Instr.sliceAt,F0 hu2,Instr.sureAddr,Instr.sliceBounds,IQ]
  ·obtain⟨cs2,e2,ho⟩:=As;have sR:cs2=(List.take (DG l).n<|List.drop off cs.toList).toArray:=by
    have:(DG l).agg=true:=rfl;rw[this] at e2;simp only[Gp] at e2;exact(Value.agg.inj e2).symm
   refine⟨_,len,by rw[hl],by omega,λhne=>⟨b,off,cs,E,fr,?_,hb,hsz,?_⟩⟩
   ·simp[addr_add]
   ·rw[sR] at ho;exact ho
def Flat(τ:Ty):Prop:=∀H H' v,τ.ok H v->τ.ok H' v
def Flat.int:Flat (TI k n):=λ_ _ _ h=>h
def Flat.bool:Flat (Ay b):=λ_ _ _ h=>h
inductive KS(Γ:Ctx):A3 CB->A3 Ty->Prop where
 |nil:KS Γ [] []
 |cons {x:CB} {τ:Ty} {xs:A3 CB} {l:A3 Ty} (h:Arg Γ x τ) (r:KS Γ xs l):KS Γ (x::xs) (τ::l)
 |buf {t:Nat} {E:Ah} {sz:Nat} {bl:A3 Ty} {xs:A3 CB} {l:A3 Ty} (h:look Γ t=some (.buf E sz bl)) (r:KS Γ xs l):KS Γ (.tmp t::xs) (FT bl::l)
 |same {s t:Nat} {E:Ah} {sz:Nat} {bl:A3 Ty} {xs:A3 CB} {l:A3 Ty} (hs:look Γ s=some (.same t)) (h:look Γ t=some (.buf E sz bl)) (r:KS Γ xs l):KS Γ (.tmp s::xs) (FT bl::l)
def full(w:AQ):HV:=λr=>w.heap[r]?
def KS.ok{xs:A3 CB}{l:A3 Ty}(h:KS Γ xs l){w0:Ae P}{H0:HV}{N:Nat}{a:Act}{w:AQ}{H:HV}(hs:Sat w0 H0 N Γ a w H):Ee (full w) l (xs.map a.eval):=by
 have hle:HV.le H (full w):=hs.sub
 induction h with
 |nil=>rfl
 |cons h _ ih=>exact⟨_,_,rfl,Ty.mono _ hle<|h.ok hs,ih⟩
 |buf h _ ih=>exact⟨_,_,rfl,QT (hs.holds _<|B5 h) hle<|λb _ _ o ho=>ho,ih⟩
 | @same s t E sz bl xs l hsm h _ ih=>
  refine⟨_,_,rfl,?_,ih⟩;have e:Ab a s=Ab a t:=hs.holds _<|B5 hsm
  show(FT bl).ok _ (Ab a s);rw[e];exact QT (hs.holds _<|B5 h) hle<|λb _ _ o ho=>ho
def yR{H H':HV}:∀{l:A3 Ty} {vs:A3 AR},(∀τ∈l,Flat τ)->Ee H l vs->Ee H' l vs
 |[],_,_,e=>e
 |τ::_,_,hf,⟨v,rest,e,hv,hr⟩=>⟨v,rest,e,hf τ (by simp) _ _ _ hv,yR (λx hx=>hf x (by simp[hx])) hr⟩
def ah0{H':HV}{l:A3 Ty}(hf:∀τ∈l,Flat τ)(h:KR H l v):KR H' l v:=by
 match l,h with
 |[],h=>exact h
 |[τ],h=>exact hf τ (by simp) _ _ _ h
 |τ::Gl::l,⟨vs,e,h⟩=>exact⟨vs,e,yR hf h⟩
def xV{f:FuncId}(hf:E0 P f args (.vs Bb))(ha:KS Γ xs args)(hfl:∀τ∈Bb,Flat τ):
  B1 P Γ ⟨d,.call ⟨.value<| .func f,xs.toArray,F4⟩,ty,pos,af,g⟩ (Ip Bb):=by
 intro w0 H0 N a w H hs K Q k;unfold Oper.wp;have e:execOp a.eval ⟨d,.call ⟨.value<| .func f,xs.toArray,F4⟩,ty,pos,af,g⟩=callFunc f (#[]++xs.toArray.map a.eval++ #[]):=rfl;rw[e,Ow hf.can,W7];have e2:(#[]++xs.toArray.map a.eval++ #[])=(xs.map a.eval).toArray:=by simp
 rw[e2];refine(hf.run w (full w) _ (λ_ _ h=>h) (hs.gl.mono hs.sub)<|ha.ok hs).mono ?_;rintro e w' ⟨v,rfl,hb,H',h1,h2,h3⟩;have he:Ext w H w' H:=⟨hb,HV.le.refl _,λ_ _=>rfl,λr o h=>by rw[hb.block r<|HH hs.sub h];exact hs.sub r o h⟩;exact k v w' H he (VQ<|ah0 hfl h3)<|λb e=>absurd e<|AN.free_spec VX
def flc{l:A3 Ty}(h:Flat τ)(r:∀x∈l,Flat x):∀x∈τ::l,Flat x:=λx hx=>by
 rcases Ai.1 hx with e|hx
 ·rw[e];exact h
 ·exact r x hx
def fln:∀x∈([]:A3 Ty),Flat x:=λx hx=>by cases hx
end
section
variable[D:DR]
variable{P:Program}{w0:Ae P}{H0:HV}{N:Nat}{Q:Exit->Act->World->Prop}{Γ Al:Ctx}
def agf{w0:Ae P}(hr:w0.rd=none):Fk w0.rd=Fence.wide:=by rw[hr];rfl
def anK{c:Code}(hr:w0.rd=none)(h:Goal P w0 H0 N c (Exit.noGoto Q) Γ):Goal P w0 H0 N (.scope c) Q Γ:=λa w H hs=>by
 have:=h a w H hs;rw[agf hr] at this⊢;exact wpIn_wide.2<|wp_scope_straight<|wpIn_wide.1 this
def anM{l:Nat}(k:ES w0 H0 N (Q .normal) Γ):Goal P w0 H0 N (.label l) Q Γ:=λa w H hs=>wpIn_label<|k a w H hs
end
section
variable[D:DR]
variable{P:Program}{N:Nat}{ops:Array Oper}{Γ Al:Ctx}{d:Option Tmp}{ty:TypeId}{pos:String}{af:Array Edge}{g:Option (Nat×Bool)}
variable{α β:Type}{A:α->A3 Ty}{R:β->A3 Ty}
def JL(P:C7){α β:Type}(A:α->A3 Ty)(R:β->A3 Ty)(g:α->A9 β):Ty where
 n:=1
 agg:=false
 ok:=λH v=>∃f cap FA,v= .func (.func f) #[] cap/\Ee H FA cap.toList/\∀a r,g a=some r-> @E0 DR.strict P f (A a++FA) (.vs<|R r)
 mono:=λh ⟨f,cap,FA,e,k,hf⟩=>⟨f,cap,FA,e,Yk h k,hf⟩
 shape:=λ⟨_,_,_,e,_,_⟩=>by subst e;exact Shape.one rfl
def YP{H:HV}:∀{l:A3 Ty} {vs:A3 AR} {l':A3 Ty} {vs':A3 AR},Ee H l vs->Ee H l' vs'->Ee H (l++l') (vs++vs')
 |[],_,_,_,e,h=>by subst e;exact h
 |_::_,_,_,_,⟨v,rest,e,hv,hr⟩,h=>by subst e;exact⟨v,_,rfl,hv,YP hr h⟩
def Vh{fn:α->A9 β}{t:Nat}{xs:A3 CB}{F4:B6 Ah}{x:α}{r:β}(hf:look Γ t=some (.val<|JL P A R fn))(h:fn x=some r)(ha:AO Γ xs (A x)):
  B1 P Γ ⟨d,.call ⟨.value<| .tmp t,xs.toArray,F4⟩,ty,pos,af,g⟩ (Ip<|R r):=by
 intro w0 H0 N a w H hs K Q k;obtain⟨f,cap,FA,e,hc,IX⟩:=hs.holds _<|B5 hf
 have hf:=(IX x r h).arh (D:=D);unfold Oper.wp;have e1:a.eval (.tmp t)= .func (.func f) #[] cap:=e;have e0:execOp a.eval ⟨d,.call ⟨.value<| .tmp t,xs.toArray,F4⟩,ty,pos,af,g⟩=callFunc f (#[]++xs.toArray.map a.eval++cap):=by
  simp only[execOp,resolve,e1,Deferred.ofValue,pure_bind]
  rfl
 rw[e0,Ow hf.can,W7];have e2:(#[]++xs.toArray.map a.eval++cap)=(xs.map a.eval++cap.toList).toArray:=by simp
 rw[e2];refine(hf.run w H _ hs.sub hs.gl<|YP (ha.ok hs) hc).mono ?_;rintro e w' ⟨v,rfl,hb,H',h1,h2,h3⟩;have he:Ext w H w' H':=⟨hb,λr o h=>by rw[h1 r<|HH hs.sub h];exact h,h1,h2⟩;exact k v w' H' he (VQ h3)<|λb e=>absurd e<|AN.free_spec VX
def dh{fn:α->A9 β}{f:FuncId}{xs:A3 CB}{FA:A3 Ty}(ha:AO Γ xs FA)(h:∀a r,fn a=some r-> @E0 DR.strict P f (A a++FA) (.vs<|R r)):
  B1 P Γ ⟨d,.makeFunc (.func f) #[] xs.toArray,ty,pos,af,g⟩ (.val<|JL P A R fn):=
 Di λ_ _ _ a w H hs=>by
  refine⟨.func (.func f) #[] (xs.map a.eval).toArray,?_,⟨f,_,FA,rfl,by simpa using ha.ok hs,h⟩,rfl⟩;simp[execOp,Instr.makeFunc]
def Arg.fn{α β:Type}{A:α->A3 Ty}{R:β->A3 Ty}{fn:α->A9 β}{f:FuncId}(h:∀a r,fn a=some r-> @E0 DR.strict P f (A a) (.vs<|R r)):Arg Γ (.func f) (JL P A R fn):=
 ⟨λ_=>⟨f,#[],[],rfl,rfl,λa r e=>by simpa using h a r e⟩⟩
structure anj(P:C7)(f:FuncId)(E:Ah)(sz:Nat)(bl:A3 Ty)(args:A3 Ty)(Bb:A3 Ty):Prop where
 can:GL P f=true
 run:∀(w:AQ) (H:HV) (v:AR) (xs:A3 AR) (vs:A3 AR),(∀r o,H r=some o->w.heap[r]? =some o)->KP P H->w.ownsRow 0 E sz v bl.length xs->DJ H bl xs->(∀b,v.ownBlock=some b->H b=none)->Ee H args vs->
  Calls P f (v::vs).toArray w λe w'=>∃r,e= .returned r/\Ef w w' v.ownBlock/\∃H',HV.le H H'/\(∀b,b<w.heap.size->v.ownBlock≠some b->H' b=H b)/\(∀b o,H' b=some o->w'.heap[b]? =some o)/\KR H' Bb r
def ajn{w0:Ae P}{H0:HV}{a:Act}{w w':AQ}{H H':HV}{row:A9 Nat}(hs:Sat w0 H0 N Γ a w H)(hg:Ef w w' row)(He:∀b,row=some b->w0.EI b/\H b=none/\∀l,w.heap[b]? ≠some (.deferred l))(hle:HV.le H H')(hold:∀b,b<w.heap.size->row≠some b->H' b=H b)(BE:∀b o,H' b=some o->w'.heap[b]? =some o)
  (hn:∀p∈Al,p∈Γ/\∀b,p.2.owns w (Ab a p.1) b->row≠some b):Sat w0 H0 N Al a w' H':=by
 have E6:∀b,b<w.heap.size->row≠some b->w'.heap[b]? =w.heap[b]? /\H' b=H b:=λb hb hn=>⟨hg.block b hb<|λe=>hn e.symm,hold b hb hn⟩
 refine Ve (ds:=a.defers) hs (hs.below.LA hg<|λk hk=>(He k hk).1) hg.drawn ?_ hg.size hle BE ?_ ?_ ?_
 ·intro _ r hr hx;exact hold r (J8 hr hs.below.size) (λe=>by
   rcases(He r e).1 with h|h
   ·omega
   ·exact hx h)
 ·intro _ b hb Fp;exact E6 b hb (λe=>by have:=Ae.QC (He b e).1;omega)
 ·intro p hp;exact⟨(hn p hp).1,λb hb=>E6 b (AN.J5 (hs.holds p (hn p hp).1) hb).1<|(hn p hp).2 b hb⟩
 ·exact hs.nd.kept λD _ h1 h2=>by
   have:=E6 D (lt_of_heap h1)<|λe=>(He D e).2.2 _ h1
   exact⟨by rw[this.1];exact h1,by rw[this.2];exact h2⟩
end
section
variable[D:DR]
def IW{α σ ρ:Type}:A3 α->((σ->A9 ρ)->α->σ->A9 ρ)->σ->(σ->A9 ρ)->A9 ρ
 |[],_,s,K=>K s
 |x::xs,B,s,K=>B (λs=>IW xs B s K) x s
structure Qn(M:Nat->Prop)(w:AQ)(H:HV)(w':AQ)(H':HV):Prop where
 size:w.heap.size<=w'.heap.size
 os:w'.os=w.os
 tape:w'.tape=w.tape
 output:w'.output=w.output
 drawn:Gu w w'
 le:HV.le H H'
 E6:∀b,b<w.heap.size-> ¬M b->w'.heap[b]? =w.heap[b]? /\H' b=H b
 sub:∀r o,H' r=some o->w'.heap[r]? =some o
def Zb{α σ ρ:Type}(P:C7)(l:Nat)(enc:α->A3 Ty)(Bd:(σ->A9 ρ)->α->σ->A9 ρ)(r:ρ)(J:σ->Inv->Prop)(Jx:Inv->Prop)(n0:Nat):Prop:=
 ∀(next:σ->A9 ρ) (x:α) (s:σ) (I:Inv) (W:AQ) (H:HV) (vs:A3 AR),Bd next x s=some r->J s I->I.n=n0->I.p W H->(∀r o,H r=some o->W.heap[r]? =some o)->KP P H->Ee H (enc x) vs->
  YieldAt (Fk none) 0 P l vs.toArray W λe W'=>∃H' I',I'.n=n0/\I'.p W' H'/\Qn I.M W H W' H'/\(∀b,I'.M b->I.M b\/W.heap.size<=b)/\
   ((e= .returned (.bool true)/\∃s',next s'=some r/\J s' I')\/(e= .returned (.bool false)/\Jx I'))
def Yq(P:C7)(gf:FuncId)(FA:A3 Ty){α:Type}(enc:α->A3 Ty)(L:A3 α):Prop:=
 GL P gf=true/\∀{σ ρ:Type} (Bd:(σ->A9 ρ)->α->σ->A9 ρ) (K:σ->A9 ρ) (s0:σ) (r:ρ),IW L Bd s0 K=some r->
  ∀(l:Nat) (J:σ->Inv->Prop) (Jx:Inv->Prop) (w:AQ) (H:HV) (cvs:A3 AR) (I0:Inv),(∀r o,H r=some o->w.heap[r]? =some o)->KP P H->Ee H FA cvs->J s0 I0->I0.n=w.heap.size->I0.p w H->
   Zb P l enc Bd r J Jx w.heap.size->
   Calls P gf (.func (.yield l) #[] #[]::cvs).toArray w λe w'=>(∃v,e= .returned v)/\∃H' I',I'.p w' H'/\(∀r o,H' r=some o->w'.heap[r]? =some o)/\((∃s,K s=some r/\J s I')\/Jx I')
def Ug(P:C7){α:Type}(enc:α->A3 Ty)(o:A9 (A3 α)):Ty where
 n:=1
 agg:=false
 ok:=λH v=>∃gf cap FA,v= .func (.func gf) #[] cap/\Ee H FA cap.toList/\∀L,o=some L->Yq P gf FA enc L
 mono:=λh ⟨gf,cap,FA,e,k,s⟩=>⟨gf,cap,FA,e,Yk h k,s⟩
 shape:=λ⟨_,_,_,e,_⟩=>by subst e;exact Shape.one rfl
end
section
variable[D:DR]
variable{P:Program}{w0:Ae P}{H0:HV}{N:Nat}{Q:Exit->Act->World->Prop}{Γ Al:Ctx}
variable{w:AQ}{H:HV}{T:A3 Nat}{l:Nat}{rc:Loop}{σ ρ:Type}{r:ρ}{ts:A3 Nat}{a:Act}
def Zo(N:Nat)(T:A3 Nat)(Γ:Ctx):Bool:=Γ.all λp=>Nat.blt p.1 N&&T.contains p.1&&p.2.By.all (λt=>T.contains t)&& !p.2.F2
theorem P0{N:Nat}{Γ:Ctx}(h:Zo N T Γ=true){p:Nat×AN}(hp:p∈Γ):p.1<N/\p.1∈T/\(∀t∈p.2.By,t∈T)/\p.2.F2=false:=by(simp_all [Zo,AN.By,AN.F2]<;>grind)
def pins(N:Nat)(T:A3 Nat)(pv:Nat->AR):Ctx:=T.map λt=>(N+1+t,.K8 t<|pv t)
def params:A3 Nat->A3 Ty->Ctx
 |p::ps,τ::τs=>(p,.val τ)::params ps τs
 |_,_=>[]
def busy(rc:Loop):Loop:={rc with state:= .busy}
def rZ(wr:Ae P)(Hr:HV)(N l:Nat)(rc:Loop)(T:A3 Nat)(pv:Nat->AR){σ ρ:Type}(Ag:σ->Ctx)(K6:A9 Ctx)(next:σ->A9 ρ)(r:ρ):Exit->Act->AQ->Prop
 | .normal,a,w=>∃s',next s'=some r/\∃H,Sat wr Hr N ((N,.Dw l<|busy rc)::(pins N T pv++Ag s')) a w H
 | .ret,a,w=>∃G,K6=some G/\∃H,Sat wr Hr N ((N,.Dw l<|busy rc)::(pins N T pv++G)) a w H
 |_,_,_=>False
def aaQ(wr:Ae P)(Hr:HV)(N l:Nat)(rc:Loop)(T:A3 Nat)(pv:Nat->AR){σ ρ:Type}(body:Code)(Ag:σ->Ctx)(K6:A9 Ctx)(next:σ->A9 ρ)(r:ρ):Exit->Act->AQ->Prop
 | .normal,a,w=>∃Γa H,Sat wr Hr N ((N,.Dw l rc)::Γa) a w H/\BF N Γa=Γa/\Goal P wr Hr N body (rZ wr Hr N l rc T pv Ag K6 next r) ((N,.Dw l<|busy rc)::Γa)
 |_,_,_=>False
def rV{wr:Ae P}{Hr:HV}{pv:Nat->AR}{body:Code}{Ag:σ->Ctx}{K6:A9 Ctx}{next:σ->A9 ρ}{Γa:Ctx}
 (h:E7 Γ ts ((N,.Dw l rc)::Γa))(hf:BF N Γa=Γa)(g:Goal P wr Hr N body (rZ wr Hr N l rc T pv Ag K6 next r) ((N,.Dw l<|busy rc)::Γa)):
  ES wr Hr N (aaQ wr Hr N l rc T pv body Ag K6 next r .normal) Γ:=λ_ _ H hs=>⟨Γa,H,hs.weaken h.sub,hf,g⟩
def iK{wr:Ae P}{Hr:HV}{pv:Nat->AR}{Ag:σ->Ctx}{K6:A9 Ctx}{next:σ->A9 ρ}{s':σ}(hm:next s'=some r)
 (h:E7 Γ ts ((N,.Dw l<|busy rc)::(pins N T pv++Ag s'))):ES wr Hr N (rZ wr Hr N l rc T pv Ag K6 next r .normal) Γ:=λ_ _ H hs=>⟨s',hm,H,hs.weaken h.sub⟩
def Ef.putObj(w:AQ)(l:Nat)(o:Obj):Ef w (w.putObj l o) (some l):=⟨⟨rfl,rfl,rfl,by simp,λj _ hj=>ZV (λe=>hj (by rw[e]))⟩,BM _⟩
def Yu{k:Nat}{rc':Loop}(hs:Sat w0 H0 N Γ a w H)(hk:(k,.Dw l rc)∈Γ):Sat w0 H0 N ((k,.Dw l rc')::BF k Γ) a (w.putObj l<| .loop rc') H:=by
 obtain⟨h1,h2,h3⟩:=hs.holds _ hk;exact Ov hs hk (Ef.putObj w l _) h3 rfl ⟨qK<|lt_of_heap h1,h2,h3⟩ λc hc=> .inl hc
def Sat.anh(hs:Sat w0 H0 N Γ a w H):∀{G:Ctx},(∀p∈G,p.2.free=true/\p.2.holds w0 a w H (Ab a p.1))->Sat w0 H0 N (G++Γ) a w H:=λ{G} h=>by
 refine⟨hs.nd,hs.sz,hs.below,hs.GK,hs.sub,?_,?_,hs.gl⟩
 ·intro p hp;rcases Cp.1 hp with hp|hp
  ·exact(h p hp).2
  ·exact hs.holds p hp
 ·intro p hp q hq hne b hb BD;rcases Cp.1 hp with hp|hp
  ·exact AN.free_spec (h p hp).1 hb
  ·rcases Cp.1 hq with hq|hq
   ·exact AN.free_spec (h q hq).1 BD
   ·exact hs.sep p hp q hq hne b hb BD
def wB{w:AQ}{H:HV}:∀{ps:A3 Nat} {τs:A3 Ty} {vs:A3 AR} {Γ:Ctx} {a:Act},Ee H τs vs->ps.length=τs.length->(∀p∈ps,p<N/\JT p Γ=true)->ps.Nodup->Sat w0 H0 N Γ a w H->
  ∃G,(∀q∈params ps τs++Γ,q∈G)/\Sat w0 H0 N G {tmps:=(ps.zip vs).foldl (λt (p,v)=>t.setIfInBounds p v) a.tmps,defers:=a.defers} w H
 |[],[],vs,Γ,a,ho,_,_,_,hs=>by
  have:vs=[]:=ho;subst this;exact⟨Γ,λq hq=>hq,hs⟩
 |[],_::_,_,_,_,_,hl,_,_,_=>by simp at hl
 |_::_,[],_,_,_,_,hl,_,_,_=>by simp at hl
 |p::ps,τ::τs,_,Γ,a,⟨v,rest,e,hv,hr⟩,hl,hp,hn,hs=>by
  subst e;obtain⟨hn1,IY⟩:=W5.1 hn;have h1:=Q7 hs (hp p (by simp)).1 (hp p (by simp)).2 (s:= .val τ) (v:=v) (by simp[AN.By]) hv<|λb h=>h.elim
  obtain⟨G,hG,hS⟩:=wB (ps:=ps) (τs:=τs) (vs:=rest) (Γ:=(p,.val τ)::Γ) hr (by simpa using hl) (λq hq=>⟨(hp q (by simp[hq])).1,by
   have:=(hp q (by simp[hq])).2;simp only[JT,OI,Bx] at this⊢;refine⟨⟨?_,by simp[AN.By]⟩,this⟩;simp only[M8,ne_eq];exact λe=>hn1<|e▸hq⟩) IY h1
  refine⟨G,λq hq=>hG q ?_,hS⟩;simp only[params,QL,Ai,Cp] at hq⊢;rcases hq with h|h|h
  ·exact .inr<| .inl h
  ·exact .inl h
  ·exact .inr<| .inr h
def Marks.tail{B:Ae P}{w:AQ}{H:HV}:∀{l m:A3 Deferred},Marks B w H (l++m)->Marks B w H m
 |[],_,h=>h
 |_::_,_,h=>Marks.tail h.2
def Marks.both{B B':Ae P}{w w':AQ}{H H':HV}:∀{l:A3 Deferred},Marks B w H l->Marks B' w' H' l->Marks B w' H' l
 |[],_,_=>trivial
 |_::_,⟨⟨D,e,h1,_,_,h4⟩,hr⟩,⟨⟨D',e',_,g2,g3,_⟩,gr⟩=>by
  rw[e] at e';cases e';exact⟨⟨D,e,h1,g2,g3,h4⟩,hr.both gr⟩
def ja(w0:Ae P)(H0:HV)(N:Nat)(Γ:Ctx)(a:Act)(n1:Nat)(M:Nat->Prop)(ET:∀p∈Γ,p.2.F2=false)(hn:w0.n<=n1)(hD:∀D,({target:= .collected D,args:= #[]}:Deferred)∈a.defers++w0.ds->D<n1):Inv where
 n:=n1
 M:=M
 p:=λW H=>Sat w0 H0 N Γ a W H/\∀b,M b↔∃p∈Γ,p.2.owns W (Ab a p.1) b
 lt:=λ⟨hS,hM⟩ hb=>by
  obtain⟨p,hp,hb⟩:=(hM _).1 hb;exact AN.J5 (hS.holds p hp) hb
 step:=λ{w w' H H'} ⟨hS,hM⟩ F=>by
  have hk:∀p∈Γ,∀b,p.2.owns w (Ab a p.1) b->w'.heap[b]? =w.heap[b]? /\H' b=H b:=λp hp b hb=>by
   have h1:=(AN.J5 (hS.holds p hp) hb).1;have h2:M b:=(hM b).2 ⟨p,hp,hb⟩;exact⟨F.E6 b h1<| .inr h2,F.view b h1<| .inr h2⟩
  refine⟨Ve (ds:=a.defers) hS ?_ F.drawn ?_ F.size F.le F.sub ?_ (λp hp=>⟨hp,hk p hp⟩) ?_,λb=>?_⟩
  ·exact⟨F.os.trans hS.below.os,F.tape.trans hS.below.tape,F.output.trans hS.below.output,Ca hS.below.drawn F.drawn,Ca hS.below.size F.size,
    λhv k hk hx=>(F.E6 k (J8 hk hS.below.size)<| .inl<|J8 hk hn).trans<|hS.below.block hv k hk hx⟩
  ·exact λ_ r hr _=>F.view r (J8 hr hS.below.size)<| .inl<|J8 hr hn
  ·rintro⟨p,hp,hi⟩;rw[ET p hp] at hi;cases hi
  ·exact hS.nd.kept λD hm h1 h2=>⟨by rw[F.E6 D (lt_of_heap h1)<| .inl<|hD D hm];exact h1,by rw[F.view D (lt_of_heap h1)<| .inl<|hD D hm];exact h2⟩
  ·rw[hM b];have key:∀p∈Γ,∀b,p.2.owns w' (Ab a p.1) b↔p.2.owns w (Ab a p.1) b:=λp hp b=>by
    refine(AN.VT (n:=0) (w':=w') (H':=H') (hS.holds p hp) (λhi=>by rw[ET p hp] at hi;cases hi) ?_).2 b;exact⟨F.size,F.os,F.tape,F.output,F.drawn,F.le,λb _ h=>h.elim (λh=>by omega)<|λh=>(hk p hp b h).1,λb _ h=>h.elim (λh=>by omega)<|λh=>(hk p hp b h).2,F.sub⟩
   exact⟨λ⟨p,hp,h⟩=>⟨p,hp,(key p hp b).2 h⟩,λ⟨p,hp,h⟩=>⟨p,hp,(key p hp b).1 h⟩⟩
def qW{k:Nat}:∀{Γ:Ctx},(∀p∈Γ,p.1≠k)->BF k Γ=Γ
 |[],_=>rfl
 |p::Γ,h=>by
  have h1:Nat.beq p.1 k=false:=by
   cases hb:Nat.beq p.1 k
   ·rfl
   ·exact absurd (EG hb) (h p (by simp))
  simp only[BF,h1,B8];rw[qW λq hq=>h q (by simp[hq])]
def Sat.defs{ds:A3 Deferred}(hs:Sat w0 H0 N Γ a w H)(hm:Marks w0 w H (ds++w0.ds)):Sat w0 H0 N Γ {a with defers:=ds} w H:=
 Ve (ds:=ds) hs hs.below (BM _) (λ_ _ _ _=>rfl) (BM _) (HV.le.refl _) hs.sub (λ_ _ _ _=>⟨rfl,rfl⟩) (λp hp=>⟨hp,λ_ _=>⟨rfl,rfl⟩⟩) hm
def yF{a3 aD:Act}{W W4:AQ}{Hc H3:HV}{M:Nat->Prop}{G G':Ctx}(hS:Sat w0 H0 N G aD W Hc)(hds:w0.ds=[])(hrd:w0.rd=none)
 (hM:∀b,M b->w0.EI b/\Hc b=none)(wr:Ae P)(hwr:wr=⟨W,M,some l,false,aD.defers,0,FM _,λ_ _=>FM _⟩)
 (I3:Sat wr Hc N ((N,.Dw l rc)::(pins N T (λt=>Ab aD t)++G')) a3 W4 H3)(hT:Zo N T G'=true):
  Sat w0 H0 N ((N,.Dw l rc)::G') aD W4 H3/\Qn M W Hc W4 H3/\∀p∈(N,AN.Dw l rc)::G',∀b,p.2.owns W4 (Ab aD p.1) b->M b\/W.heap.size<=b:=by
 have hwn:wr.n=W.heap.size:=by rw[hwr];rfl
 have hwX:wr.X=M:=by rw[hwr]
 have hwv:wr.Iv=false:=by rw[hwr]
 have asw:wr.ds=aD.defers:=by rw[hwr]
 have hww:wr.w=W:=by rw[hwr]
 have K8:∀t∈T,Ab a3 t=Ab aD t:=λt ht=>I3.holds (N+1+t,.K8 t<|Ab aD t)<|Bq _<|Mn _<|Bv.2 ⟨t,ht,rfl⟩
 have mem:∀p∈(N,AN.Dw l rc)::G',p∈(N,AN.Dw l rc)::(pins N T (λt=>Ab aD t)++G'):=λp hp=>by
  rcases Ai.1 hp with e|hp
  ·subst e;simp
  ·exact Bq _<|ZR _ hp
 have EI:∀b,wr.EI b->w0.EI b:=λb hb=>by
  rcases hb with hb|hb
  ·exact .inl<|Ca hS.below.size<|hwn▸hb
  ·exact(hM b<|hwX▸hb).1
 have hle:HV.le Hc H3:=λr o h=>by
  have hlt:=HH hS.sub h;rw[I3.GK hwv r (by rw[hwn];exact hlt) (λhx=>by have:=(hM r<|hwX▸hx).2;rw[this] at h;cases h)];exact h
 have E6:∀b,b<W.heap.size-> ¬M b->W4.heap[b]? =W.heap[b]? /\H3 b=Hc b:=λb hb hn=>by
  have h1:=I3.below.block hwv b (by rw[hwn];exact hb) (by rw[hwX];exact hn);rw[hww] at h1;exact⟨h1,I3.GK hwv b (by rw[hwn];exact hb) (by rw[hwX];exact hn)⟩
 have hsz:W.heap.size<=W4.heap.size:=by have:=I3.below.size;rw[hwn] at this;exact this
 have hos:W4.os=W.os:=by have:=I3.below.os;rw[hww] at this;exact this
 have hta:W4.tape=W.tape:=by have:=I3.below.tape;rw[hww] at this;exact this
 have hou:W4.output=W.output:=by have:=I3.below.output;rw[hww] at this;exact this
 have hdr:Gu W W4:=by have:=I3.below.drawn;rw[hww] at this;exact this
 have low:∀k,k<w0.n-> ¬w0.X k-> ¬M k:=λk hk hx hm=>by
  rcases(hM k hm).1 with h|h
  ·omega
  ·exact hx h
 have rr:∀p∈(N,AN.Dw l rc)::G',∀b,p.2.owns W4 (Ab aD p.1) b↔p.2.owns W4 (Ab a3 p.1) b:=λp hp b=>by
  rcases Ai.1 hp with e|hp
  ·subst e;exact Iff.rfl
  ·rw[K8 _ (P0 hT hp).2.1]
 refine⟨⟨?_,hS.sz,?_,?_,I3.sub,?_,?_,I3.gl⟩,⟨hsz,hos,hta,hou,hdr,hle,E6,I3.sub⟩,?_⟩
 ·have h1:=I3.nd.tail;rw[asw] at h1;have h2:=hS.nd;rw[hds,J6] at h2⊢;exact h2.both h1
 ·exact⟨hos.trans hS.below.os,hta.trans hS.below.tape,hou.trans hS.below.output,Ca hS.below.drawn hdr,Ca hS.below.size hsz,
   λhv k hk hx=>(E6 k (J8 hk hS.below.size)<|low k hk hx).1.trans<|hS.below.block hv k hk hx⟩
 ·exact λhv r hr hx=>(E6 r (J8 hr hS.below.size)<|low r hr hx).2.trans<|hS.GK hv r hr hx
 ·intro p hp;have h1:=I3.holds p<|mem p hp
  have hi:p.2.F2=false:=by
   rcases Ai.1 hp with e|hp
   ·subst e;rfl
   ·exact(P0 hT hp).2.2.2
  have h2:=AN.RU (B':=w0) hi h1 λb hb=>EI b<|AN.P7 hi h1 hb
  rcases Ai.1 hp with e|hp
  ·subst e;exact h2
  ·obtain⟨_,hk,hl,_⟩:=P0 hT hp;rw[<-K8 _ hk];exact AN.P5 (λt ht=>(K8 t<|hl t ht).symm) h2
 ·intro p hp q hq hne b hb BD;exact I3.sep p (mem p hp) q (mem q hq) hne b ((rr p hp b).1 hb)<|(rr q hq b).1 BD
 ·intro p hp b hb;have h1:=I3.holds p<|mem p hp
  have hi:p.2.F2=false:=by
   rcases Ai.1 hp with e|hp
   ·subst e;rfl
   ·exact(P0 hT hp).2.2.2
  rcases AN.P7 hi h1 ((rr p hp b).1 hb) with h|h
  ·exact .inr<|hwn▸h
  ·exact .inl<|hwX▸h
def qQ{α:Type}{gt:Tmp}{psl:A3 Tmp}{assign body:Code}{enc:α->A3 Ty}{L:A3 α}{o:A9 (A3 α)}(T:A3 Nat)(Ag:σ->Ctx)(K6:A9 Ctx)
 {Bd:(σ->A9 ρ)->α->σ->A9 ρ}{K:σ->A9 ρ}{s0:σ}
 (hm:IW L Bd s0 K=some r)(ho:o=some L)(hrd:w0.rd=none)(hds:w0.ds=[])(hg:look Γ gt=some (.val<|Ug P enc o))(h0:E7 Γ ts (Ag s0))
 (hT:∀s,Zo N T (Ag s)=true)(hTx:∀G,K6=some G->Zo N T G=true)(hps:∀x,(enc x).length=psl.length)(hpN:(psl.all λp=>Nat.blt p N&& !T.contains p)=true)(KC:psl.Nodup)
 (round:∀(wr:Ae P) (Hr:HV) (l:Nat) (rc:Loop) (pv:Nat->AR) (next:σ->A9 ρ) (x:α) (s:σ),wr.rd=some l->Bd next x s=some r->
 Goal P wr Hr N assign (aaQ wr Hr N l rc T pv body Ag K6 next r) (params psl (enc x)++((N,.Dw l rc)::(pins N T pv++Ag s))))
 (kk:∀s,K s=some r->ES w0 H0 N (Q .normal) (Ag s))(kx:∀G,K6=some G->ES w0 H0 N (Q .ret) G):Goal P w0 H0 N (.rangeFunc (.tmp gt) psl.toArray assign body) Q Γ:=by
 intro a w H hs;have hinv:∀s,∀p∈Ag s,p.2.F2=false:=λs p hp=>(P0 (hT s) hp).2.2.2
 have abi:∀s,∀p∈Ag s,p.1≠N:=λs p hp=>Nat.ne_of_lt (P0 (hT s) hp).1
 rw[hrd];refine wpIn_rangeFunc ?_;intro fn _;obtain⟨gf,cap,FA,eg,hcap,Wp⟩:=hs.holds _<|B5 hg
 obtain⟨UZ,aqr⟩:=Wp L ho;simp only at eg;obtain⟨E9,Qu⟩:∃E9:Loop,E9={state:= .ready,pending:=none,fn,tmps:=a.tmps,params:=psl.toArray,assign,body,defers:=w.heap.size}:=⟨_,rfl⟩;obtain⟨W1,hW1⟩:∃W1,(w.alloc<| .deferred<|some []).alloc (.loop E9)=W1:=⟨_,rfl⟩;obtain⟨aD,haD⟩:∃aD:Act,{a with defers:={target:= .collected w.heap.size,args:= #[]}::a.defers}=aD:=⟨_,rfl⟩;have avC:W1.heap.size=w.heap.size+2:=by rw[<-hW1];simp
 have hL1:W1.heap[w.heap.size+1]? =some (.loop E9):=by
  rw[<-hW1];have:=World.alloc_heap_new (w.alloc<| .deferred<|some []) (.loop E9);rwa [World.size_alloc] at this
 have hK1:W1.heap[w.heap.size]? =some (.deferred<|some []):=by
  rw[<-hW1];exact(Below.heap_alloc _ _ _ (by simp)).trans<|World.alloc_heap_new w _
 have hHn:∀b,w.heap.size<=b->H b=none:=λb hb=>by
  cases hh:H b with
  |none=>rfl
  |some o=>have:=HH hs.sub hh;omega
 have he:Ext w H W1 H:=by
  have e1:=Ext.alloc hs.sub (w:=w)<| .deferred<|some []
  have e2:=Ext.alloc e1.sub (w:=w.alloc<| .deferred<|some [])<| .loop E9
  rw[hW1] at e2;refine⟨⟨?_,Ca e1.below.drawn e2.below.drawn⟩,HV.le.refl _,λ_ _=>rfl,e2.sub⟩;have h1:=e1.below.toBelow;have h2:=e2.below.toBelow;exact h1.trans (h2.mono (by simp))
 have hsD:Sat w0 H0 N ((N,.Dw (w.heap.size+1) E9)::Ag s0) aD W1 H:=by
  have hs1:=fJ (hs.weaken h0.sub) he;have hmk:Marks w0 W1 H (aD.defers++w0.ds):=by
   rw[<-haD];refine⟨⟨w.heap.size,rfl,λ_=>hs.below.size,hK1,hHn _<|BM _,?_⟩,hs1.nd⟩;intro e he1 he2;have:∀{l:A3 Deferred},Marks w0 w H l->e∈l->False:=by
    intro l
    induction l with
    |nil=>intro _ h;cases h
    |cons x l ih=>
     rintro⟨⟨D,ex,_,g2,_,_⟩,gr⟩ h;rcases Ai.1 h with h|h
     ·subst h;rw[ex] at he2;have hD:D=w.heap.size:=by injection he2 with h _;injection h
      subst hD;have:=lt_of_heap g2;omega
     ·exact ih gr h
   exact this hs.nd he1
  have KB:Sat w0 H0 N (Ag s0) aD W1 H:=by rw[<-haD] at hmk⊢;exact hs1.defs hmk
  refine⟨KB.nd,KB.sz,KB.below,KB.GK,KB.sub,?_,?_,KB.gl⟩
  ·intro p hp;rcases Ai.1 hp with e|hp
   ·subst e;exact⟨hL1,hHn _ (by omega),.inl (Ca hs.below.size (by omega))⟩
   ·exact KB.holds p hp
  ·have key:∀q∈Ag s0,¬q.2.owns W1 (Ab aD q.1) (w.heap.size+1):=λq hq hb=>by
    have BD:q.2.owns W1 (Ab a q.1) (w.heap.size+1):=by rw[<-haD] at hb;exact hb
    have:=(AN.J5 ((hs.weaken h0.sub).holds q hq)<|(AN.fO he ((hs.weaken h0.sub).holds q hq) _).1 BD).1;omega
   intro p hp q hq hne b hb BD;rcases Ai.1 hp with e|hp<;>rcases Ai.1 hq with e'|hq
   ·subst e;subst e';exact hne rfl
   ·subst e;cases hb;exact key q hq BD
   ·subst e';cases BD;exact key p hp hb
   ·exact KB.sep p hp q hq hne b hb BD
 have hDl:∀D,({target:= .collected D,args:= #[]}:Deferred)∈aD.defers++w0.ds->D<W1.heap.size:=by
  intro D hD;have:∀{l:A3 Deferred},Marks w0 W1 H l->({target:= .collected D,args:= #[]}:Deferred)∈l->D<W1.heap.size:=by
   intro l
   induction l with
   |nil=>intro _ h;cases h
   |cons x l ih=>
    rintro⟨⟨D',ex,_,g2,_,_⟩,gr⟩ h;rcases Ai.1 h with h|h
    ·rw[ex] at h;have hD:D=D':=by injection h with h _;injection h
     subst hD;exact lt_of_heap g2
    ·exact ih gr h
  exact this hsD.nd hD
 have hn1:w0.n<=W1.heap.size:=by have:=hs.below.size;omega
 have je:∀s,∀p∈(N,AN.Dw (w.heap.size+1) E9)::Ag s,p.2.F2=false:=λs p hp=>by
  rcases Ai.1 hp with e|hp
  ·subst e;rfl
  ·exact hinv s p hp
 have ae:∃rcx:Loop,rcx={E9 with state:= .done,pending:=some .ret}:=⟨_,rfl⟩;obtain⟨rcx,ae⟩:=ae;have acJ:∀G,K6=some G->∀p∈(N,AN.Dw (w.heap.size+1) rcx)::G,p.2.F2=false:=λG hG p hp=>by
  rcases Ai.1 hp with e|hp
  ·subst e;rfl
  ·exact(P0 (hTx G hG) hp).2.2.2
 let J:σ->Inv->Prop:=λs I=>∃M,I=ja w0 H0 N ((N,.Dw (w.heap.size+1) E9)::Ag s) aD W1.heap.size M (je s) hn1 hDl
 let Jx:Inv->Prop:=λI=>∃G,∃hG:K6=some G,∃M,I=ja w0 H0 N ((N,.Dw (w.heap.size+1) rcx)::G) aD W1.heap.size M (acJ G hG) hn1 hDl
 refine⟨w.heap.size+1,[{target:= .collected w.heap.size,args:= #[]}],W1,{target:= .fn (.func gf) cap,args:= #[.func (.yield<|w.heap.size+1) #[] #[]]},W1,gf,#[.func (.yield<|w.heap.size+1) #[] #[]]++cap,W1,?_,?_,?_,?_,(λe=>by cases e),?_⟩
 ·rw[<-hW1,Qu];exact run_enterLoop_outer _ _ _ _ _
 ·have eg':a.eval (.tmp gt)= .func (.func gf) #[] cap:=eg;simp only[resolve,eg'];simp[go_sem]
 ·intro f' _;trivial
 ·have:=Ow UZ (#[.func (.yield<|w.heap.size+1) #[] #[]]++cap) W1;simp only[invoke];exact this
 ·
  have ec:(#[.func (.yield<|w.heap.size+1) #[] #[]]++cap:B6 AR)=(.func (.yield<|w.heap.size+1) #[] #[]::cap.toList).toArray:=by apply Array.ext';simp
  rw[ec];refine CallsIn.abU (abA<|aqr Bd K s0 r hm (w.heap.size+1) J Jx W1 H cap.toList _ hsD.sub hsD.gl (Yk (HV.le.refl _) hcap) ⟨λb=>∃p∈(N,AN.Dw (w.heap.size+1) E9)::Ag s0,p.2.owns W1 (Ab aD p.1) b,rfl⟩ rfl ⟨hsD,λb=>Iff.rfl⟩ ?_) ?_
  ·
   rintro next x s I W Hc vs hBd ⟨M,rfl⟩ _ ⟨hS,hM⟩ BE hgl hvs
   have hM':∀b,M b->w0.EI b/\Hc b=none:=λb hb=>by
    obtain⟨p,hp,hb⟩:=(hM b).1 hb;exact⟨AN.P7 (je s p hp) (hS.holds p hp) hb,(AN.J5 (hS.holds p hp) hb).2.1⟩
   obtain⟨hl1,hl2,hl3⟩:=hS.holds (N,.Dw (w.heap.size+1) E9) (by simp);have hvl:vs.length=psl.length:=by rw[Ro hvs,hps x]
   have hy:=run_yield (P:=P) (args:=vs.toArray) hl1 (by rw[Qu];simpa using hvl);refine⟨E9.fn,_,E9.assign,E9.body,hy,roundIn_of_wpIn trivial ?_⟩;have ea:E9.assign=assign:=by rw[Qu]
   have eb:E9.body=body:=by rw[Qu]
   have et:((E9.params.zip vs.toArray).foldl (λtmps (t,a)=>tmps.setIfInBounds t a) E9.tmps)=((psl.zip vs).foldl (λt (p,v)=>t.setIfInBounds p v) aD.tmps):=by
    rw[Qu,<-haD];simp
   rw[ea,eb,et];obtain⟨wr,hwr⟩:∃wr:Ae P,wr=⟨W,M,some<|w.heap.size+1,false,aD.defers,0,FM _,λ_ _=>FM _⟩:=⟨_,rfl⟩;have sF:wr.rd=some (w.heap.size+1):=by rw[hwr]
   have Kd:Sat wr Hc N ((N,.Dw (w.heap.size+1) E9)::Ag s) {aD with defers:=[]} W Hc:=by
    refine⟨?_,hS.sz,?_,λ_ _ _ _=>rfl,hS.sub,?_,hS.sep,hS.gl⟩
    ·rw[hwr];show Marks _ W Hc ([]++aD.defers);have h2:=hS.nd;rw[hds,J6] at h2;have:∀{l:A3 Deferred},Marks w0 W Hc l->Marks (⟨W,M,some<|w.heap.size+1,false,aD.defers,0,FM _,λ_ _=>FM _⟩:Ae P) W Hc l:=by
      intro l
      induction l with
      |nil=>exact λ_=>trivial
      |cons x l ih=>exact λ⟨⟨D,e,_,g2,g3,g4⟩,gr⟩=>⟨⟨D,e,(λh=>by cases h),g2,g3,g4⟩,ih gr⟩
     exact this h2
    ·rw[hwr];exact⟨rfl,rfl,rfl,BM _,BM _,λ_ _ _ _=>rfl⟩
    ·intro p hp;refine AN.P5 (a:=aD) (λ_ _=>rfl)<|AN.RU (je s p hp) (hS.holds p hp) λb hb=>?_
     rw[hwr];exact .inr<|(hM b).2 ⟨p,hp,hb⟩
   have hr1:Sat wr Hc N (pins N T (λt=>Ab aD t)++((N,.Dw (w.heap.size+1) E9)::Ag s)) {aD with defers:=[]} W Hc:=by
    refine Kd.anh λp hp=>?_
    obtain⟨t,ht,rfl⟩:=Bv.1 hp;exact⟨rfl,rfl⟩
   obtain⟨G,hG,Hj⟩:=wB (ps:=psl) (τs:=enc x) (vs:=vs) hvs (hps x).symm (λp hp=>by
    have h1:=DZ.1 hpN p hp;simp only[Bx,GW] at h1;have hpT:p∉T:=λh=>by have:=U3.2 h;rw[h1.2] at this;cases this
    refine⟨AZ h1.1,DZ.2 λq hq=>?_⟩;have hlt:=AZ h1.1;simp only[Bx,M8,ne_eq,GW];rcases Cp.1 hq with hq|hq
    ·obtain⟨t,ht,rfl⟩:=Bv.1 hq;refine⟨by simp only;omega,?_⟩;simp only[AN.By,List.contains_cons,List.contains_nil,gJ,PN,ne_eq];exact λe=>hpT<|e▸ht
    ·rcases Ai.1 hq with e|hq
     ·subst e;exact⟨by simp only;omega,rfl⟩
     ·obtain⟨_,k2,k3,_⟩:=P0 (hT s) hq;refine⟨λe=>hpT<|e▸k2,?_⟩;cases hc:q.2.By.contains p
      ·rfl
      ·exact absurd (k3 p<|U3.1 hc) hpT) KC hr1
   have hr3:Sat wr Hc N (params psl (enc x)++((N,.Dw (w.heap.size+1) E9)::(pins N T (λt=>Ab aD t)++Ag s))) _ W Hc:=Hj.weaken λq hq=>hG q (by
    simp only[Cp,Ai] at hq⊢;rcases hq with h|h|h|h
    ·exact .inl h
    ·exact .inr<| .inr<| .inl h
    ·exact .inr<| .inl h
    ·exact .inr<| .inr<| .inr h)
   have acT:=round wr Hc (w.heap.size+1) E9 (λt=>Ab aD t) next x s sF hBd _ W Hc hr3
   rw[sF] at acT;refine Vu (F:=Fk<|some<|w.heap.size+1) acT ?_;rintro e a1 W2 hq;cases e with
   |normal=>
    obtain⟨Γa,H2,hS2,hdk,hgo⟩:=hq;have hb0:=hS2.holds (N,.Dw (w.heap.size+1) E9) (by simp);refine⟨_,run_beginRound hb0.1 (by rw[Qu]),?_⟩;have acV:=Yu (l:=w.heap.size+1) (rc:=E9) (rc':=busy E9) hS2 (k:=N) (by simp);have edk:BF N ((N,AN.Dw (w.heap.size+1) E9)::Γa)=Γa:=by
     have:Nat.beq N N=true:=by simp
     simp only[BF,this,Bf];exact hdk
    rw[edk] at acV;have abm:=hgo a1 _ H2 acV;rw[sF] at abm;refine Vu (F:=Fk<|some<|w.heap.size+1) abm ?_;rintro e a3 W3 hq3;cases e with
    |normal=>
     obtain⟨s',H9,H3,hS3⟩:=hq3;have hb3:=hS3.holds (N,.Dw (w.heap.size+1)<|busy E9) (by simp);have I3:=Yu (l:=w.heap.size+1) (rc:=busy E9) (rc':=E9) hS3 (k:=N) (by simp);have sZ:BF N ((N,AN.Dw (w.heap.size+1)<|busy E9)::(pins N T (λt=>Ab aD t)++Ag s'))=pins N T (λt=>Ab aD t)++Ag s':=by
      have:Nat.beq N N=true:=by simp
      simp only[BF,this,Bf];refine qW λp hp=>?_
      rcases Cp.1 hp with hp|hp
      ·obtain⟨t,_,rfl⟩:=Bv.1 hp;simp only;omega
      ·exact abi s' p hp
     rw[sZ] at I3;obtain⟨hB1,hB2,hB3⟩:=yF hS hds hrd hM' wr hwr I3<|hT s'
     have erc:({busy E9 with state:=if(none:A9 Code).isNone then .ready else .done,pending:=none}:Loop)=E9:=by rw[Qu];rfl
     refine⟨_,_,run_endRound none hb3.1,H3,ja w0 H0 N ((N,.Dw (w.heap.size+1) E9)::Ag s') aD W1.heap.size (λb=>∃p∈(N,AN.Dw (w.heap.size+1) E9)::Ag s',p.2.owns (W3.putObj (w.heap.size+1)<| .loop E9) (Ab aD p.1) b) (je s') hn1 hDl,rfl,?_,?_,?_,.inl ⟨rfl,s',H9,_,rfl⟩⟩
     ·rw[erc];exact⟨hB1,λb=>Iff.rfl⟩
     ·rw[erc];exact hB2
     ·rintro b ⟨p,hp,hb⟩;exact hB3 p hp b hb
    |ret=>
     obtain⟨G,hG,H3,hS3⟩:=hq3;have hb3:=hS3.holds (N,.Dw (w.heap.size+1)<|busy E9) (by simp);have I3:=Yu (l:=w.heap.size+1) (rc:=busy E9) (rc':=rcx) hS3 (k:=N) (by simp);have sZ:BF N ((N,AN.Dw (w.heap.size+1)<|busy E9)::(pins N T (λt=>Ab aD t)++G))=pins N T (λt=>Ab aD t)++G:=by
      have:Nat.beq N N=true:=by simp
      simp only[BF,this,Bf];refine qW λp hp=>?_
      rcases Cp.1 hp with hp|hp
      ·obtain⟨t,_,rfl⟩:=Bv.1 hp;simp only;omega
      ·exact Nat.ne_of_lt (P0 (hTx G hG) hp).1
     rw[sZ] at I3;obtain⟨hB1,hB2,hB3⟩:=yF hS hds hrd hM' wr hwr I3<|hTx G hG
     have erc:({busy E9 with state:=if(some Code.ret:A9 Code).isNone then .ready else .done,pending:=some .ret}:Loop)=rcx:=by rw[ae];rfl
     refine⟨_,_,run_endRound (some .ret) hb3.1,H3,ja w0 H0 N ((N,.Dw (w.heap.size+1) rcx)::G) aD W1.heap.size (λb=>∃p∈(N,AN.Dw (w.heap.size+1) rcx)::G,p.2.owns (W3.putObj (w.heap.size+1)<| .loop rcx) (Ab aD p.1) b) (acJ G hG) hn1 hDl,rfl,?_,?_,?_,.inr ⟨rfl,G,hG,_,rfl⟩⟩
     ·rw[erc];exact⟨hB1,λb=>Iff.rfl⟩
     ·rw[erc];exact hB2
     ·rintro b ⟨p,hp,hb⟩;exact hB3 p hp b hb
    |exit id=>exact hq3.elim
    |goto t=>exact hq3.elim
    |panic ch=>exact hq3.elim
    |outgrown=>exact hq3.elim
   |ret=>exact hq.elim
   |exit id=>exact hq.elim
   |goto t=>exact hq.elim
   |panic ch=>exact hq.elim
   |outgrown=>exact hq.elim
  ·
   rintro e w3 ⟨⟨v,rfl⟩,H',I',hp,av4,(⟨s,hK,M,rfl⟩|⟨G,hG,M,rfl⟩)⟩
   ·obtain⟨hS,_⟩:=hp;obtain⟨hl1,_,_⟩:=hS.holds (N,.Dw (w.heap.size+1) E9) (by simp);have hel:=run_endLoop (P:=P) hl1 (by rw[Qu];simp);have epe:E9.pending=none:=by rw[Qu]
    rw[epe] at hel;refine⟨none,_,hel,?_⟩;have h5:=Yu (l:=w.heap.size+1) (rc:=E9) (rc':={E9 with state:= .exhausted,pending:=none}) hS (k:=N) (by simp);have h6:Sat w0 H0 N (Ag s) aD (w3.putObj (w.heap.size+1)<| .loop {E9 with state:= .exhausted,pending:=none}) H':=h5.weaken λq hq=>by
     refine Bq _<|O9 ?_<|abi s q hq
     exact Bq _ hq
    have:=kk s hK aD _ H' h6;rw[<-haD] at this;exact this
   ·obtain⟨hS,_⟩:=hp;obtain⟨hl1,_,_⟩:=hS.holds (N,.Dw (w.heap.size+1) rcx) (by simp);have hel:=run_endLoop (P:=P) hl1 (by rw[ae];simp);have epe:rcx.pending=some .ret:=by rw[ae]
    rw[epe] at hel;refine⟨some .ret,_,hel,?_⟩;refine wpIn_ret ?_;have h5:=Yu (l:=w.heap.size+1) (rc:=rcx) (rc':={rcx with state:= .exhausted,pending:=some .ret}) hS (k:=N) (by simp);have h6:Sat w0 H0 N G aD (w3.putObj (w.heap.size+1)<| .loop {rcx with state:= .exhausted,pending:=some .ret}) H':=h5.weaken λq hq=>by
     refine Bq _<|O9 ?_<|Nat.ne_of_lt (P0 (hTx G hG) hq).1
     exact Bq _ hq
    have:=kx G hG aD _ H' h6;rw[<-haD] at this;exact this
end
section
variable[D:DR]
def Ae.iter(P:C7)(w:AQ):Ae P:=⟨w,KA,none,true,[],w.heap.size,BM _,λ_ h=>h.elim⟩
end
section
variable[D:DR]
variable{P:Program}{w0:Ae P}{H0:HV}{N:Nat}{Q:Exit->Act->World->Prop}{Γ Al:Ctx}
variable{σ ρ:Type}{r:ρ}{J:σ->Inv->Prop}{I:Inv}{Jx:Inv->Prop}{α:Type}{enc:α->A3 Ty}{ts:A3 Nat}{fn:Func}{s:σ}{ops:B6 Oper}{xs:A3 CB}{ty:Ah}{pos:String}{af:B6 Edge}{K:σ->A9 ρ}{a:Act}{w:AQ}{H:HV}{Bd:(σ->A9 ρ)->α->σ->A9 ρ}{l:Nat}{next:σ->A9 ρ}{x:α}{t dy dn:Nat}{F4:B6 Ah}{LC tb:Ah}{pos':String}{LD:B6 Edge}{G4:Ctx}
def jo{σ ρ:Type}(K:σ->A9 ρ)(r:ρ)(J:σ->Inv->Prop)(Jx:Inv->Prop)(e:Ending)(w':AQ):Prop:=
 (∃v,e= .returned v)/\∃H' I',I'.p w' H'/\(∀r o,H' r=some o->w'.heap[r]? =some o)/\((∃s,K s=some r/\J s I')\/Jx I')
def rb(P:C7)(fn:Func)(R:Ending->AQ->Prop):Exit->Act->AQ->Prop:=bodyPostM (Fk none) 0 P fn R
def SD(l:Nat):Ty:=TEq (.func (.yield l) #[] #[]) rfl
def xd(hX:(w0.ds,w0.rd)=([],none))(hr:fn.results= #[])(hI:look Γ N=some (.inv I))(hK:(∃s,K s=some r/\J s I)\/Jx I)
 (hs:Sat w0 H0 N Γ a w H):LeavesInM (Fk none) 0 P fn a.tmps (jo K r J Jx) a.defers .returning w:=by
 refine VM (congrArg (λp=>p.1) hX) (congrArg (λp=>p.2) hX) (a:=a) (ds:=a.defers) hs λw H hs=>?_
 refine⟨.tuple #[],?_,⟨_,rfl⟩,H,I,(hs.holds _<|B5 hI).1,hs.sub,hK⟩;rw[YO (rs:=[]) (by rw[hr])];simp
def abD(hX:(w0.ds,w0.rd)=([],none))(hr:fn.results= #[])(hI:look Γ N=some (.inv I))(hK:K s=some r)(hJ:J s I):
  ES w0 H0 N (λa w=>rb P fn (jo K r J Jx) .normal a w) Γ:=λ_ _ _ hs=>xd hX hr hI (.inl ⟨s,hK,hJ⟩) hs
def aaB(hX:(w0.ds,w0.rd)=([],none))(hr:fn.results= #[])(hI:look Γ N=some (.inv I))(hJ:Jx I):
  ES w0 H0 N (λa w=>rb P fn (jo K r J Jx) .ret a w) Γ:=λ_ _ _ hs=>xd hX hr hI (.inr hJ) hs
def wN{gf:FuncId}{c:Code}{FA:A3 Ty}{L:A3 α}{N:Nat}(hf:P.funcs[gf]? =some fn)(hb:fn.body=some c)(hN:fn.ntmps=N)(hn:FA.length+1<=N)(hc:GL P gf=true)
 (h:∀{σ ρ:Type} (Bd:(σ->A9 ρ)->α->σ->A9 ρ) (K:σ->A9 ρ) (s0:σ) (r:ρ),IW L Bd s0 K=some r->∀(l:Nat) (J:σ->Inv->Prop) (Jx:Inv->Prop) (w:AQ) (H:HV) (I0:Inv),J s0 I0->I0.n=w.heap.size->
 Zb P l enc Bd r J Jx w.heap.size->Goal P (Ae.iter P w) H N c (rb P fn<|jo K r J Jx) ((N,.inv I0)::Ha 0 (SD l::FA))):Yq P gf FA enc L:=by
 subst hN;refine⟨hc,λBd K s0 r hm l J Jx w H cvs I0 sub gl As hJ hI hIp hy=>?_⟩;have sL:Ee H (SD l::FA) (.func (.yield l) #[] #[]::cvs):=⟨_,_,rfl,rfl,As⟩;have hS:=xi (P:=P) (n:=fn.ntmps) sub gl sL (by simpa using hn);refine(callsIn_wide (n:=0)).1<|callsIn_of_wp_marks (F:=Fence.wide) hf hb trivial<|h Bd K s0 r hm l J Jx w H I0 hJ hI hy _ w H ?_
 have ET:∀p∈Ha 0 (SD l::FA),p.2.F2=false/\∀v b,¬p.2.owns w v b:=by
  have:∀(l:A3 Ty) (i:Nat),∀p∈Ha i l,p.2.F2=false:=by
   intro l
   induction l with
   |nil=>intro i p hp;simp[Ha] at hp
   |cons τ l ih=>
    intro i p hp;simp only[Ha,Ai] at hp;rcases hp with e|hp
    ·subst e;rfl
    ·exact ih _ p hp
  exact λp hp=>⟨this _ _ p hp,λv b=>nH p hp⟩
 refine⟨trivial,hS.sz,⟨rfl,rfl,rfl,BM _,BM _,λ_ _ _ _=>rfl⟩,λ_ _ _ _=>rfl,hS.sub,?_,?_,hS.gl⟩
 ·intro p hp;rcases Ai.1 hp with e|hp
  ·subst e;exact⟨hIp,hI⟩
  ·exact AN.RU (ET p hp).1 (hS.holds p hp) λb hb=>absurd hb<|(ET p hp).2 _ b
 ·intro p hp q hq hne b hb BD;rcases Ai.1 hp with e|hp
  ·rcases Ai.1 hq with e'|hq
   ·subst e;subst e';exact hne rfl
   ·exact(ET q hq).2 _ b BD
  ·exact(ET p hp).2 _ b hb
def aiG{w':AQ}{H':HV}{k:Nat}{I':Inv}(hv:w0.Iv=true)(Fp:w0.lo=w0.n)(hs:Sat w0 H0 N Γ a w H)(hk:(k,.inv I)∈Γ)(ET:∀q∈BF k Γ,q.2.F2=false)
 (hy:Qn I.M w H w' H')(hI:I'.n=w0.n)(hp:I'.p w' H')(hM:∀b,I'.M b->I.M b\/w.heap.size<=b):Sat w0 H0 N ((k,.inv I')::BF k Γ) a w' H':=by
 have hIk:=hs.holds _ hk;have other:∀q∈BF k Γ,∀b,q.2.owns w (Ab a q.1) b-> ¬I.M b:=λq hq b hb hm=>hs.sep q (DI q hq).1 _ hk (DI q hq).2 b hb hm
 have LL:∀q∈BF k Γ,∀b,q.2.owns w (Ab a q.1) b->w'.heap[b]? =w.heap[b]? /\H' b=H b:=λq hq b hb=>
  hy.E6 b (AN.J5 (hs.holds q (DI q hq).1) hb).1 (other q hq b hb)
 have key:∀q∈BF k Γ,q.2.holds w0 a w' H' (Ab a q.1)/\∀b,q.2.owns w' (Ab a q.1) b↔q.2.owns w (Ab a q.1) b:=λq hq=>by
  refine AN.VT (n:=0) (hs.holds q (DI q hq).1) (λhi=>by rw[ET q hq] at hi;cases hi) ?_;exact⟨hy.size,hy.os,hy.tape,hy.output,hy.drawn,hy.le,λb _ h=>h.elim (λh=>by omega)<|λh=>(LL q hq b h).1,λb _ h=>h.elim (λh=>by omega)<|λh=>(LL q hq b h).2,hy.sub⟩
 refine⟨?_,hs.sz,?_,λh=>by(rw[hv] at h;cases h),hy.sub,?_,?_,hs.gl.mono hy.le⟩
 ·refine hs.nd.kept λD _ h1 h2=>?_
  have hn: ¬I.M D:=λhm=>by
   obtain⟨_,_,o,ho,LH⟩:=I.lt hIk.1 hm;rw[h1] at ho;cases ho;exact LH
  have:=hy.E6 D (lt_of_heap h1) hn;exact⟨by rw[this.1];exact h1,by rw[this.2];exact h2⟩
 ·exact⟨hy.os.trans hs.below.os,hy.tape.trans hs.below.tape,hy.output.trans hs.below.output,Ca hs.below.drawn hy.drawn,Ca hs.below.size hy.size,λh=>by rw[hv] at h;cases h⟩
 ·intro q hq;rcases Ai.1 hq with e|hq
  ·subst e;exact⟨hp,by rw[Fp];exact hI⟩
  ·exact(key q hq).1
 ·have low:∀q∈BF k Γ,∀b,q.2.owns w' (Ab a q.1) b-> ¬I'.M b:=λq hq b hb hm=>by
   have hb:=((key q hq).2 b).1 hb;rcases hM b hm with h|h
   ·exact other q hq b hb h
   ·have:=(AN.J5 (hs.holds q (DI q hq).1) hb).1;omega
  intro q hq r hr hne b hb BD;rcases Ai.1 hq with e|hq<;>rcases Ai.1 hr with e'|hr
  ·subst e;subst e';exact hne rfl
  ·subst e;exact low r hr b BD hb
  ·subst e';exact low q hq b hb BD
  ·exact hs.sep q (DI q hq).1 r (DI r hr).1 hne b (((key q hq).2 b).1 hb)<|((key r hr).2 b).1 BD
def JE.anz{l:A3 Oper}(h:JE P w0 N ops l Γ Al):JV l=true->∀(l2:A3 Oper) (H0:HV) (a:Act) (w:AQ) (H:HV),Sat w0 H0 N Γ a w H->∀(Q:Exit->Act->AQ->Prop),
  (∀a' w' H',Sat w0 H0 N Al a' w' H'->wpListIn (Fk w0.rd) 0 P ops Q l2 a' w')->wpListIn (Fk w0.rd) 0 P ops Q (l++l2) a w:=by
 induction h with
 |done=>exact λ_ _ _ _ _ H hs _ k=>k _ _ H hs
 |fin h=>exact λ_ _ _ _ _ H hs _ k=>k _ _ H<|hs.weaken h.sub
 | @cons _ _ _ o l h _ ih=>
  intro As l2 H0 a w H hs Q k;have Ez:=h w0 H0 a w H hs (wpListIn (Fk w0.rd) 0 P ops Q<|l++l2) Q λa' w' H' Co=>ih (wI As) l2 H0 a' w' H' Co Q k
  show wpListIn _ _ _ _ _ (o::(l++l2)) a w;unfold wpListIn;split
  ·rename_i hw;rw[if_pos hw] at Ez;exact Yy (nA As (by simp)) Ez
  ·rename_i hw;rw[if_neg hw] at Ez;exact⟨λ_ _=>trivial,Ez⟩
 |ghost h _ ih=>
  intro As l2 H0 a w H hs Q k;obtain⟨H',Co⟩:=h H0 a w H hs;exact ih As l2 H0 a w H' Co Q k
def yOk(N dy dn:Nat)(Γ:Ctx):Bool:=Γ.all λp=>p.1 !=N&&p.1 !=dy&&p.1 !=dn&&p.2.By.all (λt=>t !=dy&&t !=dn)&& !p.2.F2
def w7
 {Q:Exit->Act->AQ->Prop}
 (hv:(w0.Iv,w0.rd,w0.X)=(true,none,KA))(Fp:w0.lo=w0.n)(hy:Zb P l enc Bd r J Jx w0.n)
 (hm:Bd next x s=some r)(hJ:J s I)(ht:look Γ t=some (.val<|SD l))(ha:AO Γ xs (enc x))(hI:look Γ N=some (.inv I))(KX:E7 Γ ts G4)(As:yOk N dy dn G4=true)(hdy:dy<N)(hdn:dn<N)
 (kt:∀s' I',next s'=some r->J s' I'->ES w0 H0 N (Q .normal) ((dn,.val<|Ay false)::(N,.inv I')::G4))(kf:∀I',Jx I'->ES w0 H0 N (Q .normal) ((dn,.val<|Ay true)::(N,.inv I')::G4))
 (hs:Sat w0 H0 N Γ a w H):
  wpListIn (Fk w0.rd) 0 P ops Q [⟨some dy,.call ⟨.value<| .tmp t,xs.toArray,F4⟩,ty,pos,af,none⟩,⟨some dn,.unOp .not tb<| .tmp dy,LC,pos',LD,none⟩] a w:=by
 obtain⟨hv1,hv2,hv3⟩:w0.Iv=true/\w0.rd=none/\w0.X=KA:=by
  refine⟨congrArg (λp=>p.1) hv,congrArg (λp=>p.2.1) hv,congrArg (λp=>p.2.2) hv⟩
 have e1:a.eval (.tmp t)= .func (.yield l) #[] #[]:=hs.holds _<|B5 ht
 have hI0:=hs.holds _<|B5 hI
 have hIn:I.n=w0.n:=by rw[<-Fp];exact hI0.2
 obtain⟨fn,tmps,assign,body,F9,aom⟩:=hy next x s I w H (xs.map a.eval) hm hJ hIn hI0.1 hs.sub hs.gl<|ha.ok hs
 unfold wpListIn;have hw:Region.wanted (⟨some dy,.call ⟨.value<| .tmp t,xs.toArray,F4⟩,ty,pos,af,none⟩:Oper) (yielded ops a.tmps)=true:=rfl;rw[if_pos hw];refine⟨λ_ _=>trivial,?_⟩;rw[Oper.semAt_eq _ _ _ (by intro c e;cases e)];have e0:execOp a.eval ⟨some dy,.call ⟨.value<| .tmp t,xs.toArray,F4⟩,ty,pos,af,none⟩=Instr.yield l (#[]++xs.toArray.map a.eval++ #[]):=by
  simp only[execOp,resolve,e1,Deferred.ofValue,pure_bind]
  rfl
 have e2:(#[]++xs.toArray.map a.eval++ #[])=(xs.map a.eval).toArray:=by simp
 rw[e0,e2,F9];refine⟨(λe=>by cases e),?_⟩;rw[hv2];refine RoundIn.mono aom ?_;rintro e w' ⟨H',I',atu,att,aqj,hM,arI⟩;have avK:∀q∈G4,q∈BF N Γ:=λq hq=>by
  have h1:=DZ.1 As q hq;simp only[Bx,M8,ne_eq] at h1;exact O9 (KX.sub q hq) h1.1.1.1.1
 have hinv:∀q∈BF N ((N,.inv I)::G4),q.2.F2=false:=λq hq=>by
  have hq':=DI q hq;rcases Ai.1 hq'.1 with e|h
  ·subst e;exact absurd rfl hq'.2
  ·have h1:=DZ.1 As q h;simp only[Bx,GW] at h1;exact h1.2
 have hs1:Sat w0 H0 N ((N,.inv I)::G4) a w H:=hs.weaken λq hq=>by
  rcases Ai.1 hq with e|h
  ·subst e;exact B5 hI
  ·exact KX.sub q h
 have KB:=aiG hv1 Fp hs1 (k:=N) (by simp) hinv aqj atu att hM;have hfr:∀d,(d=dy\/d=dn)->JT d ((N,.inv I')::G4)=true:=by
  intro d hd;simp only[JT,OI,Bx,DZ,M8,ne_eq];refine⟨⟨by rcases hd with h|h<;>subst h<;>omega,by simp[AN.By]⟩,λq hq=>?_⟩;have h1:=DZ.1 As q hq;simp only[Bx,M8,ne_eq,DZ] at h1;obtain⟨⟨⟨⟨h2,h3⟩,h4⟩,h5⟩,h6⟩:=h1;refine⟨by rcases hd with h|h<;>subst h<;>assumption,?_⟩;simp only[GW,qG,Ik];intro hm;have:=h5 d hm;rcases hd with h|h<;>subst h
  ·exact this.1 rfl
  ·exact this.2 rfl
 have hs3:Sat w0 H0 N ((N,.inv I')::G4) a w' H':=KB.weaken λq hq=>by
  rcases Ai.1 hq with e|h
  ·subst e;simp
  ·refine Bq _ (O9 (Bq _ h) ?_);have h1:=DZ.1 As q h;simp only[Bx,M8,ne_eq] at h1;exact h1.1.1.1.1
 have fin:∀b:Bool,e= .returned (.bool b)->ES w0 H0 N (Q .normal) ((dn,.val<|Ay !b)::(N,.inv I')::G4)->
   (match e with
   | .returned v=>wpListIn (Fk none) 0 P ops Q [⟨some dn,.unOp .not tb<| .tmp dy,LC,pos',LD,none⟩] (a.put (some dy) v) w'
   | .panicked chain=>Q (.panic chain) a w'
   | .outgrown=>LetsOut Q):=by
  intro b eb kk;subst eb;have hs4:=Q7 hs3 hdy (hfr dy<| .inl rfl) (s:= .val<|Ay b) (v:= .bool b) (by simp[AN.By]) rfl<|λc h=>h.elim
  have KD:JE P w0 N ops [⟨some dn,.unOp .not tb<| .tmp dy,LC,pos',LD,none⟩] ((dy,.val<|Ay b)::(N,.inv I')::G4) ((dn,.val<|Ay !b)::del dn ((dy,.val<|Ay b)::(N,.inv I')::G4)):=
   JE.cons (Step.over (DU (Arg.t (t:=dy) (by simp[look]))) rfl rfl hdn rfl) JE.done
  have:=KD.sound rfl H0 _ w' H' hs4 Q (λa' w' H' Co=>kk a' w' H' (Co.weaken λq hq=>by
   rcases Ai.1 hq with e|h
   ·subst e;simp
   ·refine Bq _ (QD (Bq _ h) ?_ ?_)
    ·exact(YK (hfr dn<| .inr rfl) q h).1
    ·exact(YK (hfr dn<| .inr rfl) q h).2))
  rw[hv2] at this;exact this
 rcases arI with⟨rfl,s',H9,hJ'⟩|⟨rfl,hJ'⟩
 ·exact fin true rfl<|kt s' I' H9 hJ'
 ·exact fin false rfl<|kf I' hJ'
def anJ
 {l1:A3 Oper}{id:Nat}{G3:Ctx}
 (hv:(w0.Iv,w0.rd,w0.X)=(true,none,KA))(Fp:w0.lo=w0.n)(hy:Zb P l enc Bd r J Jx w0.n)
 (hm:Bd next x s=some r)(hJ:J s I)(sJ:ops=List.toArray (l1++([⟨some dy,.call ⟨.value<| .tmp t,xs.toArray,F4⟩,ty,pos,af,none⟩,⟨some dn,.unOp .not tb<| .tmp dy,LC,pos',LD,none⟩]:A3 Oper)))(sK:JV l1=true)(KD:JE P w0 N ops l1 Γ G3)
 (ht:look G3 t=some (.val<|SD l))(ha:AO G3 xs (enc x))(hI:look G3 N=some (.inv I))(KX:E7 G3 ts G4)(As:yOk N dy dn G4=true)(hdy:dy<N)(hdn:dn<N)
 (kt:∀s' I',next s'=some r->J s' I'->ES w0 H0 N (Q .normal) ((dn,.val<|Ay false)::(N,.inv I')::G4))(kf:∀I',Jx I'->ES w0 H0 N (Q .normal) ((dn,.val<|Ay true)::(N,.inv I')::G4)):
  Goal P w0 H0 N (.region id ops false) Q Γ:=by
 subst sJ;exact λa w H hs=>wpIn_region_lit<|KD.anz sK _ H0 a w H hs Q λa' w' H' Co=>w7 hv Fp hy hm hJ ht ha hI KX As hdy hdn kt kf Co
def ako
 {id k:Nat}{G3:Ctx}{tsr:A3 Nat}{S:A3 Ctx}
 (hv:(w0.Iv,w0.rd,w0.X)=(true,none,KA))(Fp:w0.lo=w0.n)(hy:Zb P l enc Bd r J Jx w0.n)
 (hm:Bd next x s=some r)(hJ:J s I)(kl:A3 (A3<|Nat×A3 Nat))(L:A3 Nat)(av Df:A3 (A3 Nat))(De:A3 Bool)(hmx:P.follows .mixedOrders=true)(hc:(Nf ops av&&Sj k kl Df De L av&&QS ops k av)=true)
 (sK:JV (ops.toList.take k)=true)(hp:Ec P N ops Γ [] (ops.toList.take k) Df De S)(Jh:S.reverse.map KV=kl)(hL:ON Γ=L)(hsl:E7 (S.flatten++Γ) ts G3)
 (sJ:ops.toList.drop k=[⟨some dy,.call ⟨.value<| .tmp t,xs.toArray,F4⟩,ty,pos,af,none⟩,⟨some dn,.unOp .not tb<| .tmp dy,LC,pos',LD,none⟩])
 (ht:look G3 t=some (.val<|SD l))(ha:AO G3 xs (enc x))(hI:look G3 N=some (.inv I))(KX:E7 G3 tsr G4)(As:yOk N dy dn G4=true)(hdy:dy<N)(hdn:dn<N)
 (kt:∀s' I',next s'=some r->J s' I'->ES w0 H0 N (Q .normal) ((dn,.val<|Ay false)::(N,.inv I')::G4))(kf:∀I',Jx I'->ES w0 H0 N (Q .normal) ((dn,.val<|Ay true)::(N,.inv I')::G4)):
  Goal P w0 H0 N (.region id ops true) Q Γ:=by
 simp only[Bx] at hc;refine λa w H hs=>zD hmx sK hc.1.1 hc.1.2 hc.2 Jh hL hp hsl (H0:=H0) (λa w H hs=>?_) hs
 rw[sJ];exact w7 hv Fp hy hm hJ ht ha hI KX As hdy hdn kt kf hs
def ace{P:C7}{α σ ρ:Type}(w0:Ae P)(H0:HV)(N:Nat)(J:σ->Inv->Prop)(st:α->σ)(JG:α->Ctx)(k:α->A9 ρ)(r:ρ)(a:Act)(w:AQ):Prop:=
 ∃i I,k i=some r/\J (st i) I/\∃H,Sat w0 H0 N ((N,.inv I)::JG i) a w H
def abB{st:α->σ}{JG:α->Ctx}{k:α->A9 ρ}{i:α}(hm:k i=some r)(hJ:J (st i) I)(h:E7 Γ ts ((N,.inv I)::JG i)):
  ES w0 H0 N (λa w=>ace w0 H0 N J st JG k r a w) Γ:=λ_ _ H hs=>⟨i,I,hm,hJ,H,hs.weaken h.sub⟩
def aa3{τ:Type}(st:τ->σ)(Ag:τ->Ctx){n:Nat}{B:(τ->A9 ρ)->τ->A9 ρ}{s0:τ}{I0:Inv}{c:Code}(hm:lp n B s0=some r)(hJ:J (st s0) I0)(h0:E7 Γ ts ((N,.inv I0)::Ag s0))
 (round:∀(k:τ->A9 ρ) (s:τ) (I:Inv),B k s=some r->J (st s) I->Goal P w0 H0 N c (Exit.then (ace w0 H0 N J st Ag k r) Q) ((N,.inv I)::Ag s)):Goal P w0 H0 N (.loop c) Q Γ:=by
 intro a w H hs;refine wp_loop_ghost (λ(i:Nat×τ) a w=>lp i.1 B i.2=some r/\∃I H,J (st i.2) I/\Sat w0 H0 N ((N,.inv I)::Ag i.2) a w H) (λi=>i.1) (n,s0) ⟨hm,I0,H,hJ,hs.weaken h0.sub⟩ ?_;rintro⟨m,s⟩ a w ⟨hl,I,H,hJ,hs⟩;cases m with
 |zero=>cases hl
 |succ m=>
  refine Vu (round (lp m B) s I hl hJ a w H hs) λe a' w' q=>?_
  cases e with
  |normal=>obtain⟨i,I',hi,hJ',H',Co⟩:=q;exact⟨(m,i),⟨hi,I',H',hJ',Co⟩,Nat.lt_succ_self m⟩
  |_=>exact q
def wJ{o:A9 (A3 α)}{f:FuncId}{FA:A3 Ty}{d:A9 Tmp}{g:A9 (Nat×Bool)}(ha:AO Γ xs FA)(h:∀L,o=some L->Yq P f FA enc L):
  B1 P Γ ⟨d,.makeFunc (.func f) #[] xs.toArray,ty,pos,af,g⟩ (.val<|Ug P enc o):=
 Di λ_ _ _ a w H hs=>by
  refine⟨.func (.func f) #[] (xs.map a.eval).toArray,?_,⟨f,_,FA,rfl,by simpa using ha.ok hs,h⟩,rfl⟩;simp[execOp,Instr.makeFunc]
end
section
variable[D:DR]
variable{P:Program}{w0:Ae P}{H0:HV}{N:Nat}{ops:Array Oper}{Q:Exit->Act->World->Prop}{Γ Al:Ctx}{d:Option Tmp}{ty:TypeId}{pos:String}{af:Array Edge}{g:Option (Nat×Bool)}
variable{w:AQ}{a:Act}{H:HV}{B:Ae P}{i t:Nat}{T:Ah}{v:AR}{off:Nat}{gg:Bool}{b p:Nat}{T':Ah}
def Bh:A3 Bt->Nat->Nat
 |[],_=>0
 |_::_,0=>0
 |p::l,i+1=>p.n+Bh l i
def pv(p:Bt)(off:Nat)(cs:A3 AR):AR:=Gp p.agg ((cs.drop off).take p.n).toArray
def P3{w:AQ}{b:Nat}:∀{ps:A3 Bt} {cs:A3 AR},Fv w b ps cs↔∃(i:Nat) (p:Bt),ps[i]? =some p/\p.owns w (pv p (Bh ps i) cs) b
 |[],cs=>by simp[Fv]
 |p::l,cs=>by
  simp only[Fv,P3 (ps:=l)];constructor
  ·rintro(h|⟨i,q,h1,h2⟩)
   ·exact⟨0,p,rfl,by simpa[pv,Bh] using h⟩
   ·exact⟨i+1,q,by simpa using h1,by simpa[pv,Bh,FW] using h2⟩
  ·rintro⟨i,q,h1,h2⟩;cases i with
   |zero=>simp at h1;subst h1;exact .inl (by simpa[pv,Bh] using h2)
   |succ i=>exact .inr ⟨i,q,by simpa using h1,by simpa[pv,Bh,FW] using h2⟩
def oK{w:AQ}:∀{ps:A3 Bt} {cs:A3 AR},Nj w ps cs↔∀(i j:Nat) (p q:Bt),i<j->ps[i]? =some p->ps[j]? =some q->∀b,p.owns w (pv p (Bh ps i) cs) b-> ¬q.owns w (pv q (Bh ps j) cs) b
 |[],cs=>by simp[Nj]
 |p::l,cs=>by
  simp only[Nj,oK (ps:=l)];constructor
  ·rintro⟨h1,h2⟩ i j a b LJ ha hb c hc EU;cases j with
   |zero=>omega
   |succ j=>
    have BD:l[j]? =some b:=by simpa using hb
    have Gb:b.owns w (pv b (Bh l j)<|cs.drop p.n) c:=by simpa[pv,Bh,FW] using EU
    cases i with
    |zero=>
     simp at ha;subst ha;exact h1 c (by simpa[pv,Bh] using hc)<|P3.2 ⟨j,b,BD,Gb⟩
    |succ i=>exact h2 i j a b (by omega) (by simpa using ha) BD c (by simpa[pv,Bh,FW] using hc) Gb
  ·intro h;refine⟨λb hb ho=>?_,λi j a b LJ ha hb c hc EU=>?_⟩
   ·obtain⟨j,q,h1,h2⟩:=P3.1 ho;exact h 0 (j+1) p q (by omega) rfl (by simpa using h1) b (by simpa[pv,Bh] using hb) (by simpa[pv,Bh,FW] using h2)
   ·exact h (i+1) (j+1) a b (by omega) (by simpa using ha) (by simpa using hb) c (by simpa[pv,Bh,FW] using hc) (by simpa[pv,Bh,FW] using EU)
def YN{n:Nat}{agg:Bool}(h:Shape n agg v):v.cells.toList.length=n:=by simpa using h.size
def Qa{B:Ae P}{a:Act}{w:AQ}{H:HV}:∀{ps:A3 Bt} {cs:A3 AR} {i:Nat} {p:Bt},IV B a w H ps cs->ps[i]? =some p->
  Bh ps i+p.n<=cs.length/\Shape p.n p.agg (pv p (Bh ps i) cs)/\p.holds B a w H (pv p (Bh ps i) cs)/\(pv p (Bh ps i) cs).cells.toList=(cs.drop<|Bh ps i).take p.n
 |[],_,i,_,_,h=>by simp at h
 |p::l,_,0,q,⟨v,rest,e,C6,hv,hr⟩,h=>by
  simp at h;subst h;subst e;have hl:=YN C6;have e1:pv p (Bh (p::l) 0) (v.cells.toList++rest)=v:=by simpa[pv,Bh] using(N8 (rest:=rest) C6).1
  rw[e1];refine⟨by simp[Bh];have:=C6.size;omega,C6,hv,?_⟩;simp only[Bh,PJ];rw[<-hl,gN]
 |p::l,_,i+1,q,⟨v,rest,e,C6,hv,hr⟩,h=>by
  simp at h;subst e;obtain⟨h1,h2,h3,h4⟩:=Qa hr h;have hd:List.drop (Bh (p::l)<|i+1) (v.cells.toList++rest)=List.drop (Bh l i) rest:=by
   simp only[Bh];rw[<-YN C6,NM];simp
  have e1:pv q (Bh (p::l)<|i+1) (v.cells.toList++rest)=pv q (Bh l i) rest:=by simp only[pv,hd]
  rw[e1,hd];refine⟨?_,h2,h3,h4⟩;have:=C6.size;simp[Bh];omega
def zZ{B:Ae P}{a:Act}{w:AQ}{H:HV}:∀{ps:A3 Bt} {cs:A3 AR},IV B a w H ps cs->cs.length=(ps.map Bt.n).sum
 |[],_,e=>by have e:_=[]:=e;subst e;rfl
 |p::l,_,⟨v,rest,e,C6,hv,hr⟩=>by
  subst e;have:=zZ hr;have h2:=C6.size;simp[this,h2]
def pd{B:Ae P}{a:Act}{w:AQ}{H:HV}:∀{ps:A3 Bt} {cs:A3 AR} {i:Nat} {p q:Bt} {x:AR},IV B a w H ps cs->ps[i]? =some p->Shape q.n q.agg x->q.n=p.n->q.holds B a w H x->
  IV B a w H (ps.set i q) (cs.take (Bh ps i)++x.cells.toList++cs.drop (Bh ps i+p.n))/\Bh (ps.set i q) i=Bh ps i/\pv q (Bh ps i) (cs.take (Bh ps i)++x.cells.toList++cs.drop (Bh ps i+p.n))=x/\
  ∀(j:Nat) (r:Bt),j≠i->ps[j]? =some r->Bh (ps.set i q) j=Bh ps j/\pv r (Bh ps j) (cs.take (Bh ps i)++x.cells.toList++cs.drop (Bh ps i+p.n))=pv r (Bh ps j) cs
 |[],_,i,_,_,_,_,h,_,_,_=>by simp at h
 |p::l,_,0,q,r,x,⟨v,rest,e,C6,hv,hr⟩,h,hx,hn,hq=>by
  simp at h;subst h;subst e;have hl:=YN C6;have GR:=YN hx;have hd:List.drop (Bh (p::l) 0+p.n) (v.cells.toList++rest)=rest:=by
   simp only[Bh,PH];rw[<-hl,To]
  rw[hd];simp only[List.set_cons_zero,Bh,List.take_zero,Ii];refine⟨⟨x,rest,rfl,hx,hq,hr⟩,trivial,by simpa[pv] using(N8 (rest:=rest) hx).1,?_⟩;intro j s hj hs;cases j with
  |zero=>exact absurd rfl hj
  |succ j=>
   simp only[Bh,hn,true_and,pv];have e1:List.drop (p.n+Bh l j) (x.cells.toList++rest)=List.drop (Bh l j) rest:=by rw[<-hn,<-GR,NM];simp
   have e2:List.drop (p.n+Bh l j) (v.cells.toList++rest)=List.drop (Bh l j) rest:=by rw[<-hl,NM];simp
   rw[e1,e2]
 |p::l,_,i+1,q,r,x,⟨v,rest,e,C6,hv,hr⟩,h,hx,hn,hq=>by
  simp at h;subst e;have hl:=YN C6;obtain⟨h1,h2,h3,h4⟩:=pd hr h hx hn hq;have et:List.take (Bh (p::l)<|i+1) (v.cells.toList++rest)=v.cells.toList++List.take (Bh l i) rest:=by
   simp only[Bh];rw[<-hl,W9];simp[Cd]
  have ed:List.drop (Bh (p::l) (i+1)+q.n) (v.cells.toList++rest)=List.drop (Bh l i+q.n) rest:=by
   simp only[Bh];rw[<-hl,Kx,NM];simp
   done
  have ec:List.take (Bh (p::l)<|i+1) (v.cells.toList++rest)++x.cells.toList++List.drop (Bh (p::l) (i+1)+q.n) (v.cells.toList++rest)=v.cells.toList++(List.take (Bh l i) rest++x.cells.toList++List.drop (Bh l i+q.n) rest):=by
   rw[et,ed];simp[ID]
  rw[ec];have sh:∀(s:Bt) (o:Nat) (E2:A3 AR),pv s (p.n+o) (v.cells.toList++E2)=pv s o E2:=λs o E2=>by
   simp only[pv];have:List.drop (p.n+o) (v.cells.toList++E2)=List.drop o E2:=by
    rw[NM,Mo (by omega),hl];simp
   rw[this]
  refine⟨⟨v,_,rfl,C6,hv,h1⟩,by simp[Bh,h2],?_,?_⟩
  ·simp only[Bh];rw[sh];exact h3
  ·intro j s hj hs;cases j with
   |zero=>
    simp at hs;subst hs;refine⟨rfl,?_⟩;simp only[Bh];have g1:=(N8 (rest:=List.take (Bh l i) rest++x.cells.toList++List.drop (Bh l i+q.n) rest) C6).1;have g2:=(N8 (rest:=rest) C6).1;simp only[pv,PJ];rw[g1,g2]
   |succ j=>
    obtain⟨k1,k2⟩:=h4 j s (by omega) (by simpa using hs);refine⟨by simp[Bh,k1],?_⟩;simp only[Bh];rw[sh,sh];exact k2
def adE{α:Type}{l:A3 α}{j:Nat}{x:α}(h:j≠i):(l.set i x)[j]? =l[j]? :=by
 rw[List.getElem?_set_ne<|Ne.symm h]
def Vg{ps:A3 Bt}{cs:A3 AR}{p q:Bt}{x:AR}(h:IV B a w H ps cs)(hs:Nj w ps cs)(hi:ps[i]? =some p)(hx:Shape q.n q.agg x)(hn:q.n=p.n)(hq:q.holds B a w H x)
 (sI:∀b,q.owns w x b->p.owns w (pv p (Bh ps i) cs) b\/ ¬Fv w b ps cs):
  ∃E2,E2=cs.take (Bh ps i)++x.cells.toList++cs.drop (Bh ps i+p.n)/\IV B a w H (ps.set i q) E2/\Nj w (ps.set i q) E2/\
   (∀b,Fv w b (ps.set i q) E2->q.owns w x b\/(Fv w b ps cs/\ ¬p.owns w (pv p (Bh ps i) cs) b)):=by
 obtain⟨h1,h2,h3,h4⟩:=pd h hi hx hn hq;have hlt:=(GD.1 hi).1;have at':∀j s,(ps.set i q)[j]? =some s->(j=i/\s=q)\/(j≠i/\ps[j]? =some s):=λj s hj=>by
  by_cases e:j=i
  ·subst e;rw[ZT hlt] at hj;exact .inl ⟨rfl,(E5 hj).symm⟩
  ·exact .inr ⟨e,by rwa [adE e] at hj⟩
 have Co:=oK.1 hs;have sym:∀j s,j≠i->ps[j]? =some s->∀b,s.owns w (pv s (Bh ps j) cs) b-> ¬p.owns w (pv p (Bh ps i) cs) b:=λj s hj hjs b hb BD=>by
  rcases Nat.lt_or_gt_of_ne hj with h|h
  ·exact Co j i s p h hjs hi b hb BD
  ·exact Co i j p s h hi hjs b BD hb
 have ac5:∀j s,j≠i->ps[j]? =some s->∀b,s.owns w (pv s (Bh ps j) cs) b-> ¬q.owns w x b:=λj s hj hjs b hb BD=>by
  rcases sI b BD with h|h
  ·exact sym j s hj hjs b hb h
  ·exact h<|P3.2 ⟨j,s,hjs,hb⟩
 refine⟨_,rfl,h1,oK.2 ?_,λb hb=>?_⟩
 ·intro j k s t hjk hj hk b hb BD;rcases at' j s hj with⟨rfl,rfl⟩|⟨nj,ej⟩<;>rcases at' k t hk with⟨rfl,rfl⟩|⟨nk,ek⟩
  ·omega
  ·rw[h2,h3] at hb;rw[(h4 k t nk ek).1,(h4 k t nk ek).2] at BD;exact ac5 k t nk ek b BD hb
  ·rw[h2,h3] at BD;rw[(h4 j s nj ej).1,(h4 j s nj ej).2] at hb;exact ac5 j s nj ej b hb BD
  ·rw[(h4 j s nj ej).1,(h4 j s nj ej).2] at hb;rw[(h4 k t nk ek).1,(h4 k t nk ek).2] at BD;exact Co j k s t hjk ej ek b hb BD
 ·obtain⟨j,s,hj,hb⟩:=P3.1 hb;rcases at' j s hj with⟨rfl,rfl⟩|⟨nj,ej⟩
  ·rw[h2,h3] at hb;exact .inl hb
  ·rw[(h4 j s nj ej).1,(h4 j s nj ej).2] at hb;exact .inr ⟨P3.2 ⟨j,s,ej,hb⟩,sym j s nj ej b hb⟩
def fh{ps:A3 Bt}{cs:A3 AR}{p:Bt}(h:IV B a w H ps cs)(hi:ps[i]? =some p):
  cs.take (Bh ps i)++(pv p (Bh ps i) cs).cells.toList++cs.drop (Bh ps i+p.n)=cs:=by
 obtain⟨h1,_,_,h4⟩:=Qa h hi;rw[h4,<-FW,ID,OX,OX]
def aiH{dd:Nat}{s s' sd:AN}(hs:Sat w0 H0 N Γ a w H)(ht:(t,s)∈Γ)(DH:dd<N)(hne:dd≠t)(hl:dd∉sd.By)
 (Co:s'.holds w0 (a.put (some dd) v) w H (Ab a t))(hv:sd.holds w0 a w H v)(o1:∀b,s'.owns w (Ab a t) b->s.owns w (Ab a t) b)(o2:∀b,sd.owns w v b->s.owns w (Ab a t) b)
 (o3:∀b,sd.owns w v b-> ¬s'.owns w (Ab a t) b):Sat w0 H0 N ((dd,sd)::(t,s')::del dd (BF t Γ)) (a.put (some dd) v) w H:=by
 have sub:∀q∈del dd (BF t Γ),q∈Γ/\q.1≠t:=λq hq=>DI q<|MC q hq
 have h1:Sat w0 H0 N ((dd,sd)::del dd (BF t Γ)) (a.put (some dd) v) w H:=
  Q7 (hs.weaken λq hq=>(sub q hq).1) DH PA hl hv λb hb q hq Kf=>hs.sep _ ht q (sub q hq).1 (λe=>(sub q hq).2 e.symm) b (o2 b hb) Kf
 have et:Ab (a.put (some dd) v) t=Ab a t:=P1 hne;have ed:Ab (a.put (some dd) v) dd=v:=VO (by rw[hs.sz];exact DH);have eo:∀q∈del dd (BF t Γ),Ab (a.put (some dd) v) q.1=Ab a q.1:=λq hq=>P1 (qy hq).1.symm
 have key:∀q∈(dd,sd)::del dd (BF t Γ),∀b,s'.owns w (Ab a t) b-> ¬q.2.owns w (Ab (a.put (some dd) v) q.1) b:=λq hq b hb Kf=>by
  rcases Ai.1 hq with e|hq
  ·subst e;rw[ed] at Kf;exact o3 b Kf hb
  ·rw[eo q hq] at Kf;exact hs.sep _ ht q (sub q hq).1 (λe=>(sub q hq).2 e.symm) b (o1 b hb) Kf
 have h2:Sat w0 H0 N ((t,s')::(dd,sd)::del dd (BF t Γ)) (a.put (some dd) v) w H:=by
  refine⟨h1.nd,h1.sz,h1.below,h1.GK,h1.sub,?_,?_,h1.gl⟩
  ·intro q hq;rcases Ai.1 hq with e|hq
   ·subst e;simp only;rw[et];exact Co
   ·exact h1.holds q hq
  ·intro q hq r hr hn b hb BD;rcases Ai.1 hq with e|hq<;>rcases Ai.1 hr with e'|hr
   ·subst e;subst e';exact hn rfl
   ·subst e;simp only at hb;rw[et] at hb;exact key r hr b hb BD
   ·subst e';simp only at BD;rw[et] at BD;exact key q hq b BD hb
   ·exact h1.sep q hq r hr hn b hb BD
 refine h2.weaken λq hq=>?_
 simp only[Ai] at hq⊢;rcases hq with h|h|h
 ·exact .inr<| .inl h
 ·exact .inl h
 ·exact .inr<| .inr h
inductive FP(Γ:Ctx):Nat->Nat->Nat->Prop where
 |ptr {p t off:Nat} (h:look Γ p=some (.ptr t off)):FP Γ p t off
 |box {t:Nat} {T:Ah} {g:Bool} {ps:A3 Bt} (h:look Γ t=some (.Cx T g ps)):FP Γ t t 0
def FP.ok{ps:A3 Bt}(h:FP Γ p t off)(ht:look Γ t=some (.Cx T gg ps))(hs:Sat w0 H0 N Γ a w H):
  ∃b cs,Ab a t= .pointer (some ⟨b,0,none⟩)/\a.eval (.tmp p)= .pointer (some ⟨b,off,none⟩)/\w.heap[b]? =some (.cells cs T (0,0))/\H b=none/\w0.EI b/\IV w0 a w H ps cs.toList/\Nj w ps cs.toList/\ ¬Fv w b ps cs.toList:=by
 obtain⟨b,cs,e,hb,hn,hm,ho,IX,hx⟩:=hs.holds _<|B5 ht
 simp only at e;refine⟨b,cs,e,?_,hb,hn,hm,ho,IX,hx⟩;cases h with
 |ptr h=>
  obtain⟨b',e1,e2⟩:=hs.holds _<|B5 h
  simp only at e1 e2;rw[e] at e1;cases e1;exact e2
 |box h=>exact e
def RV{k:Nat}{ps:A3 Bt}(h:look Γ t=some (.Cx T' gg ps))(hf:Ga P T k off=true):B1 P Γ ⟨d,.fieldAddr T (.tmp t) k,ty,pos,af,g⟩ (.ptr t off):=
 Di λ_ _ _ a w _ hs=>by
  obtain⟨b,cs,e,_⟩:=hs.holds _<|B5 h
  have e':a.eval (.tmp t)= .pointer (some ⟨b,0,none⟩):=e;exact⟨.pointer<|some ⟨b,0+off,none⟩,by simp[execOp,e',YH hf],⟨b,e,by simp⟩,rfl⟩
def xJ{p:Bt}{cs:B6 AR}{E:Ah}{w':AQ}{ps:A3 Bt}(hT:Bm P T p.n p.agg=true)(hb:w.heap[b]? =some (.cells cs E (0,0)))(h:IV B a w' H ps cs.toList)(hi:ps[i]? =some p):
  (loadVar T ⟨b,Bh ps i,none⟩).run P w= .ok (pv p (Bh ps i) cs.toList) w:=by
 obtain⟨h1,_,_,_⟩:=Qa h hi;exact R9 hT hb (by simpa using h1)
def aai{ps:A3 Bt}{τ:Ty}(hp:FP Γ p t off)(ht:look Γ t=some (.Cx T' gg ps))(hi:ps[i]? =some (.val τ))(ho:Bh ps i=off)(hT:Bm P T τ.n τ.agg=true):
  B1 P Γ ⟨d,.load T<| .tmp p,ty,pos,af,g⟩ (.val τ):=
 Di λ_ _ _ a w _ hs=>by
  obtain⟨b,cs,e,ep,hb,_,_,As,_⟩:=hp.ok ht hs;subst ho;obtain⟨_,_,h3,_⟩:=Qa As hi;refine⟨_,?_,h3,rfl⟩;simp[execOp,ep,Instr.loadAt,Instr.sureAddr,xJ (p:= .val τ) hT hb As hi]
def Bt.sty:Bt->AN
 | .buf E sz l=> .buf E sz l
 | .map K E Eb sz E1=> .Gn K E Eb sz E1
 |_=> .gone
def Bt.ahy:∀{p:Bt},p.holds B a w H v->p.sty.holds B a w H v
 | .val _,_=>trivial
 | .any _ _,_=>trivial
 | .sm _,_=>trivial
 | .buf _ _ _,h=>h
 | .map _ _ _ _ _,h=>h
def Bt.Yf:∀{p:Bt},p.sty.owns w v b↔p.owns w v b
 | .val _=>Iff.rfl
 | .any _ _=>Iff.rfl
 | .sm _=>Iff.rfl
 | .buf _ _ _=>Iff.rfl
 | .map _ _ _ _ _=>Iff.rfl
def Bt.ahx:∀{p:Bt},p.sty.By=[]
 | .val _=>rfl
 | .any _ _=>rfl
 | .sm _=>rfl
 | .buf _ _ _=>rfl
 | .map _ _ _ _ _=>rfl
def SK(d:Nat):Bool->Bt
 |true=> .sm d
 |false=> .any 1 false
def zt{Ag:Ctx}(BE:∀q∈Ag,q∈Γ){dd:Nat}{ps:A3 Bt}{pp:Bt}(sm:Bool)(hp:FP Ag p t off)(ht:look Ag t=some (.Cx T' gg ps))(hi:ps[i]? =some pp)(ho:Bh ps i=off)(h1:pp.n=1)(hg:pp.agg=false)(hT:Bm P T 1 false=true)
 (DH:dd<N)(hne:dd≠t)(hd:dd∉Qf ps):
  Step P N ops ⟨some dd,.load T<| .tmp p,ty,pos,af,none⟩ Γ ((dd,pp.sty)::(t,.Cx T' gg<|ps.set i<|SK dd sm)::del dd (BF t Γ)):=by
 intro w0 H0 a w H BA K Q k;simp only[Region.wanted,if_true];obtain⟨b,cs,e,ep,hb,hn,hm,As,IX,hx⟩:=hp.ok ht<|BA.weaken BE
 subst ho;obtain⟨h2,h3,h4,h5⟩:=Qa As hi;have F9:=xJ (p:=pp) (by rw[h1,hg];exact hT) hb As hi
 generalize hv:pv pp (Bh ps i) cs.toList=v at*
 unfold Oper.wp;have er:(execOp a.eval ⟨some dd,.load T<| .tmp p,ty,pos,af,none⟩).run P w= .ok (.value v) w:=by
  simp[execOp,ep,Instr.loadAt,Instr.sureAddr,F9]
 rw[er,OJ];have hv1:v.oneCell'=true:=by rw[h1,hg] at h3;exact(mH h3).1
 have H9:(SK dd sm).n=pp.n:=by rw[h1];cases sm<;>rfl
 have C6:Shape (SK dd sm).n (SK dd sm).agg v:=by rw[h1,hg] at h3;cases sm<;>exact h3
 have sL:IV w0 (a.put (some dd) v) w H ps cs.toList:=Td (λu hu=>P1<|λe=>hd<|e▸hu) As;have hq:(SK dd sm).holds w0 (a.put (some dd) v) w H v:=by
  cases sm
  ·exact Shape.one hv1
  ·exact⟨(VO (by rw[BA.sz];exact DH)).symm,hv1⟩
 have ET:∀c,¬(SK dd sm).owns w v c:=λc h=>by cases sm<;>exact h
 obtain⟨E2,hcs,k1,k2,k3⟩:=Vg sL IX hi C6 H9 hq<|λc hc=>absurd hc<|ET c
 have hcc:E2=cs.toList:=by rw[hcs,<-hv];exact fh As hi
 rw[hcc] at k1 k2 k3;refine k _ _ H (aiH BA (BE _<|B5 ht) DH hne (by rw[Bt.ahx];simp) ?_ (Bt.ahy h4) ?_ ?_ ?_)
 ·refine⟨b,cs,e,hb,hn,hm,k1,k2,λhc=>?_⟩;rcases k3 b hc with h|h
  ·exact ET b h
  ·exact hx h.1
 ·rintro c ⟨c',e',hc⟩;simp only[e] at e';cases e';refine⟨b,e,?_⟩;rcases hc with hc|⟨cs2,hb2,hc⟩
  ·exact .inl hc
  ·rw[hb] at hb2;cases hb2;rcases k3 c hc with h|h
   ·exact absurd h<|ET c
   ·exact .inr ⟨cs,hb,h.1⟩
 ·intro c hc;exact⟨b,e,.inr ⟨cs,hb,P3.2 ⟨i,pp,hi,by rw[hv];exact Bt.Yf.1 hc⟩⟩⟩
 ·rintro c hc ⟨c',e',EU⟩;simp only[e] at e';cases e';have hc:=Bt.Yf.1 hc;rcases EU with EU|⟨cs2,hb2,EU⟩
  ·subst EU;exact hx (P3.2 ⟨i,pp,hi,by rw[hv];exact hc⟩)
  ·rw[hb] at hb2;cases hb2;rcases k3 c EU with h|h
   ·exact ET c h
   ·exact h.2 (by rw[hv];exact hc)
end
end Trn
