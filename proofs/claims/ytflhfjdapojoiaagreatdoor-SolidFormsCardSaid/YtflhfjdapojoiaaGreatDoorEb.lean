/-
  Part of the proof of SolidForms.
-/
import Derived.Test.YtflhfjdapojoiaaGreatDoorEa
set_option maxRecDepth 100000
set_option maxHeartbeats 20000000
set_option linter.all false
open Go Go.RowKit Go.Proofs
namespace Trn
section
variable[D:DR]
variable{P:Program}{N:Nat}{ops:Array Oper}{Γ Ae:Ctx}{d:Option Tmp}{ty:TypeId}{pos:String}{af:Array Edge}{g:Option (Nat×Bool)}
variable{sz:Nat}{T:Af}{t:Nat}{E:Af}{l:A3 Ty}{bytes dd:Nat}{w:AK}{H:HV}{T2:Af}{w0:AX P}{x:Bu}{l2:A3 Ty}{a:Act}{τ:Ty}{s:Nat}{H0:HV}{v:AO}{ps:A3 (Nat×Bu)}{l':A3 Ty}{n:Nat}{AY:Ctx}
def yi{B:AX P}(h:(AJ.buf E sz l).holds B a w H v):∃ad cap,v= .slice ad l.length cap:=by
 obtain⟨xs,⟨_,hc⟩,_⟩:=h;rcases hc with⟨e,hl⟩|⟨g,cap,cur,e,_⟩
 ·exact⟨none,0,by rw[e,hl]⟩
 ·exact⟨_,cap,e⟩
def aei(hT:Db P T=true)(hs:look Γ s=some (.same t))(ht:look Γ t=some (.buf E sz l)):Aq P Γ ⟨d,.call ⟨.builtin .len,#[.tmp s],#[T]⟩,ty,pos,af,g⟩ (.val<|TI .i64 l.length):=
 DL λ_ _ _ a w H B1=>by
  obtain⟨ad,cap,e⟩:=yi<|B1.holds _<|Au ht
  have e2:AT a s=AT a t:=B1.holds _<|Au hs
  have e3:a.eval (.tmp s)= .slice ad l.length cap:=e2.trans e;exact⟨_,by simp[execOp,resolve,invoke,builtin,e3,lE hT],rfl,rfl⟩
def Da:Aq P Γ ⟨d,.move<| .tmp t,ty,pos,af,g⟩ (.same t):=
 DL λ_ _ _ a _ _ _=>⟨AT a t,rfl,rfl,rfl⟩
def ah4:Aq P Γ ⟨d,.assign<| .const<| .slice none 0 0,ty,pos,af,g⟩ (.buf E sz []):=
 ah5 λw0 _ _ a w _ _=>⟨.slice none 0 0,rfl,⟨[],World.ownsRow_nil w _ _ _,rfl,λb h=>by simp[Value.ownBlock] at h⟩,λb h=>by simp[AJ.owns,Value.ownBlock] at h⟩
open Classical in
def tK(hs:Sat w0 H0 N Γ a w H){s s':AJ}(ht:(t,s)∈Γ)(S:Nat->Prop)(hS:∀b,S b->s.owns w (AT a t) b/\w0.Du b)
 (hv:s'.holds w0 a w (λr=>if S r then w.heap[r]? else H r) (AT a t))(ho:∀b,s'.owns w (AT a t) b->s.owns w (AT a t) b):Sat w0 H0 N ((t,s')::B4 t Γ) a w (λr=>if S r then w.heap[r]? else H r):=by
 have low:∀b,S b->b<w.heap.size/\H b=none/\∃o,w.heap[b]? =some o/\Z8 o:=λb h=>AJ.IP (hs.holds _ ht) (hS b h).1
 have hle:HV.le H (λr=>if S r then w.heap[r]? else H r):=by
  intro r o h;by_cases e:S r
  ·rw[(low r e).2.1] at h;cases h
  ·simp[e,h]
 have pU:∀q∈B4 t Γ,∀b,q.2.owns w (AT a q.1) b-> ¬S b:=by
  intro q hq b KL e;exact hs.sep _ ht q (Cq q hq).1 (λe=>(Cq q hq).2 e.symm) b (hS b e).1 KL
 have Hj:Sat w0 H0 N (B4 t Γ) a w (λr=>if S r then w.heap[r]? else H r):=by
  refine V4 (ds:=a.defers) hs hs.below (Az _) ?_ (Az _) hle ?_ ?_ ?_ ?_
  ·intro _ r hr hx;have: ¬S r:=λe=>by
    rcases(hS r e).2 with h|h
    ·omega
    ·exact hx h
   simp[this]
  ·intro r o h;by_cases e:S r
   ·simpa[e] using h
   ·simp only[e,if_false] at h;exact hs.sub r o h
  ·intro _ b _ hb;have: ¬S b:=λe=>by have:=AX.Q2 (hS b e).2;omega
   simp[this]
  ·intro p hp;exact⟨(Cq p hp).1,λb hb=>⟨rfl,by simp[pU p hp b hb]⟩⟩
  ·refine hs.nd.kept λD _ h1 h2=>⟨h1,?_⟩
   have: ¬S D:=λe=>by
    obtain⟨_,_,o,ho,JF⟩:=low D e;rw[h1] at ho;cases ho;exact JF
   simp[this,h2]
 refine⟨Hj.nd,Hj.sz,Hj.below,Hj.Ed,Hj.sub,?_,?_,Hj.gl⟩
 ·intro p hp;rcases Ag.1 hp with e|hp
  ·subst e;exact hv
  ·exact Hj.holds p hp
 ·intro p hp q hq hne b hb B2;rcases Ag.1 hp with e|hp
  ·subst e;rcases Ag.1 hq with e|hq
   ·subst e;exact hne rfl
   ·exact hs.sep _ ht q (Cq q hq).1 hne b (ho b hb) B2
  ·rcases Ag.1 hq with e|hq
   ·subst e;exact hs.sep p (Cq p hp).1 _ ht hne b hb<|ho b B2
   ·exact Hj.sep p hp q hq hne b hb B2
open Classical in
def bk(hs:Sat w0 H0 N Γ a w H){s:AJ}(ht:(t,s)∈Γ)(S:Nat->Prop)(hS:∀b,S b->s.owns w (AT a t) b/\w0.Du b)
 (hv:τ.ok (λr=>if S r then w.heap[r]? else H r) (AT a t)):Sat w0 H0 N ((t,.val τ)::B4 t Γ) a w (λr=>if S r then w.heap[r]? else H r):=tK (s':= .val τ) hs ht S hS hv<|λ_ h=>h.elim
def ak7(hs:Sat w0 H0 N Γ a w H)(ht:look Γ t=some (.buf E sz l)):∃H',Sat w0 H0 N ((t,.val<|FY l)::B4 t Γ) a w H':=by
 have hb:=hs.holds _<|Au ht
 obtain⟨xs,hr,ho,hn⟩:=hb;refine⟨_,bk hs (Au ht) (λb=>(AT a t).ownBlock=some b) (λb h=>⟨h,(hn b h).2⟩) ?_⟩;refine Vp (a:=a) ⟨xs,hr,ho,hn⟩ ?_ (λb hb _ o hbo=>by simp[hb,hbo]);intro r o h;by_cases e:(AT a t).ownBlock=some r
 ·rw[(hn r e).1] at h;cases h
 ·simp[e,h]
def akQ(ht:look Γ t=some (.buf E sz l)):Ia w0 N Γ ((t,.val<|FY l)::B4 t Γ):=λ_ _ _ _ hs=>ak7 hs ht
def aiG(hs:Sat w0 H0 N Γ a w H)(ht:look Γ t=some (.own T τ)):∃H',Sat w0 H0 N ((t,.val<|JZ τ)::B4 t Γ) a w H':=by
 obtain⟨b,x,e,hb,hx,hH,hB⟩:=hs.holds _<|Au ht
 simp only at e;refine⟨_,bk hs (Au ht) (λc=>c=b) (λc h=>by subst h;exact⟨⟨_,e,rfl⟩,hB⟩) ?_⟩;have By:=τ.shape hx;refine⟨b,0,x.cells,T,(0,0),e,by simp[hb],by rw[By.size];omega,?_⟩;rw[ux By.size,<-By.eq];refine τ.mono ?_ hx;intro r o h;by_cases e:r=b
 ·subst e;rw[hH] at h;cases h
 ·simp[e,h]
def TJ(ht:look Γ t=some (.own T τ)):Ia w0 N Γ ((t,.val<|JZ τ)::B4 t Γ):=λ_ _ _ _ hs=>aiG hs ht
def Fi(P:Bs)(T:Af)(E:Af)(sz bytes:Nat):Bool:=
 match P.underlying T with
 |some (.slice e)=>Nat.beq e E&&(match P.info? e with
  |some i=>Nat.beq i.size sz&&Nat.beq i.bytes bytes&&(match i.zero with|some z=>Nat.beq z.cells.size sz|none=>false)&&Nat.ble 1 sz
  |none=>false)
 |_=>false
def xU(h:Fi P T E sz bytes=true):∃i z,P.underlying T=some (.slice E)/\P.info? E=some i/\i.zero=some z/\i.size=sz/\i.bytes=bytes/\z.cells.size=sz/\0<sz:=by
 unfold Fi at h;split at h
 ·rename_i e hu;simp only[BU] at h;obtain⟨h1,h2⟩:=h;have h1:=Dj h1;subst h1;split at h2
  ·rename_i i hi;simp only[BU] at h2;obtain⟨⟨⟨h3,h4⟩,h5⟩,h6⟩:=h2;split at h5
   ·rename_i z hz;exact⟨i,z,hu,hi,hz,Dj h3,Dj h4,Dj h5,EP h6⟩
   ·cases h5
  ·cases h2
 ·cases h
def js(hT:Fi P T E sz bytes=true){B:Nat}{xs:A3 AO}(hown:w.ownsRow B E sz v n xs)(hB:B<=w.heap.size)
 {ad:A6 Addr}{m c:Nat}{news:A3 AO}(hl:news.length=m*sz)(aoh:∀j u,news[j]? =some u->∃x,ad=some x/\w.cell? (x.add j)=some u)(h1:∀u∈news,u.oneCell'=true)(had:ad=none->m=0)
 (GM:n+m<=maxLen)(K1:(n+m)*bytes<=140737488355328)(ty:Af):
  ∃v' w',(Builtin.append_ #[T,T] ty #[v,.slice ad m c]).run P w= .ok v' w'/\w'.ownsRow B E sz v' (n+m) (xs++news)/\E9 w w' v.ownBlock/\∀b,v'.ownBlock=some b->v.ownBlock=some b\/w.heap.size<=b:=by
 obtain⟨i,z,hu,hi,hz,hsz,hby,hzs,hpos⟩:=xU hT;cases ad with
 |none=>
  have hm:=had rfl;subst hm;have hn:news=[]:=JS (by simpa using hl);subst hn;refine⟨v,w,?_,by simpa using hown,⟨⟨rfl,rfl,rfl,Az _,λ_ _ _=>rfl⟩,Az _⟩,λb hb=> .inl hb⟩;rcases hown.2 with⟨rfl,rfl⟩|⟨g,cap,cur,rfl,hbg,hg,hnc,_⟩
  ·simp[Builtin.append_,EY hu,Go.sizeOf,typeInfo,program,Sem.run,hi,Builtin.lenOf,Builtin.firstCells]
  ·simp[Builtin.append_,EY hu,Go.sizeOf,typeInfo,program,Sem.run,hi,Builtin.lenOf,Builtin.firstCells,hnc,storeCells]
 |some ad=>
  have ZM:∀j u,news[j]? =some u->w.cell? (ad.add j)=some u:=λj u h=>by
   obtain⟨x,e,hx⟩:=aoh j u h;cases e;exact hx
  obtain⟨v',w',hr,h2,h3,h4⟩:=run_append_own (P:=P) w B T ty E i z sz bytes hu hi hz hsz hby hzs hpos v n xs hown ad m c news hl ZM h1 GM K1 hB;have key:w.drawn<=w'.drawn/\∀b,v'.ownBlock=some b->v.ownBlock=some b\/w.heap.size<=b:=by
   subst hsz;subst hby;rcases hown.2 with⟨rfl,rfl⟩|⟨g,cap,cur,rfl,hbg,hg,hnc,hcm,hcs,htake⟩
   ·by_cases hm:m=0
    ·subst hm;have hf:=run_firstCells_some (P:=P) w i.size 0 ad 0 c news hl ZM;have H7:(Builtin.append_ #[T,T] ty #[.slice none 0 0,.slice (some ad) 0 c]).run P w= .ok (.slice none 0 0) w:=by
      have hn0:news=[]:=JS (by simpa using hl);subst hn0;simp only[Builtin.firstCells] at hf;simp[Builtin.append_,EY hu,Go.sizeOf,typeInfo,program,Sem.run,hi,Builtin.lenOf,Builtin.firstCells,loadCells,loadCellsFrom]
     rw[hr] at H7;cases H7;exact⟨Az _,λb hb=>by simp[Value.ownBlock] at hb⟩
    ·have qd:(m:Int)<=9223372036854775807:=by simp only[maxLen] at GM;omega
     have H7:=run_append_nil (P:=P) (w:=w) T ty E i z hu hi hz ad m c news hl ZM (by omega) qd (by rw[Nt] at K1;omega);rw[hr] at H7;cases H7;refine⟨P1 _,λb hb=>?_⟩;simp[Value.ownBlock] at hb;exact .inr (by omega)
   ·by_cases SB:n+m<=cap
    ·have iu:n*i.size+news.length<=cur.size:=by rw[hl,hcs,<-Iv];exact Hg _ SB
     have H7:=run_append_room (P:=P) w T ty E i hu hi g n cap cur hg ad m c news hl ZM h1 SB iu;rw[hr] at H7;cases H7;exact⟨Az _,λb hb=> .inl hb⟩
    ·have holds:∀j u,xs[j]? =some u->w.cell? ((⟨g,0,none⟩:Addr).add j)=some u:=hown.cells (g:=g) rfl;have qd:((n+m:Nat):Int)<=9223372036854775807:=by simp only[maxLen] at GM;omega
     have H7:=run_append_grow (P:=P) w T ty E i z hu hi hz ⟨g,0,none⟩ n cap xs hown.1 holds ad m c news hl ZM (by omega) qd (growslice_fits (by omega) K1);rw[hr] at H7;cases H7;refine⟨P1 _,λb hb=>?_⟩;simp[Value.ownBlock] at hb;exact .inr (by omega)
  exact⟨v',w',hr,h2,⟨h3,GQ.of key.1⟩,key.2⟩
def kZ{ty:Af}(h1:Db P T=true)(h2:Db P T2=true)(args:Aw AO)(w:AK):(Builtin.append_ #[T,T2] ty args).run P w=(Builtin.append_ #[T,T] ty args).run P w:=by
 obtain⟨e1,u1⟩:=dI h1;obtain⟨e2,u2⟩:=dI h2;unfold Builtin.append_;have g0:(#[T,T2]:Aw Af)[0]? =some T:=rfl;have g1:(#[T,T2]:Aw Af)[1]? =some T2:=rfl;have g2:(#[T,T]:Aw Af)[0]? =some T:=rfl;have g3:(#[T,T]:Aw Af)[1]? =some T:=rfl;simp only[g0,g1,g2,g3];cases args[0]? with
 |none=>rfl
 |some a0=>cases args[1]? with
  |none=>rfl
  |some a1=>
   simp only[Df,EY u1,DP];cases a0<;>try rfl
   simp only[Df,EY u1,EY u2,DP,JN]
def nI(h:Fi P T E sz bytes=true):Db P T=true:=by
 obtain⟨i,z,hu,_⟩:=xU h;simp[Db,hu]
def mU(sub:∀r o,H r=some o->w.heap[r]? =some o)(h:(FY l).ok H v):∃ad cap news,v= .slice ad l.length cap/\D4 H l news/\(∀j u,news[j]? =some u->∃x,ad=some x/\w.cell? (x.add j)=some u)/\(ad=none->l.length=0):=by
 obtain⟨ad,cap,e,_,hx⟩:=h;by_cases hl:l=[]
 ·subst hl;exact⟨ad,cap,[],e,rfl,λj u h=>by simp at h,λ_=>rfl⟩
 ·obtain⟨b,off,cs,E,fr,e1,hb,hsz,ho⟩:=hx hl;refine⟨ad,cap,_,e,ho,?_,λe=>by rw[e1] at e;cases e⟩;intro j u hj;refine⟨⟨b,off,none⟩,e1,?_⟩;rw[addr_add];rw[QA] at hj;split at hj
  ·simp at hj;simp[World.cell?,sub _ _ hb,hj]
  ·cases hj
def uJ(B0:∀q∈AY,q∈Γ)(G9:Db P T2=true)(hs:look AY s=some (.same t))(ht:look AY t=some (.buf E sz l))(hx:Arg AY x (FY l2))(hT:Fi P T E sz bytes=true)(hu:Fo sz l2)
 (GM:l.length+l2.length<=maxLen)(K1:(l.length+l2.length)*bytes<=140737488355328)(Cp:dd<N):
  Step P N ops ⟨some dd,.call ⟨.builtin .append,#[.tmp s,x],#[T,T2]⟩,ty,pos,af,none⟩ Γ ((dd,.buf E sz<|l++l2)::del dd (B4 t Γ)):=by
 intro w0 H0 a w H B1 K Q k;simp only[Region.wanted,if_true];have hb:=B1.holds _ (B0 _<|Au ht);obtain⟨xs,hr,ho,hn⟩:=hb;have e2:AT a s=AT a t:=B1.holds _ (B0 _<|Au hs);obtain⟨ad,cap,news,ex,ho2,hc,Tx⟩:=mU B1.sub<|hx.ok<|B1.weaken B0
 have hlen:news.length=l2.length*sz:=by rw[MT ho2,Js hu]
 obtain⟨v',w',Eh,h2,h3,h4⟩:=js hT hr (F2 _) (c:=cap) hlen hc (RJ ho2) Tx GM K1 ty;unfold Oper.wp;have er:(execOp a.eval ⟨some dd,.call ⟨.builtin .append,#[.tmp s,x],#[T,T2]⟩,ty,pos,af,none⟩).run P w= .ok (.value v') w':=by
  have e3:a.eval (.tmp s)=AT a t:=e2;simp[execOp,resolve,invoke,builtin,e3,ex,kZ (nI hT) G9,Eh]
 rw[er,Nu];refine k _ w' H (V2 B1 (B0 _<|Au ht) h3 (λc hc=>⟨hc,(hn c hc).2⟩) Cp (by simp[AJ.Bn]) ⟨xs++news,by simpa using h2,R5 ho ho2,λb hb=>?_⟩ h4);rcases h4 b hb with h|h
 ·exact hn b h
 ·refine⟨?_,.inl<|CX B1.below.size h⟩;cases hh:H b with
  |none=>rfl
  |some o=>have:=Gk B1.sub hh;omega
def afG(B0:∀q∈AY,q∈Γ){hv:v.oneCell'=true}(G9:Db P T2=true)(hs:look AY s=some (.val<|TEq v hv))(ht:look AY t=some (.NV v E sz l))(hx:Arg AY x (FY l2))(hT:Fi P T E sz bytes=true)(hu:Fo sz l2)
 (GM:l.length+l2.length<=maxLen)(K1:(l.length+l2.length)*bytes<=140737488355328)(Cp:dd<N):
  Step P N ops ⟨some dd,.call ⟨.builtin .append,#[.tmp s,x],#[T,T2]⟩,ty,pos,af,none⟩ Γ ((dd,.buf E sz<|l++l2)::del dd (B4 t Γ)):=by
 intro w0 H0 a w H B1 K Q k;simp only[Region.wanted,if_true];have hb:=B1.holds _ (B0 _<|Au ht);obtain⟨xs,hr,ho,hn⟩:=hb;have e2:AT a s=v:=B1.holds _ (B0 _<|Au hs);obtain⟨ad,cap,news,ex,ho2,hc,Tx⟩:=mU B1.sub<|hx.ok<|B1.weaken B0
 have hlen:news.length=l2.length*sz:=by rw[MT ho2,Js hu]
 obtain⟨v',w',Eh,h2,h3,h4⟩:=js hT hr (F2 _) (c:=cap) hlen hc (RJ ho2) Tx GM K1 ty;unfold Oper.wp;have er:(execOp a.eval ⟨some dd,.call ⟨.builtin .append,#[.tmp s,x],#[T,T2]⟩,ty,pos,af,none⟩).run P w= .ok (.value v') w':=by
  have e3:a.eval (.tmp s)=v:=e2;simp[execOp,resolve,invoke,builtin,e3,ex,kZ (nI hT) G9,Eh]
 rw[er,Nu];refine k _ w' H (V2 B1 (B0 _<|Au ht) h3 (λc hc=>⟨hc,(hn c hc).2⟩) Cp (by simp[AJ.Bn]) ⟨xs++news,by simpa using h2,R5 ho ho2,λb hb=>?_⟩ h4);rcases h4 b hb with h|h
 ·exact hn b h
 ·refine⟨?_,.inl<|CX B1.below.size h⟩;cases hh:H b with
  |none=>rfl
  |some o=>have:=Gk B1.sub hh;omega
def agW(G9:Db P T2=true)(hs:look Γ s=some (.same t))(ht:look Γ t=some (.buf E sz l))(hx:Arg Γ x (FY l2))(hT:Fi P T E sz bytes=true)(hu:Fo sz l2)
 (GM:l.length+l2.length<=maxLen)(K1:(l.length+l2.length)*bytes<=140737488355328)(Cp:dd<N):
  Step P N ops ⟨some dd,.call ⟨.builtin .append,#[.tmp s,x],#[T,T2]⟩,ty,pos,af,none⟩ Γ ((dd,.buf E sz<|l++l2)::del dd (B4 t Γ)):=uJ (λ_ h=>h) G9 hs ht hx hT hu GM K1 Cp
def ahK(G9:Db P T2=true)(hs:look Γ s=some (.same t))(ht:look Γ t=some (.buf E sz l))(hx:Arg Γ x (FY l2))(hT:Fi P T E sz bytes=true)(hu:Fo sz l2)
 (GM:l.length+l2.length<=maxLen)(K1:(l.length+l2.length)*bytes<=140737488355328)(Cp:dd<N):
  Pa P N ops Γ ⟨some dd,.call ⟨.builtin .append,#[.tmp s,x],#[T,T2]⟩,ty,pos,af,none⟩ t dd (.buf E sz<|l++l2):=λ_ B0=>uJ B0 G9 hs ht hx hT hu GM K1 Cp
def tV(B0:∀q∈AY,q∈Γ)(G9:Db P T2=true)(ht:look AY t=some (.buf E sz l))(hx:Arg AY x (FY l2))(hT:Fi P T E sz bytes=true)(hu:Fo sz l2)
 (GM:l.length+l2.length<=maxLen)(K1:(l.length+l2.length)*bytes<=140737488355328)(Cp:dd<N):
  Step P N ops ⟨some dd,.call ⟨.builtin .append,#[.tmp t,x],#[T,T2]⟩,ty,pos,af,none⟩ Γ ((dd,.buf E sz<|l++l2)::del dd (B4 t Γ)):=by
 intro w0 H0 a w H B1 K Q k;simp only[Region.wanted,if_true];have hb:=B1.holds _ (B0 _<|Au ht);obtain⟨xs,hr,ho,hn⟩:=hb;obtain⟨ad,cap,news,ex,ho2,hc,Tx⟩:=mU B1.sub<|hx.ok<|B1.weaken B0
 have hlen:news.length=l2.length*sz:=by rw[MT ho2,Js hu]
 obtain⟨v',w',Eh,h2,h3,h4⟩:=js hT hr (F2 _) (c:=cap) hlen hc (RJ ho2) Tx GM K1 ty;unfold Oper.wp;have er:(execOp a.eval ⟨some dd,.call ⟨.builtin .append,#[.tmp t,x],#[T,T2]⟩,ty,pos,af,none⟩).run P w= .ok (.value v') w':=by
  have e3:a.eval (.tmp t)=AT a t:=rfl;simp[execOp,resolve,invoke,builtin,e3,ex,kZ (nI hT) G9,Eh]
 rw[er,Nu];refine k _ w' H (V2 B1 (B0 _<|Au ht) h3 (λc hc=>⟨hc,(hn c hc).2⟩) Cp (by simp[AJ.Bn]) ⟨xs++news,by simpa using h2,R5 ho ho2,λb hb=>?_⟩ h4);rcases h4 b hb with h|h
 ·exact hn b h
 ·refine⟨?_,.inl<|CX B1.below.size h⟩;cases hh:H b with
  |none=>rfl
  |some o=>have:=Gk B1.sub hh;omega
def afH(G9:Db P T2=true)(ht:look Γ t=some (.buf E sz l))(hx:Arg Γ x (FY l2))(hT:Fi P T E sz bytes=true)(hu:Fo sz l2)
 (GM:l.length+l2.length<=maxLen)(K1:(l.length+l2.length)*bytes<=140737488355328)(Cp:dd<N):
  Step P N ops ⟨some dd,.call ⟨.builtin .append,#[.tmp t,x],#[T,T2]⟩,ty,pos,af,none⟩ Γ ((dd,.buf E sz<|l++l2)::del dd (B4 t Γ)):=tV (λ_ h=>h) G9 ht hx hT hu GM K1 Cp
def afm(G9:Db P T2=true)(ht:look Γ t=some (.buf E sz l))(hx:Arg Γ x (FY l2))(hT:Fi P T E sz bytes=true)(hu:Fo sz l2)
 (GM:l.length+l2.length<=maxLen)(K1:(l.length+l2.length)*bytes<=140737488355328)(Cp:dd<N):
  Pa P N ops Γ ⟨some dd,.call ⟨.builtin .append,#[.tmp t,x],#[T,T2]⟩,ty,pos,af,none⟩ t dd (.buf E sz<|l++l2):=λ_ B0=>tV B0 G9 ht hx hT hu GM K1 Cp
def PB{s:AJ}(ht:look Γ t=some s)(hl:s.Bn=[])(Cp:dd<N)(o:Op)(ho:o= .assign (.tmp t)\/o= .move (.tmp t)):
  Pa P N ops Γ ⟨some dd,o,ty,pos,af,none⟩ t dd s:=by
 intro Dx B0 w0 H0 a w H B1 K Q k;simp only[Region.wanted,if_true];have er:(execOp a.eval ⟨some dd,o,ty,pos,af,none⟩).run P w= .ok (.value<|AT a t) w:=by rcases ho with rfl|rfl<;>rfl
 unfold Oper.wp;rw[er,Nu];exact k _ w H (V2 B1 (B0 _<|Au ht) (lN w) (λ_ e=>by cases e) Cp (by rw[hl];simp) (B1.holds _<|B0 _<|Au ht) λ_ h=> .inl h)
def CO{s:AJ}(ht:look Γ t=some s)(hl:s.Bn=[])(Cp:dd<N)(o:Op)(ho:o= .assign (.tmp t)\/o= .move (.tmp t)):
  Step P N ops ⟨some dd,o,ty,pos,af,none⟩ Γ ((dd,s)::del dd (B4 t Γ)):=by
 intro w0 H0 a w H B1 K Q k;simp only[Region.wanted,if_true];have er:(execOp a.eval ⟨some dd,o,ty,pos,af,none⟩).run P w= .ok (.value<|AT a t) w:=by rcases ho with rfl|rfl<;>rfl
 unfold Oper.wp;rw[er,Nu];exact k _ w H (V2 B1 (Au ht) (lN w) (λ_ e=>by cases e) Cp (by rw[hl];simp) (B1.holds _<|Au ht) λ_ h=> .inl h)
def AU{a b:Nat}(h:Nat.blt a b=true):a<b:=EP h
def IB(n:Nat)(agg:Bool):Ty where
 n:=n
 agg:=agg
 ok:=λ_ v=>Shape n agg v
 mono:=λ_ h=>h
 shape:=λh=>h
def ahN(cs0:Aw AO)(off:Nat):∀(l:A3 AO) (k:Nat),(off+k+l.length<=cs0.size)->
  (l.zipIdx k).foldl (λcs (x:AO×Nat)=>cs.setIfInBounds (off+x.2) x.1) cs0=(cs0.toList.take (off+k)++l++cs0.toList.drop (off+k+l.length)).toArray:=by
 intro l
 induction l generalizing cs0 with
 |nil=>intro k _;simp
 |cons v l ih=>
  intro k hk;simp only[DF] at hk;simp only[List.zipIdx_cons,fT];rw[ih _ (k+1) (by simp;omega)]
  congr 1
  simp only[ft,DF];have hlt:off+k<cs0.toList.length:=by simp;omega
  have h1:List.take (off+(k+1)) (cs0.toList.set (off+k) v)=List.take (off+k) cs0.toList++[v]:=by
   rw[<-KY,List.take_succ_eq_append_getElem (by simpa using hlt)];simp[List.take_set];rw[List.set_eq_of_length_le (by simp;omega)]
  have h2:List.drop (off+(k+1)+l.length) (cs0.toList.set (off+k) v)=List.drop (off+k+(l.length+1)) cs0.toList:=by
   rw[fg (by omega)]
   congr 1;omega
  rw[h1,h2];simp
inductive Dp(P:Bs)(Γ:Ctx):A3 (Nat×Bu)->A3 Ty->A3 Ty->Prop where
 |nil {l:A3 Ty}:Dp P Γ [] l l
 |cons {i:Nat} {x:Bu} {τ σ:Ty} {ps:A3 (Nat×Bu)} {l l':A3 Ty} (hx:Arg Γ x σ) (hi:l[i]? =some τ) (hn:σ.n=τ.n) (r:Dp P Γ ps (l.set i σ) l'):Dp P Γ ((i,x)::ps) l l'
def Ey(l:A3 Ty):A3 Nat:=l.map (·.n)
def wU{i:Nat}{σ:Ty}(h:l[i]? =some τ)(hn:σ.n=τ.n):Ey (l.set i σ)=Ey l:=by
 simp only[Ey,TT];apply VW;intro j;rw[List.getElem?_set];split
 ·rename_i e;subst e;split
  ·simp[h,hn]
  ·rename_i hlt;have:=(EC.1 h).1;simp at hlt;omega
 ·rfl
def Dp.fill{ps:A3 (Nat×Bu)}{l l':A3 Ty}(h:Dp P Γ ps l l'){place:Nat->A6 (Nat×Nat)}(JE:∀i n,(Ey l)[i]? =some n->place i=some (((Ey l).take i).sum,n))
  {w0:AX P}{H0:HV}{N:Nat}{a:Act}{w:AK}{H:HV}(hs:Sat w0 H0 N Γ a w H):∀{cells:Aw AO},D4 H l cells.toList->
   ∃Gi,Instr.fill place cells (ps.map λp=>(p.1,a.eval p.2))=some Gi/\D4 H l' Gi.toList:=by
 induction h with
 |nil=>exact λh=>⟨_,rfl,h⟩
 | @cons i x τ σ ps l l' hx hi hn r ih=>
  intro cells Al;have hv:=hx.ok hs;have hsz:=(σ.shape hv).size;obtain⟨p1,_⟩:=My Al hi;have MG:=TO Al hi hn hv;have zV:=JE i τ.n (by simp[Ey,hi]);have qV:((Ey l).take i).sum=Bx (l.take i):=by simp[Ey,Bx,oO]
  rw[qV] at zV;have hlen:cells.toList.length=cells.size:=by simp
  rw[hlen] at p1;have aaI:=ahN cells (Bx<|l.take i) (a.eval x).cells.toList 0 (by simp;omega);simp only[Re,EB] at aaI;have hnn:(a.eval x).cells.size=τ.n:=by omega
  obtain⟨Gi,h1,h2⟩:=ih (by rw[wU hi hn];exact JE) (cells:=(cells.toList.take (Bx<|l.take i)++(a.eval x).cells.toList++cells.toList.drop (Bx (l.take i)+(a.eval x).cells.size)).toArray) (by rw[hnn];simpa using MG);refine⟨Gi,?_,h2⟩;simp only[LD,Instr.fill,zV];rw[if_neg (by simp;omega)];have e:Array.foldl (λcs (x:AO×Nat)=>cs.setIfInBounds (Bx (List.take i l)+x.snd) x.fst) cells (a.eval x).cells.zipIdx=(List.take (Bx<|List.take i l) cells.toList++(a.eval x).cells.toList++List.drop (Bx (List.take i l)+(a.eval x).cells.size) cells.toList).toArray:=by
   rw[<-aaI,<-Array.foldl_toList,Array.toList_zipIdx]
  rw[<-h1]
  congr 1
def N4(P:Bs)(T:Af)(ns:A3 Nat):Bool:=
 match P.underlying T with
 |some (.struct fs)=>fs.toList.map (·.offset)==(List.range ns.length).map (λi=>(ns.take i).sum)&&(fs.toList.map (λf=>(P.info? f.type).map (·.size))==ns.map some)
 |_=>false
def afh{fs:A3 Field}:∀{ns:A3 Nat},fs.map (λf=>(P.info? f.type).map (·.size))=ns.map some->∀w,(fs.mapM λf=>do pure (f.offset,<-Go.sizeOf f.type):Sem (A3<|Nat×Nat)).run P w= .ok ((fs.map (·.offset)).zip ns) w:=by
 induction fs with
 |nil=>intro ns h w;cases ns<;>simp_all
 |cons f fs ih=>
  intro ns h w;cases ns with
  |nil=>simp at h
  |cons n ns=>
   simp only[LD,Yf] at h;obtain⟨h1,h2⟩:=h;cases hi:P.info? f.type with
   |none=>rw[hi] at h1;cases h1
   |some i=>
    rw[hi] at h1;simp at h1;have:=ih h2 w;simp only[List.mapM_cons,Df,Go.sizeOf,typeInfo,program,Sem.run,hi,JN,DP,h1];simp only[Go.sizeOf,typeInfo,program] at this;rw[this];simp
def dq(hz:DS P T (Co l))(hT:N4 P T (Ey l)=true)(hp:Dp P Γ ps l l'):Aq P Γ ⟨d,.build T ps.toArray,ty,pos,af,g⟩ (.val<|Co l'):=
 DL λw0 H0 N a w H hs=>by
  obtain⟨z,hzr,hzo⟩:=hz.run w;obtain⟨zc,rfl,qO⟩:=hzo H;unfold N4 at hT;split at hT
  ·rename_i fs hu;simp only[BU,Q5] at hT;obtain⟨h1,h2⟩:=hT;have hm:=afh h2 w;have JE:∀i n,(Ey l)[i]? =some n->((fs.toList.map (·.offset)).zip<|Ey l).toArray[i]? =some (((Ey l).take i).sum,n):=by
    intro i n hi;have hlt:=(EC.1 hi).1;simp only[List.getElem?_toArray,h1];rw[oN];refine⟨?_,hi⟩;simp[hlt]
   obtain⟨Gi,hf,Al⟩:=hp.fill JE hs qO;have hmA:(fs.mapM λf=>do pure (f.offset,<-Go.sizeOf f.type):Sem (Aw<|Nat×Nat)).run P w= .ok ((fs.toList.map (·.offset)).zip<|Ey l).toArray w:=by
    have e:(fs.mapM λf=>do pure (f.offset,<-Go.sizeOf f.type):Sem (Aw<|Nat×Nat))=List.toArray<$>(fs.toList.mapM λf=>do pure (f.offset,<-Go.sizeOf f.type)):=by
     rw[<-List.mapM_toArray]
    rw[e,Sem.run_map,hm]
    rfl
   refine⟨.agg Gi,?_,⟨Gi,rfl,Al⟩,rfl⟩;have e2:(ps.toArray.map λ(i,x)=>(i,a.eval x)).toList=ps.map λp=>(p.1,a.eval p.2):=by simp
   have hf':Instr.fill (λi=>((fs.toList.map (·.offset)).zip<|Ey l).toArray[i]?) zc (ps.toArray.map λ(i,x)=>(i,a.eval x)).toList=some Gi:=by rw[e2];exact hf
   simp only[execOp,Instr.build,Df,hzr,DP,EY hu,Value.cells];rw[hmA];simp only[DP];rw[hf'];simp
  ·cases hT
def Xb(hz:DS P T (Co l))(hT:Kw P T n sz=true)(hu:Fo sz l)(hp:Dp P Γ ps l l'):Aq P Γ ⟨d,.build T ps.toArray,ty,pos,af,g⟩ (.val<|Co l'):=
 DL λw0 H0 N a w H hs=>by
  obtain⟨z,hzr,hzo⟩:=hz.run w;obtain⟨zc,rfl,qO⟩:=hzo H;obtain⟨e,i,hue,hi,hsz⟩:=nH hT;have JE:∀i n,(Ey l)[i]? =some n->(λi=>some (i*sz,sz)) i=some (((Ey l).take i).sum,n):=by
   intro i n hi;have hlt:=(EC.1 hi).1;simp[Ey] at hlt;simp only[Ey,GX,Option.map_eq_some_iff] at hi;obtain⟨τ,hτ,rfl⟩:=hi;have h1:=hu τ<|Km hτ
   have h2:=Js<|hu.take i
   simp only[Bx,DI,Dt<|VI hlt] at h2;simp[Ey,<-List.map_take,h1,h2]
  obtain⟨Gi,hf,Al⟩:=hp.fill JE hs qO;refine⟨.agg Gi,?_,⟨Gi,rfl,Al⟩,rfl⟩;have e2:(ps.toArray.map λ(i,x)=>(i,a.eval x)).toList=ps.map λp=>(p.1,a.eval p.2):=by simp
  have hf':Instr.fill (λi=>some (i*sz,sz)) zc (ps.toArray.map λ(i,x)=>(i,a.eval x)).toList=some Gi:=by rw[e2];exact hf
  have Hn:(Go.sizeOf e).run P w= .ok sz w:=by simp[Go.sizeOf,typeInfo,program,Sem.run,hi,hsz]
  simp only[execOp,Instr.build,Df,hzr,DP,EY hue,Value.cells,Hn];rw[hf'];simp
def mK{z:AO}(hz:τ.ok H z)(n:Nat):D4 H (List.replicate n τ) ((Array.range<|n*τ.n).map<|λi=>z.cells[i%z.cells.size]!).toList:=by
 have hs:=τ.shape hz
 induction n with
 |zero=>simp[D4]
 |succ n ih=>
  have e:((Array.range<|(n+1)*τ.n).map<|λi=>z.cells[i%z.cells.size]!).toList=((Array.range<|n*τ.n).map<|λi=>z.cells[i%z.cells.size]!).toList++z.cells.toList:=by
   simp only[Array.toList_map,Array.toList_range];rw[Rc,List.range_add,LJ,TR]
   congr 1
   apply List.ext_getElem
   ·simp[hs.size]
   ·intro i h1 h2;simp at h2;simp only[List.getElem_map,List.getElem_range,Function.comp,Array.getElem_toList];rw[hs.size,P2,Nat.add_mul_mod_self_right,Rj (by rw[<-hs.size];exact h2)];rw[JM]
  rw[e,List.replicate_succ'];exact R5 ih ⟨z,[],by simp,hz,rfl⟩
def GZ(P:Bs)(T:Af)(E:Af)(sz:Nat):Bool:=
 match P.underlying T with
 |some (.slice e)=>Nat.beq e E&&(match P.info? e with|some i=>Nat.beq i.size sz|none=>false)
 |_=>false
def sr(hz:DS P E τ)(hT:GZ P T E sz=true)(hsz:τ.n=sz)(hpos:Nat.blt 0 (n*sz)=true)(hn:Nat.ble (n*sz) 16777216=true)(hp:Dp P Γ ps (List.replicate n τ) l')(hl:l'.length=n):
  Aq P Γ ⟨d,.buildSlice T n ps.toArray,ty,pos,af,g⟩ (.val<|FY l'):=
 Lr λw0 H0 N a w H hs=>by
  obtain⟨z,hzr,hzo⟩:=hz.run w;have aaE:=AU hpos;unfold GZ at hT;split at hT
  ·rename_i e hu;simp only[BU] at hT;obtain⟨h1,h2⟩:=hT;have h1:=Dj h1;subst h1;split at h2
   ·rename_i i hi;have h2:=Dj h2;have hz0:=mK (hzo H) n;rw[hsz] at hz0;have JE:∀i m,(Ey<|List.replicate n τ)[i]? =some m->(λi=>some (i*sz,sz)) i=some (((Ey<|List.replicate n τ).take i).sum,m):=by
     intro i m hi;simp only[Ey,fe,List.getElem?_replicate] at hi;split at hi
     ·rename_i hlt;simp at hi;subst hi;simp[Ey,fe,Yl,hsz,Dt<|VI hlt]
     ·cases hi
    obtain⟨Gi,hf,Al⟩:=hp.fill JE hs hz0;have e2:(ps.toArray.map λ(i,x)=>(i,a.eval x)).toList=ps.map λp=>(p.1,a.eval p.2):=by simp
    have Hn:(Go.sizeOf e).run P w= .ok sz w:=by simp[Go.sizeOf,typeInfo,program,Sem.run,hi,h2]
    have hle:n*sz<=16777216:=EP hn;have as0:∀zc:Aw AO,((Array.range<|n*sz).map<|λi=>zc[i%zc.size]!)=((Array.range<|n*sz).map<|λi=>z.cells[i%z.cells.size]!)->Instr.fill (λi=>some (i*sz,sz)) ((Array.range<|n*sz).map<|λi=>zc[i%zc.size]!) (ps.toArray.map λ(i,x)=>(i,a.eval x)).toList=some Gi:=by
     intro zc hzc;rw[hzc,e2];exact hf
    have hb:F1 w.heap.size w (w.alloc<| .cells Gi e):=F1.alloc _;refine⟨.slice (some ⟨w.heap.size,0,none⟩) n n,w.alloc<| .cells Gi e,grow H w<|w.alloc<| .cells Gi e,?_,Ext.grown hs.sub hb,?_,λb hb=>absurd hb<|AJ.free_spec rfl⟩
    ·have h0: ¬n*sz=0:=by omega
     have hff:=as0 z.cells rfl;simp only[execOp,Instr.buildSlice,Df,DP,EY hu,Hn];rw[if_neg (by omega)];simp only[Df,JN,DP,if_neg h0,hzr];rw[hff];simp[newRow]
    ·refine⟨_,n,by rw[hl],by omega,λ_=>⟨w.heap.size,0,Gi,e,(0,0),rfl,?_,?_,?_⟩⟩
     ·simp only[grow,Nat.lt_irrefl,if_false];exact LF w _
     ·have:=MT Al;simp at this;omega
     ·have hlen:=MT Al;rw[P4,CB (by omega)];exact Pt (Ext.grown hs.sub hb).le Al
   ·cases h2
  ·cases hT
end
section
variable[D:DR]
variable{P:Program}{w0:AX P}{H0:HV}{N:Nat}{Γ Ae:Ctx}{d:Option Tmp}{ty:TypeId}{pos:String}{af:Array Edge}{g:Option (Nat×Bool)}
def A5{Q:Exit->Act->AK->Prop}{y:Code}(h:Goal P w0 H0 N y Q Γ):E1 w0 H0 N (λa w=>y.wpIn (FB w0.rd) 0 P Q a w) Γ:=h
def sc(t:Nat){s:AJ}{ts:A3 Nat}(h:look Γ t=some s)(r:E2 Γ ts Ae):E2 Γ (t::ts) ((t,s)::Ae):=E2.cons h r
end
section
variable[D:DR]
variable{P:Program}{w0:AX P}{H0:HV}{N:Nat}{ops:Array Oper}{Γ Ae:Ctx}{d:Option Tmp}{ty:TypeId}{pos:String}{af:Array Edge}{g:Option (Nat×Bool)}
variable{sz:Nat}{l:A3 Ty}{T E:Af}{x:Bu}{t j p:Nat}{σ:Ty}{H:HV}{ρ:Ty}
def mkB(P:Bs)(T E sz bytes:Nat):Bool:=
 match P.underlying T with
 |some (.slice e)=>Nat.beq e E&&(match P.info? e with|some i=>Nat.beq i.size sz&&Nat.beq i.bytes bytes&&Nat.blt 0 sz|none=>false)
 |_=>false
def akX{bytes:Nat}{y:Bu}{n:Nat}{τ:Ty}(hT:mkB P T E sz bytes=true)(hz:DS P E τ)(hsz:τ.n=sz)(hx:Arg Γ x (TI .i64 n))(hy:Arg Γ y (TI .i64 n))(hn:n<=9223372036854775807)(hb:bytes*n<=140737488355328):
  Aq P Γ ⟨d,.makeSlice T x y,ty,pos,af,g⟩ (.buf E sz<|List.replicate n τ):=
 Lr λw0 H0 N a w H hs=>by
  obtain⟨z,hzr,hzo⟩:=hz.run w;have e1:a.eval x= .int .i64 n:=hx.ok hs;have e2:a.eval y= .int .i64 n:=hy.ok hs;unfold mkB at hT;split at hT
  ·rename_i e hu;simp only[BU] at hT;obtain⟨h1,h2⟩:=hT;have h1:=Dj h1;subst h1;split at h2
   ·rename_i i hi;simp only[BU] at h2;obtain⟨⟨h2,h3⟩,h4⟩:=h2;have h2:=Dj h2;have h3:=Dj h3;have h4:=AU h4;have hz0:=mK (hzo H) n;rw[hsz] at hz0;have hw:IntKind.i64.wrap (n:Int)=n:=wrap_i64 (by unfold DB;omega);have MH: ¬((bytes:Int)*n>2^48):=by
     have:((bytes*n:Nat):Int)<=140737488355328:=by omega
     simp only[M1] at this;omega
    have Hn:∀w,(Go.sizeOf e).run P w= .ok sz w:=λw=>by simp[Go.sizeOf,typeInfo,program,Sem.run,hi,h2]
    have hti:∀w,(typeInfo e).run P w= .ok i w:=λw=>by simp[typeInfo,program,Sem.run,hi]
    have SB:askRoom ((n:Int).toNat*i.bytes)=pure ():=by
     unfold askRoom roomBytes;rw[if_neg];rw[h3,CA,Jw];omega
    have B2:F1 w.heap.size w (w.alloc<| .cells ((Array.range<|n*sz).map<|λi=>z.cells[i%z.cells.size]!) e):=F1.alloc _;have Eh:(Instr.makeSlice T (.int .i64 n)<| .int .i64 n).run P w= .ok (.slice (some ⟨w.heap.size,0,none⟩) n n) (w.alloc<| .cells ((Array.range<|n*sz).map<|λi=>z.cells[i%z.cells.size]!) e):=by
     have HF: ¬((n:Int)<0):=by omega
     unfold Instr.makeSlice;simp only[Df,EY hu,DP,asInt,asIntOf,JN,hti,hw,h3,SB,CA,Hn];have ap7:(decide ((n:Int)<0)||decide ((bytes:Int)*n>2^48))=false:=by simp[HF];omega
     simp only[ap7];simp only[TX,false_or,HF,Int.lt_irrefl,or_self,if_false,Df,JN,DP,Hn];by_cases h0:n*sz=0
     ·have KJ:(Array.range 0:Aw Nat)= #[]:=rfl;simp[Hn,h0,newRow,KJ]
     ·simp[Hn,h0,hzr,newRow]
    refine⟨_,_,H,by simp only[execOp,e1,e2,Df,Eh,DP];rfl,Ext.alloc hs.sub _,⟨((Array.range<|n*sz).map<|λi=>z.cells[i%z.cells.size]!).toList,⟨by simp,.inr ⟨w.heap.size,n,_,by simp,F2 _,LF w _,by simp,?_,by simp,?_⟩⟩,hz0,?_⟩,?_⟩
    ·simp only[maxLen];omega
    ·rw[CB (by simp)]
    ·intro b hb;simp[Value.ownBlock] at hb;subst hb;refine⟨?_,.inl hs.below.size⟩;cases hh:H w.heap.size with
     |none=>rfl
     |some o=>have:=Gk hs.sub hh;omega
    ·intro b hb;simp[AJ.owns,Value.ownBlock] at hb;omega
   ·cases h2
  ·cases hT
def VD{B:AX P}{a:Act}{w:AK}{v:AO}(h:(AJ.buf E sz l).holds B a w H v)(hne:l≠[]):∃b cap cs xs,v= .slice (some ⟨b,0,none⟩) l.length cap/\w.heap[b]? =some (.cells cs E (0,0))/\l.length<=cap/\cap<=maxLen/\cs.size=cap*sz/\xs.length=l.length*sz/\cs.toList.take (l.length*sz)=xs/\D4 H l xs/\H b=none/\B.Du b:=by
 obtain⟨xs,⟨hx,hc⟩,ho,hn⟩:=h;rcases hc with⟨e,hl⟩|⟨g,cap,cur,e,hB,hg,hcap,hm,hcs,ht⟩
 ·exact absurd (JS hl) hne
 ·subst e;exact⟨g,cap,cur,xs,rfl,hg,hcap,hm,hcs,hx,ht,ho,(hn g rfl).1,(hn g rfl).2⟩
def ae3{s:Nat}{ix:Bu}{k:IntKind}{i:Int}(hs:look Γ s=some (.same t))(ht:look Γ t=some (.buf E sz l))(hT:Fl P T sz=true)(hi:Arg Γ ix (TI k i))(h0:0<=i)(h1:i<l.length):
  Aq P Γ ⟨d,.indexAddr T (.tmp s) ix,ty,pos,af,g⟩ (.JX t i.toNat sz):=
 DL λw0 _ _ a w H B1=>by
  obtain⟨b,cap,cs,xs,e,hb,_⟩:=VD (B1.holds _<|Au ht) (λe=>by rw[e] at h1;simp at h1;omega);have e2:AT a s=AT a t:=B1.holds _<|Au hs
  have e3:a.eval (.tmp s)= .slice (some ⟨b,0,none⟩) l.length cap:=e2.trans e;have ei:a.eval ix= .int k i:=hi.ok B1;exact⟨.pointer<|some ⟨b,0+i.toNat*sz,none⟩,by simp[execOp,e3,ei,jr hT b 0 l.length cap h0 h1],⟨b,_,cap,e,by simp⟩,rfl⟩
def ae2(hp:look Γ p=some (.JX t j sz))(ht:look Γ t=some (.buf E sz l))(hu:Fo sz l)(hj:l[j]? =some σ)(hT:BX P T σ.n σ.agg=true):
  Aq P Γ ⟨d,.load T<| .tmp p,ty,pos,af,g⟩ (.val σ):=
 DL λw0 _ _ a w H B1=>by
  have Ip:=(EC.1 hj).1;obtain⟨b,cap,cs,xs,e,hb,hcap,_,hcs,hx,htake,ho,_,_⟩:=VD (B1.holds _<|Au ht) (λe=>by rw[e] at Ip;simp at Ip);obtain⟨b',qL,Zp,e1,e2⟩:=B1.holds _<|Au hp
  simp only at e e1;rw[e] at e1;cases e1;have e3:a.eval (.tmp p)= .pointer (some ⟨b,j*sz,none⟩):=e2;obtain⟨p1,p2⟩:=My ho hj;have hc:Bx (l.take j)=j*sz:=by rw[Js<|hu.take _,DI,Dt (by omega)]
  rw[hc] at p1 p2;have iJ:l.length*sz<=cs.size:=by rw[hcs];exact Hg _ hcap
  have LY:List.take σ.n (List.drop (j*sz) cs.toList)=List.take σ.n (List.drop (j*sz) xs):=by
   rw[<-htake,Lz,NA]
   congr 1;omega
  refine⟨_,?_,p2,rfl⟩;have hr:=Qp (P:=P) hT hb (off:=j*sz) (by omega);rw[LY] at hr;simp[execOp,e3,Instr.loadAt,Instr.sureAddr,hr]
def vt{α:Type _}{cs y:A3 α}{o s n:Nat}(hy:y.length=s)(h1:o+s<=n)(h2:n<=cs.length):
  List.take n (cs.take o++y++cs.drop (o+s))=List.take o (cs.take n)++y++List.drop (o+s) (cs.take n):=by
 have e1:(cs.take o++y).length=o+s:=by simp[hy];omega
 rw[Yk,e1,CB (by omega),NA,Dt (by omega),Lz]
def sC{AY:Ctx}(B0:∀q∈AY,q∈Γ)(hp:look AY p=some (.JX t j sz))(ht:look AY t=some (.buf E sz l))(hu:Fo sz l)(hj:l[j]? =some ρ)(hx:Arg AY x σ)(hn:σ.n=sz)(hT:BX P T σ.n σ.agg=true):
  Step P N ops ⟨none,.store T (.tmp p) x,ty,pos,af,none⟩ Γ ((t,.buf E sz<|l.set j σ)::B4 t Γ):=by
 intro w0 H0 a w H B1 K Q k;simp only[Region.wanted,if_true];have Ip:=(EC.1 hj).1;obtain⟨b,cap,cs,xs,e,hb,hcap,hml,hcs,Fx,htake,ho,hH,hB⟩:=VD (B1.holds _ (B0 _<|Au ht)) (λe=>by rw[e] at Ip;simp at Ip);obtain⟨b',qL,Zp,e1,e2⟩:=B1.holds _ (B0 _<|Au hp);simp only at e e1;rw[e] at e1;cases e1;have ep:a.eval (.tmp p)= .pointer (some ⟨b,j*sz,none⟩):=e2;have HK:=hx.ok<|B1.weaken B0
 have By:=σ.shape HK;have hρ:ρ.n=sz:=hu ρ<|Km hj
 have hc:Bx (l.take j)=j*sz:=by rw[Js<|hu.take _,DI,Dt (by omega)]
 obtain⟨p1,_⟩:=My ho hj;rw[hc,hρ] at p1;have MG:=TO ho hj (hn.trans hρ.symm) HK;rw[hc,hρ] at MG;have iJ:l.length*sz<=cs.size:=by rw[hcs];exact Hg _ hcap
 have Eh:=Sd (P:=P) (off:=j*sz) (TC hT) By.size hb (by rw[hn];omega) By.cell;rw[hn] at Eh;unfold Oper.wp;have er:(execOp a.eval ⟨none,.store T (.tmp p) x,ty,pos,af,none⟩).run P w= .ok .skip (w.setRow b (cs.toList.take (j*sz)++(a.eval x).cells.toList++cs.toList.drop (j*sz+sz)).toArray):=by
  simp[execOp,ep,Instr.storeAt,Instr.sureAddr,Eh]
 rw[er,Q8]
 generalize Zh:(cs.toList.take (j*sz)++(a.eval x).cells.toList++cs.toList.drop (j*sz+sz)).toArray=Dd
 have hg:E9 w (w.setRow b Dd) (some b):=E9.setRow w b _;have hlen:(a.eval x).cells.toList.length=sz:=by rw[EB,By.size,hn]
 refine k a _ H (Oa B1 (B0 _<|Au ht) hg hB (by simp[AJ.owns,e,Value.ownBlock]) ?_ λc hc=> .inl hc);refine⟨_,⟨?_,.inr ⟨b,cap,Dd,by simpa using e,F2 _,TP w b _ _ _ _ hb,by simpa using hcap,hml,?_,rfl⟩⟩,?_,?_⟩
 ·rw[<-Zh];simp only[JP,DI,VX,ES,hlen,H9,EB];omega
 ·rw[<-Zh,<-hcs];simp only[VX,ES,DI,hlen,H9,EB];omega
 ·have:List.take (l.length*sz) Dd.toList=List.take (j*sz) xs++(a.eval x).cells.toList++List.drop (j*sz+sz) xs:=by
   rw[<-Zh,<-htake];exact vt hlen (by omega) (by simp;omega)
  simp only[JP];rw[this];exact MG
 ·intro c hc;simp[e,Value.ownBlock] at hc;subst hc;exact⟨hH,hB⟩
def adf(hp:look Γ p=some (.JX t j sz))(ht:look Γ t=some (.buf E sz l))(hu:Fo sz l)(hj:l[j]? =some ρ)(hx:Arg Γ x σ)(hn:σ.n=sz)(hT:BX P T σ.n σ.agg=true):
  Step P N ops ⟨none,.store T (.tmp p) x,ty,pos,af,none⟩ Γ ((t,.buf E sz<|l.set j σ)::B4 t Γ):=sC (λ_ h=>h) hp ht hu hj hx hn hT
def acr(hp:look Γ p=some (.JX t j sz))(ht:look Γ t=some (.buf E sz l))(hu:Fo sz l)(hj:l[j]? =some ρ)(hx:Arg Γ x σ)(hn:σ.n=sz)(hT:BX P T σ.n σ.agg=true):
  PY P N ops Γ ⟨none,.store T (.tmp p) x,ty,pos,af,none⟩ t (.buf E sz<|l.set j σ):=λ_ B0=>sC B0 hp ht hu hj hx hn hT
def sv(hu:Fo sz l):∀{cs:A3 AO},D4 H l cs->∀(lo hi:Nat),D4 H ((l.take hi).drop lo) ((cs.take<|hi*sz).drop<|lo*sz):=by
 induction l with
 |nil=>intro cs h lo hi;have:cs=[]:=h;subst this;simp[D4]
 |cons τ l ih=>
  rintro cs ⟨v,rest,e,hv,hr⟩ lo hi;subst e;have h1:τ.n=sz:=hu τ (by simp);have hvs:v.cells.toList.length=sz:=by rw[EB,(τ.shape hv).size,h1]
  cases hi with
  |zero=>simp[D4]
  |succ hi=>
   have ht:List.take ((hi+1)*sz) (v.cells.toList++rest)=v.cells.toList++List.take (hi*sz) rest:=by
    rw[Rc,P2,Yk,hvs,CB (by omega)]
    congr 2;omega
   rw[ht];cases lo with
   |zero=>
    have:=ih (λx hx=>hu x (by simp[hx])) hr 0 hi;simp only[P4,fH,fh] at this⊢;exact⟨v,_,rfl,hv,this⟩
   |succ lo=>
    have hd:List.drop ((lo+1)*sz) (v.cells.toList++List.take (hi*sz) rest)=List.drop (lo*sz) (List.take (hi*sz) rest):=by
     rw[Rc,P2,Nw,hvs,MZ (by omega)];simp
    rw[hd];exact ih (λx hx=>hu x (by simp[hx])) hr lo hi
def aly(hu:Fo sz l){ad:A6 Addr}{len cap:Nat}(h:(FY l).ok H (.slice ad len cap)){lo hi m:Nat}(hlh:lo<=hi)(hhl:hi<=l.length)(nc:Nat)(hnc:hi-lo<=nc)(hm:m=lo->lo=hi):
  (FY<|(l.take hi).drop lo).ok H (.slice (if m=lo then ad else ad.map (·.add (lo*sz))) (hi-lo) nc):=by
 obtain⟨ad',Zp,e,hcap,hx⟩:=h;cases e;have hlen:((l.take hi).drop lo).length=hi-lo:=by simp;omega
 refine⟨if m=lo then ad else ad.map (·.add (lo*sz)),nc,by rw[hlen],by omega,λhne=>?_⟩;have hne':l≠[]:=by intro e;subst e;simp at hne
 have hlt:lo<hi:=by
  apply CC;intro KN;exact hne (JS (by omega))
 obtain⟨b,off,cs,E,fr,e1,hb,hs,ho⟩:=hx hne';subst e1;have hml: ¬m=lo:=λe=>by have:=hm e;omega
 have hlc:Bx l=l.length*sz:=Js hu;have B0:(Fo sz<|(l.take hi).drop lo):=λx hx=>hu x<|OA<|QC hx
 have hcn:Bx ((l.take hi).drop lo)=(hi-lo)*sz:=by rw[Js B0,hlen]
 have hmul:hi*sz<=l.length*sz:=Hg _ hhl;have atH:(hi-lo)*sz+lo*sz=hi*sz:=by rw[<-Iv];congr 1;omega
 refine⟨b,off+lo*sz,cs,E,fr,by simp[hml,addr_add],hb,by omega,?_⟩;have:=sv hu ho lo hi;rw[hcn];have e2:List.take ((hi-lo)*sz) (List.drop (off+lo*sz) cs.toList)=List.drop (lo*sz) (List.take (hi*sz)<|List.take (Bx l)<|List.drop off cs.toList):=by
  rw[NA,Dt (by omega),Lz,F4]
  congr 1;omega
 rw[e2];exact this
def aie{lo hi:A6 Bu}{i:Nat}(hT:Fl P T sz=true)(hx:Arg Γ x (FY l))(hu:Fo sz l)
 (FG:(lo=none/\i=0)\/∃y k,lo=some y/\Arg Γ y (TI k i))(KM:(hi=none/\j=l.length)\/∃y k,hi=some y/\Arg Γ y (TI k j))(Jm:i<=j)(Ip:j<=l.length):
  Aq P Γ ⟨d,.slice T x lo hi none,ty,pos,af,g⟩ (.val<|FY<|(l.take j).drop i):=
 DL λw0 _ _ a w H hs=>by
  have hxo:=hx.ok hs;have arE:=hxo;obtain⟨ad,cap,e,hcap,hxx⟩:=arE;rw[e] at hxo;obtain⟨el,ii,hue,hii,hsz⟩:=na hT;have Hn:∀w,(Go.sizeOf el).run P w= .ok sz w:=λw=>by simp[Go.sizeOf,typeInfo,program,Sem.run,hii,hsz]
  have hbd:(Instr.sliceBounds true l.length cap (lo.map a.eval) (hi.map a.eval) none).run P w= .ok (i,j,cap) w:=by
   have b1:∀(k:IntKind) (code:BoundsCode),(Instr.sliceBound (.int k (j:Int)) cap code).run P w= .ok j w:=λk code=>by
    have:(j:Int)<=cap:=by omega
    simp[Instr.sliceBound,asIntOf];omega
   have b2:∀(k:IntKind) (code:BoundsCode),(Instr.sliceBound (.int k (i:Int)) j code).run P w= .ok i w:=λk code=>by
    simp[Instr.sliceBound,asIntOf];omega
   rcases FG with⟨e1,e2⟩|⟨y,k,e1,e2⟩<;>rcases KM with⟨f1,f2⟩|⟨z,k',f1,f2⟩
   ·subst e1;subst f1;subst e2;subst f2;simp[Instr.sliceBounds]
   ·subst e1;subst f1;subst e2;have ez:a.eval z= .int k' j:=f2.ok hs;simp[Instr.sliceBounds,ez,b1]
   ·subst e1;subst f1;subst f2;have ey:a.eval y= .int k i:=e2.ok hs;simp[Instr.sliceBounds,ey,b2]
   ·subst e1;subst f1;have ey:a.eval y= .int k i:=e2.ok hs;have ez:a.eval z= .int k' j:=f2.ok hs;simp[Instr.sliceBounds,ey,ez,b1,b2]
  refine⟨_,?_,aly hu hxo Jm Ip (m:=cap) (cap-i) (by omega) (λe=>by omega),rfl⟩;have e3:a.eval x= .slice ad l.length cap:=e;simp[execOp,e3,Instr.sliceAt,EY hue,Instr.slice,hbd,Hn]
end
section
variable[D:DR]
variable{P:Program}{N:Nat}{ops:Array Oper}{Γ Ae:Ctx}{d:Option Tmp}{ty:TypeId}{pos:String}{af:Array Edge}{g:Option (Nat×Bool)}
variable{T:Af}{α:Type}{x:Bu}{f:α->Ty}{l:A3 α}{sz t:Nat}{n:Int}{y:Bu}{E T':Af}{k:IntKind}{m i r:Int}{H:HV}{w0:AX P}{j p:Nat}{z:α}{bytes:Nat}{v:AO}{off:Nat}{τ:Ty}{ix:Bu}{dd:Nat}{T2:Af}{len:Nat}{a:Act}{w:AK}{Ec:Aw Af}{σ:Ty}{b:Bool}{lo hi:A6 Bu}{H0:HV}{k':IntKind}{xs:A3 Bu}{args BP:A3 Ty}
def K3{o:Oper}{s s':AJ}(h:Aq P Γ o s)(e:s=s'):Aq P Γ o s':=e▸h
@[reducible] def TS(l:A3 UInt8):Ty:=SZ ⟨l.toArray⟩
@[reducible] def lT{α:Type}(f:α->Ty)(l:A3 α):A3 Ty:=l.map f
@[reducible] def TL{α:Type}(f:α->Ty)(l:A3 α):Ty:=FY<|lT f l
@[reducible] def Zt{α:Type}(f:α->Ty)(l:A3 α):Ty:=Co<|lT f l
def TN{α:Type}(f:α->Ty)(l:A3 α):Ty where
 n:=1
 agg:=false
 ok:=λH v=>(TL f l).ok H v/\(l=[]->v= .slice none 0 0)
 mono:=λh k=>⟨(TL f l).mono h k.1,k.2⟩
 shape:=λk=>(TL f l).shape k.1
def A8{α:Type}(l:A3 α):Int->A6 α
 | .ofNat n=>l[n]?
 | .negSucc _=>none
def Br{α:Type}(l:A3 α)(lo hi:Int):A6 (A3 α):=bif decide (0<=lo)&&(decide (lo<=hi)&&decide (hi<=l.length)) then some ((l.take hi.toNat).drop lo.toNat) else none
def Hm(n:Int):Bool:=decide (-9223372036854775808<=n)&&decide (n<=9223372036854775807)
def AE(n:Int):A6 Int:=bif Hm n then some n else none
def BC{α:Type}(bytes:Nat)(l m:A3 α):A6 (A3 α):=bif decide ((l.length+m.length)*bytes<=140737488355328)&&decide (l.length+m.length<=9223372036854775807) then some (l++m) else none
def Ld{α:Type}(bytes:Nat)(n:Int)(z:α):A6 (A3 α):=bif decide (0<=n)&&(decide (n<=9223372036854775807)&&decide (bytes*n<=140737488355328)) then some (List.replicate n.toNat z) else none
def Hl(l m:A3 UInt8):A6 (A3 UInt8):=bif decide (l.length+m.length<=9223372036854775807) then some (l++m) else none
def GF(m n:Int):A6 Int:=bif decide (n=0) then none else AE (m.tdiv n)
def FP(m n:Int):A6 Int:=bif decide (n=0) then none else some (m.tmod n)
def HY{x:α}(h:A8 l i=some x):0<=i/\i<l.length/\l[i.toNat]? =some x:=by
 cases i with
 |ofNat n=>
  have h':l[n]? =some x:=h;have:=(EC.1 h').1;refine⟨Int.natCast_nonneg n,?_,h'⟩;show(n:Int)<_;omega
 |negSucc n=>cases h
def vw{r:A3 α}{lo hi:Int}(h:Br l lo hi=some r):0<=lo/\lo<=hi/\hi<=l.length/\r=(l.take hi.toNat).drop lo.toNat:=by
 unfold Br at h;cases hc:(decide (0<=lo)&&(decide (lo<=hi)&&decide (hi<=l.length)))
 ·rw[hc] at h;cases h
 ·rw[hc] at h;simp only[BU,Nz] at hc;exact⟨hc.1,hc.2.1,hc.2.2,(Dg h).symm⟩
def ahF(h:Hm n=true):DB n:=by simpa[Hm,DB] using h
def Y7(h:AE n=some r):DB n/\r=n:=by
 unfold AE at h;cases hc:Hm n
 ·rw[hc] at h;cases h
 ·rw[hc] at h;exact⟨ahF hc,(Dg h).symm⟩
def Xu{b:Nat}{m r:A3 α}(h:BC b l m=some r):(l.length+m.length)*b<=140737488355328/\l.length+m.length<=9223372036854775807/\r=l++m:=by
 unfold BC at h;cases hc:(decide ((l.length+m.length)*b<=140737488355328)&&decide (l.length+m.length<=9223372036854775807))
 ·rw[hc] at h;cases h
 ·rw[hc] at h;simp only[BU,Nz] at hc;exact⟨hc.1,hc.2,(Dg h).symm⟩
def akf{b:Nat}{r:A3 α}(h:Ld b n z=some r):∃m:Nat,n=m/\m<=9223372036854775807/\b*m<=140737488355328/\r=List.replicate m z:=by
 unfold Ld at h;cases hc:(decide (0<=n)&&(decide (n<=9223372036854775807)&&decide (b*n<=140737488355328)))
 ·rw[hc] at h;cases h
 ·rw[hc] at h;simp only[BU,Nz] at hc;refine⟨n.toNat,by omega,by omega,?_,(Dg h).symm⟩;have h1:((b*n.toNat:Nat):Int)=b*n:=by rw[M1,Int.toNat_of_nonneg hc.1]
  have:=hc.2.2;omega
def agf{l m r:A3 UInt8}(h:Hl l m=some r):l.length+m.length<=9223372036854775807/\r=l++m:=by
 unfold Hl at h;cases hc:decide (l.length+m.length<=9223372036854775807)
 ·rw[hc] at h;cases h
 ·rw[hc] at h;exact⟨AZ hc,(Dg h).symm⟩
def ajP(h:GF m n=some r):n≠0/\DB (m.tdiv n)/\r=m.tdiv n:=by
 unfold GF at h;cases hc:decide (n=0)
 ·rw[hc] at h;obtain⟨h1,h2⟩:=Y7 h;exact⟨Ay hc,h1,h2⟩
 ·rw[hc] at h;cases h
def aiN(h:FP m n=some r):n≠0/\r=m.tmod n:=by
 unfold FP at h;cases hc:decide (n=0)
 ·rw[hc] at h;exact⟨Ay hc,(Dg h).symm⟩
 ·rw[hc] at h;cases h
def bb(l:A3 UInt8):(⟨l.toArray⟩:ByteArray).toList=l:=by
 have key:∀(b:ByteArray) (n:Nat) (i:Nat) (r:A3 UInt8),b.size-i=n->i<=b.size->ByteArray.toList.loop b i r=r.reverse++b.data.toList.drop i:=by
  intro b n
  induction n with
  |zero=>
   intro i r hn hi;unfold ByteArray.toList.loop;have: ¬i<b.size:=by omega
   rw[if_neg this,List.drop_eq_nil_of_le (by simp only[EB];exact Nat.le_of_not_lt this)];simp
  |succ n ih=>
   intro i r hn hi;unfold ByteArray.toList.loop;have hlt:i<b.size:=by omega
   rw[if_pos hlt,ih (i+1) _ (by omega) (by omega)];have hl:i<b.data.toList.length:=by simpa using hlt
   rw[Rq hl];have:b.get! i=b.data.toList[i]:=by
    cases b with
    |mk a=>
     show a[i]! =_;rw[JM a i hlt];simp
   simp[this]
 unfold ByteArray.toList;rw[key _ _ 0 [] rfl<|F2 _];simp
def Arg.s{b:ByteArray}{l:A3 UInt8}(h:b=⟨l.toArray⟩):Arg Γ (.const<| .string b) (TS l):=⟨λ_=>by subst h;rfl⟩
def Arg.nn:Arg Γ (.const<| .slice none 0 0) (TN f []):=⟨λhs=>⟨(Arg.aoU (Γ:=Γ)).ok hs,λ_=>rfl⟩⟩
def pt:∀H v,(TN f l).ok H v->(TL f l).ok H v:=λ_ _ h=>h.1
def py(h:l.isEmpty=false):∀H v,(TL f l).ok H v->(TN f l).ok H v:=λ_ _ k=>⟨k,λe=>by subst e;cases h⟩
def N7{m n r:A3 UInt8}(hx:Arg Γ x (TS m))(hy:Arg Γ y (TS n))(h:Hl m n=some r):Aq P Γ ⟨d,.binOp .add T x y T',ty,pos,af,g⟩ (.val<|TS r):=
 Hd hx hy λH u v hu hv w _=>by
  cases hu;cases hv;obtain⟨h1,h2⟩:=agf h;subst h2;have hsz: ¬(((⟨m.toArray⟩:ByteArray).size+(⟨n.toArray⟩:ByteArray).size:Nat):Int)>IntKind.i64.max:=by
   have e1:(⟨m.toArray⟩:ByteArray).size=m.length:=by simp[ByteArray.size]
   have e2:(⟨n.toArray⟩:ByteArray).size=n.length:=by simp[ByteArray.size]
   rw[e1,e2];have:IntKind.i64.max=9223372036854775807:=rfl;rw[this];omega
  refine⟨.string<|⟨m.toArray⟩++⟨n.toArray⟩,?_,?_⟩
  ·simp only[eqGuard,binOp,Op.stringOp,if_neg hsz];rfl
  ·show Value.string _=Value.string _
   congr 1
def PH{m n:A3 UInt8}(hx:Arg Γ x (TS m))(hy:Arg Γ y (TS n)):Aq P Γ ⟨d,.binOp .eql T x y T',ty,pos,af,g⟩ (.val<|Ar<|m==n):=by
 have:=amQ (P:=P) (d:=d) (ty:=ty) (pos:=pos) (af:=af) (g:=g) (T:=T) (T':=T') hx hy;rwa [bb,bb] at this
def zH{m n:A3 UInt8}(hx:Arg Γ x (TS m))(hy:Arg Γ y (TS n)):Aq P Γ ⟨d,.binOp .neq T x y T',ty,pos,af,g⟩ (.val<|Ar<| !(m==n)):=by
 have:=amK (P:=P) (d:=d) (ty:=ty) (pos:=pos) (af:=af) (g:=g) (T:=T) (T':=T') hx hy;rwa [bb,bb] at this
def EL{s:A3 UInt8}(hT:isStr P T=true)(hx:Arg Γ x (TS s)):Aq P Γ ⟨d,.call ⟨.builtin .len,#[x],#[T]⟩,ty,pos,af,g⟩ (.val<|TI .i64 s.length):=by
 have:=afd (P:=P) (d:=d) (ty:=ty) (pos:=pos) (af:=af) (g:=g) hT hx;have e:(⟨s.toArray⟩:ByteArray).size=s.length:=by simp[ByteArray.size]
 rwa [e] at this
def MS{s:A3 UInt8}{b:UInt8}(hT:isStr P T=true)(hx:Arg Γ x (TS s))(hy:Arg Γ y (TI k i))(h:A8 s i=some b):Aq P Γ ⟨d,.index T x y,ty,pos,af,g⟩ (.val<|TI .u8 b.toNat):=
 DL λ_ _ _ a w H hs=>by
  have e:a.eval x= .string ⟨s.toArray⟩:=hx.ok hs;have e2:a.eval y= .int k i:=hy.ok hs;obtain⟨h1,h2,h3⟩:=HY h;have hlt:=(EC.1 h3).1;have h4:(⟨s.toArray⟩:ByteArray)[i.toNat]? =some b:=by
   have arY:i.toNat<(⟨s.toArray⟩:ByteArray).size:=by simpa[ByteArray.size] using hlt
   rw[getElem?_pos (⟨s.toArray⟩:ByteArray) i.toNat arY]
   congr 1
   show s.toArray[i.toNat]'_=b;rw[Fe hlt] at h3;simpa using h3
  exact⟨_,by simp[execOp,e,e2,Instr.index,asIntOf,EY<|lL hT,h1,h4],rfl,rfl⟩
inductive Lo(Γ:Ctx):A6 Bu->Int->Int->Prop where
 |none {n:Int}:Lo Γ none n n
 |some {y:Bu} {k:IntKind} {i n:Int} (h:Arg Γ y (TI k i)):Lo Γ (some y) n i
def ra{cap:Nat}{j:Int}(FG:Lo Γ lo 0 i)(KM:Lo Γ hi len j)(h0:0<=i)(Jm:i<=j)(hj:j<=len)(hlc:len<=cap){N:Nat}(hs:Sat w0 H0 N Γ a w H):
  (Instr.sliceBounds b len cap (lo.map a.eval) (hi.map a.eval) none).run P w= .ok (i.toNat,j.toNat,cap) w:=by
 have b1:∀(k:IntKind) (code:BoundsCode),(Instr.sliceBound (.int k j) cap code).run P w= .ok j.toNat w:=λk code=>by
  have:0<=j/\j<=cap:=by omega
  simp[Instr.sliceBound,asIntOf,this]
 have b2:∀(k:IntKind) (code:BoundsCode),(Instr.sliceBound (.int k i) j.toNat code).run P w= .ok i.toNat w:=λk code=>by
  have h1:i<=(j.toNat:Int):=by omega
  simp only[Instr.sliceBound,asIntOf,Df,JN,DP,if_pos<|And.intro h0 h1]
 cases FG with
 |none=>
  cases KM with
  |none=>simp[Instr.sliceBounds]
  |some hz=>have ez:=hz.ok hs;simp only[pz] at ez;simp[Instr.sliceBounds,ez,b1]
 |some hy=>
  have ey:=hy.ok hs;simp only[pz] at ey;cases KM with
  |none=>
   have b2':∀(k:IntKind) (code:BoundsCode),(Instr.sliceBound (.int k i) len code).run P w= .ok i.toNat w:=λk code=>by simpa using b2 k code
   simp[Instr.sliceBounds,ey,b2']
  |some hz=>have ez:=hz.ok hs;simp only[pz] at ez;simp[Instr.sliceBounds,ez,ey,b1,b2]
def Gr{s r:A3 UInt8}{j:Int}(hT:isStr P T=true)(hx:Arg Γ x (TS s))(FG:Lo Γ lo 0 i)(KM:Lo Γ hi s.length j)(h:Br s i j=some r):
  Aq P Γ ⟨d,.slice T x lo hi none,ty,pos,af,g⟩ (.val<|TS r):=
 DL λ_ _ _ a w H hs=>by
  obtain⟨h1,h2,h3,h4⟩:=vw h;subst h4;have e:a.eval x= .string ⟨s.toArray⟩:=hx.ok hs;have esz:(⟨s.toArray⟩:ByteArray).size=s.length:=by simp[ByteArray.size]
  have hbd:=ra (P:=P) (b:=false) FG KM h1 h2 h3 (Az _) hs;refine⟨.string<|(⟨s.toArray⟩:ByteArray).extract i.toNat j.toNat,?_,?_,rfl⟩
  ·simp[execOp,e,Instr.sliceAt,EY<|lL hT,Instr.slice,esz,hbd]
  ·show Value.string _=Value.string _
   congr 1
   apply ByteArray.ext;rw[ByteArray.data_extract];simp[List.extract_eq_take_drop,Lz]
def L9(hT:Db P T=true)(hx:Arg Γ x (TL f l)):Aq P Γ ⟨d,.call ⟨.builtin .len,#[x],#[T]⟩,ty,pos,af,g⟩ (.val<|TI .i64 l.length):=by
 have:=amO (P:=P) (d:=d) (ty:=ty) (pos:=pos) (af:=af) (g:=g) hT hx;rwa [Bw] at this
def Mx{s:Nat}(hT:Db P T=true)(hs:look Γ s=some (.same t))(ht:look Γ t=some (.buf E sz<|lT f l)):Aq P Γ ⟨d,.call ⟨.builtin .len,#[.tmp s],#[T]⟩,ty,pos,af,g⟩ (.val<|TI .i64 l.length):=by
 have:=aei (P:=P) (d:=d) (ty:=ty) (pos:=pos) (af:=af) (g:=g) hT hs ht;rwa [Bw] at this
def akY(hT:Db P T=true)(ht:look Γ t=some (.buf E sz<|lT f l)):Aq P Γ ⟨d,.call ⟨.builtin .len,#[.tmp t],#[T]⟩,ty,pos,af,g⟩ (.val<|TI .i64 l.length):=
 DL λ_ _ _ a w H B1=>by
  obtain⟨ad,cap,e⟩:=yi<|B1.holds _<|Au ht
  have e3:a.eval (.tmp t)= .slice ad (lT f l).length cap:=e;rw[Bw] at e3;exact⟨_,by simp[execOp,resolve,invoke,builtin,e3,lE hT],rfl,rfl⟩
def Eu{y:α}(hT:Fl P T sz=true)(hf:∀z,(f z).n=sz)(hx:Arg Γ x (TL f l))(hi:Arg Γ ix (TI k i))(h:A8 l i=some y):
  Aq P Γ ⟨d,.indexAddr T x ix,ty,pos,af,g⟩ (.val<|JZ<|f y):=by
 obtain⟨h1,h2,h3⟩:=HY h;exact aej hx hT (JL hf l) hi h1 (by rw[GX,h3];rfl)
def CT{s:Nat}{y:α}(hT:Fl P T sz=true)(hs:look Γ s=some (.same t))(ht:look Γ t=some (.buf E sz<|lT f l))(hi:Arg Γ ix (TI k i))(h:A8 l i=some y):
  Aq P Γ ⟨d,.indexAddr T (.tmp s) ix,ty,pos,af,g⟩ (.JX t i.toNat sz):=by
 obtain⟨h1,h2,h3⟩:=HY h;exact ae3 hs ht hT hi h1 (by rw[Bw];exact h2)
def Et{y:α}(hf:∀z,(f z).n=sz)(hp:look Γ p=some (.JX t j sz))(ht:look Γ t=some (.buf E sz<|lT f l))(h:l[j]? =some y)(hT:BX P T (f y).n (f y).agg=true):
  Aq P Γ ⟨d,.load T<| .tmp p,ty,pos,af,g⟩ (.val<|f y):=
 ae2 hp ht (JL hf l) (by rw[GX,h];rfl) hT
def Iz{y:α}(hf:∀z,(f z).n=sz)(hp:look Γ p=some (.JX t j sz))(ht:look Γ t=some (.buf E sz<|lT f l))(h:l[j]? =some z)(hx:Arg Γ x (f y))(hT:BX P T (f y).n (f y).agg=true):
  Step P N ops ⟨none,.store T (.tmp p) x,ty,pos,af,none⟩ Γ ((t,.buf E sz<|lT f<|l.set j y)::B4 t Γ):=by
 have:=adf (P:=P) (N:=N) (ops:=ops) (ty:=ty) (pos:=pos) (af:=af) hp ht (JL hf l) (by rw[GX,h];rfl) hx (hf y) hT;rwa [show(lT f l).set j (f y)=lT f (l.set j y) from by simp[lT,TT]] at this
def nY{y:α}(hf:∀z,(f z).n=sz)(hp:look Γ p=some (.JX t j sz))(ht:look Γ t=some (.buf E sz<|lT f l))(h:l[j]? =some z)(hx:Arg Γ x (f y))(hT:BX P T (f y).n (f y).agg=true):
  PY P N ops Γ ⟨none,.store T (.tmp p) x,ty,pos,af,none⟩ t (.buf E sz<|lT f<|l.set j y):=by
 have:=acr (P:=P) (N:=N) (ops:=ops) (ty:=ty) (pos:=pos) (af:=af) hp ht (JL hf l) (by rw[GX,h];rfl) hx (hf y) hT;rwa [show(lT f l).set j (f y)=lT f (l.set j y) from by simp[lT,TT]] at this
def Tm:maxLen=9223372036854775807:=rfl
def Dr{m r:A3 α}{s:Nat}(G9:Db P T2=true)(hT:Fi P T E sz bytes=true)(hf:∀z,(f z).n=sz)(hs:look Γ s=some (.same t))(ht:look Γ t=some (.buf E sz<|lT f l))(hx:Arg Γ x (TL f m))(h:BC bytes l m=some r)(Cp:dd<N):
  Step P N ops ⟨some dd,.call ⟨.builtin .append,#[.tmp s,x],#[T,T2]⟩,ty,pos,af,none⟩ Γ ((dd,.buf E sz<|lT f r)::del dd (B4 t Γ)):=by
 obtain⟨h1,h2,h3⟩:=Xu h;subst h3;have:=agW (P:=P) (G9:=G9) (N:=N) (ops:=ops) (ty:=ty) (pos:=pos) (af:=af) hs ht hx hT (JL hf m) (by rw[Bw,Bw,Tm];exact h2) (by rw[Bw,Bw];exact h1) Cp;rwa [show lT f l++lT f m=lT f (l++m) from by simp[lT]] at this
def Pz{m r:A3 α}(G9:Db P T2=true)(hT:Fi P T E sz bytes=true)(hf:∀z,(f z).n=sz)(ht:look Γ t=some (.buf E sz<|lT f l))(hx:Arg Γ x (TL f m))(h:BC bytes l m=some r)(Cp:dd<N):
  Step P N ops ⟨some dd,.call ⟨.builtin .append,#[.tmp t,x],#[T,T2]⟩,ty,pos,af,none⟩ Γ ((dd,.buf E sz<|lT f r)::del dd (B4 t Γ)):=by
 obtain⟨h1,h2,h3⟩:=Xu h;subst h3;have:=afH (P:=P) (G9:=G9) (N:=N) (ops:=ops) (ty:=ty) (pos:=pos) (af:=af) ht hx hT (JL hf m) (by rw[Bw,Bw,Tm];exact h2) (by rw[Bw,Bw];exact h1) Cp;rwa [show lT f l++lT f m=lT f (l++m) from by simp[lT]] at this
def TD{m r:A3 α}{s:Nat}(G9:Db P T2=true)(hT:Fi P T E sz bytes=true)(hf:∀z,(f z).n=sz)(hs:look Γ s=some (.same t))(ht:look Γ t=some (.buf E sz<|lT f l))(hx:Arg Γ x (TL f m))(h:BC bytes l m=some r)(Cp:dd<N):
  Pa P N ops Γ ⟨some dd,.call ⟨.builtin .append,#[.tmp s,x],#[T,T2]⟩,ty,pos,af,none⟩ t dd (.buf E sz<|lT f r):=by
 obtain⟨h1,h2,h3⟩:=Xu h;subst h3;have:=ahK (P:=P) (G9:=G9) (N:=N) (ops:=ops) (ty:=ty) (pos:=pos) (af:=af) hs ht hx hT (JL hf m) (by rw[Bw,Bw,Tm];exact h2) (by rw[Bw,Bw];exact h1) Cp;rwa [show lT f l++lT f m=lT f (l++m) from by simp[lT]] at this
def alM{m r:A3 α}{s:Nat}{hv:v.oneCell'=true}(G9:Db P T2=true)(hT:Fi P T E sz bytes=true)(hf:∀z,(f z).n=sz)(hs:look Γ s=some (.val<|TEq v hv))(ht:look Γ t=some (.NV v E sz<|lT f l))(hx:Arg Γ x (TL f m))(h:BC bytes l m=some r)(Cp:dd<N):
  Pa P N ops Γ ⟨some dd,.call ⟨.builtin .append,#[.tmp s,x],#[T,T2]⟩,ty,pos,af,none⟩ t dd (.buf E sz<|lT f r):=λDx B0=>by
 obtain⟨h1,h2,h3⟩:=Xu h;subst h3;have:=afG (P:=P) (G9:=G9) (N:=N) (ops:=ops) (ty:=ty) (pos:=pos) (af:=af) B0 hs ht hx hT (JL hf m) (by rw[Bw,Bw,Tm];exact h2) (by rw[Bw,Bw];exact h1) Cp;rwa [show lT f l++lT f m=lT f (l++m) from by simp[lT]] at this
def PC{m r:A3 α}(G9:Db P T2=true)(hT:Fi P T E sz bytes=true)(hf:∀z,(f z).n=sz)(ht:look Γ t=some (.buf E sz<|lT f l))(hx:Arg Γ x (TL f m))(h:BC bytes l m=some r)(Cp:dd<N):
  Pa P N ops Γ ⟨some dd,.call ⟨.builtin .append,#[.tmp t,x],#[T,T2]⟩,ty,pos,af,none⟩ t dd (.buf E sz<|lT f r):=by
 obtain⟨h1,h2,h3⟩:=Xu h;subst h3;have:=afm (P:=P) (G9:=G9) (N:=N) (ops:=ops) (ty:=ty) (pos:=pos) (af:=af) ht hx hT (JL hf m) (by rw[Bw,Bw,Tm];exact h2) (by rw[Bw,Bw];exact h1) Cp;rwa [show lT f l++lT f m=lT f (l++m) from by simp[lT]] at this
def CE(f:α->Ty)(E:Af)(sz:Nat):Aq P Γ ⟨d,.assign<| .const<| .slice none 0 0,ty,pos,af,g⟩ (.buf E sz<|lT f []):=ah4
def CL(ht:look Γ t=some (.buf E sz<|lT f l)):Ia w0 N Γ ((t,.val<|TL f l)::B4 t Γ):=akQ ht
def PN(f:α->Ty){r:A3 α}(hT:mkB P T E sz bytes=true)(hz:DS P E (f z))(hsz:(f z).n=sz)(hx:Arg Γ x (TI .i64 n))(hy:Arg Γ y (TI .i64 n))(h:Ld bytes n z=some r):
  Aq P Γ ⟨d,.makeSlice T x y,ty,pos,af,g⟩ (.buf E sz<|lT f r):=by
 obtain⟨m,h1,h2,h3,h4⟩:=akf h;subst h1;subst h4;have:=akX (P:=P) (d:=d) (ty:=ty) (pos:=pos) (af:=af) (g:=g) hT hz hsz hx hy h2 h3;rwa [show List.replicate m (f z)=lT f (List.replicate m z) from by simp[lT]] at this
def Nj{r:A3 α}{j:Int}(hT:Fl P T sz=true)(hf:∀z,(f z).n=sz)(hx:Arg Γ x (TL f l))(FG:Lo Γ lo 0 i)(KM:Lo Γ hi l.length j)(h:Br l i j=some r):
  Aq P Γ ⟨d,.slice T x lo hi none,ty,pos,af,g⟩ (.val<|TL f r):=by
 obtain⟨h1,h2,h3,h4⟩:=vw h;subst h4;have hi':((i.toNat:Nat):Int)=i:=by omega
 have hj':((j.toNat:Nat):Int)=j:=by omega
 have:=aie (P:=P) (d:=d) (ty:=ty) (pos:=pos) (af:=af) (g:=g) (lo:=lo) (hi:=hi) (i:=i.toNat) (j:=j.toNat) hT hx (JL hf l)
  (by cases FG with
   |none=>exact .inl ⟨rfl,rfl⟩
   |some hy=>exact .inr ⟨_,_,rfl,by rw[hi'];exact hy⟩)
  (by cases KM with
   |none=>exact .inl ⟨rfl,by rw[Bw];omega⟩
   |some hy=>exact .inr ⟨_,_,rfl,by rw[hj'];exact hy⟩)
  (by omega) (by rw[Bw];omega)
 rwa [show((lT f l).take j.toNat).drop i.toNat=lT f ((l.take j.toNat).drop i.toNat) from by simp[lT,oO,List.map_drop]] at this
def vH(h:Db P T=true)(ad:A6 Addr)(n c:Nat)(w:AK):(Op.equal T (.slice ad n c)<| .slice none 0 0).run P w= .ok ad.isNone w:=by
 obtain⟨e,hu⟩:=dI h;have key:∀d,(Op.equalIn (d+1) T (.slice ad n c)<| .slice none 0 0).run P w= .ok ad.isNone w:=by
  intro d;unfold Op.equalIn;cases ad<;>simp[EY hu]
 exact key 9999
def zj(h:(TN f l).ok H v):∃ad n c,v= .slice ad n c/\ad.isNone=l.isEmpty:=by
 obtain⟨⟨ad,cap,e,_,hx⟩,hn⟩:=h;cases l with
 |nil=>exact⟨none,0,0,hn rfl,rfl⟩
 |cons y l=>
  obtain⟨b,off,cs,E,fr,e1,_⟩:=hx (by simp[lT]);exact⟨ad,_,cap,e,by subst e1;rfl⟩
def M6(hT:Db P T=true)(hx:Arg Γ x (TN f l)):Aq P Γ ⟨d,.binOp .eql T x (.const<| .slice none 0 0) T',ty,pos,af,g⟩ (.val<|Ar l.isEmpty):=
 DL λ_ _ _ a w H hs=>by
  obtain⟨ad,n,c,e,h⟩:=zj<|hx.ok hs
  refine⟨.bool ad.isNone,?_,by rw[h];rfl,rfl⟩;have e2:a.eval (.const<| .slice none 0 0)= .slice none 0 0:=rfl;simp[execOp,e,e2,eqGuard,binOp,vH hT]
def amL(hT:Db P T=true)(hx:Arg Γ x (TN f l)):Aq P Γ ⟨d,.binOp .neq T x (.const<| .slice none 0 0) T',ty,pos,af,g⟩ (.val<|Ar<| !l.isEmpty):=
 DL λ_ _ _ a w H hs=>by
  obtain⟨ad,n,c,e,h⟩:=zj<|hx.ok hs
  refine⟨.bool<| !ad.isNone,?_,by rw[h];rfl,rfl⟩;have e2:a.eval (.const<| .slice none 0 0)= .slice none 0 0:=rfl;simp[execOp,e,e2,eqGuard,binOp,vH hT]
def CR(hx:Arg Γ x (TI .i64 m))(hy:Arg Γ y (TI .i64 n))(h:AE (m+n)=some r):Aq P Γ ⟨d,.binOp .add T x y T',ty,pos,af,g⟩ (.val<|TI .i64 r):=by
 obtain⟨h1,h2⟩:=Y7 h;subst h2;exact aka hx hy h1
def C8(hx:Arg Γ x (TI .i64 m))(hy:Arg Γ y (TI .i64 n))(h:AE (m-n)=some r):Aq P Γ ⟨d,.binOp .sub T x y T',ty,pos,af,g⟩ (.val<|TI .i64 r):=by
 obtain⟨h1,h2⟩:=Y7 h;subst h2;exact akT hx hy h1
def L8(hx:Arg Γ x (TI .i64 m))(hy:Arg Γ y (TI .i64 n))(h:AE (m*n)=some r):Aq P Γ ⟨d,.binOp .mul T x y T',ty,pos,af,g⟩ (.val<|TI .i64 r):=by
 obtain⟨h1,h2⟩:=Y7 h;subst h2;exact akW hx hy h1
def nu(hx:Arg Γ x (TI .i64 n))(h:AE (-n)=some r):Aq P Γ ⟨d,.unOp .neg T x,ty,pos,af,g⟩ (.val<|TI .i64 r):=by
 obtain⟨h1,h2⟩:=Y7 h;subst h2;exact akV hx h1
def N6(hx:Arg Γ x (TI .i64 m))(hy:Arg Γ y (TI .i64 n))(h:GF m n=some r):Aq P Γ ⟨d,.binOp .quo T x y T',ty,pos,af,g⟩ (.val<|TI .i64 r):=by
 obtain⟨h1,h2,h3⟩:=ajP h;subst h3;exact akU hx hy h1 h2
def KX(hx:Arg Γ x (TI k m))(hy:Arg Γ y (TI k n))(h:FP m n=some r):Aq P Γ ⟨d,.binOp .rem T x y T',ty,pos,af,g⟩ (.val<|TI k r):=by
 obtain⟨h1,h2⟩:=aiN h;subst h2;exact amJ hx hy h1
@[reducible] def wr(k:IntKind)(n:Int):Int:=k.wrap n
def U8(k:IntKind)(m n:Int):A6 Int:=bif decide (n=0) then none else some (wr k<|m.tdiv n)
def nt(hx:Arg Γ x (TI k m))(hy:Arg Γ y (TI k n))(h:U8 k m n=some r):Aq P Γ ⟨d,.binOp .quo T x y T',ty,pos,af,g⟩ (.val<|TI k r):=by
 unfold U8 at h;cases hc:decide (n=0)
 ·rw[hc] at h;have:=(Dg h);subst this;exact zF hx hy<|Ay hc
 ·rw[hc] at h;cases h
def G4(op:BinOp)(k:IntKind)(x y:Int):Int:=
 let a:=BitVec.ofInt k.bits x
 let b:=BitVec.ofInt k.bits y
 match op with
 | .and=>k.wrap (a&&&b).toNat
 | .or=>k.wrap (a|||b).toNat
 | .xor=>k.wrap (a^^^b).toNat
 | .andNot=>k.wrap (a&&& ~~~b).toNat
 |_=>0
def o5(hx:Arg Γ x (TI k m))(hy:Arg Γ y (TI k n)):Aq P Γ ⟨d,.binOp .and T x y T',ty,pos,af,g⟩ (.val<|TI k<|G4 .and k m n):=
 Hd hx hy λH u v hu hv w _=>by
  cases hu;cases hv;exact⟨_,by simp[eqGuard,binOp,Op.intBits];rfl,rfl⟩
def ow(hx:Arg Γ x (TI k m))(hy:Arg Γ y (TI k n)):Aq P Γ ⟨d,.binOp .or T x y T',ty,pos,af,g⟩ (.val<|TI k<|G4 .or k m n):=
 Hd hx hy λH u v hu hv w _=>by
  cases hu;cases hv;exact⟨_,by simp[eqGuard,binOp,Op.intBits];rfl,rfl⟩
def MF(k:IntKind)(x y:Int):A6 Int:=bif decide (y<0) then none else some (k.wrap<|x*2^(min y.toNat k.bits))
def ME(k:IntKind)(x y:Int):A6 Int:=bif decide (y<0) then none else some (x.fdiv<|2^(min y.toNat k.bits))
def Z9(hx:Arg Γ x (TI k m))(hy:Arg Γ y (TI k' n))(h:MF k m n=some r):Aq P Γ ⟨d,.binOp .shl T x y T',ty,pos,af,g⟩ (.val<|TI k r):=
 Hd hx hy λH u v hu hv w _=>by
  cases hu;cases hv;unfold MF at h;cases hc:decide (n<0)
  ·rw[hc] at h;have:=Dg h;subst this;exact⟨_,by simp only[eqGuard,binOp,Op.shift,if_neg<|Ay hc];rfl,rfl⟩
  ·rw[hc] at h;cases h
def Th(hx:Arg Γ x (TI k m))(hy:Arg Γ y (TI k' n))(h:ME k m n=some r):Aq P Γ ⟨d,.binOp .shr T x y T',ty,pos,af,g⟩ (.val<|TI k r):=
 Hd hx hy λH u v hu hv w _=>by
  cases hu;cases hv;unfold ME at h;cases hc:decide (n<0)
  ·rw[hc] at h;have:=Dg h;subst this;exact⟨_,by simp only[eqGuard,binOp,Op.shift,if_neg<|Ay hc];rfl,rfl⟩
  ·rw[hc] at h;cases h
def ar7:IntKind->IntKind->Bool:=λa b=>decide<|a=b
def SQ(P:Bs)(T:Af)(k:IntKind):Bool:=match P.underlying T with|some (.int k')=>ar7 k k'|_=>false
def ve(h:SQ P T k=true):P.underlying T=some (.int k):=by
 unfold SQ at h;split at h
 ·rename_i k' hu;rw[hu,AZ h]
 ·cases h
def RH{S:Af}(hS:SQ P S k=true)(hT:SQ P T k'=true)(hx:Arg Γ x (TI k n)):Aq P Γ ⟨d,.convert S T x,ty,pos,af,g⟩ (.val<|TI k'<|wr k' n):=
 DL λ_ _ _ a w H hs=>by
  have e:a.eval x= .int k n:=hx.ok hs;exact⟨_,by simp[execOp,e,convert,EY<|ve hS,EY<|ve hT,Conv.intToInt],rfl,rfl⟩
def o4{m n:Bool}(hT:WK P T=true)(hx:Arg Γ x (Ar m))(hy:Arg Γ y (Ar n)):Aq P Γ ⟨d,.binOp .eql T x y T',ty,pos,af,g⟩ (.val<|Ar<|m==n):=amR hT hx hy
def nv{m n:Bool}(hT:WK P T=true)(hx:Arg Γ x (Ar m))(hy:Arg Γ y (Ar n)):Aq P Γ ⟨d,.binOp .neq T x y T',ty,pos,af,g⟩ (.val<|Ar<| !(m==n)):=
 Hd hx hy λH u v hu hv w _=>by
  cases hu;cases hv;have hu:P.underlying T=some .bool:=by
   unfold WK at hT;split at hT
   ·assumption
   ·cases hT
  refine⟨.bool<| !(m==n),?_,rfl⟩;have e:(Op.equal T (.bool m)<| .bool n).run P w= .ok (m==n) w:=run_equalIn_bool w 9999 T m n hu;simp[eqGuard,binOp,e]
def mx_(x y:Int):Int:=bif decide (x<y) then y else x
def mn_(x y:Int):Int:=bif decide (y<x) then y else x
def eh(hx:Arg Γ x (TI k m))(hy:Arg Γ y (TI k n)):Aq P Γ ⟨d,.call ⟨.builtin .max,#[x,y],Ec⟩,ty,pos,af,g⟩ (.val<|TI k<|mx_ m n):=
 DL λ_ _ _ a w H hs=>by
  have e:a.eval x= .int k m:=hx.ok hs;have e2:a.eval y= .int k n:=hy.ok hs;refine⟨.int k<|if n>m then n else m,?_,?_,rfl⟩
  ·simp[execOp,resolve,invoke,builtin,e,e2,Builtin.max_,Builtin.max2]
  ·show Value.int k _=Value.int k _;unfold mx_;cases hc:decide (m<n)
   ·rw[if_neg<|Ay hc];rfl
   ·rw[if_pos<|AZ hc];rfl
def xv(hx:Arg Γ x (TI k m))(hy:Arg Γ y (TI k n)):Aq P Γ ⟨d,.call ⟨.builtin .min,#[x,y],Ec⟩,ty,pos,af,g⟩ (.val<|TI k<|mn_ m n):=
 DL λ_ _ _ a w H hs=>by
  have e:a.eval x= .int k m:=hx.ok hs;have e2:a.eval y= .int k n:=hy.ok hs;refine⟨.int k<|if n<m then n else m,?_,?_,rfl⟩
  ·simp[execOp,resolve,invoke,builtin,e,e2,Builtin.min_,Builtin.min2]
  ·show Value.int k _=Value.int k _;unfold mn_;cases hc:decide (n<m)
   ·rw[if_neg<|Ay hc];rfl
   ·rw[if_pos<|AZ hc];rfl
structure od(P:Bs)(f:FuncId)(args:A3 Ty)(BP:A3 Ty):Prop where
 run:∀(w:AK) (H:HV) (vs:A3 AO),EW H args vs->∃v w',(callFunc f vs.toArray).run P w= .ok (.value v) w'/\F1 w.heap.size w w'/\Kr H BP v
def PG{f:FuncId}(hf:od P f args BP)(ha:AL Γ xs args):
  Aq P Γ ⟨d,.call ⟨.value<| .func f,xs.toArray,Ec⟩,ty,pos,af,g⟩ (IA BP):=
 Lr λw0 H0 N a w H hs=>by
  obtain⟨v,w',h1,h2,h3⟩:=hf.run w H _<|ha.ok hs
  have e:execOp a.eval ⟨d,.call ⟨.value<| .func f,xs.toArray,Ec⟩,ty,pos,af,g⟩=callFunc f (#[]++xs.toArray.map a.eval++ #[]):=rfl;have e2:(#[]++xs.toArray.map a.eval++ #[])=(xs.map a.eval).toArray:=by simp
  refine⟨v,w',H,by rw[e,e2,h1],⟨h2,HV.le.refl _,λ_ _=>rfl,λr o h=>?_⟩,Uo h3,λb e=>absurd e<|AJ.free_spec Uv⟩;rw[h2.block r<|Gk hs.sub h];exact hs.sub r o h
def mX{n:Nat}{agg:Bool}(h:BX P T n agg=true){cs:Aw AO}(hl:off+n<=cs.size)(w:AK):(part T cs off).run P w= .ok (GL agg ((cs.toList.drop off).take n).toArray) w:=by
 obtain⟨h1,h2,h3⟩:=wy h;cases agg
 ·have hn:=h3 rfl;subst hn;have hlt:off<cs.size:=by omega
  simp[part,h1,hlt,GL]
 ·simp only[part,Df,h1,h2,DP,if_true,JN,GL]
  congr 2
  apply Array.ext';simp[Array.toList_extract,List.extract_eq_take_drop]
def pF(P:Bs)(T F:Af)(k off:Nat):Bool:=
 match P.underlying T with
 |some (.struct fs)=>match fs[k]? with
  |some f=>Nat.beq f.offset off&&Nat.beq f.type F
  |none=>false
 |_=>false
def ae5{F:Af}{k:Nat}(hT:pF P T F k off=true)(hF:BX P F σ.n σ.agg=true)(ha:τ.agg=true)(hx:Arg Γ x τ)(hp:BF τ off σ):Aq P Γ ⟨d,.field T x k,ty,pos,af,g⟩ (.val σ):=
 DL λ_ _ _ a w H hs=>by
  have hv:=hx.ok hs;obtain⟨p1,p2⟩:=hp _ _ hv;have By:=τ.shape hv;have e:a.eval x= .agg (a.eval x).cells:=by rw[<-show GL τ.agg (a.eval x).cells= .agg (a.eval x).cells from by rw[ha];rfl];exact By.eq
  unfold pF at hT;split at hT
  ·rename_i fs hu;split at hT
   ·rename_i fd hfd;simp only[BU] at hT;have e1:=Dj hT.1;have e2:=Dj hT.2;refine⟨_,?_,p2,rfl⟩
    generalize (a.eval x).cells=cs at e p1
    have hr:=mX (P:=P) hF p1 w;simp only[execOp,e,Instr.field,Df,EY hu,DP,hfd,asAgg,JN,e1,e2,hr]
   ·cases hT
  ·cases hT
def iN(P:Bs)(T E:Af)(len sz:Nat):Bool:=
 match P.underlying T with
 |some (.array n e)=>Nat.beq n len&&Nat.beq e E&&(match P.info? e with|some i=>Nat.beq i.size sz|none=>false)
 |_=>false
def BF.arr{i:Nat}{y:α}(hf:∀z,(f z).n=sz)(h:l[i]? =some y):BF (Zt f l) (i*sz) (f y):=by
 refine BF.agg (i:=i) (by rw[GX,h];rfl) ?_;have hlt:=(EC.1 h).1;rw[Js<|(JL hf l).take i,DI,Bw,Dt (by omega)]
def GS.arr{i:Nat}{y:α}(hf:∀z,(f z).n=sz)(h:l[i]? =some z):GS (Zt f l) (i*sz) (f y) (Zt f<|l.set i y):=by
 have hlt:=(EC.1 h).1;have:=GS.agg (l:=lT f l) (i:=i) (off:=i*sz) (σ:=f y) (ρ:=f z) (by rw[GX,h];rfl) (by rw[hf,hf]) (by rw[Js<|(JL hf l).take i,DI,Bw,Dt (by omega)]);rwa [show(lT f l).set i (f y)=lT f (l.set i y) from by simp[lT,TT]] at this
def YM{y:α}(hT:iN P T E len sz=true)(hE:BX P E (f y).n (f y).agg=true)(hf:∀z,(f z).n=sz)(hlen:l.length=len)(hx:Arg Γ x (Zt f l))(hi:Arg Γ ix (TI k i))(h:A8 l i=some y):
  Aq P Γ ⟨d,.index T x ix,ty,pos,af,g⟩ (.val<|f y):=
 DL λ_ _ _ a w H hs=>by
  obtain⟨h0,h1,h2⟩:=HY h;have hv:=hx.ok hs;obtain⟨p1,p2⟩:=BF.arr hf h2 _ _ hv;obtain⟨cs,e,_⟩:=hv;have ei:a.eval ix= .int k i:=hi.ok hs;rw[e] at p1 p2;simp only[Value.cells] at p1 p2;unfold iN at hT;split at hT
  ·rename_i n el hu;simp only[BU] at hT;obtain⟨⟨e1,e2⟩,e3⟩:=hT;have e1:=Dj e1;have e2:=Dj e2;subst e2;split at e3
   ·rename_i ii hii;have e3:=Dj e3;have hr:=mX (P:=P) hE p1 w;have hsz:(Go.sizeOf el).run P w= .ok sz w:=by simp[Go.sizeOf,typeInfo,program,Sem.run,hii,e3]
    have hb:0<=i/\i<(n:Int):=⟨h0,by omega⟩;refine⟨_,?_,p2,rfl⟩;simp only[execOp,e,ei,Instr.index,asIntOf,Df,JN,DP,EY hu,if_pos hb,hsz,hr]
   ·cases e3
  ·cases hT
def Rv{y:α}(h:look Γ t=some (.own T'<|Zt f l))(hT:Kw P T len sz=true)(hlen:l.length=len)(hi:Arg Γ ix (TI k i))(hy:A8 l i=some y):
  Aq P Γ ⟨d,.indexAddr T (.tmp t) ix,ty,pos,af,g⟩ (.ptr t<|i.toNat*sz):=by
 obtain⟨h0,h1,_⟩:=HY hy;exact tM h hT hi h0 (by omega)
def aiW{ps:A3 (Nat×Bu)}{l l':A3 Ty}(hp:Dp P Γ ps l l'):Ey l'=Ey l:=by
 induction hp with
 |nil=>rfl
 |cons hx hi hn r ih=>rw[ih,wU hi hn]
def agA{n:Nat}{ps:A3 (Nat×Bu)}{l':A3 Ty}(hz:DS P E τ)(hT:GZ P T E sz=true)(hsz:τ.n=sz)(hpos:Nat.blt 0 (n*sz)=true)(hn:Nat.ble (n*sz) 16777216=true)(hp:Dp P Γ ps (List.replicate n τ) l')(hl:l'.length=n):
  Aq P Γ ⟨d,.buildSlice T n ps.toArray,ty,pos,af,g⟩ (.buf E sz l'):=
 Lr λw0 H0 N a w H hs=>by
  obtain⟨z,hzr,hzo⟩:=hz.run w;have aaE:=AU hpos;unfold GZ at hT;split at hT
  ·rename_i e hu;simp only[BU] at hT;obtain⟨h1,h2⟩:=hT;have h1:=Dj h1;subst h1;split at h2
   ·rename_i i hi;have h2:=Dj h2;have hz0:=mK (hzo H) n;rw[hsz] at hz0;have JE:∀i m,(Ey<|List.replicate n τ)[i]? =some m->(λi=>some (i*sz,sz)) i=some (((Ey<|List.replicate n τ).take i).sum,m):=by
     intro i m hi;simp only[Ey,fe,List.getElem?_replicate] at hi;split at hi
     ·rename_i hlt;simp at hi;subst hi;simp[Ey,fe,Yl,hsz,Dt<|VI hlt]
     ·cases hi
    obtain⟨Gi,hf,Al⟩:=hp.fill JE hs hz0;have e2:(ps.toArray.map λ(i,x)=>(i,a.eval x)).toList=ps.map λp=>(p.1,a.eval p.2):=by simp
    have Hn:(Go.sizeOf e).run P w= .ok sz w:=by simp[Go.sizeOf,typeInfo,program,Sem.run,hi,h2]
    have hle:n*sz<=16777216:=EP hn;have hff:Instr.fill (λi=>some (i*sz,sz)) ((Array.range<|n*sz).map<|λi=>z.cells[i%z.cells.size]!) (ps.toArray.map λ(i,x)=>(i,a.eval x)).toList=some Gi:=by
     rw[e2];exact hf
    have hb:F1 w.heap.size w (w.alloc<| .cells Gi e):=F1.alloc _;have aom:=MT Al;have hns:Ey l'=Ey (List.replicate n τ):=aiW hp;have hcl:Bx l'=n*sz:=by
     have:Bx l'=(Ey l').sum:=rfl;rw[this,hns];simp[Ey,hsz]
    have hcs:Gi.size=n*sz:=by rw[<-hcl,<-aom];simp
    refine⟨.slice (some ⟨w.heap.size,0,none⟩) n n,w.alloc<| .cells Gi e,H,?_,Ext.alloc hs.sub _,⟨Gi.toList,⟨by rw[hl];simpa using hcs,.inr ⟨w.heap.size,n,Gi,by rw[hl],F2 _,LF w _,by omega,?_,hcs,?_⟩⟩,Al,?_⟩,?_⟩
    ·have h0: ¬n*sz=0:=by omega
     simp only[execOp,Instr.buildSlice,Df,DP,EY hu,Hn];rw[if_neg (by omega)];simp only[Df,JN,DP,if_neg h0,hzr];rw[hff];simp[newRow]
    ·rw[Tm];have:n<=n*sz:=by
      rcases LK sz with h|h
      ·subst h;simp at aaE
      ·exact Nat.le_mul_of_pos_right n h
     omega
    ·rw[hl,CB (by simp;omega)]
    ·intro b hb;simp[Value.ownBlock] at hb;subst hb;refine⟨?_,.inl hs.below.size⟩;cases hh:H w.heap.size with
     |none=>rfl
     |some o=>have:=Gk hs.sub hh;omega
    ·intro b hb;simp[AJ.owns,Value.ownBlock] at hb;omega
   ·cases h2
  ·cases hT
def not_true(h:(!b)=true):b=false:=by cases b<;>simp_all
def Bv{y:α}(h:A8 l i=some y):l[i.toNat]? =some y:=(HY h).2.2
def ZK{y:α}{n:Nat}(e:l.length=n)(h:A8 l i=some y):i<n:=by
 have:=(HY h).2.1;omega
def uc{l:A3 Ty}(h:τ.n=sz)(r:Fo sz l):Fo sz (τ::l):=λx hx=>by
 rcases Ag.1 hx with e|hx
 ·rw[e];exact h
 ·exact r x hx
def un:Fo sz []:=λx hx=>by cases hx
def Sat.zC(hs:Sat w0 H0 N Γ a w H){s:AJ}(h:s.holds w0 a w H (AT a t))(hb:s.free=true):Sat w0 H0 N ((t,s)::B4 t Γ) a w H:=by
 refine⟨hs.nd,hs.sz,hs.below,hs.Ed,hs.sub,?_,?_,hs.gl⟩
 ·intro p hp;rcases Ag.1 hp with e|hp
  ·subst e;exact h
  ·exact hs.holds p (Cq p hp).1
 ·intro p hp q hq hne b hpb;rcases Ag.1 hp with e|hp
  ·subst e;exact absurd hpb<|AJ.free_spec hb
  ·rcases Ag.1 hq with e|hq
   ·subst e;exact AJ.free_spec hb
   ·exact hs.sep p (Cq p hp).1 q (Cq q hq).1 hne b hpb
def Ep{s:Nat}(hs:look Γ s=some (.same t))(ht:look Γ t=some (.val τ)):Ia w0 N Γ ((s,.val τ)::B4 s Γ):=λ_ _ _ H h=>by
 have e:=h.holds _<|Au hs
 have k:=h.holds _<|Au ht
 exact⟨H,h.zC (by show τ.ok H _;rw[show _=_ from e];exact k) rfl⟩
def ab0{GH:Ty}(ht:look Γ t=some (.val τ))(hi:∀H v,τ.ok H v->GH.ok H v):Ia w0 N Γ ((t,.val GH)::B4 t Γ):=λ_ _ _ H h=>
 ⟨H,h.zC (hi _ _<|h.holds _<|Au ht) rfl⟩
def GK(ht:look Γ t=some (.val<|TN f l)):Ia w0 N Γ ((t,.val<|TL f l)::B4 t Γ):=ab0 ht pt
def tNL(h:l.isEmpty=false)(ht:look Γ t=some (.val<|TL f l)):Ia w0 N Γ ((t,.val<|TN f l)::B4 t Γ):=ab0 ht<|py h
def Arg.c(h:v.oneCell'=true):Arg Γ (.const v) (IB 1 false):=⟨λ_=>Shape.one h⟩
def zTL:(TL f []).ok H (.slice none 0 0):=⟨none,0,rfl,Az _,λh=>absurd rfl h⟩
def zTN:(TN f []).ok H (.slice none 0 0):=⟨zTL,λ_=>rfl⟩
def K8{n:Nat}{agg:Bool}(h:(Nat.beq v.cells.size n&&v.cells.toList.all (λc=>c.oneCell'))=true)(e:v=GL agg v.cells):Shape n agg v:=by
 simp only[BU] at h;exact⟨Dj h.1,λc hc=>Cy.1 h.2 c hc,e⟩
def EH{α:Type}(i k:Int)(y x:α):α:=bif decide (i=k) then y else x
def GS.Zk{a b c y:α}(hf:∀z,(f z).n=sz)(h:A8 [a,b,c] i=some z):GS (Co [f a,f b,f c]) (i.toNat*sz) (f y) (Co [f<|EH i 0 y a,f<|EH i 1 y b,f<|EH i 2 y c]):=by
 obtain⟨h0,h1,h2⟩:=HY h;have:=GS.arr (y:=y) hf h2;simp only[DF,TU] at h1;have hi:i=0\/i=1\/i=2:=by omega
 rcases hi with e|e|e<;>(subst e;exact this)
def ZA{t' o n:Nat}(h:look Γ t=some (.ptr t' o))(hT:Kw P T n sz=true)(hi:Arg Γ ix (TI k i))(h0:0<=i)(h1:i<n):
  Aq P Γ ⟨d,.indexAddr T (.tmp t) ix,ty,pos,af,g⟩ (.ptr t'<|o+i.toNat*sz):=Oc h hT hi h0 h1
def Xy{f:FuncId}(hc:GA P f=true)
 (h:∀(H:HV) (vs:A3 AO),EW H args vs->∃pn Mb,EW H pn vs/\EE P f pn (.vs Mb)/\∀H' v,Kr H' Mb v->Kr H' BP v):EE P f args (.vs BP):=
 ⟨hc,λw H vs sub gl Al=>by
  obtain⟨pn,Mb,h1,h2,h3⟩:=h H vs Al;exact(h2.run w H vs sub gl h1).mono λ_ w' ⟨v,e,hb,H',k1,k2,k3⟩=>⟨v,e,hb,H',k1,k2,h3 H' v k3⟩⟩
structure Tl{α:Type}[DecidableEq α](P:Bs)(T:Af)(f:α->Ty):Prop where
 run:∀(H:HV) (u v:AO) (x y:α),(f x).ok H u->(f y).ok H v->∀w:AK,(Op.equal T u v).run P w= .ok (decide<|x=y) w
 guard:∀(H:HV) (u v:AO) (x y:α),(f x).ok H u->(f y).ok H v->∀(o:BinOp) (p q:Bu) (w:AK),(eqGuard o T p q u v).run P w= .ok () w
 agg:∀x,(f x).agg=true
def Vt[DecidableEq α]{m n:α}(h:Tl P T f)(hx:Arg Γ x (f m))(hy:Arg Γ y (f n)):Aq P Γ ⟨d,.binOp .eql T x y T',ty,pos,af,g⟩ (.val<|Ar<|decide<|m=n):=
 Hd hx hy λH u v hu hv w _=>by
  have e1:=h.run H u v m n hu hv w;have e2:=h.guard H u v m n hu hv .eql x y w;refine⟨.bool<|decide<|m=n,?_,rfl⟩;have a1:=((f m).shape hu).eq;have a2:=((f n).shape hv).eq;rw[h.agg] at a1 a2;simp only[GL] at a1 a2;simp only[Df,e2,DP];rw[a1,a2] at e1⊢;simp[binOp,e1]
def p6[DecidableEq α]{m n:α}(h:Tl P T f)(hx:Arg Γ x (f m))(hy:Arg Γ y (f n)):Aq P Γ ⟨d,.binOp .neq T x y T',ty,pos,af,g⟩ (.val<|Ar<| !decide (m=n)):=
 Hd hx hy λH u v hu hv w _=>by
  have e1:=h.run H u v m n hu hv w;have e2:=h.guard H u v m n hu hv .neq x y w;refine⟨.bool<| !decide (m=n),?_,rfl⟩;have a1:=((f m).shape hu).eq;have a2:=((f n).shape hv).eq;rw[h.agg] at a1 a2;simp only[GL] at a1 a2;simp only[Df,e2,DP];rw[a1,a2] at e1⊢;simp[binOp,e1]
def AH:A3 Int->Int
 |[]=>0
 |x::l=>x+18446744073709551616*AH l
def okW(l:A3 Int):Prop:=∀x∈l,0<=x/\x<18446744073709551616
@[reducible] def CD(x:Int×A3 Int):Ty:=Co [(TI .i64) x.1,(TN<|TI .u64) x.2]
def CH(r:Int×A3 Int)(z:Int):Prop:=
 (r.2=[]/\r.1=z/\DB z)\/(r.2≠[]/\(r.1=1\/r.1= -1)/\okW r.2/\r.2.getLast?≠some 0/\z=r.1*AH r.2/\9223372036854775807<AH r.2)
def Dv(z:Int):Ty:=TEx 2 true (λr=>CH r z) CD (λ_=>rfl)<|λ_=>rfl
@[reducible] def Bb(q:Rat):Ty:=Co [Dv q.num,Dv q.den]
def XF{k:Nat}(h:look Γ p=some (.JX t j sz))(hf:G5 P T k off=true):Aq P Γ ⟨d,.fieldAddr T (.tmp p) k,ty,pos,af,g⟩ (.bpf t<|j*sz+off):=
 DL λ_ _ _ a w _ hs=>by
  obtain⟨b,len,cap,e1,e2⟩:=hs.holds _<|Au h
  have e':a.eval (.tmp p)= .pointer (some ⟨b,j*sz,none⟩):=e2;exact⟨.pointer<|some ⟨b,j*sz+off,none⟩,by simp[execOp,e',Xa hf],⟨b,len,cap,e1,rfl⟩,rfl⟩
def alg{B:AX P}{l:A3 Ty}{ρ:Ty}(h:(AJ.buf E sz l).holds B a w H v)(hu:Fo sz l)(hj:l[j]? =some ρ):
  ∃b cap cs,v= .slice (some ⟨b,0,none⟩) l.length cap/\w.heap[b]? =some (.cells cs E (0,0))/\j*sz+sz<=cs.size/\ρ.ok H (GL ρ.agg ((cs.toList.drop<|j*sz).take ρ.n).toArray):=by
 have Ip:=(EC.1 hj).1;obtain⟨b,cap,cs,xs,e,hb,hcap,_,hcs,hx,htake,ho,_,_⟩:=VD h (λe=>by rw[e] at Ip;simp at Ip);obtain⟨p1,p2⟩:=My ho hj;have hρ:=hu ρ<|Km hj
 have hc:Bx (l.take j)=j*sz:=by rw[Js<|hu.take _,DI,Dt (by omega)]
 rw[hc] at p1 p2;have iJ:l.length*sz<=cs.size:=by rw[hcs];exact Hg _ hcap
 have LY:List.take ρ.n (List.drop (j*sz) cs.toList)=List.take ρ.n (List.drop (j*sz) xs):=by
  rw[<-htake,Lz,NA]
  congr 1;omega
 refine⟨b,cap,cs,e,hb,by omega,?_⟩;rw[LY];exact p2
def bm{y:α}(hf:∀z,(f z).n=sz)(hp:look Γ p=some (.bpf t<|j*sz+off))(ht:look Γ t=some (.buf E sz<|lT f l))(h:l[j]? =some y)(ha:(f y).agg=true)(hq:BF (f y) off σ)(hT:BX P T σ.n σ.agg=true):
  Aq P Γ ⟨d,.load T<| .tmp p,ty,pos,af,g⟩ (.val σ):=
 DL λw0 _ _ a w H B1=>by
  obtain⟨b,cap,cs,e,hb,hsz,Al⟩:=alg (B1.holds _<|Au ht) (JL hf l) (j:=j) (ρ:=f y) (by rw[GX,h];rfl);obtain⟨b',qL,Zp,e1,e2⟩:=B1.holds _<|Au hp
  simp only at e e1;rw[e] at e1;cases e1;have e3:a.eval (.tmp p)= .pointer (some ⟨b,j*sz+off,none⟩):=e2;rw[ha] at Al;obtain⟨h1,h2⟩:=hq _ _ Al;simp only[XQ] at h1 h2;have hn:=hf y;have hlen:(List.take (f y).n<|List.drop (j*sz) cs.toList).toArray.size=(f y).n:=by simp;omega
  rw[hlen] at h1;refine⟨_,?_,h2,rfl⟩;have hr:=Qp (P:=P) hT hb (off:=j*sz+off) (by omega);have LY:List.take σ.n (List.drop (j*sz+off) cs.toList)=List.take σ.n (List.drop off<|List.take (f y).n<|List.drop (j*sz) cs.toList):=by
   rw[Lz,NA,F4]
   congr 1;omega
  rw[LY] at hr;simp[execOp,e3,Instr.loadAt,Instr.sureAddr,hr]
def ak5{AY:Ctx}(B0:∀q∈AY,q∈Γ){y y':α}(hf:∀z,(f z).n=sz)(hp:look AY p=some (.bpf t<|j*sz+off))(ht:look AY t=some (.buf E sz<|lT f l))(h:l[j]? =some y)(hx:Arg AY x σ)(ha:(f y).agg=true)(hs:GS (f y) off σ (f y'))(hT:BX P T σ.n σ.agg=true):
  Step P N ops ⟨none,.store T (.tmp p) x,ty,pos,af,none⟩ Γ ((t,.buf E sz<|lT f<|l.set j y')::B4 t Γ):=by
 intro w0 H0 a w H B1 K Q k;simp only[Region.wanted,if_true];have hj:(lT f l)[j]? =some (f y):=by rw[GX,h];rfl
 have hu:=JL hf l;have Ip:=(EC.1 hj).1;obtain⟨b,cap,cs,xs,e,hb,hcap,hml,hcs,Fx,htake,ho,hH,hB⟩:=VD (B1.holds _<|B0 _<|Au ht) (λe=>by rw[e] at Ip;simp at Ip);obtain⟨b',qL,Zp,e1,e2⟩:=B1.holds _<|B0 _<|Au hp
 simp only at e e1;rw[e] at e1;cases e1;have ep:a.eval (.tmp p)= .pointer (some ⟨b,j*sz+off,none⟩):=e2;have HK:=hx.ok<|B1.weaken B0
 have By:=σ.shape HK;have hc:Bx ((lT f l).take j)=j*sz:=by rw[Js<|hu.take _,DI,Dt<|VI Ip]
 obtain⟨p1,p2⟩:=My ho hj;rw[hc,hf y] at p1;rw[hc,hf y] at p2;have iJ:(lT f l).length*sz<=cs.size:=by rw[hcs];exact Hg _ hcap
 generalize LY:List.take sz (List.drop (j*sz) xs)=KH at p2
 have iF:KH.length=sz:=by rw[<-LY];simp;omega
 rw[ha] at p2;obtain⟨s1,x',s2,s3⟩:=hs _ _ _ p2 HK;simp only[XQ,VX,iF] at s1;simp only[XQ] at s3;have MG:=TO ho hj ((hf y').trans (hf y).symm) s2;rw[hc,hf y] at MG;have Eh:=Sd (P:=P) (off:=j*sz+off) (TC hT) By.size hb (by omega) By.cell;unfold Oper.wp;have er:(execOp a.eval ⟨none,.store T (.tmp p) x,ty,pos,af,none⟩).run P w= .ok .skip (w.setRow b (cs.toList.take (j*sz+off)++(a.eval x).cells.toList++cs.toList.drop (j*sz+off+σ.n)).toArray):=by
  simp[execOp,ep,Instr.storeAt,Instr.sureAddr,Eh]
 rw[er,Q8]
 generalize Zh:(cs.toList.take (j*sz+off)++(a.eval x).cells.toList++cs.toList.drop (j*sz+off+σ.n)).toArray=Dd
 have hg:E9 w (w.setRow b Dd) (some b):=E9.setRow w b _;have hlen:(a.eval x).cells.toList.length=σ.n:=by rw[EB,By.size]
 have arH:x'.cells.toList=List.take off KH++(a.eval x).cells.toList++List.drop (off+σ.n) KH:=by rw[s3]
 have aaw:Dd.toList=cs.toList.take (j*sz+off)++(a.eval x).cells.toList++cs.toList.drop (j*sz+off+σ.n):=by rw[<-Zh]
 refine k a _ H (Oa B1 (B0 _<|Au ht) hg hB (by simp[AJ.owns,e,Value.ownBlock]) ?_ λc hc=> .inl hc);have hl2:(lT f<|l.set j y').length=(lT f l).length:=by simp
 have aav:Dd.size=cs.size:=by
  rw[<-EB,aaw];simp only[ES,DI,hlen,H9,EB];omega
 refine⟨List.take ((lT f l).length*sz) Dd.toList,⟨?_,.inr ⟨b,cap,Dd,by rw[hl2];simpa using e,F2 _,TP w b _ _ _ _ hb,by rw[hl2];exact hcap,hml,by rw[aav,hcs],by rw[hl2]⟩⟩,?_,?_⟩
 ·rw[hl2];show(List.take ((lT f l).length*sz) Dd.toList).length=(lT f l).length*sz;rw[DI,EB (xs:=Dd),aav];exact Dt iJ
 ·have aoi:List.take ((lT f l).length*sz) Dd.toList=List.take (j*sz) xs++x'.cells.toList++List.drop (j*sz+sz) xs:=by
   have hy:(a.eval x).cells.toList.length=σ.n:=hlen;rw[aaw,vt hy (by omega) (by rw[EB];omega),htake,arH];have t1:List.take (j*sz+off) xs=List.take (j*sz) xs++List.take off KH:=by
    rw[List.take_add,<-LY,NA,Dt (by omega)]
   have t2:List.drop (j*sz+off+σ.n) xs=List.drop (off+σ.n) KH++List.drop (j*sz+sz) xs:=by
    rw[<-LY,Lz,F4];have:List.drop (j*sz+sz) xs=List.drop (sz-(off+σ.n)) (List.drop (j*sz+(off+σ.n)) xs):=by
     rw[F4];congr 1;omega
    rw[this,OC]
    congr 1;omega
   rw[t1,t2];simp[Gw]
  rw[aoi];rw[show lT f (l.set j y')=(lT f l).set j (f y') from by simp[lT,TT]];exact MG
 ·intro c hc;simp[e,Value.ownBlock] at hc;subst hc;exact⟨hH,hB⟩
def am2{y y':α}(hf:∀z,(f z).n=sz)(hp:look Γ p=some (.bpf t<|j*sz+off))(ht:look Γ t=some (.buf E sz<|lT f l))(h:l[j]? =some y)(hx:Arg Γ x σ)(ha:(f y).agg=true)(hs:GS (f y) off σ (f y'))(hT:BX P T σ.n σ.agg=true):
  Step P N ops ⟨none,.store T (.tmp p) x,ty,pos,af,none⟩ Γ ((t,.buf E sz<|lT f<|l.set j y')::B4 t Γ):=ak5 (λ_ h=>h) hf hp ht h hx ha hs hT
def aiK(hT:GZ P T E sz=true)(w:AK):(Instr.buildSlice T 0 #[]).run P w= .ok (.slice (some ⟨w.heap.size,0,none⟩) 0 0) (w.alloc<| .cells #[] E):=by
 unfold GZ at hT;split at hT
 ·rename_i e hu;simp only[BU] at hT;obtain⟨h1,h2⟩:=hT;have h1:=Dj h1;subst h1;split at h2
  ·rename_i i hi;have h2:=Dj h2;have Hn:(Go.sizeOf e).run P w= .ok sz w:=by simp[Go.sizeOf,typeInfo,program,Sem.run,hi,h2]
   have KJ:(Array.range 0:Aw Nat)= #[]:=rfl;simp only[Instr.buildSlice,Df,DP,EY hu,Hn,fH];rw[if_neg (by omega)];simp[newRow,Instr.fill,KJ]
  ·cases h2
 ·cases hT
def TF(f:α->Ty)(hT:GZ P T E sz=true):Aq P Γ ⟨d,.buildSlice T 0 #[],ty,pos,af,g⟩ (.buf E sz<|lT f []):=
 Lr λw0 H0 N a w H hs=>by
  refine⟨.slice (some ⟨w.heap.size,0,none⟩) 0 0,w.alloc<| .cells #[] E,H,by simp only[execOp,Df,Array.map_empty,aiK hT];rfl,Ext.alloc hs.sub _,⟨[],⟨by simp,.inr ⟨w.heap.size,0,#[],rfl,F2 _,LF w _,Az _,by rw[Tm];omega,by simp,by simp⟩⟩,rfl,?_⟩,?_⟩
  ·intro b hb;simp[Value.ownBlock] at hb;subst hb;refine⟨?_,.inl hs.below.size⟩;cases hh:H w.heap.size with
   |none=>rfl
   |some o=>have:=Gk hs.sub hh;omega
  ·intro b hb;simp[AJ.owns,Value.ownBlock] at hb;omega
def ah3{T:Nat}{l:A3 Ty}(hT:Kw P T len sz=true)(hu:Fo sz l)(hl:l.length=len)(hx:Arg Γ x (JZ<|Co l)):Aq P Γ ⟨d,.slice T x none none none,ty,pos,af,g⟩ (.val<|FY l):=
 DL λw0 _ _ a w H hs=>by
  obtain⟨b,off,cs,E,fr,e,hb,hsz,Al⟩:=hx.ok hs;obtain⟨el,i,hu2,hi,h2⟩:=nH hT;have Hn:∀w,(Go.sizeOf el).run P w= .ok sz w:=λw=>by simp[Go.sizeOf,typeInfo,program,Sem.run,hi,h2]
  refine⟨.slice (some<|if len=0 then⟨b,off,none⟩ else(⟨b,off,none⟩:Addr).add (0*sz)) len len,?_,?_,rfl⟩
  ·simp[execOp,e,Instr.sliceAt,EY hu2,Instr.sureAddr,Instr.sliceBounds,Hn]
  ·obtain⟨cs2,e2,ho⟩:=Al;have qb:cs2=(List.take (Co l).n<|List.drop off cs.toList).toArray:=by
    have:(Co l).agg=true:=rfl;rw[this] at e2;simp only[GL] at e2;exact(Value.agg.inj e2).symm
   refine⟨_,len,by rw[hl],by omega,λhne=>⟨b,off,cs,E,fr,?_,hb,hsz,?_⟩⟩
   ·simp[addr_add]
   ·rw[qb] at ho;exact ho
def Flat(τ:Ty):Prop:=∀H H' v,τ.ok H v->τ.ok H' v
def Flat.int:Flat (TI k n):=λ_ _ _ h=>h
def Flat.bool:Flat (Ar b):=λ_ _ _ h=>h
inductive K4(Γ:Ctx):A3 Bu->A3 Ty->Prop where
 |nil:K4 Γ [] []
 |cons {x:Bu} {τ:Ty} {xs:A3 Bu} {l:A3 Ty} (h:Arg Γ x τ) (r:K4 Γ xs l):K4 Γ (x::xs) (τ::l)
 |buf {t:Nat} {E:Af} {sz:Nat} {bl:A3 Ty} {xs:A3 Bu} {l:A3 Ty} (h:look Γ t=some (.buf E sz bl)) (r:K4 Γ xs l):K4 Γ (.tmp t::xs) (FY bl::l)
 |same {s t:Nat} {E:Af} {sz:Nat} {bl:A3 Ty} {xs:A3 Bu} {l:A3 Ty} (hs:look Γ s=some (.same t)) (h:look Γ t=some (.buf E sz bl)) (r:K4 Γ xs l):K4 Γ (.tmp s::xs) (FY bl::l)
def full(w:AK):HV:=λr=>w.heap[r]?
def K4.ok{xs:A3 Bu}{l:A3 Ty}(h:K4 Γ xs l){w0:AX P}{H0:HV}{N:Nat}{a:Act}{w:AK}{H:HV}(hs:Sat w0 H0 N Γ a w H):EW (full w) l (xs.map a.eval):=by
 have hle:HV.le H (full w):=hs.sub
 induction h with
 |nil=>rfl
 |cons h _ ih=>exact⟨_,_,rfl,Ty.mono _ hle<|h.ok hs,ih⟩
 |buf h _ ih=>exact⟨_,_,rfl,Vp (hs.holds _<|Au h) hle<|λb _ _ o ho=>ho,ih⟩
 | @same s t E sz bl xs l hsm h _ ih=>
  refine⟨_,_,rfl,?_,ih⟩;have e:AT a s=AT a t:=hs.holds _<|Au hsm
  show(FY bl).ok _ (AT a s);rw[e];exact Vp (hs.holds _<|Au h) hle<|λb _ _ o ho=>ho
def wQ{H H':HV}:∀{l:A3 Ty} {vs:A3 AO},(∀τ∈l,Flat τ)->EW H l vs->EW H' l vs
 |[],_,_,e=>e
 |τ::_,_,hf,⟨v,rest,e,hv,hr⟩=>⟨v,rest,e,hf τ (by simp) _ _ _ hv,wQ (λx hx=>hf x (by simp[hx])) hr⟩
def afV{H':HV}{l:A3 Ty}(hf:∀τ∈l,Flat τ)(h:Kr H l v):Kr H' l v:=by
 match l,h with
 |[],h=>exact h
 |[τ],h=>exact hf τ (by simp) _ _ _ h
 |τ::GH::l,⟨vs,e,h⟩=>exact⟨vs,e,wQ hf h⟩
def vS{f:FuncId}(hf:EE P f args (.vs BP))(ha:K4 Γ xs args)(hfl:∀τ∈BP,Flat τ):
  Aq P Γ ⟨d,.call ⟨.value<| .func f,xs.toArray,Ec⟩,ty,pos,af,g⟩ (IA BP):=by
 intro w0 H0 N a w H hs K Q k;unfold Oper.wp;have e:execOp a.eval ⟨d,.call ⟨.value<| .func f,xs.toArray,Ec⟩,ty,pos,af,g⟩=callFunc f (#[]++xs.toArray.map a.eval++ #[]):=rfl;rw[e,Ob hf.can,VT];have e2:(#[]++xs.toArray.map a.eval++ #[])=(xs.map a.eval).toArray:=by simp
 rw[e2];refine(hf.run w (full w) _ (λ_ _ h=>h) (hs.gl.mono hs.sub)<|ha.ok hs).mono ?_;rintro e w' ⟨v,rfl,hb,H',h1,h2,h3⟩;have he:Ext w H w' H:=⟨hb,HV.le.refl _,λ_ _=>rfl,λr o h=>by rw[hb.block r<|Gk hs.sub h];exact hs.sub r o h⟩;exact k v w' H he (Uo<|afV hfl h3)<|λb e=>absurd e<|AJ.free_spec Uv
def flc{l:A3 Ty}(h:Flat τ)(r:∀x∈l,Flat x):∀x∈τ::l,Flat x:=λx hx=>by
 rcases Ag.1 hx with e|hx
 ·rw[e];exact h
 ·exact r x hx
def fln:∀x∈([]:A3 Ty),Flat x:=λx hx=>by cases hx
end
section
variable[D:DR]
variable{P:Program}{w0:AX P}{H0:HV}{N:Nat}{Q:Exit->Act->World->Prop}{Γ Ae:Ctx}
def af1{w0:AX P}(hr:w0.rd=none):FB w0.rd=Fence.wide:=by rw[hr];rfl
def alV{c:Code}(hr:w0.rd=none)(h:Goal P w0 H0 N c (Exit.noGoto Q) Γ):Goal P w0 H0 N (.scope c) Q Γ:=λa w H hs=>by
 have:=h a w H hs;rw[af1 hr] at this⊢;exact wpIn_wide.2<|wp_scope_straight<|wpIn_wide.1 this
def alX{l:Nat}(k:E1 w0 H0 N (Q .normal) Γ):Goal P w0 H0 N (.label l) Q Γ:=λa w H hs=>wpIn_label<|k a w H hs
end
section
variable[D:DR]
variable{P:Program}{N:Nat}{ops:Array Oper}{Γ Ae:Ctx}{d:Option Tmp}{ty:TypeId}{pos:String}{af:Array Edge}{g:Option (Nat×Bool)}
variable{α β:Type}{A:α->A3 Ty}{R:β->A3 Ty}
def KS(P:Bs){α β:Type}(A:α->A3 Ty)(R:β->A3 Ty)(g:α->A6 β):Ty where
 n:=1
 agg:=false
 ok:=λH v=>∃f cap Ei,v= .func (.func f) #[] cap/\EW H Ei cap.toList/\∀a r,g a=some r-> @EE DR.strict P f (A a++Ei) (.vs<|R r)
 mono:=λh ⟨f,cap,Ei,e,k,hf⟩=>⟨f,cap,Ei,e,Y2 h k,hf⟩
 shape:=λ⟨_,_,_,e,_,_⟩=>by subst e;exact Shape.one rfl
def Xj{H:HV}:∀{l:A3 Ty} {vs:A3 AO} {l':A3 Ty} {vs':A3 AO},EW H l vs->EW H l' vs'->EW H (l++l') (vs++vs')
 |[],_,_,_,e,h=>by subst e;exact h
 |_::_,_,_,_,⟨v,rest,e,hv,hr⟩,h=>by subst e;exact⟨v,_,rfl,hv,Xj hr h⟩
def dm{fn:α->A6 β}{t:Nat}{xs:A3 Bu}{Ec:Aw Af}{x:α}{r:β}(hf:look Γ t=some (.val<|KS P A R fn))(h:fn x=some r)(ha:AL Γ xs (A x)):
  Aq P Γ ⟨d,.call ⟨.value<| .tmp t,xs.toArray,Ec⟩,ty,pos,af,g⟩ (IA<|R r):=by
 intro w0 H0 N a w H hs K Q k;obtain⟨f,cap,Ei,e,hc,Hs⟩:=hs.holds _<|Au hf
 have hf:=(Hs x r h).apm (D:=D);unfold Oper.wp;have e1:a.eval (.tmp t)= .func (.func f) #[] cap:=e;have e0:execOp a.eval ⟨d,.call ⟨.value<| .tmp t,xs.toArray,Ec⟩,ty,pos,af,g⟩=callFunc f (#[]++xs.toArray.map a.eval++cap):=by
  simp only[execOp,resolve,e1,Deferred.ofValue,pure_bind]
  rfl
 rw[e0,Ob hf.can,VT];have e2:(#[]++xs.toArray.map a.eval++cap)=(xs.map a.eval++cap.toList).toArray:=by simp
 rw[e2];refine(hf.run w H _ hs.sub hs.gl<|Xj (ha.ok hs) hc).mono ?_;rintro e w' ⟨v,rfl,hb,H',h1,h2,h3⟩;have he:Ext w H w' H':=⟨hb,λr o h=>by rw[h1 r<|Gk hs.sub h];exact h,h1,h2⟩;exact k v w' H' he (Uo h3)<|λb e=>absurd e<|AJ.free_spec Uv
def kg{fn:α->A6 β}{f:FuncId}{xs:A3 Bu}{Ei:A3 Ty}(ha:AL Γ xs Ei)(h:∀a r,fn a=some r-> @EE DR.strict P f (A a++Ei) (.vs<|R r)):
  Aq P Γ ⟨d,.makeFunc (.func f) #[] xs.toArray,ty,pos,af,g⟩ (.val<|KS P A R fn):=
 DL λ_ _ _ a w H hs=>by
  refine⟨.func (.func f) #[] (xs.map a.eval).toArray,?_,⟨f,_,Ei,rfl,by simpa using ha.ok hs,h⟩,rfl⟩;simp[execOp,Instr.makeFunc]
def Arg.fn{α β:Type}{A:α->A3 Ty}{R:β->A3 Ty}{fn:α->A6 β}{f:FuncId}(h:∀a r,fn a=some r-> @EE DR.strict P f (A a) (.vs<|R r)):Arg Γ (.func f) (KS P A R fn):=
 ⟨λ_=>⟨f,#[],[],rfl,rfl,λa r e=>by simpa using h a r e⟩⟩
def aiH{w0:AX P}{H0:HV}{a:Act}{w w':AK}{H H':HV}{row:A6 Nat}(hs:Sat w0 H0 N Γ a w H)(hg:E9 w w' row)(Gz:∀b,row=some b->w0.Du b/\H b=none/\∀l,w.heap[b]? ≠some (.deferred l))(hle:HV.le H H')(hold:∀b,b<w.heap.size->row≠some b->H' b=H b)(B0:∀b o,H' b=some o->w'.heap[b]? =some o)
  (hn:∀p∈Ae,p∈Γ/\∀b,p.2.owns w (AT a p.1) b->row≠some b):Sat w0 H0 N Ae a w' H':=by
 have Dh:∀b,b<w.heap.size->row≠some b->w'.heap[b]? =w.heap[b]? /\H' b=H b:=λb hb hn=>⟨hg.block b hb<|λe=>hn e.symm,hold b hb hn⟩
 refine V4 (ds:=a.defers) hs (hs.below.Ku hg<|λk hk=>(Gz k hk).1) hg.drawn ?_ hg.size hle B0 ?_ ?_ ?_
 ·intro _ r hr hx;exact hold r (K0 hr hs.below.size) (λe=>by
   rcases(Gz r e).1 with h|h
   ·omega
   ·exact hx h)
 ·intro _ b hb FG;exact Dh b hb (λe=>by have:=AX.Q2 (Gz b e).1;omega)
 ·intro p hp;exact⟨(hn p hp).1,λb hb=>Dh b (AJ.IP (hs.holds p (hn p hp).1) hb).1<|(hn p hp).2 b hb⟩
 ·exact hs.nd.kept λD _ h1 h2=>by
   have:=Dh D (lt_of_heap h1)<|λe=>(Gz D e).2.2 _ h1
   exact⟨by rw[this.1];exact h1,by rw[this.2];exact h2⟩
end
section
variable[D:DR]
def Il{α σ ρ:Type}:A3 α->((σ->A6 ρ)->α->σ->A6 ρ)->σ->(σ->A6 ρ)->A6 ρ
 |[],_,s,K=>K s
 |x::xs,B,s,K=>B (λs=>Il xs B s K) x s
structure QV(M:Nat->Prop)(w:AK)(H:HV)(w':AK)(H':HV):Prop where
 size:w.heap.size<=w'.heap.size
 os:w'.os=w.os
 tape:w'.tape=w.tape
 output:w'.output=w.output
 drawn:GQ w w'
 le:HV.le H H'
 Dh:∀b,b<w.heap.size-> ¬M b->w'.heap[b]? =w.heap[b]? /\H' b=H b
 sub:∀r o,H' r=some o->w'.heap[r]? =some o
def Z1{α σ ρ:Type}(P:Bs)(l:Nat)(enc:α->A3 Ty)(Bd:(σ->A6 ρ)->α->σ->A6 ρ)(r:ρ)(J:σ->Inv->Prop)(Jx:Inv->Prop)(n0:Nat):Prop:=
 ∀(next:σ->A6 ρ) (x:α) (s:σ) (I:Inv) (W:AK) (H:HV) (vs:A3 AO),Bd next x s=some r->J s I->I.n=n0->I.p W H->(∀r o,H r=some o->W.heap[r]? =some o)->Kp P H->EW H (enc x) vs->
  YieldAt (FB none) 0 P l vs.toArray W λe W'=>∃H' I',I'.n=n0/\I'.p W' H'/\QV I.M W H W' H'/\(∀b,I'.M b->I.M b\/W.heap.size<=b)/\
   ((e= .returned (.bool true)/\∃s',next s'=some r/\J s' I')\/(e= .returned (.bool false)/\Jx I'))
def YB(P:Bs)(gf:FuncId)(Ei:A3 Ty){α:Type}(enc:α->A3 Ty)(L:A3 α):Prop:=
 GA P gf=true/\∀{σ ρ:Type} (Bd:(σ->A6 ρ)->α->σ->A6 ρ) (K:σ->A6 ρ) (s0:σ) (r:ρ),Il L Bd s0 K=some r->
  ∀(l:Nat) (J:σ->Inv->Prop) (Jx:Inv->Prop) (w:AK) (H:HV) (cvs:A3 AO) (I0:Inv),(∀r o,H r=some o->w.heap[r]? =some o)->Kp P H->EW H Ei cvs->J s0 I0->I0.n=w.heap.size->I0.p w H->
   Z1 P l enc Bd r J Jx w.heap.size->
   Calls P gf (.func (.yield l) #[] #[]::cvs).toArray w λe w'=>(∃v,e= .returned v)/\∃H' I',I'.p w' H'/\(∀r o,H' r=some o->w'.heap[r]? =some o)/\((∃s,K s=some r/\J s I')\/Jx I')
def UA(P:Bs){α:Type}(enc:α->A3 Ty)(o:A6 (A3 α)):Ty where
 n:=1
 agg:=false
 ok:=λH v=>∃gf cap Ei,v= .func (.func gf) #[] cap/\EW H Ei cap.toList/\∀L,o=some L->YB P gf Ei enc L
 mono:=λh ⟨gf,cap,Ei,e,k,s⟩=>⟨gf,cap,Ei,e,Y2 h k,s⟩
 shape:=λ⟨_,_,_,e,_⟩=>by subst e;exact Shape.one rfl
end
section
variable[D:DR]
variable{P:Program}{w0:AX P}{H0:HV}{N:Nat}{Q:Exit->Act->World->Prop}{Γ Ae:Ctx}
variable{w:AK}{H:HV}{T:A3 Nat}{l:Nat}{rc:Loop}{σ ρ:Type}{r:ρ}{ts:A3 Nat}{a:Act}
def gU(N:Nat)(T:A3 Nat)(Γ:Ctx):Bool:=Γ.all λp=>Nat.blt p.1 N&&T.contains p.1&&p.2.Bn.all (λt=>T.contains t)&& !p.2.Eg
def Oh{N:Nat}{Γ:Ctx}(h:gU N T Γ=true){p:Nat×AJ}(hp:p∈Γ):p.1<N/\p.1∈T/\(∀t∈p.2.Bn,t∈T)/\p.2.Eg=false:=by
 have:=Cy.1 h p hp;simp only[BU,Cy,Ro,F6] at this;obtain⟨⟨⟨h1,h2⟩,h3⟩,h4⟩:=this;exact⟨AU h1,h2,h3,h4⟩
def pins(N:Nat)(T:A3 Nat)(pv:Nat->AO):Ctx:=T.map λt=>(N+1+t,.Jh t<|pv t)
def params:A3 Nat->A3 Ty->Ctx
 |p::ps,τ::τs=>(p,.val τ)::params ps τs
 |_,_=>[]
def busy(rc:Loop):Loop:={rc with state:= .busy}
def qA(wr:AX P)(Hr:HV)(N l:Nat)(rc:Loop)(T:A3 Nat)(pv:Nat->AO){σ ρ:Type}(AY:σ->Ctx)(Jg:A6 Ctx)(next:σ->A6 ρ)(r:ρ):Exit->Act->AK->Prop
 | .normal,a,w=>∃s',next s'=some r/\∃H,Sat wr Hr N ((N,.DX l<|busy rc)::(pins N T pv++AY s')) a w H
 | .ret,a,w=>∃G,Jg=some G/\∃H,Sat wr Hr N ((N,.DX l<|busy rc)::(pins N T pv++G)) a w H
 |_,_,_=>False
def yu(wr:AX P)(Hr:HV)(N l:Nat)(rc:Loop)(T:A3 Nat)(pv:Nat->AO){σ ρ:Type}(body:Code)(AY:σ->Ctx)(Jg:A6 Ctx)(next:σ->A6 ρ)(r:ρ):Exit->Act->AK->Prop
 | .normal,a,w=>∃Γa H,Sat wr Hr N ((N,.DX l rc)::Γa) a w H/\B4 N Γa=Γa/\Goal P wr Hr N body (qA wr Hr N l rc T pv AY Jg next r) ((N,.DX l<|busy rc)::Γa)
 |_,_,_=>False
def pe{wr:AX P}{Hr:HV}{pv:Nat->AO}{body:Code}{AY:σ->Ctx}{Jg:A6 Ctx}{next:σ->A6 ρ}{Γa:Ctx}
 (h:E2 Γ ts ((N,.DX l rc)::Γa))(hf:B4 N Γa=Γa)(g:Goal P wr Hr N body (qA wr Hr N l rc T pv AY Jg next r) ((N,.DX l<|busy rc)::Γa)):
  E1 wr Hr N (yu wr Hr N l rc T pv body AY Jg next r .normal) Γ:=λ_ _ H hs=>⟨Γa,H,hs.weaken h.sub,hf,g⟩
def gJ{wr:AX P}{Hr:HV}{pv:Nat->AO}{AY:σ->Ctx}{Jg:A6 Ctx}{next:σ->A6 ρ}{s':σ}(hm:next s'=some r)
 (h:E2 Γ ts ((N,.DX l<|busy rc)::(pins N T pv++AY s'))):E1 wr Hr N (qA wr Hr N l rc T pv AY Jg next r .normal) Γ:=λ_ _ H hs=>⟨s',hm,H,hs.weaken h.sub⟩
def E9.putObj(w:AK)(l:Nat)(o:Obj):E9 w (w.putObj l o) (some l):=⟨⟨rfl,rfl,rfl,by simp,λj _ hj=>Yr (λe=>hj (by rw[e]))⟩,Az _⟩
def YI{k:Nat}{rc':Loop}(hs:Sat w0 H0 N Γ a w H)(hk:(k,.DX l rc)∈Γ):Sat w0 H0 N ((k,.DX l rc')::B4 k Γ) a (w.putObj l<| .loop rc') H:=by
 obtain⟨h1,h2,h3⟩:=hs.holds _ hk;exact Oa hs hk (E9.putObj w l _) h3 rfl ⟨oL<|lt_of_heap h1,h2,h3⟩ λc hc=> .inl hc
def Sat.alk(hs:Sat w0 H0 N Γ a w H):∀{G:Ctx},(∀p∈G,p.2.free=true/\p.2.holds w0 a w H (AT a p.1))->Sat w0 H0 N (G++Γ) a w H:=λ{G} h=>by
 refine⟨hs.nd,hs.sz,hs.below,hs.Ed,hs.sub,?_,?_,hs.gl⟩
 ·intro p hp;rcases BR.1 hp with hp|hp
  ·exact(h p hp).2
  ·exact hs.holds p hp
 ·intro p hp q hq hne b hb B2;rcases BR.1 hp with hp|hp
  ·exact AJ.free_spec (h p hp).1 hb
  ·rcases BR.1 hq with hq|hq
   ·exact AJ.free_spec (h q hq).1 B2
   ·exact hs.sep p hp q hq hne b hb B2
def uO{w:AK}{H:HV}:∀{ps:A3 Nat} {τs:A3 Ty} {vs:A3 AO} {Γ:Ctx} {a:Act},EW H τs vs->ps.length=τs.length->(∀p∈ps,p<N/\J1 p Γ=true)->ps.Nodup->Sat w0 H0 N Γ a w H->
  ∃G,(∀q∈params ps τs++Γ,q∈G)/\Sat w0 H0 N G {tmps:=(ps.zip vs).foldl (λt (p,v)=>t.setIfInBounds p v) a.tmps,defers:=a.defers} w H
 |[],[],vs,Γ,a,ho,_,_,_,hs=>by
  have:vs=[]:=ho;subst this;exact⟨Γ,λq hq=>hq,hs⟩
 |[],_::_,_,_,_,_,hl,_,_,_=>by simp at hl
 |_::_,[],_,_,_,_,hl,_,_,_=>by simp at hl
 |p::ps,τ::τs,_,Γ,a,⟨v,rest,e,hv,hr⟩,hl,hp,hn,hs=>by
  subst e;obtain⟨Li,Io⟩:=List.nodup_cons.1 hn;have h1:=Ps hs (hp p (by simp)).1 (hp p (by simp)).2 (s:= .val τ) (v:=v) (by simp[AJ.Bn]) hv<|λb h=>h.elim
  obtain⟨G,hG,hS⟩:=uO (ps:=ps) (τs:=τs) (vs:=rest) (Γ:=(p,.val τ)::Γ) hr (by simpa using hl) (λq hq=>⟨(hp q (by simp[hq])).1,by
   have:=(hp q (by simp[hq])).2;simp only[J1,N9,BU] at this⊢;refine⟨⟨?_,by simp[AJ.Bn]⟩,this⟩;simp only[LB,ne_eq];exact λe=>Li<|e▸hq⟩) Io h1
  refine⟨G,λq hq=>hG q ?_,hS⟩;simp only[params,Q9,Ag,BR] at hq⊢;rcases hq with h|h|h
  ·exact .inr<| .inl h
  ·exact .inl h
  ·exact .inr<| .inr h
def Marks.tail{B:AX P}{w:AK}{H:HV}:∀{l m:A3 Deferred},Marks B w H (l++m)->Marks B w H m
 |[],_,h=>h
 |_::_,_,h=>Marks.tail h.2
def Marks.both{B B':AX P}{w w':AK}{H H':HV}:∀{l:A3 Deferred},Marks B w H l->Marks B' w' H' l->Marks B w' H' l
 |[],_,_=>trivial
 |_::_,⟨⟨D,e,h1,_,_,h4⟩,hr⟩,⟨⟨D',e',_,g2,g3,_⟩,gr⟩=>by
  rw[e] at e';cases e';exact⟨⟨D,e,h1,g2,g3,h4⟩,hr.both gr⟩
def ik(w0:AX P)(H0:HV)(N:Nat)(Γ:Ctx)(a:Act)(n1:Nat)(M:Nat->Prop)(Dy:∀p∈Γ,p.2.Eg=false)(hn:w0.n<=n1)(hD:∀D,({target:= .collected D,args:= #[]}:Deferred)∈a.defers++w0.ds->D<n1):Inv where
 n:=n1
 M:=M
 p:=λW H=>Sat w0 H0 N Γ a W H/\∀b,M b↔∃p∈Γ,p.2.owns W (AT a p.1) b
 lt:=λ⟨hS,hM⟩ hb=>by
  obtain⟨p,hp,hb⟩:=(hM _).1 hb;exact AJ.IP (hS.holds p hp) hb
 step:=λ{w w' H H'} ⟨hS,hM⟩ F=>by
  have hk:∀p∈Γ,∀b,p.2.owns w (AT a p.1) b->w'.heap[b]? =w.heap[b]? /\H' b=H b:=λp hp b hb=>by
   have h1:=(AJ.IP (hS.holds p hp) hb).1;have h2:M b:=(hM b).2 ⟨p,hp,hb⟩;exact⟨F.Dh b h1<| .inr h2,F.view b h1<| .inr h2⟩
  refine⟨V4 (ds:=a.defers) hS ?_ F.drawn ?_ F.size F.le F.sub ?_ (λp hp=>⟨hp,hk p hp⟩) ?_,λb=>?_⟩
  ·exact⟨F.os.trans hS.below.os,F.tape.trans hS.below.tape,F.output.trans hS.below.output,CX hS.below.drawn F.drawn,CX hS.below.size F.size,
    λhv k hk hx=>(F.Dh k (K0 hk hS.below.size)<| .inl<|K0 hk hn).trans<|hS.below.block hv k hk hx⟩
  ·exact λ_ r hr _=>F.view r (K0 hr hS.below.size)<| .inl<|K0 hr hn
  ·rintro⟨p,hp,hi⟩;rw[Dy p hp] at hi;cases hi
  ·exact hS.nd.kept λD hm h1 h2=>⟨by rw[F.Dh D (lt_of_heap h1)<| .inl<|hD D hm];exact h1,by rw[F.view D (lt_of_heap h1)<| .inl<|hD D hm];exact h2⟩
  ·rw[hM b];have key:∀p∈Γ,∀b,p.2.owns w' (AT a p.1) b↔p.2.owns w (AT a p.1) b:=λp hp b=>by
    refine(AJ.Us (n:=0) (w':=w') (H':=H') (hS.holds p hp) (λhi=>by rw[Dy p hp] at hi;cases hi) ?_).2 b;exact⟨F.size,F.os,F.tape,F.output,F.drawn,F.le,λb _ h=>h.elim (λh=>by omega)<|λh=>(hk p hp b h).1,λb _ h=>h.elim (λh=>by omega)<|λh=>(hk p hp b h).2,F.sub⟩
   exact⟨λ⟨p,hp,h⟩=>⟨p,hp,(key p hp b).2 h⟩,λ⟨p,hp,h⟩=>⟨p,hp,(key p hp b).1 h⟩⟩
def oW{k:Nat}:∀{Γ:Ctx},(∀p∈Γ,p.1≠k)->B4 k Γ=Γ
 |[],_=>rfl
 |p::Γ,h=>by
  have h1:Nat.beq p.1 k=false:=by
   cases hb:Nat.beq p.1 k
   ·rfl
   ·exact absurd (Dj hb) (h p (by simp))
  simp only[B4,h1,B8];rw[oW λq hq=>h q (by simp[hq])]
def Sat.defs{ds:A3 Deferred}(hs:Sat w0 H0 N Γ a w H)(hm:Marks w0 w H (ds++w0.ds)):Sat w0 H0 N Γ {a with defers:=ds} w H:=
 V4 (ds:=ds) hs hs.below (Az _) (λ_ _ _ _=>rfl) (Az _) (HV.le.refl _) hs.sub (λ_ _ _ _=>⟨rfl,rfl⟩) (λp hp=>⟨hp,λ_ _=>⟨rfl,rfl⟩⟩) hm
def wF{a3 aD:Act}{W W4:AK}{Hc H3:HV}{M:Nat->Prop}{G G':Ctx}(hS:Sat w0 H0 N G aD W Hc)(hds:w0.ds=[])(hrd:w0.rd=none)
 (hM:∀b,M b->w0.Du b/\Hc b=none)(wr:AX P)(hwr:wr=⟨W,M,some l,false,aD.defers,0,F2 _,λ_ _=>F2 _⟩)
 (HN:Sat wr Hc N ((N,.DX l rc)::(pins N T (λt=>AT aD t)++G')) a3 W4 H3)(hT:gU N T G'=true):
  Sat w0 H0 N ((N,.DX l rc)::G') aD W4 H3/\QV M W Hc W4 H3/\∀p∈(N,AJ.DX l rc)::G',∀b,p.2.owns W4 (AT aD p.1) b->M b\/W.heap.size<=b:=by
 have hwn:wr.n=W.heap.size:=by rw[hwr];rfl
 have hwX:wr.X=M:=by rw[hwr]
 have hwv:wr.IF=false:=by rw[hwr]
 have arJ:wr.ds=aD.defers:=by rw[hwr]
 have hww:wr.w=W:=by rw[hwr]
 have Jh:∀t∈T,AT a3 t=AT aD t:=λt ht=>HN.holds (N+1+t,.Jh t<|AT aD t)<|Bi _<|G3 _<|BI.2 ⟨t,ht,rfl⟩
 have mem:∀p∈(N,AJ.DX l rc)::G',p∈(N,AJ.DX l rc)::(pins N T (λt=>AT aD t)++G'):=λp hp=>by
  rcases Ag.1 hp with e|hp
  ·subst e;simp
  ·exact Bi _<|PA _ hp
 have Du:∀b,wr.Du b->w0.Du b:=λb hb=>by
  rcases hb with hb|hb
  ·exact .inl<|CX hS.below.size<|hwn▸hb
  ·exact(hM b<|hwX▸hb).1
 have hle:HV.le Hc H3:=λr o h=>by
  have hlt:=Gk hS.sub h;rw[HN.Ed hwv r (by rw[hwn];exact hlt) (λhx=>by have:=(hM r<|hwX▸hx).2;rw[this] at h;cases h)];exact h
 have Dh:∀b,b<W.heap.size-> ¬M b->W4.heap[b]? =W.heap[b]? /\H3 b=Hc b:=λb hb hn=>by
  have h1:=HN.below.block hwv b (by rw[hwn];exact hb) (by rw[hwX];exact hn);rw[hww] at h1;exact⟨h1,HN.Ed hwv b (by rw[hwn];exact hb) (by rw[hwX];exact hn)⟩
 have hsz:W.heap.size<=W4.heap.size:=by have:=HN.below.size;rw[hwn] at this;exact this
 have hos:W4.os=W.os:=by have:=HN.below.os;rw[hww] at this;exact this
 have hta:W4.tape=W.tape:=by have:=HN.below.tape;rw[hww] at this;exact this
 have hou:W4.output=W.output:=by have:=HN.below.output;rw[hww] at this;exact this
 have hdr:GQ W W4:=by have:=HN.below.drawn;rw[hww] at this;exact this
 have low:∀k,k<w0.n-> ¬w0.X k-> ¬M k:=λk hk hx hm=>by
  rcases(hM k hm).1 with h|h
  ·omega
  ·exact hx h
 have qE:∀p∈(N,AJ.DX l rc)::G',∀b,p.2.owns W4 (AT aD p.1) b↔p.2.owns W4 (AT a3 p.1) b:=λp hp b=>by
  rcases Ag.1 hp with e|hp
  ·subst e;exact Iff.rfl
  ·rw[Jh _ (Oh hT hp).2.1]
 refine⟨⟨?_,hS.sz,?_,?_,HN.sub,?_,?_,HN.gl⟩,⟨hsz,hos,hta,hou,hdr,hle,Dh,HN.sub⟩,?_⟩
 ·have h1:=HN.nd.tail;rw[arJ] at h1;have h2:=hS.nd;rw[hds,JQ] at h2⊢;exact h2.both h1
 ·exact⟨hos.trans hS.below.os,hta.trans hS.below.tape,hou.trans hS.below.output,CX hS.below.drawn hdr,CX hS.below.size hsz,
   λhv k hk hx=>(Dh k (K0 hk hS.below.size)<|low k hk hx).1.trans<|hS.below.block hv k hk hx⟩
 ·exact λhv r hr hx=>(Dh r (K0 hr hS.below.size)<|low r hr hx).2.trans<|hS.Ed hv r hr hx
 ·intro p hp;have h1:=HN.holds p<|mem p hp
  have hi:p.2.Eg=false:=by
   rcases Ag.1 hp with e|hp
   ·subst e;rfl
   ·exact(Oh hT hp).2.2.2
  have h2:=AJ.R6 (B':=w0) hi h1 λb hb=>Du b<|AJ.Oq hi h1 hb
  rcases Ag.1 hp with e|hp
  ·subst e;exact h2
  ·obtain⟨_,hk,hl,_⟩:=Oh hT hp;rw[<-Jh _ hk];exact AJ.Oo (λt ht=>(Jh t<|hl t ht).symm) h2
 ·intro p hp q hq hne b hb B2;exact HN.sep p (mem p hp) q (mem q hq) hne b ((qE p hp b).1 hb)<|(qE q hq b).1 B2
 ·intro p hp b hb;have h1:=HN.holds p<|mem p hp
  have hi:p.2.Eg=false:=by
   rcases Ag.1 hp with e|hp
   ·subst e;rfl
   ·exact(Oh hT hp).2.2.2
  rcases AJ.Oq hi h1 ((qE p hp b).1 hb) with h|h
  ·exact .inr<|hwn▸h
  ·exact .inl<|hwX▸h
def oR{α:Type}{gt:Tmp}{psl:A3 Tmp}{assign body:Code}{enc:α->A3 Ty}{L:A3 α}{o:A6 (A3 α)}(T:A3 Nat)(AY:σ->Ctx)(Jg:A6 Ctx)
 {Bd:(σ->A6 ρ)->α->σ->A6 ρ}{K:σ->A6 ρ}{s0:σ}
 (hm:Il L Bd s0 K=some r)(ho:o=some L)(hrd:w0.rd=none)(hds:w0.ds=[])(hg:look Γ gt=some (.val<|UA P enc o))(h0:E2 Γ ts (AY s0))
 (hT:∀s,gU N T (AY s)=true)(hTx:∀G,Jg=some G->gU N T G=true)(hps:∀x,(enc x).length=psl.length)(hpN:(psl.all λp=>Nat.blt p N&& !T.contains p)=true)(Ht:psl.Nodup)
 (round:∀(wr:AX P) (Hr:HV) (l:Nat) (rc:Loop) (pv:Nat->AO) (next:σ->A6 ρ) (x:α) (s:σ),wr.rd=some l->Bd next x s=some r->
 Goal P wr Hr N assign (yu wr Hr N l rc T pv body AY Jg next r) (params psl (enc x)++((N,.DX l rc)::(pins N T pv++AY s))))
 (kk:∀s,K s=some r->E1 w0 H0 N (Q .normal) (AY s))(kx:∀G,Jg=some G->E1 w0 H0 N (Q .ret) G):Goal P w0 H0 N (.rangeFunc (.tmp gt) psl.toArray assign body) Q Γ:=by
 intro a w H hs;have hinv:∀s,∀p∈AY s,p.2.Eg=false:=λs p hp=>(Oh (hT s) hp).2.2.2
 have aaG:∀s,∀p∈AY s,p.1≠N:=λs p hp=>Nat.ne_of_lt (Oh (hT s) hp).1
 rw[hrd];refine wpIn_rangeFunc ?_;intro fn _;obtain⟨gf,cap,Ei,eg,hcap,WC⟩:=hs.holds _<|Au hg
 obtain⟨U3,aon⟩:=WC L ho;simp only at eg;obtain⟨Di,Qc⟩:∃Di:Loop,Di={state:= .ready,pending:=none,fn,tmps:=a.tmps,params:=psl.toArray,assign,body,defers:=w.heap.size}:=⟨_,rfl⟩;obtain⟨W1,hW1⟩:∃W1,(w.alloc<| .deferred<|some []).alloc (.loop Di)=W1:=⟨_,rfl⟩;obtain⟨aD,haD⟩:∃aD:Act,{a with defers:={target:= .collected w.heap.size,args:= #[]}::a.defers}=aD:=⟨_,rfl⟩;have atb:W1.heap.size=w.heap.size+2:=by rw[<-hW1];simp
 have hL1:W1.heap[w.heap.size+1]? =some (.loop Di):=by
  rw[<-hW1];have:=World.alloc_heap_new (w.alloc<| .deferred<|some []) (.loop Di);rwa [World.size_alloc] at this
 have hK1:W1.heap[w.heap.size]? =some (.deferred<|some []):=by
  rw[<-hW1];exact(Below.heap_alloc _ _ _ (by simp)).trans<|World.alloc_heap_new w _
 have hHn:∀b,w.heap.size<=b->H b=none:=λb hb=>by
  cases hh:H b with
  |none=>rfl
  |some o=>have:=Gk hs.sub hh;omega
 have he:Ext w H W1 H:=by
  have e1:=Ext.alloc hs.sub (w:=w)<| .deferred<|some []
  have e2:=Ext.alloc e1.sub (w:=w.alloc<| .deferred<|some [])<| .loop Di
  rw[hW1] at e2;refine⟨⟨?_,CX e1.below.drawn e2.below.drawn⟩,HV.le.refl _,λ_ _=>rfl,e2.sub⟩;have h1:=e1.below.toBelow;have h2:=e2.below.toBelow;exact h1.trans (h2.mono (by simp))
 have hsD:Sat w0 H0 N ((N,.DX (w.heap.size+1) Di)::AY s0) aD W1 H:=by
  have hs1:=dZ (hs.weaken h0.sub) he;have hmk:Marks w0 W1 H (aD.defers++w0.ds):=by
   rw[<-haD];refine⟨⟨w.heap.size,rfl,λ_=>hs.below.size,hK1,hHn _<|Az _,?_⟩,hs1.nd⟩;intro e he1 he2;have:∀{l:A3 Deferred},Marks w0 w H l->e∈l->False:=by
    intro l
    induction l with
    |nil=>intro _ h;cases h
    |cons x l ih=>
     rintro⟨⟨D,ex,_,g2,_,_⟩,gr⟩ h;rcases Ag.1 h with h|h
     ·subst h;rw[ex] at he2;have hD:D=w.heap.size:=by injection he2 with h _;injection h
      subst hD;have:=lt_of_heap g2;omega
     ·exact ih gr h
   exact this hs.nd he1
  have Jk:Sat w0 H0 N (AY s0) aD W1 H:=by rw[<-haD] at hmk⊢;exact hs1.defs hmk
  refine⟨Jk.nd,Jk.sz,Jk.below,Jk.Ed,Jk.sub,?_,?_,Jk.gl⟩
  ·intro p hp;rcases Ag.1 hp with e|hp
   ·subst e;exact⟨hL1,hHn _ (by omega),.inl (CX hs.below.size (by omega))⟩
   ·exact Jk.holds p hp
  ·have key:∀q∈AY s0,¬q.2.owns W1 (AT aD q.1) (w.heap.size+1):=λq hq hb=>by
    have B2:q.2.owns W1 (AT a q.1) (w.heap.size+1):=by rw[<-haD] at hb;exact hb
    have:=(AJ.IP ((hs.weaken h0.sub).holds q hq)<|(AJ.dh he ((hs.weaken h0.sub).holds q hq) _).1 B2).1;omega
   intro p hp q hq hne b hb B2;rcases Ag.1 hp with e|hp<;>rcases Ag.1 hq with e'|hq
   ·subst e;subst e';exact hne rfl
   ·subst e;cases hb;exact key q hq B2
   ·subst e';cases B2;exact key p hp hb
   ·exact Jk.sep p hp q hq hne b hb B2
 have hDl:∀D,({target:= .collected D,args:= #[]}:Deferred)∈aD.defers++w0.ds->D<W1.heap.size:=by
  intro D hD;have:∀{l:A3 Deferred},Marks w0 W1 H l->({target:= .collected D,args:= #[]}:Deferred)∈l->D<W1.heap.size:=by
   intro l
   induction l with
   |nil=>intro _ h;cases h
   |cons x l ih=>
    rintro⟨⟨D',ex,_,g2,_,_⟩,gr⟩ h;rcases Ag.1 h with h|h
    ·rw[ex] at h;have hD:D=D':=by injection h with h _;injection h
     subst hD;exact lt_of_heap g2
    ·exact ih gr h
  exact this hsD.nd hD
 have Li:w0.n<=W1.heap.size:=by have:=hs.below.size;omega
 have ir:∀s,∀p∈(N,AJ.DX (w.heap.size+1) Di)::AY s,p.2.Eg=false:=λs p hp=>by
  rcases Ag.1 hp with e|hp
  ·subst e;rfl
  ·exact hinv s p hp
 have Zf:∃rcx:Loop,rcx={Di with state:= .done,pending:=some .ret}:=⟨_,rfl⟩;obtain⟨rcx,Zf⟩:=Zf;have aao:∀G,Jg=some G->∀p∈(N,AJ.DX (w.heap.size+1) rcx)::G,p.2.Eg=false:=λG hG p hp=>by
  rcases Ag.1 hp with e|hp
  ·subst e;rfl
  ·exact(Oh (hTx G hG) hp).2.2.2
 let J:σ->Inv->Prop:=λs I=>∃M,I=ik w0 H0 N ((N,.DX (w.heap.size+1) Di)::AY s) aD W1.heap.size M (ir s) Li hDl
 let Jx:Inv->Prop:=λI=>∃G,∃hG:Jg=some G,∃M,I=ik w0 H0 N ((N,.DX (w.heap.size+1) rcx)::G) aD W1.heap.size M (aao G hG) Li hDl
 refine⟨w.heap.size+1,[{target:= .collected w.heap.size,args:= #[]}],W1,{target:= .fn (.func gf) cap,args:= #[.func (.yield<|w.heap.size+1) #[] #[]]},W1,gf,#[.func (.yield<|w.heap.size+1) #[] #[]]++cap,W1,?_,?_,?_,?_,(λe=>by cases e),?_⟩
 ·rw[<-hW1,Qc];exact run_enterLoop_outer _ _ _ _ _
 ·have eg':a.eval (.tmp gt)= .func (.func gf) #[] cap:=eg;simp only[resolve,eg'];simp[go_sem]
 ·intro f' _;trivial
 ·have:=Ob U3 (#[.func (.yield<|w.heap.size+1) #[] #[]]++cap) W1;simp only[invoke];exact this
 ·
  have ec:(#[.func (.yield<|w.heap.size+1) #[] #[]]++cap:Aw AO)=(.func (.yield<|w.heap.size+1) #[] #[]::cap.toList).toArray:=by apply Array.ext';simp
  rw[ec];refine CallsIn.zy (za<|aon Bd K s0 r hm (w.heap.size+1) J Jx W1 H cap.toList _ hsD.sub hsD.gl (Y2 (HV.le.refl _) hcap) ⟨λb=>∃p∈(N,AJ.DX (w.heap.size+1) Di)::AY s0,p.2.owns W1 (AT aD p.1) b,rfl⟩ rfl ⟨hsD,λb=>Iff.rfl⟩ ?_) ?_
  ·
   rintro next x s I W Hc vs hBd ⟨M,rfl⟩ _ ⟨hS,hM⟩ B0 hgl hvs
   have hM':∀b,M b->w0.Du b/\Hc b=none:=λb hb=>by
    obtain⟨p,hp,hb⟩:=(hM b).1 hb;exact⟨AJ.Oq (ir s p hp) (hS.holds p hp) hb,(AJ.IP (hS.holds p hp) hb).2.1⟩
   obtain⟨hl1,hl2,hl3⟩:=hS.holds (N,.DX (w.heap.size+1) Di) (by simp);have L2:vs.length=psl.length:=by rw[RQ hvs,hps x]
   have hy:=run_yield (P:=P) (args:=vs.toArray) hl1 (by rw[Qc];simpa using L2);refine⟨Di.fn,_,Di.assign,Di.body,hy,roundIn_of_wpIn trivial ?_⟩;have ea:Di.assign=assign:=by rw[Qc]
   have eb:Di.body=body:=by rw[Qc]
   have et:((Di.params.zip vs.toArray).foldl (λtmps (t,a)=>tmps.setIfInBounds t a) Di.tmps)=((psl.zip vs).foldl (λt (p,v)=>t.setIfInBounds p v) aD.tmps):=by
    rw[Qc,<-haD];simp
   rw[ea,eb,et];obtain⟨wr,hwr⟩:∃wr:AX P,wr=⟨W,M,some<|w.heap.size+1,false,aD.defers,0,F2 _,λ_ _=>F2 _⟩:=⟨_,rfl⟩;have qP:wr.rd=some (w.heap.size+1):=by rw[hwr]
   have KJ:Sat wr Hc N ((N,.DX (w.heap.size+1) Di)::AY s) {aD with defers:=[]} W Hc:=by
    refine⟨?_,hS.sz,?_,λ_ _ _ _=>rfl,hS.sub,?_,hS.sep,hS.gl⟩
    ·rw[hwr];show Marks _ W Hc ([]++aD.defers);have h2:=hS.nd;rw[hds,JQ] at h2;have:∀{l:A3 Deferred},Marks w0 W Hc l->Marks (⟨W,M,some<|w.heap.size+1,false,aD.defers,0,F2 _,λ_ _=>F2 _⟩:AX P) W Hc l:=by
      intro l
      induction l with
      |nil=>exact λ_=>trivial
      |cons x l ih=>exact λ⟨⟨D,e,_,g2,g3,g4⟩,gr⟩=>⟨⟨D,e,(λh=>by cases h),g2,g3,g4⟩,ih gr⟩
     exact this h2
    ·rw[hwr];exact⟨rfl,rfl,rfl,Az _,Az _,λ_ _ _ _=>rfl⟩
    ·intro p hp;refine AJ.Oo (a:=aD) (λ_ _=>rfl)<|AJ.R6 (ir s p hp) (hS.holds p hp) λb hb=>?_
     rw[hwr];exact .inr<|(hM b).2 ⟨p,hp,hb⟩
   have hr1:Sat wr Hc N (pins N T (λt=>AT aD t)++((N,.DX (w.heap.size+1) Di)::AY s)) {aD with defers:=[]} W Hc:=by
    refine KJ.alk λp hp=>?_
    obtain⟨t,ht,rfl⟩:=BI.1 hp;exact⟨rfl,rfl⟩
   obtain⟨G,hG,H7⟩:=uO (ps:=psl) (τs:=enc x) (vs:=vs) hvs (hps x).symm (λp hp=>by
    have h1:=Cy.1 hpN p hp;simp only[BU,F6] at h1;have hpT:p∉T:=λh=>by have:=Ro.2 h;rw[h1.2] at this;cases this
    refine⟨AU h1.1,Cy.2 λq hq=>?_⟩;have hlt:=AU h1.1;simp only[BU,LB,ne_eq,F6];rcases BR.1 hq with hq|hq
    ·obtain⟨t,ht,rfl⟩:=BI.1 hq;refine⟨by simp only;omega,?_⟩;simp only[AJ.Bn,List.contains_cons,List.contains_nil,fL,QB,ne_eq];exact λe=>hpT<|e▸ht
    ·rcases Ag.1 hq with e|hq
     ·subst e;exact⟨by simp only;omega,rfl⟩
     ·obtain⟨_,k2,k3,_⟩:=Oh (hT s) hq;refine⟨λe=>hpT<|e▸k2,?_⟩;cases hc:q.2.Bn.contains p
      ·rfl
      ·exact absurd (k3 p<|Ro.1 hc) hpT) Ht hr1
   have hr3:Sat wr Hc N (params psl (enc x)++((N,.DX (w.heap.size+1) Di)::(pins N T (λt=>AT aD t)++AY s))) _ W Hc:=H7.weaken λq hq=>hG q (by
    simp only[BR,Ag] at hq⊢;rcases hq with h|h|h|h
    ·exact .inl h
    ·exact .inr<| .inr<| .inl h
    ·exact .inr<| .inl h
    ·exact .inr<| .inr<| .inr h)
   have aax:=round wr Hc (w.heap.size+1) Di (λt=>AT aD t) next x s qP hBd _ W Hc hr3
   rw[qP] at aax;refine VG (F:=FB<|some<|w.heap.size+1) aax ?_;rintro e a1 W2 hq;cases e with
   |normal=>
    obtain⟨Γa,H2,hS2,hdk,hgo⟩:=hq;have hb0:=hS2.holds (N,.DX (w.heap.size+1) Di) (by simp);refine⟨_,run_beginRound hb0.1 (by rw[Qc]),?_⟩;have aaz:=YI (l:=w.heap.size+1) (rc:=Di) (rc':=busy Di) hS2 (k:=N) (by simp);have edk:B4 N ((N,AJ.DX (w.heap.size+1) Di)::Γa)=Γa:=by
     have:Nat.beq N N=true:=by simp
     simp only[B4,this,BM];exact hdk
    rw[edk] at aaz;have aaK:=hgo a1 _ H2 aaz;rw[qP] at aaK;refine VG (F:=FB<|some<|w.heap.size+1) aaK ?_;rintro e a3 W3 hq3;cases e with
    |normal=>
     obtain⟨s',Gc,H3,hS3⟩:=hq3;have hb3:=hS3.holds (N,.DX (w.heap.size+1)<|busy Di) (by simp);have HN:=YI (l:=w.heap.size+1) (rc:=busy Di) (rc':=Di) hS3 (k:=N) (by simp);have qj:B4 N ((N,AJ.DX (w.heap.size+1)<|busy Di)::(pins N T (λt=>AT aD t)++AY s'))=pins N T (λt=>AT aD t)++AY s':=by
      have:Nat.beq N N=true:=by simp
      simp only[B4,this,BM];refine oW λp hp=>?_
      rcases BR.1 hp with hp|hp
      ·obtain⟨t,_,rfl⟩:=BI.1 hp;simp only;omega
      ·exact aaG s' p hp
     rw[qj] at HN;obtain⟨hB1,hB2,hB3⟩:=wF hS hds hrd hM' wr hwr HN<|hT s'
     have erc:({busy Di with state:=if(none:A6 Code).isNone then .ready else .done,pending:=none}:Loop)=Di:=by rw[Qc];rfl
     refine⟨_,_,run_endRound none hb3.1,H3,ik w0 H0 N ((N,.DX (w.heap.size+1) Di)::AY s') aD W1.heap.size (λb=>∃p∈(N,AJ.DX (w.heap.size+1) Di)::AY s',p.2.owns (W3.putObj (w.heap.size+1)<| .loop Di) (AT aD p.1) b) (ir s') Li hDl,rfl,?_,?_,?_,.inl ⟨rfl,s',Gc,_,rfl⟩⟩
     ·rw[erc];exact⟨hB1,λb=>Iff.rfl⟩
     ·rw[erc];exact hB2
     ·rintro b ⟨p,hp,hb⟩;exact hB3 p hp b hb
    |ret=>
     obtain⟨G,hG,H3,hS3⟩:=hq3;have hb3:=hS3.holds (N,.DX (w.heap.size+1)<|busy Di) (by simp);have HN:=YI (l:=w.heap.size+1) (rc:=busy Di) (rc':=rcx) hS3 (k:=N) (by simp);have qj:B4 N ((N,AJ.DX (w.heap.size+1)<|busy Di)::(pins N T (λt=>AT aD t)++G))=pins N T (λt=>AT aD t)++G:=by
      have:Nat.beq N N=true:=by simp
      simp only[B4,this,BM];refine oW λp hp=>?_
      rcases BR.1 hp with hp|hp
      ·obtain⟨t,_,rfl⟩:=BI.1 hp;simp only;omega
      ·exact Nat.ne_of_lt (Oh (hTx G hG) hp).1
     rw[qj] at HN;obtain⟨hB1,hB2,hB3⟩:=wF hS hds hrd hM' wr hwr HN<|hTx G hG
     have erc:({busy Di with state:=if(some Code.ret:A6 Code).isNone then .ready else .done,pending:=some .ret}:Loop)=rcx:=by rw[Zf];rfl
     refine⟨_,_,run_endRound (some .ret) hb3.1,H3,ik w0 H0 N ((N,.DX (w.heap.size+1) rcx)::G) aD W1.heap.size (λb=>∃p∈(N,AJ.DX (w.heap.size+1) rcx)::G,p.2.owns (W3.putObj (w.heap.size+1)<| .loop rcx) (AT aD p.1) b) (aao G hG) Li hDl,rfl,?_,?_,?_,.inr ⟨rfl,G,hG,_,rfl⟩⟩
     ·rw[erc];exact⟨hB1,λb=>Iff.rfl⟩
     ·rw[erc];exact hB2
     ·rintro b ⟨p,hp,hb⟩;exact hB3 p hp b hb
    |exit id=>exact hq3.elim
    |goto t=>exact hq3.elim
    |panic ch=>exact hq3.elim
    |outgrown=>exact hq3.elim
   |ret=>exact hq.elim
   |exit id=>exact hq.elim
   |goto t=>exact hq.elim
   |panic ch=>exact hq.elim
   |outgrown=>exact hq.elim
  ·
   rintro e w3 ⟨⟨v,rfl⟩,H',I',hp,atG,(⟨s,hK,M,rfl⟩|⟨G,hG,M,rfl⟩)⟩
   ·obtain⟨hS,_⟩:=hp;obtain⟨hl1,_,_⟩:=hS.holds (N,.DX (w.heap.size+1) Di) (by simp);have hel:=run_endLoop (P:=P) hl1 (by rw[Qc];simp);have epe:Di.pending=none:=by rw[Qc]
    rw[epe] at hel;refine⟨none,_,hel,?_⟩;have h5:=YI (l:=w.heap.size+1) (rc:=Di) (rc':={Di with state:= .exhausted,pending:=none}) hS (k:=N) (by simp);have h6:Sat w0 H0 N (AY s) aD (w3.putObj (w.heap.size+1)<| .loop {Di with state:= .exhausted,pending:=none}) H':=h5.weaken λq hq=>by
     refine Bi _<|Ov ?_<|aaG s q hq
     exact Bi _ hq
    have:=kk s hK aD _ H' h6;rw[<-haD] at this;exact this
   ·obtain⟨hS,_⟩:=hp;obtain⟨hl1,_,_⟩:=hS.holds (N,.DX (w.heap.size+1) rcx) (by simp);have hel:=run_endLoop (P:=P) hl1 (by rw[Zf];simp);have epe:rcx.pending=some .ret:=by rw[Zf]
    rw[epe] at hel;refine⟨some .ret,_,hel,?_⟩;refine wpIn_ret ?_;have h5:=YI (l:=w.heap.size+1) (rc:=rcx) (rc':={rcx with state:= .exhausted,pending:=some .ret}) hS (k:=N) (by simp);have h6:Sat w0 H0 N G aD (w3.putObj (w.heap.size+1)<| .loop {rcx with state:= .exhausted,pending:=some .ret}) H':=h5.weaken λq hq=>by
     refine Bi _<|Ov ?_<|Nat.ne_of_lt (Oh (hTx G hG) hq).1
     exact Bi _ hq
    have:=kx G hG aD _ H' h6;rw[<-haD] at this;exact this
end
section
variable[D:DR]
def AX.iter(P:Bs)(w:AK):AX P:=⟨w,Jj,none,true,[],w.heap.size,Az _,λ_ h=>h.elim⟩
end
section
variable[D:DR]
variable{P:Program}{w0:AX P}{H0:HV}{N:Nat}{Q:Exit->Act->World->Prop}{Γ Ae:Ctx}
variable{σ ρ:Type}{r:ρ}{J:σ->Inv->Prop}{I:Inv}{Jx:Inv->Prop}{α:Type}{enc:α->A3 Ty}{ts:A3 Nat}{fn:Func}{s:σ}{ops:Aw Oper}{xs:A3 Bu}{ty:Af}{pos:String}{af:Aw Edge}{K:σ->A6 ρ}{a:Act}{w:AK}{H:HV}{Bd:(σ->A6 ρ)->α->σ->A6 ρ}{l:Nat}{next:σ->A6 ρ}{x:α}{t dy dn:Nat}{Ec:Aw Af}{Jd tb:Af}{pos':String}{Ky:Aw Edge}{G8:Ctx}
def jB{σ ρ:Type}(K:σ->A6 ρ)(r:ρ)(J:σ->Inv->Prop)(Jx:Inv->Prop)(e:Ending)(w':AK):Prop:=
 (∃v,e= .returned v)/\∃H' I',I'.p w' H'/\(∀r o,H' r=some o->w'.heap[r]? =some o)/\((∃s,K s=some r/\J s I')\/Jx I')
def qC(P:Bs)(fn:Func)(R:Ending->AK->Prop):Exit->Act->AK->Prop:=bodyPostM (FB none) 0 P fn R
def S1(l:Nat):Ty:=TEq (.func (.yield l) #[] #[]) rfl
def vX(hX:(w0.ds,w0.rd)=([],none))(hr:fn.results= #[])(hI:look Γ N=some (.inv I))(hK:(∃s,K s=some r/\J s I)\/Jx I)
 (hs:Sat w0 H0 N Γ a w H):LeavesInM (FB none) 0 P fn a.tmps (jB K r J Jx) a.defers .returning w:=by
 refine Uk (congrArg (λp=>p.1) hX) (congrArg (λp=>p.2) hX) (a:=a) (ds:=a.defers) hs λw H hs=>?_
 refine⟨.tuple #[],?_,⟨_,rfl⟩,H,I,(hs.holds _<|Au hI).1,hs.sub,hK⟩;rw[Xi (rs:=[]) (by rw[hr])];simp
def ze(hX:(w0.ds,w0.rd)=([],none))(hr:fn.results= #[])(hI:look Γ N=some (.inv I))(hK:K s=some r)(hJ:J s I):
  E1 w0 H0 N (λa w=>qC P fn (jB K r J Jx) .normal a w) Γ:=λ_ _ _ hs=>vX hX hr hI (.inl ⟨s,hK,hJ⟩) hs
def yh(hX:(w0.ds,w0.rd)=([],none))(hr:fn.results= #[])(hI:look Γ N=some (.inv I))(hJ:Jx I):
  E1 w0 H0 N (λa w=>qC P fn (jB K r J Jx) .ret a w) Γ:=λ_ _ _ hs=>vX hX hr hI (.inr hJ) hs
def uZ{gf:FuncId}{c:Code}{Ei:A3 Ty}{L:A3 α}{N:Nat}(hf:P.funcs[gf]? =some fn)(hb:fn.body=some c)(hN:fn.ntmps=N)(hn:Ei.length+1<=N)(hc:GA P gf=true)
 (h:∀{σ ρ:Type} (Bd:(σ->A6 ρ)->α->σ->A6 ρ) (K:σ->A6 ρ) (s0:σ) (r:ρ),Il L Bd s0 K=some r->∀(l:Nat) (J:σ->Inv->Prop) (Jx:Inv->Prop) (w:AK) (H:HV) (I0:Inv),J s0 I0->I0.n=w.heap.size->
 Z1 P l enc Bd r J Jx w.heap.size->Goal P (AX.iter P w) H N c (qC P fn<|jB K r J Jx) ((N,.inv I0)::Gy 0 (S1 l::Ei))):YB P gf Ei enc L:=by
 subst hN;refine⟨hc,λBd K s0 r hm l J Jx w H cvs I0 sub gl Al hJ hI hIp hy=>?_⟩;have qU:EW H (S1 l::Ei) (.func (.yield l) #[] #[]::cvs):=⟨_,_,rfl,rfl,Al⟩;have hS:=vg (P:=P) (n:=fn.ntmps) sub gl qU (by simpa using hn);refine(callsIn_wide (n:=0)).1<|callsIn_of_wp_marks (F:=Fence.wide) hf hb trivial<|h Bd K s0 r hm l J Jx w H I0 hJ hI hy _ w H ?_
 have Dy:∀p∈Gy 0 (S1 l::Ei),p.2.Eg=false/\∀v b,¬p.2.owns w v b:=by
  have:∀(l:A3 Ty) (i:Nat),∀p∈Gy i l,p.2.Eg=false:=by
   intro l
   induction l with
   |nil=>intro i p hp;simp[Gy] at hp
   |cons τ l ih=>
    intro i p hp;simp only[Gy,Ag] at hp;rcases hp with e|hp
    ·subst e;rfl
    ·exact ih _ p hp
  exact λp hp=>⟨this _ _ p hp,λv b=>lP p hp⟩
 refine⟨trivial,hS.sz,⟨rfl,rfl,rfl,Az _,Az _,λ_ _ _ _=>rfl⟩,λ_ _ _ _=>rfl,hS.sub,?_,?_,hS.gl⟩
 ·intro p hp;rcases Ag.1 hp with e|hp
  ·subst e;exact⟨hIp,hI⟩
  ·exact AJ.R6 (Dy p hp).1 (hS.holds p hp) λb hb=>absurd hb<|(Dy p hp).2 _ b
 ·intro p hp q hq hne b hb B2;rcases Ag.1 hp with e|hp
  ·rcases Ag.1 hq with e'|hq
   ·subst e;subst e';exact hne rfl
   ·exact(Dy q hq).2 _ b B2
  ·exact(Dy p hp).2 _ b hb
def agc{w':AK}{H':HV}{k:Nat}{I':Inv}(hv:w0.IF=true)(FG:w0.lo=w0.n)(hs:Sat w0 H0 N Γ a w H)(hk:(k,.inv I)∈Γ)(Dy:∀q∈B4 k Γ,q.2.Eg=false)
 (hy:QV I.M w H w' H')(hI:I'.n=w0.n)(hp:I'.p w' H')(hM:∀b,I'.M b->I.M b\/w.heap.size<=b):Sat w0 H0 N ((k,.inv I')::B4 k Γ) a w' H':=by
 have hIk:=hs.holds _ hk;have other:∀q∈B4 k Γ,∀b,q.2.owns w (AT a q.1) b-> ¬I.M b:=λq hq b hb hm=>hs.sep q (Cq q hq).1 _ hk (Cq q hq).2 b hb hm
 have L4:∀q∈B4 k Γ,∀b,q.2.owns w (AT a q.1) b->w'.heap[b]? =w.heap[b]? /\H' b=H b:=λq hq b hb=>
  hy.Dh b (AJ.IP (hs.holds q (Cq q hq).1) hb).1 (other q hq b hb)
 have key:∀q∈B4 k Γ,q.2.holds w0 a w' H' (AT a q.1)/\∀b,q.2.owns w' (AT a q.1) b↔q.2.owns w (AT a q.1) b:=λq hq=>by
  refine AJ.Us (n:=0) (hs.holds q (Cq q hq).1) (λhi=>by rw[Dy q hq] at hi;cases hi) ?_;exact⟨hy.size,hy.os,hy.tape,hy.output,hy.drawn,hy.le,λb _ h=>h.elim (λh=>by omega)<|λh=>(L4 q hq b h).1,λb _ h=>h.elim (λh=>by omega)<|λh=>(L4 q hq b h).2,hy.sub⟩
 refine⟨?_,hs.sz,?_,λh=>by(rw[hv] at h;cases h),hy.sub,?_,?_,hs.gl.mono hy.le⟩
 ·refine hs.nd.kept λD _ h1 h2=>?_
  have hn: ¬I.M D:=λhm=>by
   obtain⟨_,_,o,ho,JF⟩:=I.lt hIk.1 hm;rw[h1] at ho;cases ho;exact JF
  have:=hy.Dh D (lt_of_heap h1) hn;exact⟨by rw[this.1];exact h1,by rw[this.2];exact h2⟩
 ·exact⟨hy.os.trans hs.below.os,hy.tape.trans hs.below.tape,hy.output.trans hs.below.output,CX hs.below.drawn hy.drawn,CX hs.below.size hy.size,λh=>by rw[hv] at h;cases h⟩
 ·intro q hq;rcases Ag.1 hq with e|hq
  ·subst e;exact⟨hp,by rw[FG];exact hI⟩
  ·exact(key q hq).1
 ·have low:∀q∈B4 k Γ,∀b,q.2.owns w' (AT a q.1) b-> ¬I'.M b:=λq hq b hb hm=>by
   have hb:=((key q hq).2 b).1 hb;rcases hM b hm with h|h
   ·exact other q hq b hb h
   ·have:=(AJ.IP (hs.holds q (Cq q hq).1) hb).1;omega
  intro q hq r hr hne b hb B2;rcases Ag.1 hq with e|hq<;>rcases Ag.1 hr with e'|hr
  ·subst e;subst e';exact hne rfl
  ·subst e;exact low r hr b B2 hb
  ·subst e';exact low q hq b hb B2
  ·exact hs.sep q (Cq q hq).1 r (Cq r hr).1 hne b (((key q hq).2 b).1 hb)<|((key r hr).2 b).1 B2
def Ib.am3{l:A3 Oper}(h:Ib P w0 N ops l Γ Ae):J3 l=true->∀(l2:A3 Oper) (H0:HV) (a:Act) (w:AK) (H:HV),Sat w0 H0 N Γ a w H->∀(Q:Exit->Act->AK->Prop),
  (∀a' w' H',Sat w0 H0 N Ae a' w' H'->wpListIn (FB w0.rd) 0 P ops Q l2 a' w')->wpListIn (FB w0.rd) 0 P ops Q (l++l2) a w:=by
 induction h with
 |done=>exact λ_ _ _ _ _ H hs _ k=>k _ _ H hs
 |fin h=>exact λ_ _ _ _ _ H hs _ k=>k _ _ H<|hs.weaken h.sub
 | @cons _ _ _ o l h _ ih=>
  intro Al l2 H0 a w H hs Q k;have EX:=h w0 H0 a w H hs (wpListIn (FB w0.rd) 0 P ops Q<|l++l2) Q λa' w' H' CG=>ih (uT Al) l2 H0 a' w' H' CG Q k
  show wpListIn _ _ _ _ _ (o::(l++l2)) a w;unfold wpListIn;split
  ·rename_i hw;rw[if_pos hw] at EX;exact YL (lG Al (by simp)) EX
  ·rename_i hw;rw[if_neg hw] at EX;exact⟨λ_ _=>trivial,EX⟩
 |ghost h _ ih=>
  intro Al l2 H0 a w H hs Q k;obtain⟨H',CG⟩:=h H0 a w H hs;exact ih Al l2 H0 a w H' CG Q k
def yOk(N dy dn:Nat)(Γ:Ctx):Bool:=Γ.all λp=>p.1 !=N&&p.1 !=dy&&p.1 !=dn&&p.2.Bn.all (λt=>t !=dy&&t !=dn)&& !p.2.Eg
def uI
 {Q:Exit->Act->AK->Prop}
 (hv:(w0.IF,w0.rd,w0.X)=(true,none,Jj))(FG:w0.lo=w0.n)(hy:Z1 P l enc Bd r J Jx w0.n)
 (hm:Bd next x s=some r)(hJ:J s I)(ht:look Γ t=some (.val<|S1 l))(ha:AL Γ xs (enc x))(hI:look Γ N=some (.inv I))(KA:E2 Γ ts G8)(Al:yOk N dy dn G8=true)(hdy:dy<N)(hdn:dn<N)
 (kt:∀s' I',next s'=some r->J s' I'->E1 w0 H0 N (Q .normal) ((dn,.val<|Ar false)::(N,.inv I')::G8))(kf:∀I',Jx I'->E1 w0 H0 N (Q .normal) ((dn,.val<|Ar true)::(N,.inv I')::G8))
 (hs:Sat w0 H0 N Γ a w H):
  wpListIn (FB w0.rd) 0 P ops Q [⟨some dy,.call ⟨.value<| .tmp t,xs.toArray,Ec⟩,ty,pos,af,none⟩,⟨some dn,.unOp .not tb<| .tmp dy,Jd,pos',Ky,none⟩] a w:=by
 obtain⟨hv1,hv2,hv3⟩:w0.IF=true/\w0.rd=none/\w0.X=Jj:=by
  refine⟨congrArg (λp=>p.1) hv,congrArg (λp=>p.2.1) hv,congrArg (λp=>p.2.2) hv⟩
 have e1:a.eval (.tmp t)= .func (.yield l) #[] #[]:=hs.holds _<|Au ht
 have hI0:=hs.holds _<|Au hI
 have hIn:I.n=w0.n:=by rw[<-FG];exact hI0.2
 obtain⟨fn,tmps,assign,body,Eh,amj⟩:=hy next x s I w H (xs.map a.eval) hm hJ hIn hI0.1 hs.sub hs.gl<|ha.ok hs
 unfold wpListIn;have hw:Region.wanted (⟨some dy,.call ⟨.value<| .tmp t,xs.toArray,Ec⟩,ty,pos,af,none⟩:Oper) (yielded ops a.tmps)=true:=rfl;rw[if_pos hw];refine⟨λ_ _=>trivial,?_⟩;rw[Oper.semAt_eq _ _ _ (by intro c e;cases e)];have e0:execOp a.eval ⟨some dy,.call ⟨.value<| .tmp t,xs.toArray,Ec⟩,ty,pos,af,none⟩=Instr.yield l (#[]++xs.toArray.map a.eval++ #[]):=by
  simp only[execOp,resolve,e1,Deferred.ofValue,pure_bind]
  rfl
 have e2:(#[]++xs.toArray.map a.eval++ #[])=(xs.map a.eval).toArray:=by simp
 rw[e0,e2,Eh];refine⟨(λe=>by cases e),?_⟩;rw[hv2];refine RoundIn.mono amj ?_;rintro e w' ⟨H',I',asA,as9,aoe,hM,apA⟩;have ati:∀q∈G8,q∈B4 N Γ:=λq hq=>by
  have h1:=Cy.1 Al q hq;simp only[BU,LB,ne_eq] at h1;exact Ov (KA.sub q hq) h1.1.1.1.1
 have hinv:∀q∈B4 N ((N,.inv I)::G8),q.2.Eg=false:=λq hq=>by
  have hq':=Cq q hq;rcases Ag.1 hq'.1 with e|h
  ·subst e;exact absurd rfl hq'.2
  ·have h1:=Cy.1 Al q h;simp only[BU,F6] at h1;exact h1.2
 have hs1:Sat w0 H0 N ((N,.inv I)::G8) a w H:=hs.weaken λq hq=>by
  rcases Ag.1 hq with e|h
  ·subst e;exact Au hI
  ·exact KA.sub q h
 have Jk:=agc hv1 FG hs1 (k:=N) (by simp) hinv aoe asA as9 hM;have hfr:∀d,(d=dy\/d=dn)->J1 d ((N,.inv I')::G8)=true:=by
  intro d hd;simp only[J1,N9,BU,Cy,LB,ne_eq];refine⟨⟨by rcases hd with h|h<;>subst h<;>omega,by simp[AJ.Bn]⟩,λq hq=>?_⟩;have h1:=Cy.1 Al q hq;simp only[BU,LB,ne_eq,Cy] at h1;obtain⟨⟨⟨⟨h2,h3⟩,h4⟩,h5⟩,h6⟩:=h1;refine⟨by rcases hd with h|h<;>subst h<;>assumption,?_⟩;simp only[F6,oK,HB];intro hm;have:=h5 d hm;rcases hd with h|h<;>subst h
  ·exact this.1 rfl
  ·exact this.2 rfl
 have hs3:Sat w0 H0 N ((N,.inv I')::G8) a w' H':=Jk.weaken λq hq=>by
  rcases Ag.1 hq with e|h
  ·subst e;simp
  ·refine Bi _ (Ov (Bi _ h) ?_);have h1:=Cy.1 Al q h;simp only[BU,LB,ne_eq] at h1;exact h1.1.1.1.1
 have fin:∀b:Bool,e= .returned (.bool b)->E1 w0 H0 N (Q .normal) ((dn,.val<|Ar !b)::(N,.inv I')::G8)->
   (match e with
   | .returned v=>wpListIn (FB none) 0 P ops Q [⟨some dn,.unOp .not tb<| .tmp dy,Jd,pos',Ky,none⟩] (a.put (some dy) v) w'
   | .panicked chain=>Q (.panic chain) a w'
   | .outgrown=>LetsOut Q):=by
  intro b eb kk;subst eb;have hs4:=Ps hs3 hdy (hfr dy<| .inl rfl) (s:= .val<|Ar b) (v:= .bool b) (by simp[AJ.Bn]) rfl<|λc h=>h.elim
  have Jo:Ib P w0 N ops [⟨some dn,.unOp .not tb<| .tmp dy,Jd,pos',Ky,none⟩] ((dy,.val<|Ar b)::(N,.inv I')::G8) ((dn,.val<|Ar !b)::del dn ((dy,.val<|Ar b)::(N,.inv I')::G8)):=
   Ib.cons (Step.over (DH (Arg.t (t:=dy) (by simp[look]))) rfl rfl hdn rfl) Ib.done
  have:=Jo.sound rfl H0 _ w' H' hs4 Q (λa' w' H' CG=>kk a' w' H' (CG.weaken λq hq=>by
   rcases Ag.1 hq with e|h
   ·subst e;simp
   ·refine Bi _ (RU (Bi _ h) ?_ ?_)
    ·exact(Xd (hfr dn<| .inr rfl) q h).1
    ·exact(Xd (hfr dn<| .inr rfl) q h).2))
  rw[hv2] at this;exact this
 rcases apA with⟨rfl,s',Gc,hJ'⟩|⟨rfl,hJ'⟩
 ·exact fin true rfl<|kt s' I' Gc hJ'
 ·exact fin false rfl<|kf I' hJ'
def alU
 {l1:A3 Oper}{id:Nat}{FV:Ctx}
 (hv:(w0.IF,w0.rd,w0.X)=(true,none,Jj))(FG:w0.lo=w0.n)(hy:Z1 P l enc Bd r J Jx w0.n)
 (hm:Bd next x s=some r)(hJ:J s I)(qS:ops=List.toArray (l1++([⟨some dy,.call ⟨.value<| .tmp t,xs.toArray,Ec⟩,ty,pos,af,none⟩,⟨some dn,.unOp .not tb<| .tmp dy,Jd,pos',Ky,none⟩]:A3 Oper)))(qT:J3 l1=true)(Jo:Ib P w0 N ops l1 Γ FV)
 (ht:look FV t=some (.val<|S1 l))(ha:AL FV xs (enc x))(hI:look FV N=some (.inv I))(KA:E2 FV ts G8)(Al:yOk N dy dn G8=true)(hdy:dy<N)(hdn:dn<N)
 (kt:∀s' I',next s'=some r->J s' I'->E1 w0 H0 N (Q .normal) ((dn,.val<|Ar false)::(N,.inv I')::G8))(kf:∀I',Jx I'->E1 w0 H0 N (Q .normal) ((dn,.val<|Ar true)::(N,.inv I')::G8)):
  Goal P w0 H0 N (.region id ops false) Q Γ:=by
 subst qS;exact λa w H hs=>wpIn_region_lit<|Jo.am3 qT _ H0 a w H hs Q λa' w' H' CG=>uI hv FG hy hm hJ ht ha hI KA Al hdy hdn kt kf CG
def aj0
 {id k:Nat}{FV:Ctx}{tsr:A3 Nat}{S:A3 Ctx}
 (hv:(w0.IF,w0.rd,w0.X)=(true,none,Jj))(FG:w0.lo=w0.n)(hy:Z1 P l enc Bd r J Jx w0.n)
 (hm:Bd next x s=some r)(hJ:J s I)(kl:A3 (A3<|Nat×A3 Nat))(L:A3 Nat)(av DV:A3 (A3 Nat))(DU:A3 Bool)(hmx:P.follows .mixedOrders=true)(hc:(OG ops av&&SX k kl DV DU L av&&QE ops k av)=true)
 (qT:J3 (ops.toList.take k)=true)(hp:EV P N ops Γ [] (ops.toList.take k) DV DU S)(JG:S.reverse.map LX=kl)(hL:O0 Γ=L)(hsl:E2 (S.flatten++Γ) ts FV)
 (qS:ops.toList.drop k=[⟨some dy,.call ⟨.value<| .tmp t,xs.toArray,Ec⟩,ty,pos,af,none⟩,⟨some dn,.unOp .not tb<| .tmp dy,Jd,pos',Ky,none⟩])
 (ht:look FV t=some (.val<|S1 l))(ha:AL FV xs (enc x))(hI:look FV N=some (.inv I))(KA:E2 FV tsr G8)(Al:yOk N dy dn G8=true)(hdy:dy<N)(hdn:dn<N)
 (kt:∀s' I',next s'=some r->J s' I'->E1 w0 H0 N (Q .normal) ((dn,.val<|Ar false)::(N,.inv I')::G8))(kf:∀I',Jx I'->E1 w0 H0 N (Q .normal) ((dn,.val<|Ar true)::(N,.inv I')::G8)):
  Goal P w0 H0 N (.region id ops true) Q Γ:=by
 simp only[BU] at hc;refine λa w H hs=>xX hmx qT hc.1.1 hc.1.2 hc.2 JG hL hp hsl (H0:=H0) (λa w H hs=>?_) hs
 rw[qS];exact uI hv FG hy hm hJ ht ha hI KA Al hdy hdn kt kf hs
def ab6{P:Bs}{α σ ρ:Type}(w0:AX P)(H0:HV)(N:Nat)(J:σ->Inv->Prop)(st:α->σ)(Ii:α->Ctx)(k:α->A6 ρ)(r:ρ)(a:Act)(w:AK):Prop:=
 ∃i I,k i=some r/\J (st i) I/\∃H,Sat w0 H0 N ((N,.inv I)::Ii i) a w H
def zb{st:α->σ}{Ii:α->Ctx}{k:α->A6 ρ}{i:α}(hm:k i=some r)(hJ:J (st i) I)(h:E2 Γ ts ((N,.inv I)::Ii i)):
  E1 w0 H0 N (λa w=>ab6 w0 H0 N J st Ii k r a w) Γ:=λ_ _ H hs=>⟨i,I,hm,hJ,H,hs.weaken h.sub⟩
def yW{τ:Type}(st:τ->σ)(AY:τ->Ctx){n:Nat}{B:(τ->A6 ρ)->τ->A6 ρ}{s0:τ}{I0:Inv}{c:Code}(hm:lp n B s0=some r)(hJ:J (st s0) I0)(h0:E2 Γ ts ((N,.inv I0)::AY s0))
 (round:∀(k:τ->A6 ρ) (s:τ) (I:Inv),B k s=some r->J (st s) I->Goal P w0 H0 N c (Exit.then (ab6 w0 H0 N J st AY k r) Q) ((N,.inv I)::AY s)):Goal P w0 H0 N (.loop c) Q Γ:=by
 intro a w H hs;refine wp_loop_ghost (λ(i:Nat×τ) a w=>lp i.1 B i.2=some r/\∃I H,J (st i.2) I/\Sat w0 H0 N ((N,.inv I)::AY i.2) a w H) (λi=>i.1) (n,s0) ⟨hm,I0,H,hJ,hs.weaken h0.sub⟩ ?_;rintro⟨m,s⟩ a w ⟨hl,I,H,hJ,hs⟩;cases m with
 |zero=>cases hl
 |succ m=>
  refine VG (round (lp m B) s I hl hJ a w H hs) λe a' w' q=>?_
  cases e with
  |normal=>obtain⟨i,I',hi,hJ',H',CG⟩:=q;exact⟨(m,i),⟨hi,I',H',hJ',CG⟩,Nat.lt_succ_self m⟩
  |_=>exact q
def uU{o:A6 (A3 α)}{f:FuncId}{Ei:A3 Ty}{d:A6 Tmp}{g:A6 (Nat×Bool)}(ha:AL Γ xs Ei)(h:∀L,o=some L->YB P f Ei enc L):
  Aq P Γ ⟨d,.makeFunc (.func f) #[] xs.toArray,ty,pos,af,g⟩ (.val<|UA P enc o):=
 DL λ_ _ _ a w H hs=>by
  refine⟨.func (.func f) #[] (xs.map a.eval).toArray,?_,⟨f,_,Ei,rfl,by simpa using ha.ok hs,h⟩,rfl⟩;simp[execOp,Instr.makeFunc]
end
section
variable[D:DR]
variable{P:Program}{w0:AX P}{H0:HV}{N:Nat}{ops:Array Oper}{Q:Exit->Act->World->Prop}{Γ Ae:Ctx}{d:Option Tmp}{ty:TypeId}{pos:String}{af:Array Edge}{g:Option (Nat×Bool)}
variable{w:AK}{a:Act}{H:HV}{i:Nat}{B:AX P}{t:Nat}{T:Af}{off:Nat}{gg:Bool}{p:Nat}{T':Af}{v:AO}{b:Nat}
def BQ:A3 Bk->Nat->Nat
 |[],_=>0
 |_::_,0=>0
 |p::l,i+1=>p.n+BQ l i
def pv(p:Bk)(off:Nat)(cs:A3 AO):AO:=GL p.agg ((cs.drop off).take p.n).toArray
def Om{w:AK}{b:Nat}:∀{ps:A3 Bk} {cs:A3 AO},Fh w b ps cs↔∃(i:Nat) (p:Bk),ps[i]? =some p/\p.owns w (pv p (BQ ps i) cs) b
 |[],cs=>by simp[Fh]
 |p::l,cs=>by
  simp only[Fh,Om (ps:=l)];constructor
  ·rintro(h|⟨i,q,h1,h2⟩)
   ·exact⟨0,p,rfl,by simpa[pv,BQ] using h⟩
   ·exact⟨i+1,q,by simpa using h1,by simpa[pv,BQ,F4] using h2⟩
  ·rintro⟨i,q,h1,h2⟩;cases i with
   |zero=>simp at h1;subst h1;exact .inl (by simpa[pv,BQ] using h2)
   |succ i=>exact .inr ⟨i,q,by simpa using h1,by simpa[pv,BQ,F4] using h2⟩
def mV{w:AK}:∀{ps:A3 Bk} {cs:A3 AO},NU w ps cs↔∀(i j:Nat) (p q:Bk),i<j->ps[i]? =some p->ps[j]? =some q->∀b,p.owns w (pv p (BQ ps i) cs) b-> ¬q.owns w (pv q (BQ ps j) cs) b
 |[],cs=>by simp[NU]
 |p::l,cs=>by
  simp only[NU,mV (ps:=l)];constructor
  ·rintro⟨h1,h2⟩ i j a b Jm ha hb c hc Dl;cases j with
   |zero=>omega
   |succ j=>
    have B2:l[j]? =some b:=by simpa using hb
    have Fm:b.owns w (pv b (BQ l j)<|cs.drop p.n) c:=by simpa[pv,BQ,F4] using Dl
    cases i with
    |zero=>
     simp at ha;subst ha;exact h1 c (by simpa[pv,BQ] using hc)<|Om.2 ⟨j,b,B2,Fm⟩
    |succ i=>exact h2 i j a b (by omega) (by simpa using ha) B2 c (by simpa[pv,BQ,F4] using hc) Fm
  ·intro h;refine⟨λb hb ho=>?_,λi j a b Jm ha hb c hc Dl=>?_⟩
   ·obtain⟨j,q,h1,h2⟩:=Om.1 ho;exact h 0 (j+1) p q (by omega) rfl (by simpa using h1) b (by simpa[pv,BQ] using hb) (by simpa[pv,BQ,F4] using h2)
   ·exact h (i+1) (j+1) a b (by omega) (by simpa using ha) (by simpa using hb) c (by simpa[pv,BQ,F4] using hc) (by simpa[pv,BQ,F4] using Dl)
def Xh{n:Nat}{agg:Bool}(h:Shape n agg v):v.cells.toList.length=n:=by simpa using h.size
def QJ{B:AX P}{a:Act}{w:AK}{H:HV}:∀{ps:A3 Bk} {cs:A3 AO} {i:Nat} {p:Bk},IH B a w H ps cs->ps[i]? =some p->
  BQ ps i+p.n<=cs.length/\Shape p.n p.agg (pv p (BQ ps i) cs)/\p.holds B a w H (pv p (BQ ps i) cs)/\(pv p (BQ ps i) cs).cells.toList=(cs.drop<|BQ ps i).take p.n
 |[],_,i,_,_,h=>by simp at h
 |p::l,_,0,q,⟨v,rest,e,By,hv,hr⟩,h=>by
  simp at h;subst h;subst e;have hl:=Xh By;have e1:pv p (BQ (p::l) 0) (v.cells.toList++rest)=v:=by simpa[pv,BQ] using(Pu (rest:=rest) By).1
  rw[e1];refine⟨by simp[BQ];have:=By.size;omega,By,hv,?_⟩;simp only[BQ,P4];rw[<-hl,fP]
 |p::l,_,i+1,q,⟨v,rest,e,By,hv,hr⟩,h=>by
  simp at h;subst e;obtain⟨h1,h2,h3,h4⟩:=QJ hr h;have hd:List.drop (BQ (p::l)<|i+1) (v.cells.toList++rest)=List.drop (BQ l i) rest:=by
   simp only[BQ];rw[<-Xh By,Nw];simp
  have e1:pv q (BQ (p::l)<|i+1) (v.cells.toList++rest)=pv q (BQ l i) rest:=by simp only[pv,hd]
  rw[e1,hd];refine⟨?_,h2,h3,h4⟩;have:=By.size;simp[BQ];omega
def xx{B:AX P}{a:Act}{w:AK}{H:HV}:∀{ps:A3 Bk} {cs:A3 AO},IH B a w H ps cs->cs.length=(ps.map Bk.n).sum
 |[],_,e=>by have e:_=[]:=e;subst e;rfl
 |p::l,_,⟨v,rest,e,By,hv,hr⟩=>by
  subst e;have:=xx hr;have h2:=By.size;simp[this,h2]
def o6{B:AX P}{a:Act}{w:AK}{H:HV}:∀{ps:A3 Bk} {cs:A3 AO} {i:Nat} {p q:Bk} {x:AO},IH B a w H ps cs->ps[i]? =some p->Shape q.n q.agg x->q.n=p.n->q.holds B a w H x->
  IH B a w H (ps.set i q) (cs.take (BQ ps i)++x.cells.toList++cs.drop (BQ ps i+p.n))/\BQ (ps.set i q) i=BQ ps i/\pv q (BQ ps i) (cs.take (BQ ps i)++x.cells.toList++cs.drop (BQ ps i+p.n))=x/\
  ∀(j:Nat) (r:Bk),j≠i->ps[j]? =some r->BQ (ps.set i q) j=BQ ps j/\pv r (BQ ps j) (cs.take (BQ ps i)++x.cells.toList++cs.drop (BQ ps i+p.n))=pv r (BQ ps j) cs
 |[],_,i,_,_,_,_,h,_,_,_=>by simp at h
 |p::l,_,0,q,r,x,⟨v,rest,e,By,hv,hr⟩,h,hx,hn,hq=>by
  simp at h;subst h;subst e;have hl:=Xh By;have Fx:=Xh hx;have hd:List.drop (BQ (p::l) 0+p.n) (v.cells.toList++rest)=rest:=by
   simp only[BQ,Nt];rw[<-hl,VN]
  rw[hd];simp only[List.set_cons_zero,BQ,List.take_zero,I4];refine⟨⟨x,rest,rfl,hx,hq,hr⟩,trivial,by simpa[pv] using(Pu (rest:=rest) hx).1,?_⟩;intro j s hj hs;cases j with
  |zero=>exact absurd rfl hj
  |succ j=>
   simp only[BQ,hn,true_and,pv];have e1:List.drop (p.n+BQ l j) (x.cells.toList++rest)=List.drop (BQ l j) rest:=by rw[<-hn,<-Fx,Nw];simp
   have e2:List.drop (p.n+BQ l j) (v.cells.toList++rest)=List.drop (BQ l j) rest:=by rw[<-hl,Nw];simp
   rw[e1,e2]
 |p::l,_,i+1,q,r,x,⟨v,rest,e,By,hv,hr⟩,h,hx,hn,hq=>by
  simp at h;subst e;have hl:=Xh By;obtain⟨h1,h2,h3,h4⟩:=o6 hr h hx hn hq;have et:List.take (BQ (p::l)<|i+1) (v.cells.toList++rest)=v.cells.toList++List.take (BQ l i) rest:=by
   simp only[BQ];rw[<-hl,Yk];simp[CB]
  have ed:List.drop (BQ (p::l) (i+1)+q.n) (v.cells.toList++rest)=List.drop (BQ l i+q.n) rest:=by
   simp only[BQ];rw[<-hl,KY,Nw];simp
   done
  have ec:List.take (BQ (p::l)<|i+1) (v.cells.toList++rest)++x.cells.toList++List.drop (BQ (p::l) (i+1)+q.n) (v.cells.toList++rest)=v.cells.toList++(List.take (BQ l i) rest++x.cells.toList++List.drop (BQ l i+q.n) rest):=by
   rw[et,ed];simp[Gw]
  rw[ec];have sh:∀(s:Bk) (o:Nat) (Dd:A3 AO),pv s (p.n+o) (v.cells.toList++Dd)=pv s o Dd:=λs o Dd=>by
   simp only[pv];have:List.drop (p.n+o) (v.cells.toList++Dd)=List.drop o Dd:=by
    rw[Nw,MZ (by omega),hl];simp
   rw[this]
  refine⟨⟨v,_,rfl,By,hv,h1⟩,by simp[BQ,h2],?_,?_⟩
  ·simp only[BQ];rw[sh];exact h3
  ·intro j s hj hs;cases j with
   |zero=>
    simp at hs;subst hs;refine⟨rfl,?_⟩;simp only[BQ];have g1:=(Pu (rest:=List.take (BQ l i) rest++x.cells.toList++List.drop (BQ l i+q.n) rest) By).1;have g2:=(Pu (rest:=rest) By).1;simp only[pv,P4];rw[g1,g2]
   |succ j=>
    obtain⟨k1,k2⟩:=h4 j s (by omega) (by simpa using hs);refine⟨by simp[BQ,k1],?_⟩;simp only[BQ];rw[sh,sh];exact k2
def abe{α:Type}{l:A3 α}{j:Nat}{x:α}(h:j≠i):(l.set i x)[j]? =l[j]? :=by
 rw[Vc<|Ne.symm h]
def V6{ps:A3 Bk}{cs:A3 AO}{p q:Bk}{x:AO}(h:IH B a w H ps cs)(hs:NU w ps cs)(hi:ps[i]? =some p)(hx:Shape q.n q.agg x)(hn:q.n=p.n)(hq:q.holds B a w H x)
 (qR:∀b,q.owns w x b->p.owns w (pv p (BQ ps i) cs) b\/ ¬Fh w b ps cs):
  ∃Dd,Dd=cs.take (BQ ps i)++x.cells.toList++cs.drop (BQ ps i+p.n)/\IH B a w H (ps.set i q) Dd/\NU w (ps.set i q) Dd/\
   (∀b,Fh w b (ps.set i q) Dd->q.owns w x b\/(Fh w b ps cs/\ ¬p.owns w (pv p (BQ ps i) cs) b)):=by
 obtain⟨h1,h2,h3,h4⟩:=o6 h hi hx hn hq;have hlt:=(EC.1 hi).1;have at':∀j s,(ps.set i q)[j]? =some s->(j=i/\s=q)\/(j≠i/\ps[j]? =some s):=λj s hj=>by
  by_cases e:j=i
  ·subst e;rw[Rp hlt] at hj;exact .inl ⟨rfl,(Dg hj).symm⟩
  ·exact .inr ⟨e,by rwa [abe e] at hj⟩
 have CG:=mV.1 hs;have sym:∀j s,j≠i->ps[j]? =some s->∀b,s.owns w (pv s (BQ ps j) cs) b-> ¬p.owns w (pv p (BQ ps i) cs) b:=λj s hj hjs b hb B2=>by
  rcases Nat.lt_or_gt_of_ne hj with h|h
  ·exact CG j i s p h hjs hi b hb B2
  ·exact CG i j p s h hi hjs b B2 hb
 have aac:∀j s,j≠i->ps[j]? =some s->∀b,s.owns w (pv s (BQ ps j) cs) b-> ¬q.owns w x b:=λj s hj hjs b hb B2=>by
  rcases qR b B2 with h|h
  ·exact sym j s hj hjs b hb h
  ·exact h<|Om.2 ⟨j,s,hjs,hb⟩
 refine⟨_,rfl,h1,mV.2 ?_,λb hb=>?_⟩
 ·intro j k s t hjk hj hk b hb B2;rcases at' j s hj with⟨rfl,rfl⟩|⟨nj,ej⟩<;>rcases at' k t hk with⟨rfl,rfl⟩|⟨nk,ek⟩
  ·omega
  ·rw[h2,h3] at hb;rw[(h4 k t nk ek).1,(h4 k t nk ek).2] at B2;exact aac k t nk ek b B2 hb
  ·rw[h2,h3] at B2;rw[(h4 j s nj ej).1,(h4 j s nj ej).2] at hb;exact aac j s nj ej b hb B2
  ·rw[(h4 j s nj ej).1,(h4 j s nj ej).2] at hb;rw[(h4 k t nk ek).1,(h4 k t nk ek).2] at B2;exact CG j k s t hjk ej ek b hb B2
 ·obtain⟨j,s,hj,hb⟩:=Om.1 hb;rcases at' j s hj with⟨rfl,rfl⟩|⟨nj,ej⟩
  ·rw[h2,h3] at hb;exact .inl hb
  ·rw[(h4 j s nj ej).1,(h4 j s nj ej).2] at hb;exact .inr ⟨Om.2 ⟨j,s,ej,hb⟩,sym j s nj ej b hb⟩
def eS{ps:A3 Bk}{cs:A3 AO}{p:Bk}(h:IH B a w H ps cs)(hi:ps[i]? =some p):
  cs.take (BQ ps i)++(pv p (BQ ps i) cs).cells.toList++cs.drop (BQ ps i+p.n)=cs:=by
 obtain⟨h1,_,_,h4⟩:=QJ h hi;rw[h4,<-F4,Gw,OC,OC]
def agd{dd:Nat}{s s' sd:AJ}(hs:Sat w0 H0 N Γ a w H)(ht:(t,s)∈Γ)(Cp:dd<N)(hne:dd≠t)(hl:dd∉sd.Bn)
 (CG:s'.holds w0 (a.put (some dd) v) w H (AT a t))(hv:sd.holds w0 a w H v)(o1:∀b,s'.owns w (AT a t) b->s.owns w (AT a t) b)(o2:∀b,sd.owns w v b->s.owns w (AT a t) b)
 (o3:∀b,sd.owns w v b-> ¬s'.owns w (AT a t) b):Sat w0 H0 N ((dd,sd)::(t,s')::del dd (B4 t Γ)) (a.put (some dd) v) w H:=by
 have sub:∀q∈del dd (B4 t Γ),q∈Γ/\q.1≠t:=λq hq=>Cq q<|M3 q hq
 have h1:Sat w0 H0 N ((dd,sd)::del dd (B4 t Γ)) (a.put (some dd) v) w H:=
  Ps (hs.weaken λq hq=>(sub q hq).1) Cp Ox hl hv λb hb q hq KL=>hs.sep _ ht q (sub q hq).1 (λe=>(sub q hq).2 e.symm) b (o2 b hb) KL
 have et:AT (a.put (some dd) v) t=AT a t:=Oi hne;have ed:AT (a.put (some dd) v) dd=v:=Um (by rw[hs.sz];exact Cp);have eo:∀q∈del dd (B4 t Γ),AT (a.put (some dd) v) q.1=AT a q.1:=λq hq=>Oi (pJ hq).1.symm
 have key:∀q∈(dd,sd)::del dd (B4 t Γ),∀b,s'.owns w (AT a t) b-> ¬q.2.owns w (AT (a.put (some dd) v) q.1) b:=λq hq b hb KL=>by
  rcases Ag.1 hq with e|hq
  ·subst e;rw[ed] at KL;exact o3 b KL hb
  ·rw[eo q hq] at KL;exact hs.sep _ ht q (sub q hq).1 (λe=>(sub q hq).2 e.symm) b (o1 b hb) KL
 have h2:Sat w0 H0 N ((t,s')::(dd,sd)::del dd (B4 t Γ)) (a.put (some dd) v) w H:=by
  refine⟨h1.nd,h1.sz,h1.below,h1.Ed,h1.sub,?_,?_,h1.gl⟩
  ·intro q hq;rcases Ag.1 hq with e|hq
   ·subst e;simp only;rw[et];exact CG
   ·exact h1.holds q hq
  ·intro q hq r hr hn b hb B2;rcases Ag.1 hq with e|hq<;>rcases Ag.1 hr with e'|hr
   ·subst e;subst e';exact hn rfl
   ·subst e;simp only at hb;rw[et] at hb;exact key r hr b hb B2
   ·subst e';simp only at B2;rw[et] at B2;exact key q hq b B2 hb
   ·exact h1.sep q hq r hr hn b hb B2
 refine h2.weaken λq hq=>?_
 simp only[Ag] at hq⊢;rcases hq with h|h|h
 ·exact .inr<| .inl h
 ·exact .inl h
 ·exact .inr<| .inr h
inductive Ex(Γ:Ctx):Nat->Nat->Nat->Prop where
 |ptr {p t off:Nat} (h:look Γ p=some (.ptr t off)):Ex Γ p t off
 |box {t:Nat} {T:Af} {g:Bool} {ps:A3 Bk} (h:look Γ t=some (.Ca T g ps)):Ex Γ t t 0
def Ex.ok{ps:A3 Bk}(h:Ex Γ p t off)(ht:look Γ t=some (.Ca T gg ps))(hs:Sat w0 H0 N Γ a w H):
  ∃b cs,AT a t= .pointer (some ⟨b,0,none⟩)/\a.eval (.tmp p)= .pointer (some ⟨b,off,none⟩)/\w.heap[b]? =some (.cells cs T (0,0))/\H b=none/\w0.Du b/\IH w0 a w H ps cs.toList/\NU w ps cs.toList/\ ¬Fh w b ps cs.toList:=by
 obtain⟨b,cs,e,hb,hn,hm,ho,Hs,hx⟩:=hs.holds _<|Au ht
 simp only at e;refine⟨b,cs,e,?_,hb,hn,hm,ho,Hs,hx⟩;cases h with
 |ptr h=>
  obtain⟨b',e1,e2⟩:=hs.holds _<|Au h
  simp only at e1 e2;rw[e] at e1;cases e1;exact e2
 |box h=>exact e
def R7{k:Nat}{ps:A3 Bk}(h:look Γ t=some (.Ca T' gg ps))(hf:G5 P T k off=true):Aq P Γ ⟨d,.fieldAddr T (.tmp t) k,ty,pos,af,g⟩ (.ptr t off):=
 DL λ_ _ _ a w _ hs=>by
  obtain⟨b,cs,e,_⟩:=hs.holds _<|Au h
  have e':a.eval (.tmp t)= .pointer (some ⟨b,0,none⟩):=e;exact⟨.pointer<|some ⟨b,0+off,none⟩,by simp[execOp,e',Xa hf],⟨b,e,by simp⟩,rfl⟩
def vG{p:Bk}{cs:Aw AO}{E:Af}{w':AK}{ps:A3 Bk}(hT:BX P T p.n p.agg=true)(hb:w.heap[b]? =some (.cells cs E (0,0)))(h:IH B a w' H ps cs.toList)(hi:ps[i]? =some p):
  (loadVar T ⟨b,BQ ps i,none⟩).run P w= .ok (pv p (BQ ps i) cs.toList) w:=by
 obtain⟨h1,_,_,_⟩:=QJ h hi;exact Qp hT hb (by simpa using h1)
def zI{ps:A3 Bk}{τ:Ty}(hp:Ex Γ p t off)(ht:look Γ t=some (.Ca T' gg ps))(hi:ps[i]? =some (.val τ))(ho:BQ ps i=off)(hT:BX P T τ.n τ.agg=true):
  Aq P Γ ⟨d,.load T<| .tmp p,ty,pos,af,g⟩ (.val τ):=
 DL λ_ _ _ a w _ hs=>by
  obtain⟨b,cs,e,ep,hb,_,_,Al,_⟩:=hp.ok ht hs;subst ho;obtain⟨_,_,h3,_⟩:=QJ Al hi;refine⟨_,?_,h3,rfl⟩;simp[execOp,ep,Instr.loadAt,Instr.sureAddr,vG (p:= .val τ) hT hb Al hi]
def Bk.sty:Bk->AJ
 | .buf E sz l=> .buf E sz l
 | .map K E Eb sz E7=> .GJ K E Eb sz E7
 |_=> .gone
def Bk.agU:∀{p:Bk},p.holds B a w H v->p.sty.holds B a w H v
 | .val _,_=>trivial
 | .any _ _,_=>trivial
 | .sm _,_=>trivial
 | .buf _ _ _,h=>h
 | .map _ _ _ _ _,h=>h
def Bk.Xx:∀{p:Bk},p.sty.owns w v b↔p.owns w v b
 | .val _=>Iff.rfl
 | .any _ _=>Iff.rfl
 | .sm _=>Iff.rfl
 | .buf _ _ _=>Iff.rfl
 | .map _ _ _ _ _=>Iff.rfl
def Bk.agT:∀{p:Bk},p.sty.Bn=[]
 | .val _=>rfl
 | .any _ _=>rfl
 | .sm _=>rfl
 | .buf _ _ _=>rfl
 | .map _ _ _ _ _=>rfl
def S8(d:Nat):Bool->Bk
 |true=> .sm d
 |false=> .any 1 false
def yH{AY:Ctx}(B0:∀q∈AY,q∈Γ){dd:Nat}{ps:A3 Bk}{pp:Bk}(sm:Bool)(hp:Ex AY p t off)(ht:look AY t=some (.Ca T' gg ps))(hi:ps[i]? =some pp)(ho:BQ ps i=off)(h1:pp.n=1)(hg:pp.agg=false)(hT:BX P T 1 false=true)
 (Cp:dd<N)(hne:dd≠t)(hd:dd∉QQ ps):
  Step P N ops ⟨some dd,.load T<| .tmp p,ty,pos,af,none⟩ Γ ((dd,pp.sty)::(t,.Ca T' gg<|ps.set i<|S8 dd sm)::del dd (B4 t Γ)):=by
 intro w0 H0 a w H B1 K Q k;simp only[Region.wanted,if_true];obtain⟨b,cs,e,ep,hb,hn,hm,Al,Hs,hx⟩:=hp.ok ht<|B1.weaken B0
 subst ho;obtain⟨h2,h3,h4,h5⟩:=QJ Al hi;have Eh:=vG (p:=pp) (by rw[h1,hg];exact hT) hb Al hi
 generalize hv:pv pp (BQ ps i) cs.toList=v at*
 unfold Oper.wp;have er:(execOp a.eval ⟨some dd,.load T<| .tmp p,ty,pos,af,none⟩).run P w= .ok (.value v) w:=by
  simp[execOp,ep,Instr.loadAt,Instr.sureAddr,Eh]
 rw[er,Nu];have hv1:v.oneCell'=true:=by rw[h1,hg] at h3;exact(kb h3).1
 have Gc:(S8 dd sm).n=pp.n:=by rw[h1];cases sm<;>rfl
 have By:Shape (S8 dd sm).n (S8 dd sm).agg v:=by rw[h1,hg] at h3;cases sm<;>exact h3
 have qU:IH w0 (a.put (some dd) v) w H ps cs.toList:=TM (λu hu=>Oi<|λe=>hd<|e▸hu) Al;have hq:(S8 dd sm).holds w0 (a.put (some dd) v) w H v:=by
  cases sm
  ·exact Shape.one hv1
  ·exact⟨(Um (by rw[B1.sz];exact Cp)).symm,hv1⟩
 have Dy:∀c,¬(S8 dd sm).owns w v c:=λc h=>by cases sm<;>exact h
 obtain⟨Dd,hcs,k1,k2,k3⟩:=V6 qU Hs hi By Gc hq<|λc hc=>absurd hc<|Dy c
 have hcc:Dd=cs.toList:=by rw[hcs,<-hv];exact eS Al hi
 rw[hcc] at k1 k2 k3;refine k _ _ H (agd B1 (B0 _<|Au ht) Cp hne (by rw[Bk.agT];simp) ?_ (Bk.agU h4) ?_ ?_ ?_)
 ·refine⟨b,cs,e,hb,hn,hm,k1,k2,λhc=>?_⟩;rcases k3 b hc with h|h
  ·exact Dy b h
  ·exact hx h.1
 ·rintro c ⟨c',e',hc⟩;simp only[e] at e';cases e';refine⟨b,e,?_⟩;rcases hc with hc|⟨cs2,hb2,hc⟩
  ·exact .inl hc
  ·rw[hb] at hb2;cases hb2;rcases k3 c hc with h|h
   ·exact absurd h<|Dy c
   ·exact .inr ⟨cs,hb,h.1⟩
 ·intro c hc;exact⟨b,e,.inr ⟨cs,hb,Om.2 ⟨i,pp,hi,by rw[hv];exact Bk.Xx.1 hc⟩⟩⟩
 ·rintro c hc ⟨c',e',Dl⟩;simp only[e] at e';cases e';have hc:=Bk.Xx.1 hc;rcases Dl with Dl|⟨cs2,hb2,Dl⟩
  ·subst Dl;exact hx (Om.2 ⟨i,pp,hi,by rw[hv];exact hc⟩)
  ·rw[hb] at hb2;cases hb2;rcases k3 c Dl with h|h
   ·exact Dy c h
   ·exact h.2 (by rw[hv];exact hc)
def nZ{AY:Ctx}(B0:∀q∈AY,q∈Γ){ps:A3 Bk}{pp q:Bk}{x:Bu}(hp:Ex AY p t off)(ht:look AY t=some (.Ca T' gg ps))(hi:ps[i]? =some pp)(ho:BQ ps i=off)(hn:q.n=pp.n)
 (hT:BX P T q.n q.agg=true)(hq:∀(a:Act) (w:AK) (H:HV),Sat w0 H0 N AY a w H->Shape q.n q.agg (a.eval x)/\q.holds w0 a w H (a.eval x))(Dy:∀w v b,¬q.owns w v b)
 (B1:Sat w0 H0 N Γ a w H){K:Act->AK->Prop}(k:∀w',Sat w0 H0 N ((t,.Ca T' gg<|ps.set i q)::B4 t Γ) a w' H->K a w'):
  (⟨none,.store T (.tmp p) x,ty,pos,af,none⟩:Oper).wp P a w K Q:=by
 obtain⟨b,cs,e,ep,hb,Lh,hm,Al,Hs,hx⟩:=hp.ok ht<|B1.weaken B0
 subst ho;obtain⟨By,hqh⟩:=hq a w H<|B1.weaken B0
 obtain⟨h2,_,_,_⟩:=QJ Al hi;obtain⟨Dd,hcs,k1,k2,k3⟩:=V6 Al Hs hi By hn hqh<|λc hc=>absurd hc<|Dy _ _ c
 have Eh:=Sd (P:=P) (x:=a.eval x) (off:=BQ ps i) (TC hT) By.size hb (by rw[hn];simpa using h2) By.cell;rw[hn,<-hcs] at Eh;unfold Oper.wp;have er:(execOp a.eval ⟨none,.store T (.tmp p) x,ty,pos,af,none⟩).run P w= .ok .skip (w.setRow b Dd.toArray):=by
  simp[execOp,ep,Instr.storeAt,Instr.sureAddr,Eh]
 rw[er,Q8];have hg:E9 w (w.setRow b Dd.toArray) (some b):=E9.setRow w b _;have B2:(w.setRow b Dd.toArray).heap[b]? =some (.cells Dd.toArray T' (0,0)):=TP w b _ _ _ _ hb;have hnx: ¬Fh w b (ps.set i q) Dd:=λhc=>by
  rcases k3 b hc with h|h
  ·exact Dy _ _ b h
  ·exact hx h.1
 have L4:=fA (w':=w.setRow b Dd.toArray) (H':=H) (HV.le.refl H) k1 (λc hc=>⟨hg.block c (Pp k1 hc).1 (λe=>by cases e;exact hnx hc),rfl⟩);refine k _ (Oa B1 (B0 _<|Au ht) hg hm ⟨b,e,.inl rfl⟩ ⟨b,Dd.toArray,e,B2,Lh,hm,by simpa using L4.1,by simpa using L4.2.2 k2,by simpa using λh=>hnx<|(L4.2.1 b).1 h⟩ ?_);rintro c ⟨c',e',hc⟩;simp only[e] at e';cases e';rcases hc with hc|⟨cs2,hb2,hc⟩
 ·subst hc;exact .inl ⟨c,e,.inl rfl⟩
 ·rw[B2] at hb2;cases hb2;have hc:=(L4.2.1 c).1 (by simpa using hc);rcases k3 c hc with h|h
  ·exact absurd h<|Dy _ _ c
  ·exact .inl ⟨b,e,.inr ⟨cs,hb,h.1⟩⟩
def alz{ps:A3 Bk}{pp:Bk}{x:Bu}{σ:Ty}(hp:Ex Γ p t off)(ht:look Γ t=some (.Ca T' gg ps))(hi:ps[i]? =some pp)(ho:BQ ps i=off)(hx:Arg Γ x σ)(hn:σ.n=pp.n)(hT:BX P T σ.n σ.agg=true):
  Step P N ops ⟨none,.store T (.tmp p) x,ty,pos,af,none⟩ Γ ((t,.Ca T' gg<|ps.set i<| .val σ)::B4 t Γ):=by
 intro w0 H0 a w H hs K Q k;simp only[Region.wanted,if_true];exact nZ (λ_ h=>h) (q:= .val σ) hp ht hi ho hn hT (λa w H hs=>⟨σ.shape<|hx.ok hs,hx.ok hs⟩) (λ_ _ _ h=>h) hs λw' CG=>k a w' H CG
inductive PZ(Γ:Ctx)(u:Nat):Prop where
 |buf {E:Af} {sz:Nat} {l:A3 Ty} (h:look Γ u=some (.buf E sz l))
 |GJ {K E Eb:Af} {sz:Nat} {l:A3 (Ty×Ck)} (h:look Γ u=some (.GJ K E Eb sz l))
 |Ca {T:Af} {g:Bool} {l:A3 Bk} (h:look Γ u=some (.Ca T g l))
end
end Trn
