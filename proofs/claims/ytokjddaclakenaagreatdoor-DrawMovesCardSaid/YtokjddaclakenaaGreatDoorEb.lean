/-
  Part of the proof of DrawMoves.
-/
import Derived.Test.YtokjddaclakenaaGreatDoorEa
set_option maxRecDepth 100000
set_option maxHeartbeats 20000000
set_option linter.all false
open Go Go.RowKit Go.Proofs
namespace Trn
section
variable[D:DR]
variable{P:Program}{N:Nat}{ops:Array Oper}{Γ ay:Ctx}{d:Option Tmp}{ty:TypeId}{pos:String}{af:Array Edge}{g:Option (Nat×Bool)}
variable{T:asr}{l:asv Ty}{sz:Nat}{E:asr}{t:Nat}{x:asu}{bytes dd:Nat}{w:aq5}{H:HV}{T2:asr}{w0:an P}{τ:Ty}{l2:asv Ty}{a:Act}{s:Nat}{H0:HV}{ps:asv (Nat×asu)}{l':asv Ty}{n:Int}{v:aq6}
def af1{T':asr}{y:asu}{m:Int}(hx:Arg Γ x (TI .i64 m))(hy:Arg Γ y (TI .i64 n))(h:DP (m*n)):bK P Γ ⟨d,.binOp .mul T x y T',ty,pos,af,g⟩ (.val<|TI .i64<|m*n):=by
 have:=xu (P:=P) (d:=d) (ty:=ty) (pos:=pos) (af:=af) (g:=g) (T:=T) (T':=T') hx hy;rwa [wrap_i64 h] at this
def afZ{T':asr}{y:asu}{m:Int}(hx:Arg Γ x (TI .i64 m))(hy:Arg Γ y (TI .i64 n))(hn:n≠0)(h:DP (m.tdiv n)):bK P Γ ⟨d,.binOp .quo T x y T',ty,pos,af,g⟩ (.val<|TI .i64<|m.tdiv n):=by
 have:=acp (P:=P) (d:=d) (ty:=ty) (pos:=pos) (af:=af) (g:=g) (T:=T) (T':=T') hx hy hn;rwa [wrap_i64 h] at this
def af0(hx:Arg Γ x (TI .i64 n))(h:DP (-n)):bK P Γ ⟨d,.unOp .neg T x,ty,pos,af,g⟩ (.val<|TI .i64<| -n):=by
 have:=acq (P:=P) (d:=d) (ty:=ty) (pos:=pos) (af:=af) (g:=g) (T:=T) hx;rwa [Int.zero_sub,wrap_i64 h] at this
def kA(P:ast)(T:asr):Bool:=match P.underlying T with|some (.slice _)=>true|_=>false
def FQ(h:kA P T=true):∃e,P.underlying T=some (.slice e):=by
 unfold kA at h;split at h
 ·rename_i e hu;exact⟨e,hu⟩
 ·cases h
def isStr(P:ast)(T:asr):Bool:=match P.underlying T with|some .string=>true|_=>false
def Hn(h:isStr P T=true):P.underlying T=some .string:=by
 unfold isStr at h;split at h
 ·assumption
 ·cases h
def Hb{ty:asr}(h:kA P T=true)(ad:auz Addr)(n c:Nat)(w:aq5):(Builtin.len_ #[T] ty #[.slice ad n c]).run P w= .ok (.int .i64 n) w:=by
 obtain⟨e,hu⟩:=FQ h;simp[Builtin.len_,aP hu,goInt]
def aiE(hT:kA P T=true)(hx:Arg Γ x (J5 l)):bK P Γ ⟨d,.call ⟨.builtin .len,#[x],#[T]⟩,ty,pos,af,g⟩ (.val<|TI .i64 l.length):=
 bh fun _ _ _ a w H hs=>by
  obtain⟨ad,cap,e,_⟩:=hx.ok hs;exact⟨_,by simp[execOp,resolve,invoke,builtin,e,Hb hT],rfl,rfl⟩
def Wx{s:ByteArray}(hT:isStr P T=true)(hx:Arg Γ x (VH s)):bK P Γ ⟨d,.call ⟨.builtin .len,#[x],#[T]⟩,ty,pos,af,g⟩ (.val<|TI .i64 s.size):=
 bh fun _ _ _ a w H hs=>by
  have e:a.eval x= .string s:=hx.ok hs;exact⟨_,by simp[execOp,resolve,invoke,builtin,e,Builtin.len_,aP<|Hn hT,goInt],rfl,rfl⟩
def Y9{B:an P}(h:(bN.buf E sz l).holds B a w H v):∃ad cap,v= .slice ad l.length cap:=by
 obtain⟨xs,⟨_,hc⟩,_⟩:=h;rcases hc with⟨e,hl⟩|⟨g,cap,cur,e,_⟩
 ·exact⟨none,0,by rw[e,hl]⟩
 ·exact⟨_,cap,e⟩
def Uu(hT:kA P T=true)(hs:look Γ s=some (.same t))(ht:look Γ t=some (.buf E sz l)):bK P Γ ⟨d,.call ⟨.builtin .len,#[.tmp s],#[T]⟩,ty,pos,af,g⟩ (.val<|TI .i64 l.length):=
 bh fun _ _ _ a w H df=>by
  obtain⟨ad,cap,e⟩:=Y9<|df.holds _<|az ht
  have e2:aX a s=aX a t:=df.holds _<|az hs
  have e3:a.eval (.tmp s)= .slice ad l.length cap:=e2.trans e;exact⟨_,by simp[execOp,resolve,invoke,builtin,e3,Hb hT],rfl,rfl⟩
def fa:bK P Γ ⟨d,.move<| .tmp t,ty,pos,af,g⟩ (.same t):=
 bh fun _ _ _ a _ _ _=>⟨aX a t,rfl,rfl,rfl⟩
def aaa:bK P Γ ⟨d,.assign<| .const<| .slice none 0 0,ty,pos,af,g⟩ (.buf E sz []):=
 aac fun w0 _ _ a w _ _=>⟨.slice none 0 0,rfl,⟨[],World.ownsRow_nil w _ _ _,rfl,fun b h=>by simp[Value.ownBlock] at h⟩,fun b h=>by simp[bN.owns,Value.ownBlock] at h⟩
open Classical in
def Ag(hs:Sat w0 H0 N Γ a w H){s:bN}(ht:(t,s)∈Γ)(S:Nat->Prop)(hS:∀b,S b->s.owns w (aX a t) b/\w0.mY b)
 (hv:τ.ok (fun r=>if S r then w.heap[r]? else H r) (aX a t)):Sat w0 H0 N ((t,.val τ)::bQ t Γ) a w (fun r=>if S r then w.heap[r]? else H r):=by
 have low:∀b,S b->b<w.heap.size/\H b=none/\∃o,w.heap[b]? =some o/\Ol o:=fun b h=>bN.mh (hs.holds _ ht) (hS b h).1
 have hle:HV.le H (fun r=>if S r then w.heap[r]? else H r):=by
  intro r o h;by_cases e:S r
  ·rw[(low r e).2.1] at h;cases h
  ·simp[e,h]
 have adh:∀q∈bQ t Γ,∀b,q.2.owns w (aX a q.1) b-> ¬S b:=by
  intro q hq b U7 e;exact hs.sep _ ht q (bI q hq).1 (fun e=>(bI q hq).2 e.symm) b (hS b e).1 U7
 have lJ:Sat w0 H0 N (bQ t Γ) a w (fun r=>if S r then w.heap[r]? else H r):=by
  refine BJ (ds:=a.defers) hs hs.below (bG _) ?_ (bG _) hle ?_ ?_ ?_ ?_
  ·intro _ r hr hx;have: ¬S r:=fun e=>by
    rcases(hS r e).2 with h|h
    ·omega
    ·exact hx h
   simp[this]
  ·intro r o h;by_cases e:S r
   ·simpa[e] using h
   ·simp only[e,if_false] at h;exact hs.sub r o h
  ·intro _ b _ hb;have: ¬S b:=fun e=>by have:=an.yt (hS b e).2;omega
   simp[this]
  ·intro p hp;exact⟨(bI p hp).1,fun b hb=>⟨rfl,by simp[adh p hp b hb]⟩⟩
  ·refine hs.nd.kept fun D _ h1 h2=>⟨h1,?_⟩
   have: ¬S D:=fun e=>by
    obtain⟨_,_,o,ho,WY⟩:=low D e;rw[h1] at ho;cases ho;exact WY
   simp[this,h2]
 refine⟨lJ.nd,lJ.sz,lJ.below,lJ.J4,lJ.sub,?_,?_,lJ.gl⟩
 ·intro p hp;rcases bP.1 hp with e|hp
  ·subst e;exact hv
  ·exact lJ.holds p hp
 ·intro p hp q hq hne b hb jQ;rcases bP.1 hp with e|hp
  ·subst e;exact hb
  ·rcases bP.1 hq with e|hq
   ·subst e;exact jQ
   ·exact lJ.sep p hp q hq hne b hb jQ
def afC(hs:Sat w0 H0 N Γ a w H)(ht:look Γ t=some (.buf E sz l)):∃H',Sat w0 H0 N ((t,.val<|J5 l)::bQ t Γ) a w H':=by
 have hb:=hs.holds _<|az ht
 obtain⟨xs,hr,ho,hn⟩:=hb;refine⟨_,Ag hs (az ht) (fun b=>(aX a t).ownBlock=some b) (fun b h=>⟨h,(hn b h).2⟩) ?_⟩;refine De (a:=a) ⟨xs,hr,ho,hn⟩ ?_ (fun b hb _ o hbo=>by simp[hb,hbo]);intro r o h;by_cases e:(aX a t).ownBlock=some r
 ·rw[(hn r e).1] at h;cases h
 ·simp[e,h]
def afU(ht:look Γ t=some (.buf E sz l)):qY w0 N Γ ((t,.val<|J5 l)::bQ t Γ):=fun _ _ _ _ hs=>afC hs ht
def abW(hs:Sat w0 H0 N Γ a w H)(ht:look Γ t=some (.own T τ)):∃H',Sat w0 H0 N ((t,.val<|nY τ)::bQ t Γ) a w H':=by
 obtain⟨b,x,e,hb,hx,hH,hB⟩:=hs.holds _<|az ht
 simp only at e;refine⟨_,Ag hs (az ht) (fun c=>c=b) (fun c h=>by subst h;exact⟨⟨_,e,rfl⟩,hB⟩) ?_⟩;have oY:=τ.shape hx;refine⟨b,0,x.cells,T,(0,0),e,by simp[hb],by rw[oY.size];omega,?_⟩;rw[J9 oY.size,<-oY.eq];refine τ.mono ?_ hx;intro r o h;by_cases e:r=b
 ·subst e;rw[hH] at h;cases h
 ·simp[e,h]
def qB(ht:look Γ t=some (.own T τ)):qY w0 N Γ ((t,.val<|nY τ)::bQ t Γ):=fun _ _ _ _ hs=>abW hs ht
def qV(P:ast)(T:asr)(E:asr)(sz bytes:Nat):Bool:=
 match P.underlying T with
 |some (.slice e)=>Nat.beq e E&&(match P.info? e with
  |some i=>Nat.beq i.size sz&&Nat.beq i.bytes bytes&&(match i.zero with|some z=>Nat.beq z.cells.size sz|none=>false)&&Nat.ble 1 sz
  |none=>false)
 |_=>false
def VD(h:qV P T E sz bytes=true):∃i z,P.underlying T=some (.slice E)/\P.info? E=some i/\i.zero=some z/\i.size=sz/\i.bytes=bytes/\z.cells.size=sz/\0<sz:=by
 unfold qV at h;split at h
 ·rename_i e hu;simp only[cW] at h;obtain⟨h1,h2⟩:=h;have h1:=fX h1;subst h1;split at h2
  ·rename_i i hi;simp only[cW] at h2;obtain⟨⟨⟨h3,h4⟩,h5⟩,h6⟩:=h2;split at h5
   ·rename_i z hz;exact⟨i,z,hu,hi,hz,fX h3,fX h4,fX h5,gP h6⟩
   ·cases h5
  ·cases h2
 ·cases h
def Es(hT:qV P T E sz bytes=true){B:Nat}{n:Nat}{xs:asv aq6}(hown:w.ownsRow B E sz v n xs)(hB:B<=w.heap.size)
 {ad:auz Addr}{m c:Nat}{news:asv aq6}(hl:news.length=m*sz)(alU:∀j u,news[j]? =some u->∃x,ad=some x/\w.cell? (x.add j)=some u)(h1:∀u∈news,u.oneCell'=true)(had:ad=none->m=0)
 (Mf:n+m<=maxLen)(sX:(n+m)*bytes<=140737488355328)(ty:asr):
  ∃v' w',(Builtin.append_ #[T,T] ty #[v,.slice ad m c]).run P w= .ok v' w'/\w'.ownsRow B E sz v' (n+m) (xs++news)/\AO w w' v.ownBlock/\∀b,v'.ownBlock=some b->v.ownBlock=some b\/w.heap.size<=b:=by
 obtain⟨i,z,hu,hi,hz,hsz,hby,hzs,hpos⟩:=VD hT;cases ad with
 |none=>
  have hm:=had rfl;subst hm;have hn:news=[]:=sW (by simpa using hl);subst hn;refine⟨v,w,?_,by simpa using hown,⟨⟨rfl,rfl,rfl,bG _,fun _ _ _=>rfl⟩,bG _⟩,fun b hb=> .inl hb⟩;rcases hown.2 with⟨rfl,rfl⟩|⟨g,cap,cur,rfl,hbg,hg,hnc,_⟩
  ·simp[Builtin.append_,aP hu,Go.sizeOf,typeInfo,program,Sem.run,hi,Builtin.lenOf,Builtin.firstCells]
  ·simp[Builtin.append_,aP hu,Go.sizeOf,typeInfo,program,Sem.run,hi,Builtin.lenOf,Builtin.firstCells,hnc,storeCells]
 |some ad=>
  have OV:∀j u,news[j]? =some u->w.cell? (ad.add j)=some u:=fun j u h=>by
   obtain⟨x,e,hx⟩:=alU j u h;cases e;exact hx
  obtain⟨v',w',hr,h2,h3,h4⟩:=run_append_own (P:=P) w B T ty E i z sz bytes hu hi hz hsz hby hzs hpos v n xs hown ad m c news hl OV h1 Mf sX hB;have key:w.drawn<=w'.drawn/\∀b,v'.ownBlock=some b->v.ownBlock=some b\/w.heap.size<=b:=by
   subst hsz;subst hby;rcases hown.2 with⟨rfl,rfl⟩|⟨g,cap,cur,rfl,hbg,hg,hnc,hcm,hcs,htake⟩
   ·by_cases hm:m=0
    ·subst hm;have hf:=run_firstCells_some (P:=P) w i.size 0 ad 0 c news hl OV;have KK:(Builtin.append_ #[T,T] ty #[.slice none 0 0,.slice (some ad) 0 c]).run P w= .ok (.slice none 0 0) w:=by
      have hn0:news=[]:=sW (by simpa using hl);subst hn0;simp only[Builtin.firstCells] at hf;simp[Builtin.append_,aP hu,Go.sizeOf,typeInfo,program,Sem.run,hi,Builtin.lenOf,Builtin.firstCells,loadCells,loadCellsFrom]
     rw[hr] at KK;cases KK;exact⟨bG _,fun b hb=>by simp[Value.ownBlock] at hb⟩
    ·have ajH:(m:Int)<=9223372036854775807:=by simp only[maxLen] at Mf;omega
     have KK:=run_append_nil (P:=P) (w:=w) T ty E i z hu hi hz ad m c news hl OV (by omega) ajH (by rw[wG] at sX;omega);rw[hr] at KK;cases KK;refine⟨wF _,fun b hb=>?_⟩;simp[Value.ownBlock] at hb;exact .inr (by omega)
   ·by_cases Lw:n+m<=cap
    ·have agF:n*i.size+news.length<=cur.size:=by rw[hl,hcs,<-pg];exact nE _ Lw
     have KK:=run_append_room (P:=P) w T ty E i hu hi g n cap cur hg ad m c news hl OV h1 Lw agF;rw[hr] at KK;cases KK;exact⟨bG _,fun b hb=> .inl hb⟩
    ·have holds:∀j u,xs[j]? =some u->w.cell? ((⟨g,0,none⟩:Addr).add j)=some u:=hown.cells (g:=g) rfl;have ajH:((n+m:Nat):Int)<=9223372036854775807:=by simp only[maxLen] at Mf;omega
     have KK:=run_append_grow (P:=P) w T ty E i z hu hi hz ⟨g,0,none⟩ n cap xs hown.1 holds ad m c news hl OV (by omega) ajH (growslice_fits (by omega) sX);rw[hr] at KK;cases KK;refine⟨wF _,fun b hb=>?_⟩;simp[Value.ownBlock] at hb;exact .inr (by omega)
  exact⟨v',w',hr,h2,⟨h3,HU.of key.1⟩,key.2⟩
def JW{ty:asr}(h1:kA P T=true)(h2:kA P T2=true)(args:auA aq6)(w:aq5):(Builtin.append_ #[T,T2] ty args).run P w=(Builtin.append_ #[T,T] ty args).run P w:=by
 obtain⟨e1,u1⟩:=FQ h1;obtain⟨e2,u2⟩:=FQ h2;unfold Builtin.append_;have g0:(#[T,T2]:auA asr)[0]? =some T:=rfl;have g1:(#[T,T2]:auA asr)[1]? =some T2:=rfl;have g2:(#[T,T]:auA asr)[0]? =some T:=rfl;have g3:(#[T,T]:auA asr)[1]? =some T:=rfl;simp only[g0,g1,g2,g3];cases args[0]? with
 |none=>rfl
 |some a0=>cases args[1]? with
  |none=>rfl
  |some a1=>
   simp only[fh,aP u1,eQ];cases a0<;>try rfl
   simp only[fh,aP u1,aP u2,eQ,pj]
def VE(h:qV P T E sz bytes=true):kA P T=true:=by
 obtain⟨i,z,hu,_⟩:=VD h;simp[kA,hu]
def T5(sub:∀r o,H r=some o->w.heap[r]? =some o)(h:(J5 l).ok H v):∃ad cap news,v= .slice ad l.length cap/\vH H l news/\(∀j u,news[j]? =some u->∃x,ad=some x/\w.cell? (x.add j)=some u)/\(ad=none->l.length=0):=by
 obtain⟨ad,cap,e,_,hx⟩:=h;by_cases hl:l=[]
 ·subst hl;exact⟨ad,cap,[],e,rfl,fun j u h=>by simp at h,fun _=>rfl⟩
 ·obtain⟨b,off,cs,E,fr,e1,hb,hsz,ho⟩:=hx hl;refine⟨ad,cap,_,e,ho,?_,fun e=>by rw[e1] at e;cases e⟩;intro j u hj;refine⟨⟨b,off,none⟩,e1,?_⟩;rw[addr_add];rw[Bi] at hj;split at hj
  ·simp at hj;simp[World.cell?,sub _ _ hb,hj]
  ·cases hj
def N1{dz:Ctx}(bY:∀q∈dz,q∈Γ)(O4:kA P T2=true)(hs:look dz s=some (.same t))(ht:look dz t=some (.buf E sz l))(hx:Arg dz x (J5 l2))(hT:qV P T E sz bytes=true)(hu:HR sz l2)
 (Mf:l.length+l2.length<=maxLen)(sX:(l.length+l2.length)*bytes<=140737488355328)(nU:dd<N):
  Step P N ops ⟨some dd,.call ⟨.builtin .append,#[.tmp s,x],#[T,T2]⟩,ty,pos,af,none⟩ Γ ((dd,.buf E sz<|l++l2)::del dd (bQ t Γ)):=by
 intro w0 H0 a w H df K Q k;simp only[Region.wanted,if_true];have hb:=df.holds _ (bY _<|az ht);obtain⟨xs,hr,ho,hn⟩:=hb;have e2:aX a s=aX a t:=df.holds _ (bY _<|az hs);obtain⟨ad,cap,news,ex,YO,hc,adi⟩:=T5 df.sub<|hx.ok<|df.weaken bY
 have hlen:news.length=l2.length*sz:=by rw[oD YO,iC hu]
 obtain⟨v',w',qQ,h2,h3,h4⟩:=Es hT hr (jv _) (c:=cap) hlen hc (wY YO) adi Mf sX ty;unfold Oper.wp;have er:(execOp a.eval ⟨some dd,.call ⟨.builtin .append,#[.tmp s,x],#[T,T2]⟩,ty,pos,af,none⟩).run P w= .ok (.value v') w':=by
  have e3:a.eval (.tmp s)=aX a t:=e2;simp[execOp,resolve,invoke,builtin,e3,ex,JW (VE hT) O4,qQ]
 rw[er,uq];refine k _ w' H (BI df (bY _<|az ht) h3 (fun c hc=>⟨hc,(hn c hc).2⟩) nU (by simp[bN.bO]) ⟨xs++news,by simpa using h2,vG ho YO,fun b hb=>?_⟩ h4);rcases h4 b hb with h|h
 ·exact hn b h
 ·refine⟨?_,.inl<|fZ df.below.size h⟩;cases hh:H b with
  |none=>rfl
  |some o=>have:=xP df.sub hh;omega
def ZJ(O4:kA P T2=true)(hs:look Γ s=some (.same t))(ht:look Γ t=some (.buf E sz l))(hx:Arg Γ x (J5 l2))(hT:qV P T E sz bytes=true)(hu:HR sz l2)
 (Mf:l.length+l2.length<=maxLen)(sX:(l.length+l2.length)*bytes<=140737488355328)(nU:dd<N):
  Step P N ops ⟨some dd,.call ⟨.builtin .append,#[.tmp s,x],#[T,T2]⟩,ty,pos,af,none⟩ Γ ((dd,.buf E sz<|l++l2)::del dd (bQ t Γ)):=N1 (fun _ h=>h) O4 hs ht hx hT hu Mf sX nU
def aaR(O4:kA P T2=true)(hs:look Γ s=some (.same t))(ht:look Γ t=some (.buf E sz l))(hx:Arg Γ x (J5 l2))(hT:qV P T E sz bytes=true)(hu:HR sz l2)
 (Mf:l.length+l2.length<=maxLen)(sX:(l.length+l2.length)*bytes<=140737488355328)(nU:dd<N):
  Qx P N ops Γ ⟨some dd,.call ⟨.builtin .append,#[.tmp s,x],#[T,T2]⟩,ty,pos,af,none⟩ t dd (.buf E sz<|l++l2):=fun _ bY=>N1 bY O4 hs ht hx hT hu Mf sX nU
def K5{dz:Ctx}(bY:∀q∈dz,q∈Γ)(O4:kA P T2=true)(ht:look dz t=some (.buf E sz l))(hx:Arg dz x (J5 l2))(hT:qV P T E sz bytes=true)(hu:HR sz l2)
 (Mf:l.length+l2.length<=maxLen)(sX:(l.length+l2.length)*bytes<=140737488355328)(nU:dd<N):
  Step P N ops ⟨some dd,.call ⟨.builtin .append,#[.tmp t,x],#[T,T2]⟩,ty,pos,af,none⟩ Γ ((dd,.buf E sz<|l++l2)::del dd (bQ t Γ)):=by
 intro w0 H0 a w H df K Q k;simp only[Region.wanted,if_true];have hb:=df.holds _ (bY _<|az ht);obtain⟨xs,hr,ho,hn⟩:=hb;obtain⟨ad,cap,news,ex,YO,hc,adi⟩:=T5 df.sub<|hx.ok<|df.weaken bY
 have hlen:news.length=l2.length*sz:=by rw[oD YO,iC hu]
 obtain⟨v',w',qQ,h2,h3,h4⟩:=Es hT hr (jv _) (c:=cap) hlen hc (wY YO) adi Mf sX ty;unfold Oper.wp;have er:(execOp a.eval ⟨some dd,.call ⟨.builtin .append,#[.tmp t,x],#[T,T2]⟩,ty,pos,af,none⟩).run P w= .ok (.value v') w':=by
  have e3:a.eval (.tmp t)=aX a t:=rfl;simp[execOp,resolve,invoke,builtin,e3,ex,JW (VE hT) O4,qQ]
 rw[er,uq];refine k _ w' H (BI df (bY _<|az ht) h3 (fun c hc=>⟨hc,(hn c hc).2⟩) nU (by simp[bN.bO]) ⟨xs++news,by simpa using h2,vG ho YO,fun b hb=>?_⟩ h4);rcases h4 b hb with h|h
 ·exact hn b h
 ·refine⟨?_,.inl<|fZ df.below.size h⟩;cases hh:H b with
  |none=>rfl
  |some o=>have:=xP df.sub hh;omega
def Wa(O4:kA P T2=true)(ht:look Γ t=some (.buf E sz l))(hx:Arg Γ x (J5 l2))(hT:qV P T E sz bytes=true)(hu:HR sz l2)
 (Mf:l.length+l2.length<=maxLen)(sX:(l.length+l2.length)*bytes<=140737488355328)(nU:dd<N):
  Step P N ops ⟨some dd,.call ⟨.builtin .append,#[.tmp t,x],#[T,T2]⟩,ty,pos,af,none⟩ Γ ((dd,.buf E sz<|l++l2)::del dd (bQ t Γ)):=K5 (fun _ h=>h) O4 ht hx hT hu Mf sX nU
def Xg(O4:kA P T2=true)(ht:look Γ t=some (.buf E sz l))(hx:Arg Γ x (J5 l2))(hT:qV P T E sz bytes=true)(hu:HR sz l2)
 (Mf:l.length+l2.length<=maxLen)(sX:(l.length+l2.length)*bytes<=140737488355328)(nU:dd<N):
  Qx P N ops Γ ⟨some dd,.call ⟨.builtin .append,#[.tmp t,x],#[T,T2]⟩,ty,pos,af,none⟩ t dd (.buf E sz<|l++l2):=fun _ bY=>K5 bY O4 ht hx hT hu Mf sX nU
def uG{s:bN}(ht:look Γ t=some s)(hl:s.bO=[])(nU:dd<N)(o:Op)(ho:o= .assign (.tmp t)\/o= .move (.tmp t)):
  Qx P N ops Γ ⟨some dd,o,ty,pos,af,none⟩ t dd s:=by
 intro tD bY w0 H0 a w H df K Q k;simp only[Region.wanted,if_true];have er:(execOp a.eval ⟨some dd,o,ty,pos,af,none⟩).run P w= .ok (.value<|aX a t) w:=by rcases ho with rfl|rfl<;>rfl
 unfold Oper.wp;rw[er,uq];exact k _ w H (BI df (bY _<|az ht) (C5 w) (fun _ e=>by cases e) nU (by rw[hl];simp) (df.holds _<|bY _<|az ht) fun _ h=> .inl h)
def bE{s:bN}(ht:look Γ t=some s)(hl:s.bO=[])(nU:dd<N)(o:Op)(ho:o= .assign (.tmp t)\/o= .move (.tmp t)):
  Step P N ops ⟨some dd,o,ty,pos,af,none⟩ Γ ((dd,s)::del dd (bQ t Γ)):=by
 intro w0 H0 a w H df K Q k;simp only[Region.wanted,if_true];have er:(execOp a.eval ⟨some dd,o,ty,pos,af,none⟩).run P w= .ok (.value<|aX a t) w:=by rcases ho with rfl|rfl<;>rfl
 unfold Oper.wp;rw[er,uq];exact k _ w H (BI df (az ht) (C5 w) (fun _ e=>by cases e) nU (by rw[hl];simp) (df.holds _<|az ht) fun _ h=> .inl h)
def cq{a b:Nat}(h:Nat.blt a b=true):a<b:=gP h
def iV(n:Nat)(agg:Bool):Ty where
 n:=n
 agg:=agg
 ok:=fun _ v=>Shape n agg v
 mono:=fun _ h=>h
 shape:=fun h=>h
def aaT(cs0:auA aq6)(off:Nat):∀(l:asv aq6) (k:Nat),(off+k+l.length<=cs0.size)->
  (l.zipIdx k).foldl (fun cs (x:aq6×Nat)=>cs.setIfInBounds (off+x.2) x.1) cs0=(cs0.toList.take (off+k)++l++cs0.toList.drop (off+k+l.length)).toArray:=by
 intro l
 induction l generalizing cs0 with
 |nil=>intro k _;simp
 |cons v l ih=>
  intro k hk;simp only[List.length_cons] at hk;simp only[List.zipIdx_cons,Jr];rw[ih _ (k+1) (by simp;omega)]
  congr 1
  simp only[M4,List.length_cons];have hlt:off+k<cs0.toList.length:=by simp;omega
  have h1:List.take (off+(k+1)) (cs0.toList.set (off+k) v)=List.take (off+k) cs0.toList++[v]:=by
   rw[<-uj,List.take_succ_eq_append_getElem (by simpa using hlt)];simp[List.take_set];rw[List.set_eq_of_length_le (by simp;omega)]
  have h2:List.drop (off+(k+1)+l.length) (cs0.toList.set (off+k) v)=List.drop (off+k+(l.length+1)) cs0.toList:=by
   rw[MT (by omega)]
   congr 1;omega
  rw[h1,h2];simp
inductive fO(P:ast)(Γ:Ctx):asv (Nat×asu)->asv Ty->asv Ty->Prop where
 |nil {l:asv Ty}:fO P Γ [] l l
 |cons {i:Nat} {x:asu} {τ σ:Ty} {ps:asv (Nat×asu)} {l l':asv Ty} (hx:Arg Γ x σ) (hi:l[i]? =some τ) (hn:σ.n=τ.n) (r:fO P Γ ps (l.set i σ) l'):fO P Γ ((i,x)::ps) l l'
def qH(l:asv Ty):asv Nat:=l.map (·.n)
def UB{i:Nat}{σ:Ty}(h:l[i]? =some τ)(hn:σ.n=τ.n):qH (l.set i σ)=qH l:=by
 simp only[qH,yC];apply Ju;intro j;rw[List.getElem?_set];split
 ·rename_i e;subst e;split
  ·simp[h,hn]
  ·rename_i hlt;have:=(jk.1 h).1;simp at hlt;omega
 ·rfl
def fO.fill{ps:asv (Nat×asu)}{l l':asv Ty}(h:fO P Γ ps l l'){place:Nat->auz (Nat×Nat)}(SO:∀i n,(qH l)[i]? =some n->place i=some (((qH l).take i).sum,n))
  {w0:an P}{H0:HV}{N:Nat}{a:Act}{w:aq5}{H:HV}(hs:Sat w0 H0 N Γ a w H):∀{cells:auA aq6},vH H l cells.toList->
   ∃lz,Instr.fill place cells (ps.map fun p=>(p.1,a.eval p.2))=some lz/\vH H l' lz.toList:=by
 induction h with
 |nil=>exact fun h=>⟨_,rfl,h⟩
 | @cons i x τ σ ps l l' hx hi hn r ih=>
  intro cells gS;have hv:=hx.ok hs;have hsz:=(σ.shape hv).size;obtain⟨p1,_⟩:=oR gS hi;have uW:=Cv gS hi hn hv;have ade:=SO i τ.n (by simp[qH,hi]);have apg:((qH l).take i).sum=dm (l.take i):=by simp[qH,dm,List.map_take]
  rw[apg] at ade;have hlen:cells.toList.length=cells.size:=by simp
  rw[hlen] at p1;have ahM:=aaT cells (dm<|l.take i) (a.eval x).cells.toList 0 (by simp;omega);simp only[ux,gN] at ahM;have hnn:(a.eval x).cells.size=τ.n:=by omega
  obtain⟨lz,h1,h2⟩:=ih (by rw[UB hi hn];exact SO) (cells:=(cells.toList.take (dm<|l.take i)++(a.eval x).cells.toList++cells.toList.drop (dm (l.take i)+(a.eval x).cells.size)).toArray) (by rw[hnn];simpa using uW);refine⟨lz,?_,h2⟩;simp only[uy,Instr.fill,ade];rw[if_neg (by simp;omega)];have e:Array.foldl (fun cs (x:aq6×Nat)=>cs.setIfInBounds (dm (List.take i l)+x.snd) x.fst) cells (a.eval x).cells.zipIdx=(List.take (dm<|List.take i l) cells.toList++(a.eval x).cells.toList++List.drop (dm (List.take i l)+(a.eval x).cells.size) cells.toList).toArray:=by
   rw[<-ahM,<-Array.foldl_toList,Array.toList_zipIdx]
  rw[<-h1]
  congr 1
def jI(P:ast)(T:asr)(ns:asv Nat):Bool:=
 match P.underlying T with
 |some (.struct fs)=>fs.toList.map (·.offset)==(List.range ns.length).map (fun i=>(ns.take i).sum)&&(fs.toList.map (fun f=>(P.info? f.type).map (·.size))==ns.map some)
 |_=>false
def WH{fs:asv Field}:∀{ns:asv Nat},fs.map (fun f=>(P.info? f.type).map (·.size))=ns.map some->∀w,(fs.mapM fun f=>do pure (f.offset,<-Go.sizeOf f.type):Sem (asv<|Nat×Nat)).run P w= .ok ((fs.map (·.offset)).zip ns) w:=by
 induction fs with
 |nil=>intro ns h w;cases ns<;>simp_all
 |cons f fs ih=>
  intro ns h w;cases ns with
  |nil=>simp at h
  |cons n ns=>
   simp only[uy,List.cons.injEq] at h;obtain⟨h1,h2⟩:=h;cases hi:P.info? f.type with
   |none=>rw[hi] at h1;cases h1
   |some i=>
    rw[hi] at h1;simp at h1;have:=ih h2 w;simp only[List.mapM_cons,fh,Go.sizeOf,typeInfo,program,Sem.run,hi,pj,eQ,h1];simp only[Go.sizeOf,typeInfo,program] at this;rw[this];simp
def Ey(hz:bL P T (gn l))(hT:jI P T (qH l)=true)(hp:fO P Γ ps l l'):bK P Γ ⟨d,.build T ps.toArray,ty,pos,af,g⟩ (.val<|gn l'):=
 bh fun w0 H0 N a w H hs=>by
  obtain⟨z,Tn,VQ⟩:=hz.run w;obtain⟨zc,rfl,ai2⟩:=VQ H;unfold jI at hT;split at hT
  ·rename_i fs hu;simp only[cW,wE] at hT;obtain⟨h1,h2⟩:=hT;have hm:=WH h2 w;have SO:∀i n,(qH l)[i]? =some n->((fs.toList.map (·.offset)).zip<|qH l).toArray[i]? =some (((qH l).take i).sum,n):=by
    intro i n hi;have hlt:=(jk.1 hi).1;simp only[List.getElem?_toArray,h1];rw[M3];refine⟨?_,hi⟩;simp[hlt]
   obtain⟨lz,hf,gS⟩:=hp.fill SO hs ai2;have hmA:(fs.mapM fun f=>do pure (f.offset,<-Go.sizeOf f.type):Sem (auA<|Nat×Nat)).run P w= .ok ((fs.toList.map (·.offset)).zip<|qH l).toArray w:=by
    have e:(fs.mapM fun f=>do pure (f.offset,<-Go.sizeOf f.type):Sem (auA<|Nat×Nat))=List.toArray<$>(fs.toList.mapM fun f=>do pure (f.offset,<-Go.sizeOf f.type)):=by
     rw[<-List.mapM_toArray]
    rw[e,Sem.run_map,hm]
    rfl
   refine⟨.agg lz,?_,⟨lz,rfl,gS⟩,rfl⟩;have e2:(ps.toArray.map fun(i,x)=>(i,a.eval x)).toList=ps.map fun p=>(p.1,a.eval p.2):=by simp
   have hf':Instr.fill (fun i=>((fs.toList.map (·.offset)).zip<|qH l).toArray[i]?) zc (ps.toArray.map fun(i,x)=>(i,a.eval x)).toList=some lz:=by rw[e2];exact hf
   simp only[execOp,Instr.build,fh,Tn,eQ,aP hu,Value.cells];rw[hmA];simp only[eQ];rw[hf'];simp
  ·cases hT
def om{n:Nat}(hz:bL P T (gn l))(hT:zT P T n sz=true)(hu:HR sz l)(hp:fO P Γ ps l l'):bK P Γ ⟨d,.build T ps.toArray,ty,pos,af,g⟩ (.val<|gn l'):=
 bh fun w0 H0 N a w H hs=>by
  obtain⟨z,Tn,VQ⟩:=hz.run w;obtain⟨zc,rfl,ai2⟩:=VQ H;obtain⟨e,i,hue,hi,hsz⟩:=Pz hT;have SO:∀i n,(qH l)[i]? =some n->(fun i=>some (i*sz,sz)) i=some (((qH l).take i).sum,n):=by
   intro i n hi;have hlt:=(jk.1 hi).1;simp[qH] at hlt;simp only[qH,nS,Option.map_eq_some_iff] at hi;obtain⟨τ,hτ,rfl⟩:=hi;have h1:=hu τ<|FK hτ
   have h2:=iC<|hu.take i
   simp only[dm,List.length_take,fW<|Fz hlt] at h2;simp[qH,<-List.map_take,h1,h2]
  obtain⟨lz,hf,gS⟩:=hp.fill SO hs ai2;refine⟨.agg lz,?_,⟨lz,rfl,gS⟩,rfl⟩;have e2:(ps.toArray.map fun(i,x)=>(i,a.eval x)).toList=ps.map fun p=>(p.1,a.eval p.2):=by simp
  have hf':Instr.fill (fun i=>some (i*sz,sz)) zc (ps.toArray.map fun(i,x)=>(i,a.eval x)).toList=some lz:=by rw[e2];exact hf
  have w9:(Go.sizeOf e).run P w= .ok sz w:=by simp[Go.sizeOf,typeInfo,program,Sem.run,hi,hsz]
  simp only[execOp,Instr.build,fh,Tn,eQ,aP hue,Value.cells,w9];rw[hf'];simp
def Nh{z:aq6}(hz:τ.ok H z)(n:Nat):vH H (List.replicate n τ) ((Array.range<|n*τ.n).map<|fun i=>z.cells[i%z.cells.size]!).toList:=by
 have hs:=τ.shape hz
 induction n with
 |zero=>simp[vH]
 |succ n ih=>
  have e:((Array.range<|(n+1)*τ.n).map<|fun i=>z.cells[i%z.cells.size]!).toList=((Array.range<|n*τ.n).map<|fun i=>z.cells[i%z.cells.size]!).toList++z.cells.toList:=by
   simp only[Array.toList_map,Array.toList_range];rw[Nat.succ_mul,List.range_add,List.map_append,Jn]
   congr 1
   apply List.ext_getElem
   ·simp[hs.size]
   ·intro i h1 h2;simp at h2;simp only[List.getElem_map,List.getElem_range,Function.comp,Array.getElem_toList];rw[hs.size,CH,Nat.add_mul_mod_self_right,AH (by rw[<-hs.size];exact h2)];rw[ph]
  rw[e,List.replicate_succ'];exact vG ih ⟨z,[],by simp,hz,rfl⟩
def pM(P:ast)(T:asr)(E:asr)(sz:Nat):Bool:=
 match P.underlying T with
 |some (.slice e)=>Nat.beq e E&&(match P.info? e with|some i=>Nat.beq i.size sz|none=>false)
 |_=>false
def A7{n:Nat}(hz:bL P E τ)(hT:pM P T E sz=true)(hsz:τ.n=sz)(hpos:Nat.blt 0 (n*sz)=true)(hn:Nat.ble (n*sz) 16777216=true)(hp:fO P Γ ps (List.replicate n τ) l')(hl:l'.length=n):
  bK P Γ ⟨d,.buildSlice T n ps.toArray,ty,pos,af,g⟩ (.val<|J5 l'):=
 ju fun w0 H0 N a w H hs=>by
  obtain⟨z,Tn,VQ⟩:=hz.run w;have ahI:=cq hpos;unfold pM at hT;split at hT
  ·rename_i e hu;simp only[cW] at hT;obtain⟨h1,h2⟩:=hT;have h1:=fX h1;subst h1;split at h2
   ·rename_i i hi;have h2:=fX h2;have hz0:=Nh (VQ H) n;rw[hsz] at hz0;have SO:∀i m,(qH<|List.replicate n τ)[i]? =some m->(fun i=>some (i*sz,sz)) i=some (((qH<|List.replicate n τ).take i).sum,m):=by
     intro i m hi;simp only[qH,MS,List.getElem?_replicate] at hi;split at hi
     ·rename_i hlt;simp at hi;subst hi;simp[qH,MS,Jw,hsz,fW<|Fz hlt]
     ·cases hi
    obtain⟨lz,hf,gS⟩:=hp.fill SO hs hz0;have e2:(ps.toArray.map fun(i,x)=>(i,a.eval x)).toList=ps.map fun p=>(p.1,a.eval p.2):=by simp
    have w9:(Go.sizeOf e).run P w= .ok sz w:=by simp[Go.sizeOf,typeInfo,program,Sem.run,hi,h2]
    have hle:n*sz<=16777216:=gP hn;have apC:∀zc:auA aq6,((Array.range<|n*sz).map<|fun i=>zc[i%zc.size]!)=((Array.range<|n*sz).map<|fun i=>z.cells[i%z.cells.size]!)->Instr.fill (fun i=>some (i*sz,sz)) ((Array.range<|n*sz).map<|fun i=>zc[i%zc.size]!) (ps.toArray.map fun(i,x)=>(i,a.eval x)).toList=some lz:=by
     intro zc hzc;rw[hzc,e2];exact hf
    have hb:F4 w.heap.size w (w.alloc<| .cells lz e):=F4.alloc _;refine⟨.slice (some ⟨w.heap.size,0,none⟩) n n,w.alloc<| .cells lz e,grow H w<|w.alloc<| .cells lz e,?_,Ext.grown hs.sub hb,?_,fun b hb=>absurd hb<|bN.free_spec rfl⟩
    ·have h0: ¬n*sz=0:=by omega
     have hff:=apC z.cells rfl;simp only[execOp,Instr.buildSlice,fh,eQ,aP hu,w9];rw[if_neg (by omega)];simp only[fh,pj,eQ,if_neg h0,Tn];rw[hff];simp[newRow]
    ·refine⟨_,n,by rw[hl],by omega,fun _=>⟨w.heap.size,0,lz,e,(0,0),rfl,?_,?_,?_⟩⟩
     ·simp only[grow,Nat.lt_irrefl,if_false];exact sR w _
     ·have:=oD gS;simp at this;omega
     ·have hlen:=oD gS;rw[yF,fe (by omega)];exact tU (Ext.grown hs.sub hb).le gS
   ·cases h2
  ·cases hT
end
section
variable[D:DR]
variable{P:Program}{w0:an P}{H0:HV}{N:Nat}{Γ ay:Ctx}{d:Option Tmp}{ty:TypeId}{pos:String}{af:Array Edge}{g:Option (Nat×Bool)}
def ar{Q:Exit->Act->aq5->Prop}{y:Code}(h:Goal P w0 H0 N y Q Γ):me w0 H0 N (fun a w=>y.wpIn (iP w0.rd) 0 P Q a w) Γ:=h
def vi.conv{t:Nat}{s s':bN}{ts:asv Nat}(h:look Γ t=some s)(e:s=s')(r:vi Γ ts ay):vi Γ (t::ts) ((t,s')::ay):=e▸vi.cons h r
end
section
variable[D:DR]
variable{P:Program}{w0:an P}{H0:HV}{N:Nat}{ops:Array Oper}{Γ ay:Ctx}{d:Option Tmp}{ty:TypeId}{pos:String}{af:Array Edge}{g:Option (Nat×Bool)}
variable{sz:Nat}{l:asv Ty}{T E:asr}{x:asu}{t j p:Nat}{σ:Ty}{H:HV}{ρ:Ty}
def mkB(P:ast)(T E sz bytes:Nat):Bool:=
 match P.underlying T with
 |some (.slice e)=>Nat.beq e E&&(match P.info? e with|some i=>Nat.beq i.size sz&&Nat.beq i.bytes bytes&&Nat.blt 0 sz|none=>false)
 |_=>false
def af2{bytes:Nat}{y:asu}{n:Nat}{τ:Ty}(hT:mkB P T E sz bytes=true)(hz:bL P E τ)(hsz:τ.n=sz)(hx:Arg Γ x (TI .i64 n))(hy:Arg Γ y (TI .i64 n))(hn:n<=9223372036854775807)(hb:bytes*n<=140737488355328):
  bK P Γ ⟨d,.makeSlice T x y,ty,pos,af,g⟩ (.buf E sz<|List.replicate n τ):=
 ju fun w0 H0 N a w H hs=>by
  obtain⟨z,Tn,VQ⟩:=hz.run w;have e1:a.eval x= .int .i64 n:=hx.ok hs;have e2:a.eval y= .int .i64 n:=hy.ok hs;unfold mkB at hT;split at hT
  ·rename_i e hu;simp only[cW] at hT;obtain⟨h1,h2⟩:=hT;have h1:=fX h1;subst h1;split at h2
   ·rename_i i hi;simp only[cW] at h2;obtain⟨⟨h2,h3⟩,h4⟩:=h2;have h2:=fX h2;have h3:=fX h3;have h4:=cq h4;have hz0:=Nh (VQ H) n;rw[hsz] at hz0;have hw:IntKind.i64.wrap (n:Int)=n:=wrap_i64 (by unfold DP;omega);have JK: ¬((bytes:Int)*n>2^48):=by
     have:((bytes*n:Nat):Int)<=140737488355328:=by omega
     simp only[uo] at this;omega
    have w9:∀w,(Go.sizeOf e).run P w= .ok sz w:=fun w=>by simp[Go.sizeOf,typeInfo,program,Sem.run,hi,h2]
    have hti:∀w,(typeInfo e).run P w= .ok i w:=fun w=>by simp[typeInfo,program,Sem.run,hi]
    have Lw:askRoom ((n:Int).toNat*i.bytes)=pure ():=by
     unfold askRoom roomBytes;rw[if_neg];rw[h3,Int.toNat_natCast,pF];omega
    have jQ:F4 w.heap.size w (w.alloc<| .cells ((Array.range<|n*sz).map<|fun i=>z.cells[i%z.cells.size]!) e):=F4.alloc _;have qQ:(Instr.makeSlice T (.int .i64 n)<| .int .i64 n).run P w= .ok (.slice (some ⟨w.heap.size,0,none⟩) n n) (w.alloc<| .cells ((Array.range<|n*sz).map<|fun i=>z.cells[i%z.cells.size]!) e):=by
     have Bl: ¬((n:Int)<0):=by omega
     unfold Instr.makeSlice;simp only[fh,aP hu,eQ,asInt,asIntOf,pj,hti,hw,h3,Lw,Int.toNat_natCast,w9];have amt:(decide ((n:Int)<0)||decide ((bytes:Int)*n>2^48))=false:=by simp[Bl];omega
     simp only[amt];simp only[CT,false_or,Bl,Int.lt_irrefl,or_self,if_false,fh,pj,eQ,w9];by_cases h0:n*sz=0
     ·have WW:(Array.range 0:auA Nat)= #[]:=rfl;simp[w9,h0,newRow,WW]
     ·simp[w9,h0,Tn,newRow]
    refine⟨_,_,H,by simp only[execOp,e1,e2,fh,qQ,eQ];rfl,Ext.alloc hs.sub _,⟨((Array.range<|n*sz).map<|fun i=>z.cells[i%z.cells.size]!).toList,⟨by simp,.inr ⟨w.heap.size,n,_,by simp,jv _,sR w _,by simp,?_,by simp,?_⟩⟩,hz0,?_⟩,?_⟩
    ·simp only[maxLen];omega
    ·rw[fe (by simp)]
    ·intro b hb;simp[Value.ownBlock] at hb;subst hb;refine⟨?_,.inl hs.below.size⟩;cases hh:H w.heap.size with
     |none=>rfl
     |some o=>have:=xP hs.sub hh;omega
    ·intro b hb;simp[bN.owns,Value.ownBlock] at hb;omega
   ·cases h2
  ·cases hT
def B5{B:an P}{a:Act}{w:aq5}{v:aq6}(h:(bN.buf E sz l).holds B a w H v)(hne:l≠[]):∃b cap cs xs,v= .slice (some ⟨b,0,none⟩) l.length cap/\w.heap[b]? =some (.cells cs E (0,0))/\l.length<=cap/\cap<=maxLen/\cs.size=cap*sz/\xs.length=l.length*sz/\cs.toList.take (l.length*sz)=xs/\vH H l xs/\H b=none/\B.mY b:=by
 obtain⟨xs,⟨hx,hc⟩,ho,hn⟩:=h;rcases hc with⟨e,hl⟩|⟨g,cap,cur,e,hB,hg,hcap,hm,hcs,ht⟩
 ·exact absurd (sW hl) hne
 ·subst e;exact⟨g,cap,cur,xs,rfl,hg,hcap,hm,hcs,hx,ht,ho,(hn g rfl).1,(hn g rfl).2⟩
def Sd{s:Nat}{ix:asu}{k:IntKind}{i:Int}(hs:look Γ s=some (.same t))(ht:look Γ t=some (.buf E sz l))(hT:Br P T sz=true)(hi:Arg Γ ix (TI k i))(h0:0<=i)(h1:i<l.length):
  bK P Γ ⟨d,.indexAddr T (.tmp s) ix,ty,pos,af,g⟩ (.DK t i.toNat sz):=
 bh fun w0 _ _ a w H df=>by
  obtain⟨b,cap,cs,xs,e,hb,_⟩:=B5 (df.holds _<|az ht) (fun e=>by rw[e] at h1;simp at h1;omega);have e2:aX a s=aX a t:=df.holds _<|az hs
  have e3:a.eval (.tmp s)= .slice (some ⟨b,0,none⟩) l.length cap:=e2.trans e;have ei:a.eval ix= .int k i:=hi.ok df;exact⟨.pointer<|some ⟨b,0+i.toNat*sz,none⟩,by simp[execOp,e3,ei,y9 hT b 0 l.length cap h0 h1],⟨b,_,cap,e,by simp⟩,rfl⟩
def R9(hp:look Γ p=some (.DK t j sz))(ht:look Γ t=some (.buf E sz l))(hu:HR sz l)(hj:l[j]? =some σ)(hT:eG P T σ.n σ.agg=true):
  bK P Γ ⟨d,.load T<| .tmp p,ty,pos,af,g⟩ (.val σ):=
 bh fun w0 _ _ a w H df=>by
  have PQ:=(jk.1 hj).1;obtain⟨b,cap,cs,xs,e,hb,hcap,_,hcs,hx,htake,ho,_,_⟩:=B5 (df.holds _<|az ht) (fun e=>by rw[e] at PQ;simp at PQ);obtain⟨b',aiS,aa4,e1,e2⟩:=df.holds _<|az hp
  simp only at e e1;rw[e] at e1;cases e1;have e3:a.eval (.tmp p)= .pointer (some ⟨b,j*sz,none⟩):=e2;obtain⟨p1,p2⟩:=oR ho hj;have hc:dm (l.take j)=j*sz:=by rw[iC<|hu.take _,List.length_take,fW (by omega)]
  rw[hc] at p1 p2;have YR:l.length*sz<=cs.size:=by rw[hcs];exact nE _ hcap
  have Ho:List.take σ.n (List.drop (j*sz) cs.toList)=List.take σ.n (List.drop (j*sz) xs):=by
   rw[<-htake,um,vR]
   congr 1;omega
  refine⟨_,?_,p2,rfl⟩;have hr:=mg (P:=P) hT hb (off:=j*sz) (by omega);rw[Ho] at hr;simp[execOp,e3,Instr.loadAt,Instr.sureAddr,hr]
def TT{α:Type _}{cs y:asv α}{o s n:Nat}(hy:y.length=s)(h1:o+s<=n)(h2:n<=cs.length):
  List.take n (cs.take o++y++cs.drop (o+s))=List.take o (cs.take n)++y++List.drop (o+s) (cs.take n):=by
 have e1:(cs.take o++y).length=o+s:=by simp[hy];omega
 rw[Jt,e1,fe (by omega),vR,fW (by omega),um]
def Ed{dz:Ctx}(bY:∀q∈dz,q∈Γ)(hp:look dz p=some (.DK t j sz))(ht:look dz t=some (.buf E sz l))(hu:HR sz l)(hj:l[j]? =some ρ)(hx:Arg dz x σ)(hn:σ.n=sz)(hT:eG P T σ.n σ.agg=true):
  Step P N ops ⟨none,.store T (.tmp p) x,ty,pos,af,none⟩ Γ ((t,.buf E sz<|l.set j σ)::bQ t Γ):=by
 intro w0 H0 a w H df K Q k;simp only[Region.wanted,if_true];have PQ:=(jk.1 hj).1;obtain⟨b,cap,cs,xs,e,hb,hcap,Mb,hcs,GS,htake,ho,hH,hB⟩:=B5 (df.holds _ (bY _<|az ht)) (fun e=>by rw[e] at PQ;simp at PQ);obtain⟨b',aiS,aa4,e1,e2⟩:=df.holds _ (bY _<|az hp);simp only at e e1;rw[e] at e1;cases e1;have ep:a.eval (.tmp p)= .pointer (some ⟨b,j*sz,none⟩):=e2;have GR:=hx.ok<|df.weaken bY
 have oY:=σ.shape GR;have hρ:ρ.n=sz:=hu ρ<|FK hj
 have hc:dm (l.take j)=j*sz:=by rw[iC<|hu.take _,List.length_take,fW (by omega)]
 obtain⟨p1,_⟩:=oR ho hj;rw[hc,hρ] at p1;have uW:=Cv ho hj (hn.trans hρ.symm) GR;rw[hc,hρ] at uW;have YR:l.length*sz<=cs.size:=by rw[hcs];exact nE _ hcap
 have qQ:=l9 (P:=P) (off:=j*sz) (BZ hT) oY.size hb (by rw[hn];omega) oY.cell;rw[hn] at qQ;unfold Oper.wp;have er:(execOp a.eval ⟨none,.store T (.tmp p) x,ty,pos,af,none⟩).run P w= .ok .skip (w.setRow b (cs.toList.take (j*sz)++(a.eval x).cells.toList++cs.toList.drop (j*sz+sz)).toArray):=by
  simp[execOp,ep,Instr.storeAt,Instr.sureAddr,qQ]
 rw[er,wI]
 generalize adq:(cs.toList.take (j*sz)++(a.eval x).cells.toList++cs.toList.drop (j*sz+sz)).toArray=Bs
 have hg:AO w (w.setRow b Bs) (some b):=AO.setRow w b _;have hlen:(a.eval x).cells.toList.length=sz:=by rw[gN,oY.size,hn]
 refine k a _ H (jo df (bY _<|az ht) hg hB (by simp[bN.owns,e,Value.ownBlock]) ?_ fun c hc=> .inl hc);refine⟨_,⟨?_,.inr ⟨b,cap,Bs,by simpa using e,jv _,Fw w b _ _ _ _ hb,by simpa using hcap,Mb,?_,rfl⟩⟩,?_,?_⟩
 ·rw[<-adq];simp only[pk,List.length_take,Jv,List.length_append,hlen,nD,gN];omega
 ·rw[<-adq,<-hcs];simp only[Jv,List.length_append,List.length_take,hlen,nD,gN];omega
 ·have:List.take (l.length*sz) Bs.toList=List.take (j*sz) xs++(a.eval x).cells.toList++List.drop (j*sz+sz) xs:=by
   rw[<-adq,<-htake];exact TT hlen (by omega) (by simp;omega)
  simp only[pk];rw[this];exact uW
 ·intro c hc;simp[e,Value.ownBlock] at hc;subst hc;exact⟨hH,hB⟩
def Qd(hp:look Γ p=some (.DK t j sz))(ht:look Γ t=some (.buf E sz l))(hu:HR sz l)(hj:l[j]? =some ρ)(hx:Arg Γ x σ)(hn:σ.n=sz)(hT:eG P T σ.n σ.agg=true):
  Step P N ops ⟨none,.store T (.tmp p) x,ty,pos,af,none⟩ Γ ((t,.buf E sz<|l.set j σ)::bQ t Γ):=Ed (fun _ h=>h) hp ht hu hj hx hn hT
def NZ(hp:look Γ p=some (.DK t j sz))(ht:look Γ t=some (.buf E sz l))(hu:HR sz l)(hj:l[j]? =some ρ)(hx:Arg Γ x σ)(hn:σ.n=sz)(hT:eG P T σ.n σ.agg=true):
  Qw P N ops Γ ⟨none,.store T (.tmp p) x,ty,pos,af,none⟩ t (.buf E sz<|l.set j σ):=fun _ bY=>Ed bY hp ht hu hj hx hn hT
def A8(hu:HR sz l):∀{cs:asv aq6},vH H l cs->∀(lo hi:Nat),vH H ((l.take hi).drop lo) ((cs.take<|hi*sz).drop<|lo*sz):=by
 induction l with
 |nil=>intro cs h lo hi;have:cs=[]:=h;subst this;simp[vH]
 |cons τ l ih=>
  rintro cs ⟨v,rest,e,hv,hr⟩ lo hi;subst e;have h1:τ.n=sz:=hu τ (by simp);have hvs:v.cells.toList.length=sz:=by rw[gN,(τ.shape hv).size,h1]
  cases hi with
  |zero=>simp[vH]
  |succ hi=>
   have ht:List.take ((hi+1)*sz) (v.cells.toList++rest)=v.cells.toList++List.take (hi*sz) rest:=by
    rw[Nat.succ_mul,CH,Jt,hvs,fe (by omega)]
    congr 2;omega
   rw[ht];cases lo with
   |zero=>
    have:=ih (fun x hx=>hu x (by simp[hx])) hr 0 hi;simp only[yF,MH,MU] at this⊢;exact⟨v,_,rfl,hv,this⟩
   |succ lo=>
    have hd:List.drop ((lo+1)*sz) (v.cells.toList++List.take (hi*sz) rest)=List.drop (lo*sz) (List.take (hi*sz) rest):=by
     rw[Nat.succ_mul,CH,zH,hvs,xE (by omega)];simp
    rw[hd];exact ih (fun x hx=>hu x (by simp[hx])) hr lo hi
def aie(hu:HR sz l){ad:auz Addr}{len cap:Nat}(h:(J5 l).ok H (.slice ad len cap)){lo hi m:Nat}(hlh:lo<=hi)(hhl:hi<=l.length)(nc:Nat)(hnc:hi-lo<=nc)(hm:m=lo->lo=hi):
  (J5<|(l.take hi).drop lo).ok H (.slice (if m=lo then ad else ad.map (·.add (lo*sz))) (hi-lo) nc):=by
 obtain⟨ad',aa4,e,hcap,hx⟩:=h;cases e;have hlen:((l.take hi).drop lo).length=hi-lo:=by simp;omega
 refine⟨if m=lo then ad else ad.map (·.add (lo*sz)),nc,by rw[hlen],by omega,fun hne=>?_⟩;have hne':l≠[]:=by intro e;subst e;simp at hne
 have hlt:lo<hi:=by
  apply sU;intro W7;exact hne (sW (by omega))
 obtain⟨b,off,cs,E,fr,e1,hb,hs,ho⟩:=hx hne';subst e1;have Mb: ¬m=lo:=fun e=>by have:=hm e;omega
 have hlc:dm l=l.length*sz:=iC hu;have bY:(HR sz<|(l.take hi).drop lo):=fun x hx=>hu x<|vV<|zK hx
 have hcn:dm ((l.take hi).drop lo)=(hi-lo)*sz:=by rw[iC bY,hlen]
 have hmul:hi*sz<=l.length*sz:=nE _ hhl;have arS:(hi-lo)*sz+lo*sz=hi*sz:=by rw[<-pg];congr 1;omega
 refine⟨b,off+lo*sz,cs,E,fr,by simp[Mb,addr_add],hb,by omega,?_⟩;have:=A8 hu ho lo hi;rw[hcn];have e2:List.take ((hi-lo)*sz) (List.drop (off+lo*sz) cs.toList)=List.drop (lo*sz) (List.take (hi*sz)<|List.take (dm l)<|List.drop off cs.toList):=by
  rw[vR,fW (by omega),um,ji]
  congr 1;omega
 rw[e2];exact this
def aco{lo hi:auz asu}{i:Nat}(hT:Br P T sz=true)(hx:Arg Γ x (J5 l))(hu:HR sz l)
 (GV:(lo=none/\i=0)\/∃y k,lo=some y/\Arg Γ y (TI k i))(Vb:(hi=none/\j=l.length)\/∃y k,hi=some y/\Arg Γ y (TI k j))(VU:i<=j)(PQ:j<=l.length):
  bK P Γ ⟨d,.slice T x lo hi none,ty,pos,af,g⟩ (.val<|J5<|(l.take j).drop i):=
 bh fun w0 _ _ a w H hs=>by
  have hxo:=hx.ok hs;have aoO:=hxo;obtain⟨ad,cap,e,hcap,hxx⟩:=aoO;rw[e] at hxo;obtain⟨el,ii,hue,hii,hsz⟩:=Mq hT;have w9:∀w,(Go.sizeOf el).run P w= .ok sz w:=fun w=>by simp[Go.sizeOf,typeInfo,program,Sem.run,hii,hsz]
  have hbd:(Instr.sliceBounds true l.length cap (lo.map a.eval) (hi.map a.eval) none).run P w= .ok (i,j,cap) w:=by
   have b1:∀(k:IntKind) (code:BoundsCode),(Instr.sliceBound (.int k (j:Int)) cap code).run P w= .ok j w:=fun k code=>by
    have:(j:Int)<=cap:=by omega
    simp[Instr.sliceBound,asIntOf];omega
   have b2:∀(k:IntKind) (code:BoundsCode),(Instr.sliceBound (.int k (i:Int)) j code).run P w= .ok i w:=fun k code=>by
    simp[Instr.sliceBound,asIntOf];omega
   rcases GV with⟨e1,e2⟩|⟨y,k,e1,e2⟩<;>rcases Vb with⟨f1,f2⟩|⟨z,k',f1,f2⟩
   ·subst e1;subst f1;subst e2;subst f2;simp[Instr.sliceBounds]
   ·subst e1;subst f1;subst e2;have ez:a.eval z= .int k' j:=f2.ok hs;simp[Instr.sliceBounds,ez,b1]
   ·subst e1;subst f1;subst f2;have ey:a.eval y= .int k i:=e2.ok hs;simp[Instr.sliceBounds,ey,b2]
   ·subst e1;subst f1;have ey:a.eval y= .int k i:=e2.ok hs;have ez:a.eval z= .int k' j:=f2.ok hs;simp[Instr.sliceBounds,ey,ez,b1,b2]
  refine⟨_,?_,aie hu hxo VU PQ (m:=cap) (cap-i) (by omega) (fun e=>by omega),rfl⟩;have e3:a.eval x= .slice ad l.length cap:=e;simp[execOp,e3,Instr.sliceAt,aP hue,Instr.slice,hbd,w9]
end
section
variable[D:DR]
variable{P:Program}{N:Nat}{ops:Array Oper}{Γ ay:Ctx}{d:Option Tmp}{ty:TypeId}{pos:String}{af:Array Edge}{g:Option (Nat×Bool)}
variable{T:asr}{α:Type}{x:asu}{f:α->Ty}{l:asv α}{sz:Nat}{n:Int}{y:asu}{t:Nat}{T' E:asr}{k:IntKind}{i m r:Int}{H:HV}{j:Nat}{w0:an P}{p:Nat}{z:α}{ix:asu}{off:Nat}{τ:Ty}{len bytes:Nat}{v:aq6}{a:Act}{w:aq5}{dd:Nat}{T2:asr}{ta:auA asr}{σ:Ty}{b:Bool}{lo hi:auz asu}{H0:HV}{k':IntKind}{xs:asv asu}{args dq:asv Ty}
def tm{o:Oper}{s s':bN}(h:bK P Γ o s)(e:s=s'):bK P Γ o s':=e▸h
@[reducible] def TS(l:asv UInt8):Ty:=VH ⟨l.toArray⟩
@[reducible] def lT{α:Type}(f:α->Ty)(l:asv α):asv Ty:=l.map f
@[reducible] def TL{α:Type}(f:α->Ty)(l:asv α):Ty:=J5<|lT f l
@[reducible] def aa9{α:Type}(f:α->Ty)(l:asv α):Ty:=gn<|lT f l
def TN{α:Type}(f:α->Ty)(l:asv α):Ty where
 n:=1
 agg:=false
 ok:=fun H v=>(TL f l).ok H v/\(l=[]->v= .slice none 0 0)
 mono:=fun h k=>⟨(TL f l).mono h k.1,k.2⟩
 shape:=fun k=>(TL f l).shape k.1
def bj{α:Type}(l:asv α):Int->auz α
 | .ofNat n=>l[n]?
 | .negSucc _=>none
def iR{α:Type}(l:asv α)(lo hi:Int):auz (asv α):=bif decide (0<=lo)&&(decide (lo<=hi)&&decide (hi<=l.length)) then some ((l.take hi.toNat).drop lo.toNat) else none
def B0(n:Int):Bool:=decide (-9223372036854775808<=n)&&decide (n<=9223372036854775807)
def aF(n:Int):auz Int:=bif B0 n then some n else none
def fB{α:Type}(bytes:Nat)(l m:asv α):auz (asv α):=bif decide ((l.length+m.length)*bytes<=140737488355328)&&decide (l.length+m.length<=9223372036854775807) then some (l++m) else none
def WG{α:Type}(bytes:Nat)(n:Int)(z:α):auz (asv α):=bif decide (0<=n)&&(decide (n<=9223372036854775807)&&decide (bytes*n<=140737488355328)) then some (List.replicate n.toNat z) else none
def y7(l m:asv UInt8):auz (asv UInt8):=bif decide (l.length+m.length<=9223372036854775807) then some (l++m) else none
def wb(m n:Int):auz Int:=bif decide (n=0) then none else aF (m.tdiv n)
def tC(m n:Int):auz Int:=bif decide (n=0) then none else some (m.tmod n)
def oW{x:α}(h:bj l i=some x):0<=i/\i<l.length/\l[i.toNat]? =some x:=by
 cases i with
 |ofNat n=>
  have h':l[n]? =some x:=h;have:=(jk.1 h').1;refine⟨Int.natCast_nonneg n,?_,h'⟩;show(n:Int)<_;omega
 |negSucc n=>cases h
def NY{r:asv α}{lo hi:Int}(h:iR l lo hi=some r):0<=lo/\lo<=hi/\hi<=l.length/\r=(l.take hi.toNat).drop lo.toNat:=by
 unfold iR at h;cases hc:(decide (0<=lo)&&(decide (lo<=hi)&&decide (hi<=l.length)))
 ·rw[hc] at h;cases h
 ·rw[hc] at h;simp only[cW,zI] at hc;exact⟨hc.1,hc.2.1,hc.2.2,(fG h).symm⟩
def aaw(h:B0 n=true):DP n:=by simpa[B0,DP] using h
def E4(h:aF n=some r):DP n/\r=n:=by
 unfold aF at h;cases hc:B0 n
 ·rw[hc] at h;cases h
 ·rw[hc] at h;exact⟨aaw hc,(fG h).symm⟩
def F0{b:Nat}{m r:asv α}(h:fB b l m=some r):(l.length+m.length)*b<=140737488355328/\l.length+m.length<=9223372036854775807/\r=l++m:=by
 unfold fB at h;cases hc:(decide ((l.length+m.length)*b<=140737488355328)&&decide (l.length+m.length<=9223372036854775807))
 ·rw[hc] at h;cases h
 ·rw[hc] at h;simp only[cW,zI] at hc;exact⟨hc.1,hc.2,(fG h).symm⟩
def af7{b:Nat}{r:asv α}(h:WG b n z=some r):∃m:Nat,n=m/\m<=9223372036854775807/\b*m<=140737488355328/\r=List.replicate m z:=by
 unfold WG at h;cases hc:(decide (0<=n)&&(decide (n<=9223372036854775807)&&decide (b*n<=140737488355328)))
 ·rw[hc] at h;cases h
 ·rw[hc] at h;simp only[cW,zI] at hc;refine⟨n.toNat,by omega,by omega,?_,(fG h).symm⟩;have h1:((b*n.toNat:Nat):Int)=b*n:=by rw[uo,Int.toNat_of_nonneg hc.1]
  have:=hc.2.2;omega
def ZN{l m r:asv UInt8}(h:y7 l m=some r):l.length+m.length<=9223372036854775807/\r=l++m:=by
 unfold y7 at h;cases hc:decide (l.length+m.length<=9223372036854775807)
 ·rw[hc] at h;cases h
 ·rw[hc] at h;exact⟨bg hc,(fG h).symm⟩
def ad1(h:wb m n=some r):n≠0/\DP (m.tdiv n)/\r=m.tdiv n:=by
 unfold wb at h;cases hc:decide (n=0)
 ·rw[hc] at h;obtain⟨h1,h2⟩:=E4 h;exact⟨bV hc,h1,h2⟩
 ·rw[hc] at h;cases h
def ab3(h:tC m n=some r):n≠0/\r=m.tmod n:=by
 unfold tC at h;cases hc:decide (n=0)
 ·rw[hc] at h;exact⟨bV hc,(fG h).symm⟩
 ·rw[hc] at h;cases h
def yN(l:asv UInt8):(⟨l.toArray⟩:ByteArray).toList=l:=by
 have key:∀(b:ByteArray) (n:Nat) (i:Nat) (r:asv UInt8),b.size-i=n->i<=b.size->ByteArray.toList.loop b i r=r.reverse++b.data.toList.drop i:=by
  intro b n
  induction n with
  |zero=>
   intro i r hn hi;unfold ByteArray.toList.loop;have: ¬i<b.size:=by omega
   rw[if_neg this,List.drop_eq_nil_of_le (by simp only[gN];exact Nat.le_of_not_lt this)];simp
  |succ n ih=>
   intro i r hn hi;unfold ByteArray.toList.loop;have hlt:i<b.size:=by omega
   rw[if_pos hlt,ih (i+1) _ (by omega) (by omega)];have hl:i<b.data.toList.length:=by simpa using hlt
   rw[CE hl];have:b.get! i=b.data.toList[i]:=by
    cases b with
    |mk a=>
     show a[i]! =_;rw[ph a i hlt];simp
   simp[this]
 unfold ByteArray.toList;rw[key _ _ 0 [] rfl<|jv _];simp
def Arg.s{b:ByteArray}{l:asv UInt8}(h:b=⟨l.toArray⟩):Arg Γ (.const<| .string b) (TS l):=⟨fun _=>by subst h;rfl⟩
def Arg.nl:Arg Γ (.const<| .slice none 0 0) (TL f []):=Arg.aht
def Arg.nn:Arg Γ (.const<| .slice none 0 0) (TN f []):=⟨fun hs=>⟨(Arg.aht (Γ:=Γ)).ok hs,fun _=>rfl⟩⟩
def Zd:∀H v,(TN f l).ok H v->(TL f l).ok H v:=fun _ _ h=>h.1
def VI(h:l.isEmpty=false):∀H v,(TL f l).ok H v->(TN f l).ok H v:=fun _ _ k=>⟨k,fun e=>by subst e;cases h⟩
def qE{m n r:asv UInt8}(hx:Arg Γ x (TS m))(hy:Arg Γ y (TS n))(h:y7 m n=some r):bK P Γ ⟨d,.binOp .add T x y T',ty,pos,af,g⟩ (.val<|TS r):=
 mJ hx hy fun H u v hu hv w _=>by
  cases hu;cases hv;obtain⟨h1,h2⟩:=ZN h;subst h2;have hsz: ¬(((⟨m.toArray⟩:ByteArray).size+(⟨n.toArray⟩:ByteArray).size:Nat):Int)>IntKind.i64.max:=by
   have e1:(⟨m.toArray⟩:ByteArray).size=m.length:=by simp[ByteArray.size]
   have e2:(⟨n.toArray⟩:ByteArray).size=n.length:=by simp[ByteArray.size]
   rw[e1,e2];have:IntKind.i64.max=9223372036854775807:=rfl;rw[this];omega
  refine⟨.string<|⟨m.toArray⟩++⟨n.toArray⟩,?_,?_⟩
  ·simp only[eqGuard,binOp,Op.stringOp,if_neg hsz];rfl
  ·show Value.string _=Value.string _
   congr 1
def vE{m n:asv UInt8}(hx:Arg Γ x (TS m))(hy:Arg Γ y (TS n)):bK P Γ ⟨d,.binOp .eql T x y T',ty,pos,af,g⟩ (.val<|aZ<|m==n):=by
 have:=aiH (P:=P) (d:=d) (ty:=ty) (pos:=pos) (af:=af) (g:=g) (T:=T) (T':=T') hx hy;rwa [yN,yN] at this
def Oq{m n:asv UInt8}(hx:Arg Γ x (TS m))(hy:Arg Γ y (TS n)):bK P Γ ⟨d,.binOp .neq T x y T',ty,pos,af,g⟩ (.val<|aZ<| !(m==n)):=by
 have:=aiC (P:=P) (d:=d) (ty:=ty) (pos:=pos) (af:=af) (g:=g) (T:=T) (T':=T') hx hy;rwa [yN,yN] at this
def fR{s:asv UInt8}(hT:isStr P T=true)(hx:Arg Γ x (TS s)):bK P Γ ⟨d,.call ⟨.builtin .len,#[x],#[T]⟩,ty,pos,af,g⟩ (.val<|TI .i64 s.length):=by
 have:=Wx (P:=P) (d:=d) (ty:=ty) (pos:=pos) (af:=af) (g:=g) hT hx;have e:(⟨s.toArray⟩:ByteArray).size=s.length:=by simp[ByteArray.size]
 rwa [e] at this
def qD{s:asv UInt8}{b:UInt8}(hT:isStr P T=true)(hx:Arg Γ x (TS s))(hy:Arg Γ y (TI k i))(h:bj s i=some b):bK P Γ ⟨d,.index T x y,ty,pos,af,g⟩ (.val<|TI .u8 b.toNat):=
 bh fun _ _ _ a w H hs=>by
  have e:a.eval x= .string ⟨s.toArray⟩:=hx.ok hs;have e2:a.eval y= .int k i:=hy.ok hs;obtain⟨h1,h2,h3⟩:=oW h;have hlt:=(jk.1 h3).1;have h4:(⟨s.toArray⟩:ByteArray)[i.toNat]? =some b:=by
   have api:i.toNat<(⟨s.toArray⟩:ByteArray).size:=by simpa[ByteArray.size] using hlt
   rw[getElem?_pos (⟨s.toArray⟩:ByteArray) i.toNat api]
   congr 1
   show s.toArray[i.toNat]'_=b;rw[kQ hlt] at h3;simpa using h3
  exact⟨_,by simp[execOp,e,e2,Instr.index,asIntOf,aP<|Hn hT,h1,h4],rfl,rfl⟩
inductive Lo(Γ:Ctx):auz asu->Int->Int->Prop where
 |none {n:Int}:Lo Γ none n n
 |some {y:asu} {k:IntKind} {i n:Int} (h:Arg Γ y (TI k i)):Lo Γ (some y) n i
def Ds{cap:Nat}{j:Int}(GV:Lo Γ lo 0 i)(Vb:Lo Γ hi len j)(h0:0<=i)(VU:i<=j)(hj:j<=len)(hlc:len<=cap){N:Nat}(hs:Sat w0 H0 N Γ a w H):
  (Instr.sliceBounds b len cap (lo.map a.eval) (hi.map a.eval) none).run P w= .ok (i.toNat,j.toNat,cap) w:=by
 have b1:∀(k:IntKind) (code:BoundsCode),(Instr.sliceBound (.int k j) cap code).run P w= .ok j.toNat w:=fun k code=>by
  have:0<=j/\j<=cap:=by omega
  simp[Instr.sliceBound,asIntOf,this]
 have b2:∀(k:IntKind) (code:BoundsCode),(Instr.sliceBound (.int k i) j.toNat code).run P w= .ok i.toNat w:=fun k code=>by
  have h1:i<=(j.toNat:Int):=by omega
  simp only[Instr.sliceBound,asIntOf,fh,pj,eQ,if_pos<|And.intro h0 h1]
 cases GV with
 |none=>
  cases Vb with
  |none=>simp[Instr.sliceBounds]
  |some hz=>have ez:=hz.ok hs;simp only[aey] at ez;simp[Instr.sliceBounds,ez,b1]
 |some hy=>
  have ey:=hy.ok hs;simp only[aey] at ey;cases Vb with
  |none=>
   have b2':∀(k:IntKind) (code:BoundsCode),(Instr.sliceBound (.int k i) len code).run P w= .ok i.toNat w:=fun k code=>by simpa using b2 k code
   simp[Instr.sliceBounds,ey,b2']
  |some hz=>have ez:=hz.ok hs;simp only[aey] at ez;simp[Instr.sliceBounds,ez,ey,b1,b2]
def gK{s r:asv UInt8}{j:Int}(hT:isStr P T=true)(hx:Arg Γ x (TS s))(GV:Lo Γ lo 0 i)(Vb:Lo Γ hi s.length j)(h:iR s i j=some r):
  bK P Γ ⟨d,.slice T x lo hi none,ty,pos,af,g⟩ (.val<|TS r):=
 bh fun _ _ _ a w H hs=>by
  obtain⟨h1,h2,h3,h4⟩:=NY h;subst h4;have e:a.eval x= .string ⟨s.toArray⟩:=hx.ok hs;have esz:(⟨s.toArray⟩:ByteArray).size=s.length:=by simp[ByteArray.size]
  have hbd:=Ds (P:=P) (b:=false) GV Vb h1 h2 h3 (bG _) hs;refine⟨.string<|(⟨s.toArray⟩:ByteArray).extract i.toNat j.toNat,?_,?_,rfl⟩
  ·simp[execOp,e,Instr.sliceAt,aP<|Hn hT,Instr.slice,esz,hbd]
  ·show Value.string _=Value.string _
   congr 1
   apply ByteArray.ext;rw[ByteArray.data_extract];simp[List.extract_eq_take_drop,um]
def pA(hT:kA P T=true)(hx:Arg Γ x (TL f l)):bK P Γ ⟨d,.call ⟨.builtin .len,#[x],#[T]⟩,ty,pos,af,g⟩ (.val<|TI .i64 l.length):=by
 have:=aiE (P:=P) (d:=d) (ty:=ty) (pos:=pos) (af:=af) (g:=g) hT hx;rwa [gG] at this
def nM{s:Nat}(hT:kA P T=true)(hs:look Γ s=some (.same t))(ht:look Γ t=some (.buf E sz<|lT f l)):bK P Γ ⟨d,.call ⟨.builtin .len,#[.tmp s],#[T]⟩,ty,pos,af,g⟩ (.val<|TI .i64 l.length):=by
 have:=Uu (P:=P) (d:=d) (ty:=ty) (pos:=pos) (af:=af) (g:=g) hT hs ht;rwa [gG] at this
def af3(hT:kA P T=true)(ht:look Γ t=some (.buf E sz<|lT f l)):bK P Γ ⟨d,.call ⟨.builtin .len,#[.tmp t],#[T]⟩,ty,pos,af,g⟩ (.val<|TI .i64 l.length):=
 bh fun _ _ _ a w H df=>by
  obtain⟨ad,cap,e⟩:=Y9<|df.holds _<|az ht
  have e3:a.eval (.tmp t)= .slice ad (lT f l).length cap:=e;rw[gG] at e3;exact⟨_,by simp[execOp,resolve,invoke,builtin,e3,Hb hT],rfl,rfl⟩
def lO{y:α}(hT:Br P T sz=true)(hf:∀z,(f z).n=sz)(hx:Arg Γ x (TL f l))(hi:Arg Γ ix (TI k i))(h:bj l i=some y):
  bK P Γ ⟨d,.indexAddr T x ix,ty,pos,af,g⟩ (.val<|nY<|f y):=by
 obtain⟨h1,h2,h3⟩:=oW h;exact Uv hx hT (mD hf l) hi h1 (by rw[nS,h3];rfl)
def eK{s:Nat}{y:α}(hT:Br P T sz=true)(hs:look Γ s=some (.same t))(ht:look Γ t=some (.buf E sz<|lT f l))(hi:Arg Γ ix (TI k i))(h:bj l i=some y):
  bK P Γ ⟨d,.indexAddr T (.tmp s) ix,ty,pos,af,g⟩ (.DK t i.toNat sz):=by
 obtain⟨h1,h2,h3⟩:=oW h;exact Sd hs ht hT hi h1 (by rw[gG];exact h2)
def pd{y:α}(hf:∀z,(f z).n=sz)(hp:look Γ p=some (.DK t j sz))(ht:look Γ t=some (.buf E sz<|lT f l))(h:l[j]? =some y)(hT:eG P T (f y).n (f y).agg=true):
  bK P Γ ⟨d,.load T<| .tmp p,ty,pos,af,g⟩ (.val<|f y):=
 R9 hp ht (mD hf l) (by rw[nS,h];rfl) hT
def pS{y:α}(hf:∀z,(f z).n=sz)(hp:look Γ p=some (.DK t j sz))(ht:look Γ t=some (.buf E sz<|lT f l))(h:l[j]? =some z)(hx:Arg Γ x (f y))(hT:eG P T (f y).n (f y).agg=true):
  Step P N ops ⟨none,.store T (.tmp p) x,ty,pos,af,none⟩ Γ ((t,.buf E sz<|lT f<|l.set j y)::bQ t Γ):=by
 have:=Qd (P:=P) (N:=N) (ops:=ops) (ty:=ty) (pos:=pos) (af:=af) hp ht (mD hf l) (by rw[nS,h];rfl) hx (hf y) hT;rwa [show(lT f l).set j (f y)=lT f (l.set j y) from by simp[lT,yC]] at this
def RY{y:α}(hf:∀z,(f z).n=sz)(hp:look Γ p=some (.DK t j sz))(ht:look Γ t=some (.buf E sz<|lT f l))(h:l[j]? =some z)(hx:Arg Γ x (f y))(hT:eG P T (f y).n (f y).agg=true):
  Qw P N ops Γ ⟨none,.store T (.tmp p) x,ty,pos,af,none⟩ t (.buf E sz<|lT f<|l.set j y):=by
 have:=NZ (P:=P) (N:=N) (ops:=ops) (ty:=ty) (pos:=pos) (af:=af) hp ht (mD hf l) (by rw[nS,h];rfl) hx (hf y) hT;rwa [show(lT f l).set j (f y)=lT f (l.set j y) from by simp[lT,yC]] at this
def Q4:maxLen=9223372036854775807:=rfl
def dF{m r:asv α}{s:Nat}(O4:kA P T2=true)(hT:qV P T E sz bytes=true)(hf:∀z,(f z).n=sz)(hs:look Γ s=some (.same t))(ht:look Γ t=some (.buf E sz<|lT f l))(hx:Arg Γ x (TL f m))(h:fB bytes l m=some r)(nU:dd<N):
  Step P N ops ⟨some dd,.call ⟨.builtin .append,#[.tmp s,x],#[T,T2]⟩,ty,pos,af,none⟩ Γ ((dd,.buf E sz<|lT f r)::del dd (bQ t Γ)):=by
 obtain⟨h1,h2,h3⟩:=F0 h;subst h3;have:=ZJ (P:=P) (O4:=O4) (N:=N) (ops:=ops) (ty:=ty) (pos:=pos) (af:=af) hs ht hx hT (mD hf m) (by rw[gG,gG,Q4];exact h2) (by rw[gG,gG];exact h1) nU;rwa [show lT f l++lT f m=lT f (l++m) from by simp[lT]] at this
def yn{m r:asv α}(O4:kA P T2=true)(hT:qV P T E sz bytes=true)(hf:∀z,(f z).n=sz)(ht:look Γ t=some (.buf E sz<|lT f l))(hx:Arg Γ x (TL f m))(h:fB bytes l m=some r)(nU:dd<N):
  Step P N ops ⟨some dd,.call ⟨.builtin .append,#[.tmp t,x],#[T,T2]⟩,ty,pos,af,none⟩ Γ ((dd,.buf E sz<|lT f r)::del dd (bQ t Γ)):=by
 obtain⟨h1,h2,h3⟩:=F0 h;subst h3;have:=Wa (P:=P) (O4:=O4) (N:=N) (ops:=ops) (ty:=ty) (pos:=pos) (af:=af) ht hx hT (mD hf m) (by rw[gG,gG,Q4];exact h2) (by rw[gG,gG];exact h1) nU;rwa [show lT f l++lT f m=lT f (l++m) from by simp[lT]] at this
def qg{m r:asv α}{s:Nat}(O4:kA P T2=true)(hT:qV P T E sz bytes=true)(hf:∀z,(f z).n=sz)(hs:look Γ s=some (.same t))(ht:look Γ t=some (.buf E sz<|lT f l))(hx:Arg Γ x (TL f m))(h:fB bytes l m=some r)(nU:dd<N):
  Qx P N ops Γ ⟨some dd,.call ⟨.builtin .append,#[.tmp s,x],#[T,T2]⟩,ty,pos,af,none⟩ t dd (.buf E sz<|lT f r):=by
 obtain⟨h1,h2,h3⟩:=F0 h;subst h3;have:=aaR (P:=P) (O4:=O4) (N:=N) (ops:=ops) (ty:=ty) (pos:=pos) (af:=af) hs ht hx hT (mD hf m) (by rw[gG,gG,Q4];exact h2) (by rw[gG,gG];exact h1) nU;rwa [show lT f l++lT f m=lT f (l++m) from by simp[lT]] at this
def Nc{m r:asv α}(O4:kA P T2=true)(hT:qV P T E sz bytes=true)(hf:∀z,(f z).n=sz)(ht:look Γ t=some (.buf E sz<|lT f l))(hx:Arg Γ x (TL f m))(h:fB bytes l m=some r)(nU:dd<N):
  Qx P N ops Γ ⟨some dd,.call ⟨.builtin .append,#[.tmp t,x],#[T,T2]⟩,ty,pos,af,none⟩ t dd (.buf E sz<|lT f r):=by
 obtain⟨h1,h2,h3⟩:=F0 h;subst h3;have:=Xg (P:=P) (O4:=O4) (N:=N) (ops:=ops) (ty:=ty) (pos:=pos) (af:=af) ht hx hT (mD hf m) (by rw[gG,gG,Q4];exact h2) (by rw[gG,gG];exact h1) nU;rwa [show lT f l++lT f m=lT f (l++m) from by simp[lT]] at this
def bf(f:α->Ty)(E:asr)(sz:Nat):bK P Γ ⟨d,.assign<| .const<| .slice none 0 0,ty,pos,af,g⟩ (.buf E sz<|lT f []):=aaa
def iM(ht:look Γ t=some (.buf E sz<|lT f l)):qY w0 N Γ ((t,.val<|TL f l)::bQ t Γ):=afU ht
def GH(f:α->Ty){r:asv α}(hT:mkB P T E sz bytes=true)(hz:bL P E (f z))(hsz:(f z).n=sz)(hx:Arg Γ x (TI .i64 n))(hy:Arg Γ y (TI .i64 n))(h:WG bytes n z=some r):
  bK P Γ ⟨d,.makeSlice T x y,ty,pos,af,g⟩ (.buf E sz<|lT f r):=by
 obtain⟨m,h1,h2,h3,h4⟩:=af7 h;subst h1;subst h4;have:=af2 (P:=P) (d:=d) (ty:=ty) (pos:=pos) (af:=af) (g:=g) hT hz hsz hx hy h2 h3;rwa [show List.replicate m (f z)=lT f (List.replicate m z) from by simp[lT]] at this
def tl{r:asv α}{j:Int}(hT:Br P T sz=true)(hf:∀z,(f z).n=sz)(hx:Arg Γ x (TL f l))(GV:Lo Γ lo 0 i)(Vb:Lo Γ hi l.length j)(h:iR l i j=some r):
  bK P Γ ⟨d,.slice T x lo hi none,ty,pos,af,g⟩ (.val<|TL f r):=by
 obtain⟨h1,h2,h3,h4⟩:=NY h;subst h4;have hi':((i.toNat:Nat):Int)=i:=by omega
 have hj':((j.toNat:Nat):Int)=j:=by omega
 have:=aco (P:=P) (d:=d) (ty:=ty) (pos:=pos) (af:=af) (g:=g) (lo:=lo) (hi:=hi) (i:=i.toNat) (j:=j.toNat) hT hx (mD hf l)
  (by cases GV with
   |none=>exact .inl ⟨rfl,rfl⟩
   |some hy=>exact .inr ⟨_,_,rfl,by rw[hi'];exact hy⟩)
  (by cases Vb with
   |none=>exact .inl ⟨rfl,by rw[gG];omega⟩
   |some hy=>exact .inr ⟨_,_,rfl,by rw[hj'];exact hy⟩)
  (by omega) (by rw[gG];omega)
 rwa [show((lT f l).take j.toNat).drop i.toNat=lT f ((l.take j.toNat).drop i.toNat) from by simp[lT,List.map_take,List.map_drop]] at this
def QP(h:kA P T=true)(ad:auz Addr)(n c:Nat)(w:aq5):(Op.equal T (.slice ad n c)<| .slice none 0 0).run P w= .ok ad.isNone w:=by
 obtain⟨e,hu⟩:=FQ h;have key:∀d,(Op.equalIn (d+1) T (.slice ad n c)<| .slice none 0 0).run P w= .ok ad.isNone w:=by
  intro d;unfold Op.equalIn;cases ad<;>simp[aP hu]
 exact key 9999
def aew(h:(TN f l).ok H v):∃ad n c,v= .slice ad n c/\ad.isNone=l.isEmpty:=by
 obtain⟨⟨ad,cap,e,_,hx⟩,hn⟩:=h;cases l with
 |nil=>exact⟨none,0,0,hn rfl,rfl⟩
 |cons y l=>
  obtain⟨b,off,cs,E,fr,e1,_⟩:=hx (by simp[lT]);exact⟨ad,_,cap,e,by subst e1;rfl⟩
def rf(hT:kA P T=true)(hx:Arg Γ x (TN f l)):bK P Γ ⟨d,.binOp .eql T x (.const<| .slice none 0 0) T',ty,pos,af,g⟩ (.val<|aZ l.isEmpty):=
 bh fun _ _ _ a w H hs=>by
  obtain⟨ad,n,c,e,h⟩:=aew<|hx.ok hs
  refine⟨.bool ad.isNone,?_,by rw[h];rfl,rfl⟩;have e2:a.eval (.const<| .slice none 0 0)= .slice none 0 0:=rfl;simp[execOp,e,e2,eqGuard,binOp,QP hT]
def aiD(hT:kA P T=true)(hx:Arg Γ x (TN f l)):bK P Γ ⟨d,.binOp .neq T x (.const<| .slice none 0 0) T',ty,pos,af,g⟩ (.val<|aZ<| !l.isEmpty):=
 bh fun _ _ _ a w H hs=>by
  obtain⟨ad,n,c,e,h⟩:=aew<|hx.ok hs
  refine⟨.bool<| !ad.isNone,?_,by rw[h];rfl,rfl⟩;have e2:a.eval (.const<| .slice none 0 0)= .slice none 0 0:=rfl;simp[execOp,e,e2,eqGuard,binOp,QP hT]
def cg(hx:Arg Γ x (TI .i64 m))(hy:Arg Γ y (TI .i64 n))(h:aF (m+n)=some r):bK P Γ ⟨d,.binOp .add T x y T',ty,pos,af,g⟩ (.val<|TI .i64 r):=by
 obtain⟨h1,h2⟩:=E4 h;subst h2;exact af5 hx hy h1
def bt(hx:Arg Γ x (TI .i64 m))(hy:Arg Γ y (TI .i64 n))(h:aF (m-n)=some r):bK P Γ ⟨d,.binOp .sub T x y T',ty,pos,af,g⟩ (.val<|TI .i64 r):=by
 obtain⟨h1,h2⟩:=E4 h;subst h2;exact afY hx hy h1
def pz(hx:Arg Γ x (TI .i64 m))(hy:Arg Γ y (TI .i64 n))(h:aF (m*n)=some r):bK P Γ ⟨d,.binOp .mul T x y T',ty,pos,af,g⟩ (.val<|TI .i64 r):=by
 obtain⟨h1,h2⟩:=E4 h;subst h2;exact af1 hx hy h1
def Fq(hx:Arg Γ x (TI .i64 n))(h:aF (-n)=some r):bK P Γ ⟨d,.unOp .neg T x,ty,pos,af,g⟩ (.val<|TI .i64 r):=by
 obtain⟨h1,h2⟩:=E4 h;subst h2;exact af0 hx h1
def sA(hx:Arg Γ x (TI .i64 m))(hy:Arg Γ y (TI .i64 n))(h:wb m n=some r):bK P Γ ⟨d,.binOp .quo T x y T',ty,pos,af,g⟩ (.val<|TI .i64 r):=by
 obtain⟨h1,h2,h3⟩:=ad1 h;subst h3;exact afZ hx hy h1 h2
def nI(hx:Arg Γ x (TI k m))(hy:Arg Γ y (TI k n))(h:tC m n=some r):bK P Γ ⟨d,.binOp .rem T x y T',ty,pos,af,g⟩ (.val<|TI k r):=by
 obtain⟨h1,h2⟩:=ab3 h;subst h2;exact aiB hx hy h1
@[reducible] def wr(k:IntKind)(n:Int):Int:=k.wrap n
def Xm(k:IntKind)(m n:Int):auz Int:=bif decide (n=0) then none else some (wr k<|m.tdiv n)
def R6(hx:Arg Γ x (TI k m))(hy:Arg Γ y (TI k n))(h:Xm k m n=some r):bK P Γ ⟨d,.binOp .quo T x y T',ty,pos,af,g⟩ (.val<|TI k r):=by
 unfold Xm at h;cases hc:decide (n=0)
 ·rw[hc] at h;have:=(fG h);subst this;exact acp hx hy<|bV hc
 ·rw[hc] at h;cases h
def nG(op:BinOp)(k:IntKind)(x y:Int):Int:=
 let a:=BitVec.ofInt k.bits x
 let b:=BitVec.ofInt k.bits y
 match op with
 | .and=>k.wrap (a&&&b).toNat
 | .or=>k.wrap (a|||b).toNat
 | .xor=>k.wrap (a^^^b).toNat
 | .andNot=>k.wrap (a&&& ~~~b).toNat
 |_=>0
def Sf(hx:Arg Γ x (TI k m))(hy:Arg Γ y (TI k n)):bK P Γ ⟨d,.binOp .and T x y T',ty,pos,af,g⟩ (.val<|TI k<|nG .and k m n):=
 mJ hx hy fun H u v hu hv w _=>by
  cases hu;cases hv;exact⟨_,by simp[eqGuard,binOp,Op.intBits];rfl,rfl⟩
def Wv(hx:Arg Γ x (TI k m))(hy:Arg Γ y (TI k n)):bK P Γ ⟨d,.binOp .or T x y T',ty,pos,af,g⟩ (.val<|TI k<|nG .or k m n):=
 mJ hx hy fun H u v hu hv w _=>by
  cases hu;cases hv;exact⟨_,by simp[eqGuard,binOp,Op.intBits];rfl,rfl⟩
def IC(k:IntKind)(x y:Int):auz Int:=bif decide (y<0) then none else some (k.wrap<|x*2^(min y.toNat k.bits))
def IB(k:IntKind)(x y:Int):auz Int:=bif decide (y<0) then none else some (x.fdiv<|2^(min y.toNat k.bits))
def On(hx:Arg Γ x (TI k m))(hy:Arg Γ y (TI k' n))(h:IC k m n=some r):bK P Γ ⟨d,.binOp .shl T x y T',ty,pos,af,g⟩ (.val<|TI k r):=
 mJ hx hy fun H u v hu hv w _=>by
  cases hu;cases hv;unfold IC at h;cases hc:decide (n<0)
  ·rw[hc] at h;have:=fG h;subst this;exact⟨_,by simp only[eqGuard,binOp,Op.shift,if_neg<|bV hc];rfl,rfl⟩
  ·rw[hc] at h;cases h
def Hd(hx:Arg Γ x (TI k m))(hy:Arg Γ y (TI k' n))(h:IB k m n=some r):bK P Γ ⟨d,.binOp .shr T x y T',ty,pos,af,g⟩ (.val<|TI k r):=
 mJ hx hy fun H u v hu hv w _=>by
  cases hu;cases hv;unfold IB at h;cases hc:decide (n<0)
  ·rw[hc] at h;have:=fG h;subst this;exact⟨_,by simp only[eqGuard,binOp,Op.shift,if_neg<|bV hc];rfl,rfl⟩
  ·rw[hc] at h;cases h
def aoG:IntKind->IntKind->Bool:=fun a b=>decide<|a=b
def U3(P:ast)(T:asr)(k:IntKind):Bool:=match P.underlying T with|some (.int k')=>aoG k k'|_=>false
def Rc(h:U3 P T k=true):P.underlying T=some (.int k):=by
 unfold U3 at h;split at h
 ·rename_i k' hu;rw[hu,bg h]
 ·cases h
def wW{S:asr}(hS:U3 P S k=true)(hT:U3 P T k'=true)(hx:Arg Γ x (TI k n)):bK P Γ ⟨d,.convert S T x,ty,pos,af,g⟩ (.val<|TI k'<|wr k' n):=
 bh fun _ _ _ a w H hs=>by
  have e:a.eval x= .int k n:=hx.ok hs;exact⟨_,by simp[execOp,e,convert,aP<|Rc hS,aP<|Rc hT,Conv.intToInt],rfl,rfl⟩
def Se{m n:Bool}(hT:Rn P T=true)(hx:Arg Γ x (aZ m))(hy:Arg Γ y (aZ n)):bK P Γ ⟨d,.binOp .eql T x y T',ty,pos,af,g⟩ (.val<|aZ<|m==n):=aiI hT hx hy
def R7{m n:Bool}(hT:Rn P T=true)(hx:Arg Γ x (aZ m))(hy:Arg Γ y (aZ n)):bK P Γ ⟨d,.binOp .neq T x y T',ty,pos,af,g⟩ (.val<|aZ<| !(m==n)):=
 mJ hx hy fun H u v hu hv w _=>by
  cases hu;cases hv;have hu:P.underlying T=some .bool:=by
   unfold Rn at hT;split at hT
   ·assumption
   ·cases hT
  refine⟨.bool<| !(m==n),?_,rfl⟩;have e:(Op.equal T (.bool m)<| .bool n).run P w= .ok (m==n) w:=run_equalIn_bool w 9999 T m n hu;simp[eqGuard,binOp,e]
def mx_(x y:Int):Int:=bif decide (x<y) then y else x
def mn_(x y:Int):Int:=bif decide (y<x) then y else x
def R8(hx:Arg Γ x (TI k m))(hy:Arg Γ y (TI k n)):bK P Γ ⟨d,.call ⟨.builtin .max,#[x,y],ta⟩,ty,pos,af,g⟩ (.val<|TI k<|mx_ m n):=
 bh fun _ _ _ a w H hs=>by
  have e:a.eval x= .int k m:=hx.ok hs;have e2:a.eval y= .int k n:=hy.ok hs;refine⟨.int k<|if n>m then n else m,?_,?_,rfl⟩
  ·simp[execOp,resolve,invoke,builtin,e,e2,Builtin.max_,Builtin.max2]
  ·show Value.int k _=Value.int k _;unfold mx_;cases hc:decide (m<n)
   ·rw[if_neg<|bV hc];rfl
   ·rw[if_pos<|bg hc];rfl
def Yg(hx:Arg Γ x (TI k m))(hy:Arg Γ y (TI k n)):bK P Γ ⟨d,.call ⟨.builtin .min,#[x,y],ta⟩,ty,pos,af,g⟩ (.val<|TI k<|mn_ m n):=
 bh fun _ _ _ a w H hs=>by
  have e:a.eval x= .int k m:=hx.ok hs;have e2:a.eval y= .int k n:=hy.ok hs;refine⟨.int k<|if n<m then n else m,?_,?_,rfl⟩
  ·simp[execOp,resolve,invoke,builtin,e,e2,Builtin.min_,Builtin.min2]
  ·show Value.int k _=Value.int k _;unfold mn_;cases hc:decide (n<m)
   ·rw[if_neg<|bV hc];rfl
   ·rw[if_pos<|bg hc];rfl
structure Tg(P:ast)(f:FuncId)(args:asv Ty)(dq:asv Ty):Prop where
 run:∀(w:aq5) (H:HV) (vs:asv aq6),Ct H args vs->∃v w',(callFunc f vs.toArray).run P w= .ok (.value v) w'/\F4 w.heap.size w w'/\wU H dq v
def A6{f:FuncId}(hf:Tg P f args dq)(ha:aJ Γ xs args):
  bK P Γ ⟨d,.call ⟨.value<| .func f,xs.toArray,ta⟩,ty,pos,af,g⟩ (tR dq):=
 ju fun w0 H0 N a w H hs=>by
  obtain⟨v,w',h1,h2,h3⟩:=hf.run w H _<|ha.ok hs
  have e:execOp a.eval ⟨d,.call ⟨.value<| .func f,xs.toArray,ta⟩,ty,pos,af,g⟩=callFunc f (#[]++xs.toArray.map a.eval++ #[]):=rfl;have e2:(#[]++xs.toArray.map a.eval++ #[])=(xs.map a.eval).toArray:=by simp
  refine⟨v,w',H,by rw[e,e2,h1],⟨h2,HV.le.refl _,fun _ _=>rfl,fun r o h=>?_⟩,sN h3,fun b e=>absurd e<|bN.free_spec vA⟩;rw[h2.block r<|xP hs.sub h];exact hs.sub r o h
def Oc{n:Nat}{agg:Bool}(h:eG P T n agg=true){cs:auA aq6}(hl:off+n<=cs.size)(w:aq5):(part T cs off).run P w= .ok (KA agg ((cs.toList.drop off).take n).toArray) w:=by
 obtain⟨h1,h2,h3⟩:=UY h;cases agg
 ·have hn:=h3 rfl;subst hn;have hlt:off<cs.size:=by omega
  simp[part,h1,hlt,KA]
 ·simp only[part,fh,h1,h2,eQ,if_true,pj,KA]
  congr 2
  apply Array.ext';simp[Array.toList_extract,List.extract_eq_take_drop]
def Pe(P:ast)(T F:asr)(k off:Nat):Bool:=
 match P.underlying T with
 |some (.struct fs)=>match fs[k]? with
  |some f=>Nat.beq f.offset off&&Nat.beq f.type F
  |none=>false
 |_=>false
def Cr{F:asr}{k:Nat}(hT:Pe P T F k off=true)(hF:eG P F σ.n σ.agg=true)(ha:τ.agg=true)(hx:Arg Γ x τ)(hp:aQ τ off σ):bK P Γ ⟨d,.field T x k,ty,pos,af,g⟩ (.val σ):=
 bh fun _ _ _ a w H hs=>by
  have hv:=hx.ok hs;obtain⟨p1,p2⟩:=hp _ _ hv;have oY:=τ.shape hv;have e:a.eval x= .agg (a.eval x).cells:=by rw[<-show KA τ.agg (a.eval x).cells= .agg (a.eval x).cells from by rw[ha];rfl];exact oY.eq
  unfold Pe at hT;split at hT
  ·rename_i fs hu;split at hT
   ·rename_i fd hfd;simp only[cW] at hT;have e1:=fX hT.1;have e2:=fX hT.2;refine⟨_,?_,p2,rfl⟩
    generalize (a.eval x).cells=cs at e p1
    have hr:=Oc (P:=P) hF p1 w;simp only[execOp,e,Instr.field,fh,aP hu,eQ,hfd,asAgg,pj,e1,e2,hr]
   ·cases hT
  ·cases hT
def Vu(P:ast)(T E:asr)(len sz:Nat):Bool:=
 match P.underlying T with
 |some (.array n e)=>Nat.beq n len&&Nat.beq e E&&(match P.info? e with|some i=>Nat.beq i.size sz|none=>false)
 |_=>false
def aQ.arr{i:Nat}{y:α}(hf:∀z,(f z).n=sz)(h:l[i]? =some y):aQ (aa9 f l) (i*sz) (f y):=by
 refine aQ.agg (i:=i) (by rw[nS,h];rfl) ?_;have hlt:=(jk.1 h).1;rw[iC<|(mD hf l).take i,List.length_take,gG,fW (by omega)]
def iQ.arr{i:Nat}{y:α}(hf:∀z,(f z).n=sz)(h:l[i]? =some z):iQ (aa9 f l) (i*sz) (f y) (aa9 f<|l.set i y):=by
 have hlt:=(jk.1 h).1;have:=iQ.agg (l:=lT f l) (i:=i) (off:=i*sz) (σ:=f y) (ρ:=f z) (by rw[nS,h];rfl) (by rw[hf,hf]) (by rw[iC<|(mD hf l).take i,List.length_take,gG,fW (by omega)]);rwa [show(lT f l).set i (f y)=lT f (l.set i y) from by simp[lT,yC]] at this
def Cq{y:α}(hT:Vu P T E len sz=true)(hE:eG P E (f y).n (f y).agg=true)(hf:∀z,(f z).n=sz)(hlen:l.length=len)(hx:Arg Γ x (aa9 f l))(hi:Arg Γ ix (TI k i))(h:bj l i=some y):
  bK P Γ ⟨d,.index T x ix,ty,pos,af,g⟩ (.val<|f y):=
 bh fun _ _ _ a w H hs=>by
  obtain⟨h0,h1,h2⟩:=oW h;have hv:=hx.ok hs;obtain⟨p1,p2⟩:=aQ.arr hf h2 _ _ hv;obtain⟨cs,e,_⟩:=hv;have ei:a.eval ix= .int k i:=hi.ok hs;rw[e] at p1 p2;simp only[Value.cells] at p1 p2;unfold Vu at hT;split at hT
  ·rename_i n el hu;simp only[cW] at hT;obtain⟨⟨e1,e2⟩,e3⟩:=hT;have e1:=fX e1;have e2:=fX e2;subst e2;split at e3
   ·rename_i ii hii;have e3:=fX e3;have hr:=Oc (P:=P) hE p1 w;have hsz:(Go.sizeOf el).run P w= .ok sz w:=by simp[Go.sizeOf,typeInfo,program,Sem.run,hii,e3]
    have hb:0<=i/\i<(n:Int):=⟨h0,by omega⟩;refine⟨_,?_,p2,rfl⟩;simp only[execOp,e,ei,Instr.index,asIntOf,fh,pj,eQ,aP hu,if_pos hb,hsz,hr]
   ·cases e3
  ·cases hT
def Ov{y:α}(h:look Γ t=some (.own T'<|aa9 f l))(hT:zT P T len sz=true)(hlen:l.length=len)(hi:Arg Γ ix (TI k i))(hy:bj l i=some y):
  bK P Γ ⟨d,.indexAddr T (.tmp t) ix,ty,pos,af,g⟩ (.ptr t<|i.toNat*sz):=by
 obtain⟨h0,h1,_⟩:=oW hy;exact IW h hT hi h0 (by omega)
def aiF{y:α}(hT:zT P T len sz=true)(hf:∀z,(f z).n=sz)(hlen:l.length=len)(h:Arg Γ x (nY<|aa9 f l))(hi:Arg Γ ix (TI k i))(hy:bj l i=some y):
  bK P Γ ⟨d,.indexAddr T x ix,ty,pos,af,g⟩ (.val<|nY<|f y):=by
 obtain⟨h0,h1,h2⟩:=oW hy;exact Sc h rfl hT hi h0 (by omega)<|aQ.arr hf h2
def ach{ps:asv (Nat×asu)}{l l':asv Ty}(hp:fO P Γ ps l l'):qH l'=qH l:=by
 induction hp with
 |nil=>rfl
 |cons hx hi hn r ih=>rw[ih,UB hi hn]
def XB{n:Nat}{ps:asv (Nat×asu)}{l':asv Ty}(hz:bL P E τ)(hT:pM P T E sz=true)(hsz:τ.n=sz)(hpos:Nat.blt 0 (n*sz)=true)(hn:Nat.ble (n*sz) 16777216=true)(hp:fO P Γ ps (List.replicate n τ) l')(hl:l'.length=n):
  bK P Γ ⟨d,.buildSlice T n ps.toArray,ty,pos,af,g⟩ (.buf E sz l'):=
 ju fun w0 H0 N a w H hs=>by
  obtain⟨z,Tn,VQ⟩:=hz.run w;have ahI:=cq hpos;unfold pM at hT;split at hT
  ·rename_i e hu;simp only[cW] at hT;obtain⟨h1,h2⟩:=hT;have h1:=fX h1;subst h1;split at h2
   ·rename_i i hi;have h2:=fX h2;have hz0:=Nh (VQ H) n;rw[hsz] at hz0;have SO:∀i m,(qH<|List.replicate n τ)[i]? =some m->(fun i=>some (i*sz,sz)) i=some (((qH<|List.replicate n τ).take i).sum,m):=by
     intro i m hi;simp only[qH,MS,List.getElem?_replicate] at hi;split at hi
     ·rename_i hlt;simp at hi;subst hi;simp[qH,MS,Jw,hsz,fW<|Fz hlt]
     ·cases hi
    obtain⟨lz,hf,gS⟩:=hp.fill SO hs hz0;have e2:(ps.toArray.map fun(i,x)=>(i,a.eval x)).toList=ps.map fun p=>(p.1,a.eval p.2):=by simp
    have w9:(Go.sizeOf e).run P w= .ok sz w:=by simp[Go.sizeOf,typeInfo,program,Sem.run,hi,h2]
    have hle:n*sz<=16777216:=gP hn;have hff:Instr.fill (fun i=>some (i*sz,sz)) ((Array.range<|n*sz).map<|fun i=>z.cells[i%z.cells.size]!) (ps.toArray.map fun(i,x)=>(i,a.eval x)).toList=some lz:=by
     rw[e2];exact hf
    have hb:F4 w.heap.size w (w.alloc<| .cells lz e):=F4.alloc _;have al5:=oD gS;have hns:qH l'=qH (List.replicate n τ):=ach hp;have hcl:dm l'=n*sz:=by
     have:dm l'=(qH l').sum:=rfl;rw[this,hns];simp[qH,hsz]
    have hcs:lz.size=n*sz:=by rw[<-hcl,<-al5];simp
    refine⟨.slice (some ⟨w.heap.size,0,none⟩) n n,w.alloc<| .cells lz e,H,?_,Ext.alloc hs.sub _,⟨lz.toList,⟨by rw[hl];simpa using hcs,.inr ⟨w.heap.size,n,lz,by rw[hl],jv _,sR w _,by omega,?_,hcs,?_⟩⟩,gS,?_⟩,?_⟩
    ·have h0: ¬n*sz=0:=by omega
     simp only[execOp,Instr.buildSlice,fh,eQ,aP hu,w9];rw[if_neg (by omega)];simp only[fh,pj,eQ,if_neg h0,Tn];rw[hff];simp[newRow]
    ·rw[Q4];have:n<=n*sz:=by
      rcases xD sz with h|h
      ·subst h;simp at ahI
      ·exact Nat.le_mul_of_pos_right n h
     omega
    ·rw[hl,fe (by simp;omega)]
    ·intro b hb;simp[Value.ownBlock] at hb;subst hb;refine⟨?_,.inl hs.below.size⟩;cases hh:H w.heap.size with
     |none=>rfl
     |some o=>have:=xP hs.sub hh;omega
    ·intro b hb;simp[bN.owns,Value.ownBlock] at hb;omega
   ·cases h2
  ·cases hT
def not_true(h:(!b)=true):b=false:=by cases b<;>simp_all
def bH{y:α}(h:bj l i=some y):l[i.toNat]? =some y:=(oW h).2.2
def aiZ{y:α}{n:Nat}(e:l.length=n)(h:bj l i=some y):i<n:=by
 have:=(oW h).2.1;omega
def uc{l:asv Ty}(h:τ.n=sz)(r:HR sz l):HR sz (τ::l):=fun x hx=>by
 rcases bP.1 hx with e|hx
 ·rw[e];exact h
 ·exact r x hx
def un:HR sz []:=fun x hx=>by cases hx
def Sat.ab2(hs:Sat w0 H0 N Γ a w H){s:bN}(h:s.holds w0 a w H (aX a t))(hb:s.free=true):Sat w0 H0 N ((t,s)::bQ t Γ) a w H:=by
 refine⟨hs.nd,hs.sz,hs.below,hs.J4,hs.sub,?_,?_,hs.gl⟩
 ·intro p hp;rcases bP.1 hp with e|hp
  ·subst e;exact h
  ·exact hs.holds p (bI p hp).1
 ·intro p hp q hq hne b hpb;rcases bP.1 hp with e|hp
  ·subst e;exact absurd hpb<|bN.free_spec hb
  ·rcases bP.1 hq with e|hq
   ·subst e;exact bN.free_spec hb
   ·exact hs.sep p (bI p hp).1 q (bI q hq).1 hne b hpb
def km{s:Nat}(hs:look Γ s=some (.same t))(ht:look Γ t=some (.val τ)):qY w0 N Γ ((s,.val τ)::bQ s Γ):=fun _ _ _ H h=>by
 have e:=h.holds _<|az hs
 have k:=h.holds _<|az ht
 exact⟨H,h.ab2 (by show τ.ok H _;rw[show _=_ from e];exact k) rfl⟩
def aqP{Fc:Ty}(ht:look Γ t=some (.val τ))(hi:∀H v,τ.ok H v->Fc.ok H v):qY w0 N Γ ((t,.val Fc)::bQ t Γ):=fun _ _ _ H h=>
 ⟨H,h.ab2 (hi _ _<|h.holds _<|az ht) rfl⟩
def VP(ht:look Γ t=some (.val<|TN f l)):qY w0 N Γ ((t,.val<|TL f l)::bQ t Γ):=aqP ht Zd
def Arg.c(h:v.oneCell'=true):Arg Γ (.const v) (iV 1 false):=⟨fun _=>Shape.one h⟩
def zTL:(TL f []).ok H (.slice none 0 0):=⟨none,0,rfl,bG _,fun h=>absurd rfl h⟩
def zTN:(TN f []).ok H (.slice none 0 0):=⟨zTL,fun _=>rfl⟩
def jw{n:Nat}{agg:Bool}(h:(Nat.beq v.cells.size n&&v.cells.toList.all (fun c=>c.oneCell'))=true)(e:v=KA agg v.cells):Shape n agg v:=by
 simp only[cW] at h;exact⟨fX h.1,fun c hc=>dC.1 h.2 c hc,e⟩
def Cd{α:Type}(i k:Int)(y x:α):α:=bif decide (i=k) then y else x
def iQ.adX{a b c y:α}(hf:∀z,(f z).n=sz)(h:bj [a,b,c] i=some z):iQ (gn [f a,f b,f c]) (i.toNat*sz) (f y) (gn [f<|Cd i 0 y a,f<|Cd i 1 y b,f<|Cd i 2 y c]):=by
 obtain⟨h0,h1,h2⟩:=oW h;have:=iQ.arr (y:=y) hf h2;simp only[List.length_cons,CN] at h1;have hi:i=0\/i=1\/i=2:=by omega
 rcases hi with e|e|e<;>(subst e;exact this)
def aiG{t' o n:Nat}(h:look Γ t=some (.ptr t' o))(hT:zT P T n sz=true)(hi:Arg Γ ix (TI k i))(h0:0<=i)(h1:i<n):
  bK P Γ ⟨d,.indexAddr T (.tmp t) ix,ty,pos,af,g⟩ (.ptr t'<|o+i.toNat*sz):=c6 h hT hi h0 h1
def Eg{f:FuncId}(hc:eN P f=true)
 (h:∀(H:HV) (vs:asv aq6),Ct H args vs->∃Ro xV,Ct H Ro vs/\fC P f Ro (.vs xV)/\∀H' v,wU H' xV v->wU H' dq v):fC P f args (.vs dq):=
 ⟨hc,fun w H vs sub gl gS=>by
  obtain⟨Ro,xV,h1,h2,h3⟩:=h H vs gS;exact(h2.run w H vs sub gl h1).mono fun _ w' ⟨v,e,hb,H',k1,k2,k3⟩=>⟨v,e,hb,H',k1,k2,h3 H' v k3⟩⟩
structure HT{α:Type}[DecidableEq α](P:ast)(T:asr)(f:α->Ty):Prop where
 run:∀(H:HV) (u v:aq6) (x y:α),(f x).ok H u->(f y).ok H v->∀w:aq5,(Op.equal T u v).run P w= .ok (decide<|x=y) w
 guard:∀(H:HV) (u v:aq6) (x y:α),(f x).ok H u->(f y).ok H v->∀(o:BinOp) (p q:asu) (w:aq5),(eqGuard o T p q u v).run P w= .ok () w
 agg:∀x,(f x).agg=true
def acv[DecidableEq α]{m n:α}(h:HT P T f)(hx:Arg Γ x (f m))(hy:Arg Γ y (f n)):bK P Γ ⟨d,.binOp .eql T x y T',ty,pos,af,g⟩ (.val<|aZ<|decide<|m=n):=
 mJ hx hy fun H u v hu hv w _=>by
  have e1:=h.run H u v m n hu hv w;have e2:=h.guard H u v m n hu hv .eql x y w;refine⟨.bool<|decide<|m=n,?_,rfl⟩;have a1:=((f m).shape hu).eq;have a2:=((f n).shape hv).eq;rw[h.agg] at a1 a2;simp only[KA] at a1 a2;simp only[fh,e2,eQ];rw[a1,a2] at e1⊢;simp[binOp,e1]
def Ot[DecidableEq α]{m n:α}(h:HT P T f)(hx:Arg Γ x (f m))(hy:Arg Γ y (f n)):bK P Γ ⟨d,.binOp .neq T x y T',ty,pos,af,g⟩ (.val<|aZ<| !decide (m=n)):=
 mJ hx hy fun H u v hu hv w _=>by
  have e1:=h.run H u v m n hu hv w;have e2:=h.guard H u v m n hu hv .neq x y w;refine⟨.bool<| !decide (m=n),?_,rfl⟩;have a1:=((f m).shape hu).eq;have a2:=((f n).shape hv).eq;rw[h.agg] at a1 a2;simp only[KA] at a1 a2;simp only[fh,e2,eQ];rw[a1,a2] at e1⊢;simp[binOp,e1]
def aL:asv Int->Int
 |[]=>0
 |x::l=>x+18446744073709551616*aL l
def okW(l:asv Int):Prop:=∀x∈l,0<=x/\x<18446744073709551616
@[reducible] def a7(x:Int×asv Int):Ty:=gn [(TI .i64) x.1,(TN<|TI .u64) x.2]
def rE(r:Int×asv Int)(z:Int):Prop:=
 (r.2=[]/\r.1=z/\DP z)\/(r.2≠[]/\(r.1=1\/r.1= -1)/\okW r.2/\r.2.getLast?≠some 0/\z=r.1*aL r.2/\9223372036854775807<aL r.2)
def nH(z:Int):Ty:=TEx 2 true (fun r=>rE r z) a7 (fun _=>rfl)<|fun _=>rfl
@[reducible] def aY(q:Rat):Ty:=gn [nH q.num,nH q.den]
def rO{k:Nat}(h:look Γ p=some (.DK t j sz))(hf:jO P T k off=true):bK P Γ ⟨d,.fieldAddr T (.tmp p) k,ty,pos,af,g⟩ (.bpf t<|j*sz+off):=
 bh fun _ _ _ a w _ hs=>by
  obtain⟨b,len,cap,e1,e2⟩:=hs.holds _<|az h
  have e':a.eval (.tmp p)= .pointer (some ⟨b,j*sz,none⟩):=e2;exact⟨.pointer<|some ⟨b,j*sz+off,none⟩,by simp[execOp,e',Ai hf],⟨b,len,cap,e1,rfl⟩,rfl⟩
def ag4{B:an P}{l:asv Ty}{ρ:Ty}(h:(bN.buf E sz l).holds B a w H v)(hu:HR sz l)(hj:l[j]? =some ρ):
  ∃b cap cs,v= .slice (some ⟨b,0,none⟩) l.length cap/\w.heap[b]? =some (.cells cs E (0,0))/\j*sz+sz<=cs.size/\ρ.ok H (KA ρ.agg ((cs.toList.drop<|j*sz).take ρ.n).toArray):=by
 have PQ:=(jk.1 hj).1;obtain⟨b,cap,cs,xs,e,hb,hcap,_,hcs,hx,htake,ho,_,_⟩:=B5 h (fun e=>by rw[e] at PQ;simp at PQ);obtain⟨p1,p2⟩:=oR ho hj;have hρ:=hu ρ<|FK hj
 have hc:dm (l.take j)=j*sz:=by rw[iC<|hu.take _,List.length_take,fW (by omega)]
 rw[hc] at p1 p2;have YR:l.length*sz<=cs.size:=by rw[hcs];exact nE _ hcap
 have Ho:List.take ρ.n (List.drop (j*sz) cs.toList)=List.take ρ.n (List.drop (j*sz) xs):=by
  rw[<-htake,um,vR]
  congr 1;omega
 refine⟨b,cap,cs,e,hb,by omega,?_⟩;rw[Ho];exact p2
def Al{y:α}(hf:∀z,(f z).n=sz)(hp:look Γ p=some (.bpf t<|j*sz+off))(ht:look Γ t=some (.buf E sz<|lT f l))(h:l[j]? =some y)(ha:(f y).agg=true)(hq:aQ (f y) off σ)(hT:eG P T σ.n σ.agg=true):
  bK P Γ ⟨d,.load T<| .tmp p,ty,pos,af,g⟩ (.val σ):=
 bh fun w0 _ _ a w H df=>by
  obtain⟨b,cap,cs,e,hb,hsz,gS⟩:=ag4 (df.holds _<|az ht) (mD hf l) (j:=j) (ρ:=f y) (by rw[nS,h];rfl);obtain⟨b',aiS,aa4,e1,e2⟩:=df.holds _<|az hp
  simp only at e e1;rw[e] at e1;cases e1;have e3:a.eval (.tmp p)= .pointer (some ⟨b,j*sz+off,none⟩):=e2;rw[ha] at gS;obtain⟨h1,h2⟩:=hq _ _ gS;simp only[sr] at h1 h2;have hn:=hf y;have hlen:(List.take (f y).n<|List.drop (j*sz) cs.toList).toArray.size=(f y).n:=by simp;omega
  rw[hlen] at h1;refine⟨_,?_,h2,rfl⟩;have hr:=mg (P:=P) hT hb (off:=j*sz+off) (by omega);have Ho:List.take σ.n (List.drop (j*sz+off) cs.toList)=List.take σ.n (List.drop off<|List.take (f y).n<|List.drop (j*sz) cs.toList):=by
   rw[um,vR,ji]
   congr 1;omega
  rw[Ho] at hr;simp[execOp,e3,Instr.loadAt,Instr.sureAddr,hr]
def afy{dz:Ctx}(bY:∀q∈dz,q∈Γ){y y':α}(hf:∀z,(f z).n=sz)(hp:look dz p=some (.bpf t<|j*sz+off))(ht:look dz t=some (.buf E sz<|lT f l))(h:l[j]? =some y)(hx:Arg dz x σ)(ha:(f y).agg=true)(hs:iQ (f y) off σ (f y'))(hT:eG P T σ.n σ.agg=true):
  Step P N ops ⟨none,.store T (.tmp p) x,ty,pos,af,none⟩ Γ ((t,.buf E sz<|lT f<|l.set j y')::bQ t Γ):=by
 intro w0 H0 a w H df K Q k;simp only[Region.wanted,if_true];have hj:(lT f l)[j]? =some (f y):=by rw[nS,h];rfl
 have hu:=mD hf l;have PQ:=(jk.1 hj).1;obtain⟨b,cap,cs,xs,e,hb,hcap,Mb,hcs,GS,htake,ho,hH,hB⟩:=B5 (df.holds _<|bY _<|az ht) (fun e=>by rw[e] at PQ;simp at PQ);obtain⟨b',aiS,aa4,e1,e2⟩:=df.holds _<|bY _<|az hp
 simp only at e e1;rw[e] at e1;cases e1;have ep:a.eval (.tmp p)= .pointer (some ⟨b,j*sz+off,none⟩):=e2;have GR:=hx.ok<|df.weaken bY
 have oY:=σ.shape GR;have hc:dm ((lT f l).take j)=j*sz:=by rw[iC<|hu.take _,List.length_take,fW<|Fz PQ]
 obtain⟨p1,p2⟩:=oR ho hj;rw[hc,hf y] at p1;rw[hc,hf y] at p2;have YR:(lT f l).length*sz<=cs.size:=by rw[hcs];exact nE _ hcap
 generalize Ho:List.take sz (List.drop (j*sz) xs)=T8 at p2
 have YI:T8.length=sz:=by rw[<-Ho];simp;omega
 rw[ha] at p2;obtain⟨s1,x',s2,s3⟩:=hs _ _ _ p2 GR;simp only[sr,Jv,YI] at s1;simp only[sr] at s3;have uW:=Cv ho hj ((hf y').trans (hf y).symm) s2;rw[hc,hf y] at uW;have qQ:=l9 (P:=P) (off:=j*sz+off) (BZ hT) oY.size hb (by omega) oY.cell;unfold Oper.wp;have er:(execOp a.eval ⟨none,.store T (.tmp p) x,ty,pos,af,none⟩).run P w= .ok .skip (w.setRow b (cs.toList.take (j*sz+off)++(a.eval x).cells.toList++cs.toList.drop (j*sz+off+σ.n)).toArray):=by
  simp[execOp,ep,Instr.storeAt,Instr.sureAddr,qQ]
 rw[er,wI]
 generalize adq:(cs.toList.take (j*sz+off)++(a.eval x).cells.toList++cs.toList.drop (j*sz+off+σ.n)).toArray=Bs
 have hg:AO w (w.setRow b Bs) (some b):=AO.setRow w b _;have hlen:(a.eval x).cells.toList.length=σ.n:=by rw[gN,oY.size]
 have aoS:x'.cells.toList=List.take off T8++(a.eval x).cells.toList++List.drop (off+σ.n) T8:=by rw[s3]
 have ams:Bs.toList=cs.toList.take (j*sz+off)++(a.eval x).cells.toList++cs.toList.drop (j*sz+off+σ.n):=by rw[<-adq]
 refine k a _ H (jo df (bY _<|az ht) hg hB (by simp[bN.owns,e,Value.ownBlock]) ?_ fun c hc=> .inl hc);have To:(lT f<|l.set j y').length=(lT f l).length:=by simp
 have amr:Bs.size=cs.size:=by
  rw[<-gN,ams];simp only[List.length_append,List.length_take,hlen,nD,gN];omega
 refine⟨List.take ((lT f l).length*sz) Bs.toList,⟨?_,.inr ⟨b,cap,Bs,by rw[To];simpa using e,jv _,Fw w b _ _ _ _ hb,by rw[To];exact hcap,Mb,by rw[amr,hcs],by rw[To]⟩⟩,?_,?_⟩
 ·rw[To];show(List.take ((lT f l).length*sz) Bs.toList).length=(lT f l).length*sz;rw[List.length_take,gN (xs:=Bs),amr];exact fW YR
 ·have alY:List.take ((lT f l).length*sz) Bs.toList=List.take (j*sz) xs++x'.cells.toList++List.drop (j*sz+sz) xs:=by
   have hy:(a.eval x).cells.toList.length=σ.n:=hlen;rw[ams,TT hy (by omega) (by rw[gN];omega),htake,aoS];have t1:List.take (j*sz+off) xs=List.take (j*sz) xs++List.take off T8:=by
    rw[List.take_add,<-Ho,vR,fW (by omega)]
   have t2:List.drop (j*sz+off+σ.n) xs=List.drop (off+σ.n) T8++List.drop (j*sz+sz) xs:=by
    rw[<-Ho,um,ji];have:List.drop (j*sz+sz) xs=List.drop (sz-(off+σ.n)) (List.drop (j*sz+(off+σ.n)) xs):=by
     rw[ji];congr 1;omega
    rw[this,zN]
    congr 1;omega
   rw[t1,t2];simp[rq]
  rw[alY];rw[show lT f (l.set j y')=(lT f l).set j (f y') from by simp[lT,yC]];exact uW
 ·intro c hc;simp[e,Value.ownBlock] at hc;subst hc;exact⟨hH,hB⟩
def aii{y y':α}(hf:∀z,(f z).n=sz)(hp:look Γ p=some (.bpf t<|j*sz+off))(ht:look Γ t=some (.buf E sz<|lT f l))(h:l[j]? =some y)(hx:Arg Γ x σ)(ha:(f y).agg=true)(hs:iQ (f y) off σ (f y'))(hT:eG P T σ.n σ.agg=true):
  Step P N ops ⟨none,.store T (.tmp p) x,ty,pos,af,none⟩ Γ ((t,.buf E sz<|lT f<|l.set j y')::bQ t Γ):=afy (fun _ h=>h) hf hp ht h hx ha hs hT
def abY(hT:pM P T E sz=true)(w:aq5):(Instr.buildSlice T 0 #[]).run P w= .ok (.slice (some ⟨w.heap.size,0,none⟩) 0 0) (w.alloc<| .cells #[] E):=by
 unfold pM at hT;split at hT
 ·rename_i e hu;simp only[cW] at hT;obtain⟨h1,h2⟩:=hT;have h1:=fX h1;subst h1;split at h2
  ·rename_i i hi;have h2:=fX h2;have w9:(Go.sizeOf e).run P w= .ok sz w:=by simp[Go.sizeOf,typeInfo,program,Sem.run,hi,h2]
   have WW:(Array.range 0:auA Nat)= #[]:=rfl;simp only[Instr.buildSlice,fh,eQ,aP hu,w9,MH];rw[if_neg (by omega)];simp[newRow,Instr.fill,WW]
  ·cases h2
 ·cases hT
def JU(f:α->Ty)(hT:pM P T E sz=true):bK P Γ ⟨d,.buildSlice T 0 #[],ty,pos,af,g⟩ (.buf E sz<|lT f []):=
 ju fun w0 H0 N a w H hs=>by
  refine⟨.slice (some ⟨w.heap.size,0,none⟩) 0 0,w.alloc<| .cells #[] E,H,by simp only[execOp,fh,Array.map_empty,abY hT];rfl,Ext.alloc hs.sub _,⟨[],⟨by simp,.inr ⟨w.heap.size,0,#[],rfl,jv _,sR w _,bG _,by rw[Q4];omega,by simp,by simp⟩⟩,rfl,?_⟩,?_⟩
  ·intro b hb;simp[Value.ownBlock] at hb;subst hb;refine⟨?_,.inl hs.below.size⟩;cases hh:H w.heap.size with
   |none=>rfl
   |some o=>have:=xP hs.sub hh;omega
  ·intro b hb;simp[bN.owns,Value.ownBlock] at hb;omega
def Z9{T:Nat}{l:asv Ty}(hT:zT P T len sz=true)(hu:HR sz l)(hl:l.length=len)(hx:Arg Γ x (nY<|gn l)):bK P Γ ⟨d,.slice T x none none none,ty,pos,af,g⟩ (.val<|J5 l):=
 bh fun w0 _ _ a w H hs=>by
  obtain⟨b,off,cs,E,fr,e,hb,hsz,gS⟩:=hx.ok hs;obtain⟨el,i,hu2,hi,h2⟩:=Pz hT;have w9:∀w,(Go.sizeOf el).run P w= .ok sz w:=fun w=>by simp[Go.sizeOf,typeInfo,program,Sem.run,hi,h2]
  refine⟨.slice (some<|if len=0 then⟨b,off,none⟩ else(⟨b,off,none⟩:Addr).add (0*sz)) len len,?_,?_,rfl⟩
  ·simp[execOp,e,Instr.sliceAt,aP hu2,Instr.sureAddr,Instr.sliceBounds,w9]
  ·obtain⟨cs2,e2,ho⟩:=gS;have apI:cs2=(List.take (gn l).n<|List.drop off cs.toList).toArray:=by
    have:(gn l).agg=true:=rfl;rw[this] at e2;simp only[KA] at e2;exact(Value.agg.inj e2).symm
   refine⟨_,len,by rw[hl],by omega,fun hne=>⟨b,off,cs,E,fr,?_,hb,hsz,?_⟩⟩
   ·simp[addr_add]
   ·rw[apI] at ho;exact ho
def Flat(τ:Ty):Prop:=∀H H' v,τ.ok H v->τ.ok H' v
def Flat.int:Flat (TI k n):=fun _ _ _ h=>h
def Flat.bool:Flat (aZ b):=fun _ _ _ h=>h
inductive AR(Γ:Ctx):asv asu->asv Ty->Prop where
 |nil:AR Γ [] []
 |cons {x:asu} {τ:Ty} {xs:asv asu} {l:asv Ty} (h:Arg Γ x τ) (r:AR Γ xs l):AR Γ (x::xs) (τ::l)
 |buf {t:Nat} {E:asr} {sz:Nat} {bl:asv Ty} {xs:asv asu} {l:asv Ty} (h:look Γ t=some (.buf E sz bl)) (r:AR Γ xs l):AR Γ (.tmp t::xs) (J5 bl::l)
 |same {s t:Nat} {E:asr} {sz:Nat} {bl:asv Ty} {xs:asv asu} {l:asv Ty} (hs:look Γ s=some (.same t)) (h:look Γ t=some (.buf E sz bl)) (r:AR Γ xs l):AR Γ (.tmp s::xs) (J5 bl::l)
def full(w:aq5):HV:=fun r=>w.heap[r]?
def AR.ok{xs:asv asu}{l:asv Ty}(h:AR Γ xs l){w0:an P}{H0:HV}{N:Nat}{a:Act}{w:aq5}{H:HV}(hs:Sat w0 H0 N Γ a w H):Ct (full w) l (xs.map a.eval):=by
 have hle:HV.le H (full w):=hs.sub
 induction h with
 |nil=>rfl
 |cons h _ ih=>exact⟨_,_,rfl,Ty.mono _ hle<|h.ok hs,ih⟩
 |buf h _ ih=>exact⟨_,_,rfl,De (hs.holds _<|az h) hle<|fun b _ _ o ho=>ho,ih⟩
 | @same s t E sz bl xs l hsm h _ ih=>
  refine⟨_,_,rfl,?_,ih⟩;have e:aX a s=aX a t:=hs.holds _<|az hsm
  show(J5 bl).ok _ (aX a s);rw[e];exact De (hs.holds _<|az h) hle<|fun b _ _ o ho=>ho
def Ux{H H':HV}:∀{l:asv Ty} {vs:asv aq6},(∀τ∈l,Flat τ)->Ct H l vs->Ct H' l vs
 |[],_,_,e=>e
 |τ::_,_,hf,⟨v,rest,e,hv,hr⟩=>⟨v,rest,e,hf τ (by simp) _ _ _ hv,Ux (fun x hx=>hf x (by simp[hx])) hr⟩
def Wo{H':HV}{l:asv Ty}(hf:∀τ∈l,Flat τ)(h:wU H l v):wU H' l v:=by
 match l,h with
 |[],h=>exact h
 |[τ],h=>exact hf τ (by simp) _ _ _ h
 |τ::Fc::l,⟨vs,e,h⟩=>exact⟨vs,e,Ux hf h⟩
def aab{f:FuncId}(hf:fC P f args (.vs dq))(ha:AR Γ xs args)(hfl:∀τ∈dq,Flat τ):
  bK P Γ ⟨d,.call ⟨.value<| .func f,xs.toArray,ta⟩,ty,pos,af,g⟩ (tR dq):=by
 intro w0 H0 N a w H hs K Q k;unfold Oper.wp;have e:execOp a.eval ⟨d,.call ⟨.value<| .func f,xs.toArray,ta⟩,ty,pos,af,g⟩=callFunc f (#[]++xs.toArray.map a.eval++ #[]):=rfl;rw[e,jX hf.can,CO];have e2:(#[]++xs.toArray.map a.eval++ #[])=(xs.map a.eval).toArray:=by simp
 rw[e2];refine(hf.run w (full w) _ (fun _ _ h=>h) (hs.gl.mono hs.sub)<|ha.ok hs).mono ?_;rintro e w' ⟨v,rfl,hb,H',h1,h2,h3⟩;have he:Ext w H w' H:=⟨hb,HV.le.refl _,fun _ _=>rfl,fun r o h=>by rw[hb.block r<|xP hs.sub h];exact hs.sub r o h⟩;exact k v w' H he (sN<|Wo hfl h3)<|fun b e=>absurd e<|bN.free_spec vA
def flc{l:asv Ty}(h:Flat τ)(r:∀x∈l,Flat x):∀x∈τ::l,Flat x:=fun x hx=>by
 rcases bP.1 hx with e|hx
 ·rw[e];exact h
 ·exact r x hx
def fln:∀x∈([]:asv Ty),Flat x:=fun x hx=>by cases hx
end
section
variable[D:DR]
variable{P:Program}{w0:an P}{H0:HV}{N:Nat}{Q:Exit->Act->World->Prop}{Γ ay:Ctx}
def Vs{w0:an P}(hr:w0.rd=none):iP w0.rd=Fence.wide:=by rw[hr];rfl
def agV{c:Code}(hr:w0.rd=none)(h:Goal P w0 H0 N c (Exit.noGoto Q) Γ):Goal P w0 H0 N (.scope c) Q Γ:=fun a w H hs=>by
 have:=h a w H hs;rw[Vs hr] at this⊢;exact wpIn_wide.2<|wp_scope_straight<|wpIn_wide.1 this
def agW{l:Nat}(k:me w0 H0 N (Q .normal) Γ):Goal P w0 H0 N (.label l) Q Γ:=fun a w H hs=>wpIn_label<|k a w H hs
end
section
variable[D:DR]
variable{P:Program}{N:Nat}{ops:Array Oper}{Γ ay:Ctx}{d:Option Tmp}{ty:TypeId}{pos:String}{af:Array Edge}{g:Option (Nat×Bool)}
variable{xs:asv asu}{f:FuncId}{t:Nat}{ta:auA asr}{α β:Type}{A:α->asv Ty}{R:β->asv Ty}{dd:Nat}{E:asr}{sz:Nat}{bl args dq:asv Ty}
def Gk(P:ast){α β:Type}(A:α->asv Ty)(R:β->asv Ty)(g:α->auz β):Ty where
 n:=1
 agg:=false
 ok:=fun H v=>∃f cap pL,v= .func (.func f) #[] cap/\Ct H pL cap.toList/\∀a r,g a=some r-> @fC DR.strict P f (A a++pL) (.vs<|R r)
 mono:=fun h ⟨f,cap,pL,e,k,hf⟩=>⟨f,cap,pL,e,Ez h k,hf⟩
 shape:=fun⟨_,_,_,e,_,_⟩=>by subst e;exact Shape.one rfl
def zf{H:HV}:∀{l:asv Ty} {vs:asv aq6} {l':asv Ty} {vs':asv aq6},Ct H l vs->Ct H l' vs'->Ct H (l++l') (vs++vs')
 |[],_,_,_,e,h=>by subst e;exact h
 |_::_,_,_,_,⟨v,rest,e,hv,hr⟩,h=>by subst e;exact⟨v,_,rfl,hv,zf hr h⟩
def rP{fn:α->auz β}{x:α}{r:β}(hf:look Γ t=some (.val<|Gk P A R fn))(h:fn x=some r)(ha:aJ Γ xs (A x)):
  bK P Γ ⟨d,.call ⟨.value<| .tmp t,xs.toArray,ta⟩,ty,pos,af,g⟩ (tR<|R r):=by
 intro w0 H0 N a w H hs K Q k;obtain⟨f,cap,pL,e,hc,L8⟩:=hs.holds _<|az hf
 have hf:=(L8 x r h).aof (D:=D);unfold Oper.wp;have e1:a.eval (.tmp t)= .func (.func f) #[] cap:=e;have e0:execOp a.eval ⟨d,.call ⟨.value<| .tmp t,xs.toArray,ta⟩,ty,pos,af,g⟩=callFunc f (#[]++xs.toArray.map a.eval++cap):=by
  simp only[execOp,resolve,e1,Deferred.ofValue,pure_bind]
  rfl
 rw[e0,jX hf.can,CO];have e2:(#[]++xs.toArray.map a.eval++cap)=(xs.map a.eval++cap.toList).toArray:=by simp
 rw[e2];refine(hf.run w H _ hs.sub hs.gl<|zf (ha.ok hs) hc).mono ?_;rintro e w' ⟨v,rfl,hb,H',h1,h2,h3⟩;have he:Ext w H w' H':=⟨hb,fun r o h=>by rw[h1 r<|xP hs.sub h];exact h,h1,h2⟩;exact k v w' H' he (sN h3)<|fun b e=>absurd e<|bN.free_spec vA
def Ak{fn:α->auz β}{pL:asv Ty}(ha:aJ Γ xs pL)(h:∀a r,fn a=some r-> @fC DR.strict P f (A a++pL) (.vs<|R r)):
  bK P Γ ⟨d,.makeFunc (.func f) #[] xs.toArray,ty,pos,af,g⟩ (.val<|Gk P A R fn):=
 bh fun _ _ _ a w H hs=>by
  refine⟨.func (.func f) #[] (xs.map a.eval).toArray,?_,⟨f,_,pL,rfl,by simpa using ha.ok hs,h⟩,rfl⟩;simp[execOp,Instr.makeFunc]
def Arg.fn{α β:Type}{A:α->asv Ty}{R:β->asv Ty}{fn:α->auz β}{f:FuncId}(h:∀a r,fn a=some r-> @fC DR.strict P f (A a) (.vs<|R r)):Arg Γ (.func f) (Gk P A R fn):=
 ⟨fun _=>⟨f,#[],[],rfl,rfl,fun a r e=>by simpa using h a r e⟩⟩
structure F3(P:ast)(f:FuncId)(E:asr)(sz:Nat)(bl:asv Ty)(args:asv Ty)(dq:asv Ty):Prop where
 can:eN P f=true
 run:∀(w:aq5) (H:HV) (v:aq6) (xs:asv aq6) (vs:asv aq6),(∀r o,H r=some o->w.heap[r]? =some o)->qn P H->w.ownsRow 0 E sz v bl.length xs->vH H bl xs->(∀b,v.ownBlock=some b->H b=none)->Ct H args vs->
  Calls P f (v::vs).toArray w fun e w'=>∃r,e= .returned r/\AO w w' v.ownBlock/\∃H',HV.le H H'/\(∀b,b<w.heap.size->v.ownBlock≠some b->H' b=H b)/\(∀b o,H' b=some o->w'.heap[b]? =some o)/\wU H' dq r
def Ua{w0:an P}{H0:HV}{a:Act}{w w':aq5}{H H':HV}{row:auz Nat}(hs:Sat w0 H0 N Γ a w H)(hg:AO w w' row)(uD:∀b,row=some b->w0.mY b/\H b=none/\∀l,w.heap[b]? ≠some (.deferred l))(hle:HV.le H H')(hold:∀b,b<w.heap.size->row≠some b->H' b=H b)(bY:∀b o,H' b=some o->w'.heap[b]? =some o)
  (hn:∀p∈ay,p∈Γ/\∀b,p.2.owns w (aX a p.1) b->row≠some b):Sat w0 H0 N ay a w' H':=by
 have lr:∀b,b<w.heap.size->row≠some b->w'.heap[b]? =w.heap[b]? /\H' b=H b:=fun b hb hn=>⟨hg.block b hb<|fun e=>hn e.symm,hold b hb hn⟩
 refine BJ (ds:=a.defers) hs (hs.below.BE hg<|fun k hk=>(uD k hk).1) hg.drawn ?_ hg.size hle bY ?_ ?_ ?_
 ·intro _ r hr hx;exact hold r (oF hr hs.below.size) (fun e=>by
   rcases(uD r e).1 with h|h
   ·omega
   ·exact hx h)
 ·intro _ b hb GV;exact lr b hb (fun e=>by have:=an.yt (uD b e).1;omega)
 ·intro p hp;exact⟨(hn p hp).1,fun b hb=>lr b (bN.mh (hs.holds p (hn p hp).1) hb).1<|(hn p hp).2 b hb⟩
 ·exact hs.nd.kept fun D _ h1 h2=>by
   have:=lr D (lt_of_heap h1)<|fun e=>(uD D e).2.2 _ h1
   exact⟨by rw[this.1];exact h1,by rw[this.2];exact h2⟩
def aaO{s:asu}(B1:F3 P f E sz bl args dq)(hs:s= .tmp t\/∃u,s= .tmp u/\look Γ u=some (.same t))(ht:look Γ t=some (.buf E sz bl))(ha:aJ Γ xs args)(nU:dd<N):
  Qx P N ops Γ ⟨some dd,.call ⟨.value<| .func f,(s::xs).toArray,ta⟩,ty,pos,af,none⟩ t dd (tR dq):=by
 intro tD bY w0 H0 a w H df K Q k;simp only[Region.wanted,if_true];have hb:=df.holds _<|bY _<|az ht
 obtain⟨ys,hr,ho,hn⟩:=hb;have es:a.eval s=aX a t:=by
  rcases hs with rfl|⟨u,rfl,hu⟩
  ·rfl
  ·exact df.holds _<|bY _<|az hu
 have e0:execOp a.eval ⟨some dd,.call ⟨.value<| .func f,(s::xs).toArray,ta⟩,ty,pos,af,none⟩=callFunc f (#[]++(s::xs).toArray.map a.eval++ #[]):=rfl;unfold Oper.wp;rw[e0,jX B1.can,CO];have e2:(#[]++(s::xs).toArray.map a.eval++ #[])=(aX a t::xs.map a.eval).toArray:=by simp[es]
 rw[e2];refine(B1.run w H _ ys _ df.sub df.gl hr ho (fun b hb=>(hn b hb).1)<|ha.ok<|df.weaken bY).mono ?_;rintro e w' ⟨r,rfl,hg,H',h1,h2,h3,h4⟩;have Rg:∀b,(aX a t).ownBlock=some b->w0.mY b/\H b=none/\∀l,w.heap[b]? ≠some (.deferred l):=fun b hb=>⟨(hn b hb).2,(hn b hb).1,fun l e=>by
  obtain⟨_,_,o,h3,h4⟩:=bN.mh (s:= .buf E sz bl) (B:=w0) (a:=a) ⟨ys,hr,ho,hn⟩ hb;rw[h3] at e;cases e;exact h4⟩
 have lJ:Sat w0 H0 N (del dd<|bQ t tD) a w' H':=by
  refine Ua df hg Rg h1 h2 h3 fun q hq=>⟨(bI q<|lh q hq).1,fun c hc e=>?_⟩
  exact df.sep _ (bY _<|az ht) q (bI q<|lh q hq).1 (fun e=>(bI q<|lh q hq).2 e.symm) c e hc
 refine k _ w' H'<|pT lJ nU qk ?_ (sN h4)<|fun b e=>absurd e<|bN.free_spec vA
 match dq with
 |[]=>simp[tR,bN.bO]
 |[_]=>simp[tR,bN.bO]
 |_::_::_=>simp[tR,bN.bO]
def aaP{u:Nat}(B1:F3 P f E sz bl args dq)(hu:look Γ u=some (.same t))(ht:look Γ t=some (.buf E sz bl))(ha:aJ Γ xs args)(nU:dd<N):
  Qx P N ops Γ ⟨some dd,.call ⟨.value<| .func f,(.tmp u::xs).toArray,ta⟩,ty,pos,af,none⟩ t dd (tR dq):=aaO B1 (.inr ⟨u,rfl,hu⟩) ht ha nU
def Kj{u:Nat}(B1:F3 P f E sz bl args dq)(hu:look Γ u=some (.same t))(ht:look Γ t=some (.buf E sz bl))(ha:aJ Γ xs args)(nU:dd<N):
  Step P N ops ⟨some dd,.call ⟨.value<| .func f,(.tmp u::xs).toArray,ta⟩,ty,pos,af,none⟩ Γ ((dd,tR dq)::del dd (bQ t Γ)):=aaP B1 hu ht ha nU Γ<|fun _ h=>h
end
section
variable[D:DR]
def KH{α σ ρ:Type}:asv α->((σ->auz ρ)->α->σ->auz ρ)->σ->(σ->auz ρ)->auz ρ
 |[],_,s,K=>K s
 |x::xs,B,s,K=>B (fun s=>KH xs B s K) x s
structure JZ(M:Nat->Prop)(w:aq5)(H:HV)(w':aq5)(H':HV):Prop where
 size:w.heap.size<=w'.heap.size
 os:w'.os=w.os
 tape:w'.tape=w.tape
 output:w'.output=w.output
 drawn:HU w w'
 le:HV.le H H'
 lr:∀b,b<w.heap.size-> ¬M b->w'.heap[b]? =w.heap[b]? /\H' b=H b
 sub:∀r o,H' r=some o->w'.heap[r]? =some o
def JY{α σ ρ:Type}(P:ast)(l:Nat)(enc:α->asv Ty)(Bd:(σ->auz ρ)->α->σ->auz ρ)(r:ρ)(J:σ->Inv->Prop)(Jx:Inv->Prop)(n0:Nat):Prop:=
 ∀(next:σ->auz ρ) (x:α) (s:σ) (I:Inv) (W:aq5) (H:HV) (vs:asv aq6),Bd next x s=some r->J s I->I.n=n0->I.p W H->(∀r o,H r=some o->W.heap[r]? =some o)->qn P H->Ct H (enc x) vs->
  YieldAt (iP none) 0 P l vs.toArray W fun e W'=>∃H' I',I'.n=n0/\I'.p W' H'/\JZ I.M W H W' H'/\(∀b,I'.M b->I.M b\/W.heap.size<=b)/\
   ((e= .returned (.bool true)/\∃s',next s'=some r/\J s' I')\/(e= .returned (.bool false)/\Jx I'))
def zV(P:ast)(gf:FuncId)(pL:asv Ty){α:Type}(enc:α->asv Ty)(L:asv α):Prop:=
 eN P gf=true/\∀{σ ρ:Type} (Bd:(σ->auz ρ)->α->σ->auz ρ) (K:σ->auz ρ) (s0:σ) (r:ρ),KH L Bd s0 K=some r->
  ∀(l:Nat) (J:σ->Inv->Prop) (Jx:Inv->Prop) (w:aq5) (H:HV) (cvs:asv aq6) (I0:Inv),(∀r o,H r=some o->w.heap[r]? =some o)->qn P H->Ct H pL cvs->J s0 I0->I0.n=w.heap.size->I0.p w H->
   JY P l enc Bd r J Jx w.heap.size->
   Calls P gf (.func (.yield l) #[] #[]::cvs).toArray w fun e w'=>(∃v,e= .returned v)/\∃H' I',I'.p w' H'/\(∀r o,H' r=some o->w'.heap[r]? =some o)/\((∃s,K s=some r/\J s I')\/Jx I')
def Tf(P:ast){α:Type}(enc:α->asv Ty)(o:auz (asv α)):Ty where
 n:=1
 agg:=false
 ok:=fun H v=>∃gf cap pL,v= .func (.func gf) #[] cap/\Ct H pL cap.toList/\∀L,o=some L->zV P gf pL enc L
 mono:=fun h ⟨gf,cap,pL,e,k,s⟩=>⟨gf,cap,pL,e,Ez h k,s⟩
 shape:=fun⟨_,_,_,e,_⟩=>by subst e;exact Shape.one rfl
end
section
variable[D:DR]
variable{P:Program}{w0:an P}{H0:HV}{N:Nat}{Q:Exit->Act->World->Prop}{Γ ay:Ctx}
variable{w:aq5}{H:HV}{T:asv Nat}{l:Nat}{rc:Loop}{σ ρ:Type}{r:ρ}{ts:asv Nat}{wr:an P}{Hr:HV}{pv:Nat->aq6}{dz:σ->Ctx}{K1:auz Ctx}{next:σ->auz ρ}{a:Act}
def Sg(N:Nat)(T:asv Nat)(Γ:Ctx):Bool:=Γ.all fun p=>Nat.blt p.1 N&&T.contains p.1&&p.2.bO.all (fun t=>T.contains t)&& !p.2.jD
def lV{N:Nat}{Γ:Ctx}(h:Sg N T Γ=true){p:Nat×bN}(hp:p∈Γ):p.1<N/\p.1∈T/\(∀t∈p.2.bO,t∈T)/\p.2.jD=false:=by
 have:=dC.1 h p hp;simp only[cW,dC,Bj,jj] at this;obtain⟨⟨⟨h1,h2⟩,h3⟩,h4⟩:=this;exact⟨cq h1,h2,h3,h4⟩
def pins(N:Nat)(T:asv Nat)(pv:Nat->aq6):Ctx:=T.map fun t=>(N+1+t,.PL t<|pv t)
def params:asv Nat->asv Ty->Ctx
 |p::ps,τ::τs=>(p,.val τ)::params ps τs
 |_,_=>[]
def busy(rc:Loop):Loop:={rc with state:= .busy}
def Zf(wr:an P)(Hr:HV)(N l:Nat)(rc:Loop)(T:asv Nat)(pv:Nat->aq6){σ ρ:Type}(dz:σ->Ctx)(K1:auz Ctx)(next:σ->auz ρ)(r:ρ):Exit->Act->aq5->Prop
 | .normal,a,w=>∃s',next s'=some r/\∃H,Sat wr Hr N ((N,.mb l<|busy rc)::(pins N T pv++dz s')) a w H
 | .ret,a,w=>∃G,K1=some G/\∃H,Sat wr Hr N ((N,.mb l<|busy rc)::(pins N T pv++G)) a w H
 |_,_,_=>False
def Zi(wr:an P)(Hr:HV)(N l:Nat)(rc:Loop)(T:asv Nat)(pv:Nat->aq6){σ ρ:Type}(body:Code)(dz:σ->Ctx)(K1:auz Ctx)(next:σ->auz ρ)(r:ρ):Exit->Act->aq5->Prop
 | .normal,a,w=>∃Zj H,Sat wr Hr N ((N,.mb l rc)::Zj) a w H/\bQ N Zj=Zj/\Goal P wr Hr N body (Zf wr Hr N l rc T pv dz K1 next r) ((N,.mb l<|busy rc)::Zj)
 |_,_,_=>False
def Pu{body:Code}{Zj:Ctx}
 (h:vi Γ ts ((N,.mb l rc)::Zj))(hf:bQ N Zj=Zj)(g:Goal P wr Hr N body (Zf wr Hr N l rc T pv dz K1 next r) ((N,.mb l<|busy rc)::Zj)):
  me wr Hr N (Zi wr Hr N l rc T pv body dz K1 next r .normal) Γ:=fun _ _ H hs=>⟨Zj,H,hs.weaken h.sub,hf,g⟩
def yM{s':σ}(hm:next s'=some r)
 (h:vi Γ ts ((N,.mb l<|busy rc)::(pins N T pv++dz s'))):me wr Hr N (Zf wr Hr N l rc T pv dz K1 next r .normal) Γ:=fun _ _ H hs=>⟨s',hm,H,hs.weaken h.sub⟩
def aec{G:Ctx}(hx:K1=some G)
 (h:vi Γ ts ((N,.mb l<|busy rc)::(pins N T pv++G))):me wr Hr N (Zf wr Hr N l rc T pv dz K1 next r .ret) Γ:=fun _ _ H hs=>⟨G,hx,H,hs.weaken h.sub⟩
def AO.putObj(w:aq5)(l:Nat)(o:Obj):AO w (w.putObj l o) (some l):=⟨⟨rfl,rfl,rfl,by simp,fun j _ hj=>JA (fun e=>hj (by rw[e]))⟩,bG _⟩
def IH{k:Nat}{rc':Loop}(hs:Sat w0 H0 N Γ a w H)(hk:(k,.mb l rc)∈Γ):Sat w0 H0 N ((k,.mb l rc')::bQ k Γ) a (w.putObj l<| .loop rc') H:=by
 obtain⟨h1,h2,h3⟩:=hs.holds _ hk;exact jo hs hk (AO.putObj w l _) h3 rfl ⟨MZ<|lt_of_heap h1,h2,h3⟩ fun c hc=> .inl hc
def Sat.Tb(hs:Sat w0 H0 N Γ a w H):∀{G:Ctx},(∀p∈G,p.2.free=true/\p.2.holds w0 a w H (aX a p.1))->Sat w0 H0 N (G++Γ) a w H:=fun{G} h=>by
 refine⟨hs.nd,hs.sz,hs.below,hs.J4,hs.sub,?_,?_,hs.gl⟩
 ·intro p hp;rcases mw.1 hp with hp|hp
  ·exact(h p hp).2
  ·exact hs.holds p hp
 ·intro p hp q hq hne b hb jQ;rcases mw.1 hp with hp|hp
  ·exact bN.free_spec (h p hp).1 hb
  ·rcases mw.1 hq with hq|hq
   ·exact bN.free_spec (h q hq).1 jQ
   ·exact hs.sep p hp q hq hne b hb jQ
def N8{w:aq5}{H:HV}:∀{ps:asv Nat} {τs:asv Ty} {vs:asv aq6} {Γ:Ctx} {a:Act},Ct H τs vs->ps.length=τs.length->(∀p∈ps,p<N/\nF p Γ=true)->ps.Nodup->Sat w0 H0 N Γ a w H->
  ∃G,(∀q∈params ps τs++Γ,q∈G)/\Sat w0 H0 N G {tmps:=(ps.zip vs).foldl (fun t (p,v)=>t.setIfInBounds p v) a.tmps,defers:=a.defers} w H
 |[],[],vs,Γ,a,ho,_,_,_,hs=>by
  have:vs=[]:=ho;subst this;exact⟨Γ,fun q hq=>hq,hs⟩
 |[],_::_,_,_,_,_,hl,_,_,_=>by simp at hl
 |_::_,[],_,_,_,_,hl,_,_,_=>by simp at hl
 |p::ps,τ::τs,_,Γ,a,⟨v,rest,e,hv,hr⟩,hl,hp,hn,hs=>by
  subst e;obtain⟨WZ,Qm⟩:=List.nodup_cons.1 hn;have h1:=pT hs (hp p (by simp)).1 (hp p (by simp)).2 (s:= .val τ) (v:=v) (by simp[bN.bO]) hv<|fun b h=>h.elim
  obtain⟨G,hG,hS⟩:=N8 (ps:=ps) (τs:=τs) (vs:=rest) (Γ:=(p,.val τ)::Γ) hr (by simpa using hl) (fun q hq=>⟨(hp q (by simp[hq])).1,by
   have:=(hp q (by simp[hq])).2;simp only[nF,sE,cW] at this⊢;refine⟨⟨?_,by simp[bN.bO]⟩,this⟩;simp only[p9,ne_eq];exact fun e=>WZ<|e▸hq⟩) Qm h1
  refine⟨G,fun q hq=>hG q ?_,hS⟩;simp only[params,MO,bP,mw] at hq⊢;rcases hq with h|h|h
  ·exact .inr<| .inl h
  ·exact .inl h
  ·exact .inr<| .inr h
def Marks.tail{B:an P}{w:aq5}{H:HV}:∀{l m:asv Deferred},Marks B w H (l++m)->Marks B w H m
 |[],_,h=>h
 |_::_,_,h=>Marks.tail h.2
def Marks.both{B B':an P}{w w':aq5}{H H':HV}:∀{l:asv Deferred},Marks B w H l->Marks B' w' H' l->Marks B w' H' l
 |[],_,_=>trivial
 |_::_,⟨⟨D,e,h1,_,_,h4⟩,hr⟩,⟨⟨D',e',_,g2,g3,_⟩,gr⟩=>by
  rw[e] at e';cases e';exact⟨⟨D,e,h1,g2,g3,h4⟩,hr.both gr⟩
def afR(w0:an P)(H0:HV)(N:Nat)(Γ:Ctx)(a:Act)(n1:Nat)(M:Nat->Prop)(OU:∀p∈Γ,p.2.jD=false)(hn:w0.n<=n1)(hD:∀D,({target:= .collected D,args:= #[]}:Deferred)∈a.defers++w0.ds->D<n1):Inv where
 n:=n1
 M:=M
 p:=fun W H=>Sat w0 H0 N Γ a W H/\∀b,M b↔∃p∈Γ,p.2.owns W (aX a p.1) b
 lt:=fun⟨hS,hM⟩ hb=>by
  obtain⟨p,hp,hb⟩:=(hM _).1 hb;exact bN.mh (hS.holds p hp) hb
 step:=fun{w w' H H'} ⟨hS,hM⟩ F=>by
  have hk:∀p∈Γ,∀b,p.2.owns w (aX a p.1) b->w'.heap[b]? =w.heap[b]? /\H' b=H b:=fun p hp b hb=>by
   have h1:=(bN.mh (hS.holds p hp) hb).1;have h2:M b:=(hM b).2 ⟨p,hp,hb⟩;exact⟨F.lr b h1<| .inr h2,F.view b h1<| .inr h2⟩
  refine⟨BJ (ds:=a.defers) hS ?_ F.drawn ?_ F.size F.le F.sub ?_ (fun p hp=>⟨hp,hk p hp⟩) ?_,fun b=>?_⟩
  ·exact⟨F.os.trans hS.below.os,F.tape.trans hS.below.tape,F.output.trans hS.below.output,fZ hS.below.drawn F.drawn,fZ hS.below.size F.size,
    fun hv k hk hx=>(F.lr k (oF hk hS.below.size)<| .inl<|oF hk hn).trans<|hS.below.block hv k hk hx⟩
  ·exact fun _ r hr _=>F.view r (oF hr hS.below.size)<| .inl<|oF hr hn
  ·rintro⟨p,hp,hi⟩;rw[OU p hp] at hi;cases hi
  ·exact hS.nd.kept fun D hm h1 h2=>⟨by rw[F.lr D (lt_of_heap h1)<| .inl<|hD D hm];exact h1,by rw[F.view D (lt_of_heap h1)<| .inl<|hD D hm];exact h2⟩
  ·rw[hM b];have key:∀p∈Γ,∀b,p.2.owns w' (aX a p.1) b↔p.2.owns w (aX a p.1) b:=fun p hp b=>by
    refine(bN.v8 (n:=0) (w':=w') (H':=H') (hS.holds p hp) (fun hi=>by rw[OU p hp] at hi;cases hi) ?_).2 b;exact⟨F.size,F.os,F.tape,F.output,F.drawn,F.le,fun b _ h=>h.elim (fun h=>by omega)<|fun h=>(hk p hp b h).1,fun b _ h=>h.elim (fun h=>by omega)<|fun h=>(hk p hp b h).2,F.sub⟩
   exact⟨fun⟨p,hp,h⟩=>⟨p,hp,(key p hp b).2 h⟩,fun⟨p,hp,h⟩=>⟨p,hp,(key p hp b).1 h⟩⟩
def S3{k:Nat}:∀{Γ:Ctx},(∀p∈Γ,p.1≠k)->bQ k Γ=Γ
 |[],_=>rfl
 |p::Γ,h=>by
  have h1:Nat.beq p.1 k=false:=by
   cases hb:Nat.beq p.1 k
   ·rfl
   ·exact absurd (fX hb) (h p (by simp))
  simp only[bQ,h1,fA];rw[S3 fun q hq=>h q (by simp[hq])]
def Sat.defs{ds:asv Deferred}(hs:Sat w0 H0 N Γ a w H)(hm:Marks w0 w H (ds++w0.ds)):Sat w0 H0 N Γ {a with defers:=ds} w H:=
 BJ (ds:=ds) hs hs.below (bG _) (fun _ _ _ _=>rfl) (bG _) (HV.le.refl _) hs.sub (fun _ _ _ _=>⟨rfl,rfl⟩) (fun p hp=>⟨hp,fun _ _=>⟨rfl,rfl⟩⟩) hm
def Ub{a3 aD:Act}{W W4:aq5}{Hc H3:HV}{M:Nat->Prop}{G G':Ctx}(hS:Sat w0 H0 N G aD W Hc)(hds:w0.ds=[])(VS:w0.rd=none)
 (hM:∀b,M b->w0.mY b/\Hc b=none)(wr:an P)(hwr:wr=⟨W,M,some l,false,aD.defers,0,jv _,fun _ _=>jv _⟩)
 (O5:Sat wr Hc N ((N,.mb l rc)::(pins N T (fun t=>aX aD t)++G')) a3 W4 H3)(hT:Sg N T G'=true):
  Sat w0 H0 N ((N,.mb l rc)::G') aD W4 H3/\JZ M W Hc W4 H3/\∀p∈(N,bN.mb l rc)::G',∀b,p.2.owns W4 (aX aD p.1) b->M b\/W.heap.size<=b:=by
 have hwn:wr.n=W.heap.size:=by rw[hwr];rfl
 have hwX:wr.X=M:=by rw[hwr]
 have hwv:wr.Qa=false:=by rw[hwr]
 have aoV:wr.ds=aD.defers:=by rw[hwr]
 have hww:wr.w=W:=by rw[hwr]
 have PL:∀t∈T,aX a3 t=aX aD t:=fun t ht=>O5.holds (N+1+t,.PL t<|aX aD t)<|fY _<|AI _<|qb.2 ⟨t,ht,rfl⟩
 have mem:∀p∈(N,bN.mb l rc)::G',p∈(N,bN.mb l rc)::(pins N T (fun t=>aX aD t)++G'):=fun p hp=>by
  rcases bP.1 hp with e|hp
  ·subst e;simp
  ·exact fY _<|CD _ hp
 have mY:∀b,wr.mY b->w0.mY b:=fun b hb=>by
  rcases hb with hb|hb
  ·exact .inl<|fZ hS.below.size<|hwn▸hb
  ·exact(hM b<|hwX▸hb).1
 have hle:HV.le Hc H3:=fun r o h=>by
  have hlt:=xP hS.sub h;rw[O5.J4 hwv r (by rw[hwn];exact hlt) (fun hx=>by have:=(hM r<|hwX▸hx).2;rw[this] at h;cases h)];exact h
 have lr:∀b,b<W.heap.size-> ¬M b->W4.heap[b]? =W.heap[b]? /\H3 b=Hc b:=fun b hb hn=>by
  have h1:=O5.below.block hwv b (by rw[hwn];exact hb) (by rw[hwX];exact hn);rw[hww] at h1;exact⟨h1,O5.J4 hwv b (by rw[hwn];exact hb) (by rw[hwX];exact hn)⟩
 have hsz:W.heap.size<=W4.heap.size:=by have:=O5.below.size;rw[hwn] at this;exact this
 have hos:W4.os=W.os:=by have:=O5.below.os;rw[hww] at this;exact this
 have hta:W4.tape=W.tape:=by have:=O5.below.tape;rw[hww] at this;exact this
 have hou:W4.output=W.output:=by have:=O5.below.output;rw[hww] at this;exact this
 have YT:HU W W4:=by have:=O5.below.drawn;rw[hww] at this;exact this
 have low:∀k,k<w0.n-> ¬w0.X k-> ¬M k:=fun k hk hx hm=>by
  rcases(hM k hm).1 with h|h
  ·omega
  ·exact hx h
 have aib:∀p∈(N,bN.mb l rc)::G',∀b,p.2.owns W4 (aX aD p.1) b↔p.2.owns W4 (aX a3 p.1) b:=fun p hp b=>by
  rcases bP.1 hp with e|hp
  ·subst e;exact Iff.rfl
  ·rw[PL _ (lV hT hp).2.1]
 refine⟨⟨?_,hS.sz,?_,?_,O5.sub,?_,?_,O5.gl⟩,⟨hsz,hos,hta,hou,YT,hle,lr,O5.sub⟩,?_⟩
 ·have h1:=O5.nd.tail;rw[aoV] at h1;have h2:=hS.nd;rw[hds,wK] at h2⊢;exact h2.both h1
 ·exact⟨hos.trans hS.below.os,hta.trans hS.below.tape,hou.trans hS.below.output,fZ hS.below.drawn YT,fZ hS.below.size hsz,
   fun hv k hk hx=>(lr k (oF hk hS.below.size)<|low k hk hx).1.trans<|hS.below.block hv k hk hx⟩
 ·exact fun hv r hr hx=>(lr r (oF hr hS.below.size)<|low r hr hx).2.trans<|hS.J4 hv r hr hx
 ·intro p hp;have h1:=O5.holds p<|mem p hp
  have hi:p.2.jD=false:=by
   rcases bP.1 hp with e|hp
   ·subst e;rfl
   ·exact(lV hT hp).2.2.2
  have h2:=bN.qe (B':=w0) hi h1 fun b hb=>mY b<|bN.rN hi h1 hb
  rcases bP.1 hp with e|hp
  ·subst e;exact h2
  ·obtain⟨_,hk,hl,_⟩:=lV hT hp;rw[<-PL _ hk];exact bN.o9 (fun t ht=>(PL t<|hl t ht).symm) h2
 ·intro p hp q hq hne b hb jQ;exact O5.sep p (mem p hp) q (mem q hq) hne b ((aib p hp b).1 hb)<|(aib q hq b).1 jQ
 ·intro p hp b hb;have h1:=O5.holds p<|mem p hp
  have hi:p.2.jD=false:=by
   rcases bP.1 hp with e|hp
   ·subst e;rfl
   ·exact(lV hT hp).2.2.2
  rcases bN.rN hi h1 ((aib p hp b).1 hb) with h|h
  ·exact .inr<|hwn▸h
  ·exact .inl<|hwX▸h
def C6{α:Type}{gt:Tmp}{psl:asv Tmp}{assign body:Code}{enc:α->asv Ty}{L:asv α}{o:auz (asv α)}(T:asv Nat)(dz:σ->Ctx)(K1:auz Ctx)
 {Bd:(σ->auz ρ)->α->σ->auz ρ}{K:σ->auz ρ}{s0:σ}
 (hm:KH L Bd s0 K=some r)(ho:o=some L)(VS:w0.rd=none)(hds:w0.ds=[])(hg:look Γ gt=some (.val<|Tf P enc o))(h0:vi Γ ts (dz s0))
 (hT:∀s,Sg N T (dz s)=true)(hTx:∀G,K1=some G->Sg N T G=true)(hps:∀x,(enc x).length=psl.length)(hpN:(psl.all fun p=>Nat.blt p N&& !T.contains p)=true)(Rf:psl.Nodup)
 (round:∀(wr:an P) (Hr:HV) (l:Nat) (rc:Loop) (pv:Nat->aq6) (next:σ->auz ρ) (x:α) (s:σ),wr.rd=some l->Bd next x s=some r->
 Goal P wr Hr N assign (Zi wr Hr N l rc T pv body dz K1 next r) (params psl (enc x)++((N,.mb l rc)::(pins N T pv++dz s))))
 (kk:∀s,K s=some r->me w0 H0 N (Q .normal) (dz s))(kx:∀G,K1=some G->me w0 H0 N (Q .ret) G):Goal P w0 H0 N (.rangeFunc (.tmp gt) psl.toArray assign body) Q Γ:=by
 intro a w H hs;have hinv:∀s,∀p∈dz s,p.2.jD=false:=fun s p hp=>(lV (hT s) hp).2.2.2
 have ahK:∀s,∀p∈dz s,p.1≠N:=fun s p hp=>Nat.ne_of_lt (lV (hT s) hp).1
 rw[VS];refine wpIn_rangeFunc ?_;intro fn _;obtain⟨gf,cap,pL,eg,hcap,B1⟩:=hs.holds _<|az hg
 obtain⟨Xa,amb⟩:=B1 L ho;simp only at eg;obtain⟨zZ,SN⟩:∃zZ:Loop,zZ={state:= .ready,pending:=none,fn,tmps:=a.tmps,params:=psl.toArray,assign,body,defers:=w.heap.size}:=⟨_,rfl⟩;obtain⟨W1,hW1⟩:∃W1,(w.alloc<| .deferred<|some []).alloc (.loop zZ)=W1:=⟨_,rfl⟩;obtain⟨aD,haD⟩:∃aD:Act,{a with defers:={target:= .collected w.heap.size,args:= #[]}::a.defers}=aD:=⟨_,rfl⟩;have asY:W1.heap.size=w.heap.size+2:=by rw[<-hW1];simp
 have hL1:W1.heap[w.heap.size+1]? =some (.loop zZ):=by
  rw[<-hW1];have:=World.alloc_heap_new (w.alloc<| .deferred<|some []) (.loop zZ);rwa [World.size_alloc] at this
 have hK1:W1.heap[w.heap.size]? =some (.deferred<|some []):=by
  rw[<-hW1];exact(Below.heap_alloc _ _ _ (by simp)).trans<|World.alloc_heap_new w _
 have hHn:∀b,w.heap.size<=b->H b=none:=fun b hb=>by
  cases hh:H b with
  |none=>rfl
  |some o=>have:=xP hs.sub hh;omega
 have he:Ext w H W1 H:=by
  have e1:=Ext.alloc hs.sub (w:=w)<| .deferred<|some []
  have e2:=Ext.alloc e1.sub (w:=w.alloc<| .deferred<|some [])<| .loop zZ
  rw[hW1] at e2;refine⟨⟨?_,fZ e1.below.drawn e2.below.drawn⟩,HV.le.refl _,fun _ _=>rfl,e2.sub⟩;have h1:=e1.below.toBelow;have h2:=e2.below.toBelow;exact h1.trans (h2.mono (by simp))
 have hsD:Sat w0 H0 N ((N,.mb (w.heap.size+1) zZ)::dz s0) aD W1 H:=by
  have hs1:=El (hs.weaken h0.sub) he;have hmk:Marks w0 W1 H (aD.defers++w0.ds):=by
   rw[<-haD];refine⟨⟨w.heap.size,rfl,fun _=>hs.below.size,hK1,hHn _<|bG _,?_⟩,hs1.nd⟩;intro e he1 he2;have:∀{l:asv Deferred},Marks w0 w H l->e∈l->False:=by
    intro l
    induction l with
    |nil=>intro _ h;cases h
    |cons x l ih=>
     rintro⟨⟨D,ex,_,g2,_,_⟩,gr⟩ h;rcases bP.1 h with h|h
     ·subst h;rw[ex] at he2;have hD:D=w.heap.size:=by injection he2 with h _;injection h
      subst hD;have:=lt_of_heap g2;omega
     ·exact ih gr h
   exact this hs.nd he1
  have OS:Sat w0 H0 N (dz s0) aD W1 H:=by rw[<-haD] at hmk⊢;exact hs1.defs hmk
  refine⟨OS.nd,OS.sz,OS.below,OS.J4,OS.sub,?_,?_,OS.gl⟩
  ·intro p hp;rcases bP.1 hp with e|hp
   ·subst e;exact⟨hL1,hHn _ (by omega),.inl (fZ hs.below.size (by omega))⟩
   ·exact OS.holds p hp
  ·have key:∀q∈dz s0,¬q.2.owns W1 (aX aD q.1) (w.heap.size+1):=fun q hq hb=>by
    have jQ:q.2.owns W1 (aX a q.1) (w.heap.size+1):=by rw[<-haD] at hb;exact hb
    have:=(bN.mh ((hs.weaken h0.sub).holds q hq)<|(bN.IS he ((hs.weaken h0.sub).holds q hq) _).1 jQ).1;omega
   intro p hp q hq hne b hb jQ;rcases bP.1 hp with e|hp<;>rcases bP.1 hq with e'|hq
   ·subst e;subst e';exact hne rfl
   ·subst e;cases hb;exact key q hq jQ
   ·subst e';cases jQ;exact key p hp hb
   ·exact OS.sep p hp q hq hne b hb jQ
 have hDl:∀D,({target:= .collected D,args:= #[]}:Deferred)∈aD.defers++w0.ds->D<W1.heap.size:=by
  intro D hD;have:∀{l:asv Deferred},Marks w0 W1 H l->({target:= .collected D,args:= #[]}:Deferred)∈l->D<W1.heap.size:=by
   intro l
   induction l with
   |nil=>intro _ h;cases h
   |cons x l ih=>
    rintro⟨⟨D',ex,_,g2,_,_⟩,gr⟩ h;rcases bP.1 h with h|h
    ·rw[ex] at h;have hD:D=D':=by injection h with h _;injection h
     subst hD;exact lt_of_heap g2
    ·exact ih gr h
  exact this hsD.nd hD
 have WZ:w0.n<=W1.heap.size:=by have:=hs.below.size;omega
 have agA:∀s,∀p∈(N,bN.mb (w.heap.size+1) zZ)::dz s,p.2.jD=false:=fun s p hp=>by
  rcases bP.1 hp with e|hp
  ·subst e;rfl
  ·exact hinv s p hp
 have adb:∃Yc:Loop,Yc={zZ with state:= .done,pending:=some .ret}:=⟨_,rfl⟩;obtain⟨Yc,adb⟩:=adb;have alT:∀G,K1=some G->∀p∈(N,bN.mb (w.heap.size+1) Yc)::G,p.2.jD=false:=fun G hG p hp=>by
  rcases bP.1 hp with e|hp
  ·subst e;rfl
  ·exact(lV (hTx G hG) hp).2.2.2
 let J:σ->Inv->Prop:=fun s I=>∃M,I=afR w0 H0 N ((N,.mb (w.heap.size+1) zZ)::dz s) aD W1.heap.size M (agA s) WZ hDl
 let Jx:Inv->Prop:=fun I=>∃G,∃hG:K1=some G,∃M,I=afR w0 H0 N ((N,.mb (w.heap.size+1) Yc)::G) aD W1.heap.size M (alT G hG) WZ hDl
 refine⟨w.heap.size+1,[{target:= .collected w.heap.size,args:= #[]}],W1,{target:= .fn (.func gf) cap,args:= #[.func (.yield<|w.heap.size+1) #[] #[]]},W1,gf,#[.func (.yield<|w.heap.size+1) #[] #[]]++cap,W1,?_,?_,?_,?_,(fun e=>by cases e),?_⟩
 ·rw[<-hW1,SN];exact run_enterLoop_outer _ _ _ _ _
 ·have eg':a.eval (.tmp gt)= .func (.func gf) #[] cap:=eg;simp only[resolve,eg'];simp[go_sem]
 ·intro f' _;trivial
 ·have:=jX Xa (#[.func (.yield<|w.heap.size+1) #[] #[]]++cap) W1;simp only[invoke];exact this
 ·
  have ec:(#[.func (.yield<|w.heap.size+1) #[] #[]]++cap:auA aq6)=(.func (.yield<|w.heap.size+1) #[] #[]::cap.toList).toArray:=by apply Array.ext';simp
  rw[ec];refine CallsIn.ahv (aeb<|amb Bd K s0 r hm (w.heap.size+1) J Jx W1 H cap.toList _ hsD.sub hsD.gl (Ez (HV.le.refl _) hcap) ⟨fun b=>∃p∈(N,bN.mb (w.heap.size+1) zZ)::dz s0,p.2.owns W1 (aX aD p.1) b,rfl⟩ rfl ⟨hsD,fun b=>Iff.rfl⟩ ?_) ?_
  ·
   rintro next x s I W Hc vs hBd ⟨M,rfl⟩ _ ⟨hS,hM⟩ bY hgl hvs
   have hM':∀b,M b->w0.mY b/\Hc b=none:=fun b hb=>by
    obtain⟨p,hp,hb⟩:=(hM b).1 hb;exact⟨bN.rN (agA s p hp) (hS.holds p hp) hb,(bN.mh (hS.holds p hp) hb).2.1⟩
   obtain⟨OX,To,hl3⟩:=hS.holds (N,.mb (w.heap.size+1) zZ) (by simp);have WT:vs.length=psl.length:=by rw[Am hvs,hps x]
   have hy:=run_yield (P:=P) (args:=vs.toArray) OX (by rw[SN];simpa using WT);refine⟨zZ.fn,_,zZ.assign,zZ.body,hy,roundIn_of_wpIn trivial ?_⟩;have ea:zZ.assign=assign:=by rw[SN]
   have eb:zZ.body=body:=by rw[SN]
   have et:((zZ.params.zip vs.toArray).foldl (fun tmps (t,a)=>tmps.setIfInBounds t a) zZ.tmps)=((psl.zip vs).foldl (fun t (p,v)=>t.setIfInBounds p v) aD.tmps):=by
    rw[SN,<-haD];simp
   rw[ea,eb,et];obtain⟨wr,hwr⟩:∃wr:an P,wr=⟨W,M,some<|w.heap.size+1,false,aD.defers,0,jv _,fun _ _=>jv _⟩:=⟨_,rfl⟩;have ai3:wr.rd=some (w.heap.size+1):=by rw[hwr]
   have WW:Sat wr Hc N ((N,.mb (w.heap.size+1) zZ)::dz s) {aD with defers:=[]} W Hc:=by
    refine⟨?_,hS.sz,?_,fun _ _ _ _=>rfl,hS.sub,?_,hS.sep,hS.gl⟩
    ·rw[hwr];show Marks _ W Hc ([]++aD.defers);have h2:=hS.nd;rw[hds,wK] at h2;have:∀{l:asv Deferred},Marks w0 W Hc l->Marks (⟨W,M,some<|w.heap.size+1,false,aD.defers,0,jv _,fun _ _=>jv _⟩:an P) W Hc l:=by
      intro l
      induction l with
      |nil=>exact fun _=>trivial
      |cons x l ih=>exact fun⟨⟨D,e,_,g2,g3,g4⟩,gr⟩=>⟨⟨D,e,(fun h=>by cases h),g2,g3,g4⟩,ih gr⟩
     exact this h2
    ·rw[hwr];exact⟨rfl,rfl,rfl,bG _,bG _,fun _ _ _ _=>rfl⟩
    ·intro p hp;refine bN.o9 (a:=aD) (fun _ _=>rfl)<|bN.qe (agA s p hp) (hS.holds p hp) fun b hb=>?_
     rw[hwr];exact .inr<|(hM b).2 ⟨p,hp,hb⟩
   have hr1:Sat wr Hc N (pins N T (fun t=>aX aD t)++((N,.mb (w.heap.size+1) zZ)::dz s)) {aD with defers:=[]} W Hc:=by
    refine WW.Tb fun p hp=>?_
    obtain⟨t,ht,rfl⟩:=qb.1 hp;exact⟨rfl,rfl⟩
   obtain⟨G,hG,KK⟩:=N8 (ps:=psl) (τs:=enc x) (vs:=vs) hvs (hps x).symm (fun p hp=>by
    have h1:=dC.1 hpN p hp;simp only[cW,jj] at h1;have hpT:p∉T:=fun h=>by have:=Bj.2 h;rw[h1.2] at this;cases this
    refine⟨cq h1.1,dC.2 fun q hq=>?_⟩;have hlt:=cq h1.1;simp only[cW,p9,ne_eq,jj];rcases mw.1 hq with hq|hq
    ·obtain⟨t,ht,rfl⟩:=qb.1 hq;refine⟨by simp only;omega,?_⟩;simp only[bN.bO,List.contains_cons,List.contains_nil,Bool.or_false,CC,ne_eq];exact fun e=>hpT<|e▸ht
    ·rcases bP.1 hq with e|hq
     ·subst e;exact⟨by simp only;omega,rfl⟩
     ·obtain⟨_,k2,k3,_⟩:=lV (hT s) hq;refine⟨fun e=>hpT<|e▸k2,?_⟩;cases hc:q.2.bO.contains p
      ·rfl
      ·exact absurd (k3 p<|Bj.1 hc) hpT) Rf hr1
   have hr3:Sat wr Hc N (params psl (enc x)++((N,.mb (w.heap.size+1) zZ)::(pins N T (fun t=>aX aD t)++dz s))) _ W Hc:=KK.weaken fun q hq=>hG q (by
    simp only[mw,bP] at hq⊢;rcases hq with h|h|h|h
    ·exact .inl h
    ·exact .inr<| .inr<| .inl h
    ·exact .inr<| .inl h
    ·exact .inr<| .inr<| .inr h)
   have amA:=round wr Hc (w.heap.size+1) zZ (fun t=>aX aD t) next x s ai3 hBd _ W Hc hr3
   rw[ai3] at amA;refine CF (F:=iP<|some<|w.heap.size+1) amA ?_;rintro e a1 W2 hq;cases e with
   |normal=>
    obtain⟨Zj,H2,hS2,hdk,hgo⟩:=hq;have hb0:=hS2.holds (N,.mb (w.heap.size+1) zZ) (by simp);refine⟨_,run_beginRound hb0.1 (by rw[SN]),?_⟩;have amG:=IH (l:=w.heap.size+1) (rc:=zZ) (rc':=busy zZ) hS2 (k:=N) (by simp);have edk:bQ N ((N,bN.mb (w.heap.size+1) zZ)::Zj)=Zj:=by
     have:Nat.beq N N=true:=by simp
     simp only[bQ,this,fU];exact hdk
    rw[edk] at amG;have ahO:=hgo a1 _ H2 amG;rw[ai3] at ahO;refine CF (F:=iP<|some<|w.heap.size+1) ahO ?_;rintro e a3 W3 hq3;cases e with
    |normal=>
     obtain⟨s',Lx,H3,hS3⟩:=hq3;have hb3:=hS3.holds (N,.mb (w.heap.size+1)<|busy zZ) (by simp);have O5:=IH (l:=w.heap.size+1) (rc:=busy zZ) (rc':=zZ) hS3 (k:=N) (by simp);have ajY:bQ N ((N,bN.mb (w.heap.size+1)<|busy zZ)::(pins N T (fun t=>aX aD t)++dz s'))=pins N T (fun t=>aX aD t)++dz s':=by
      have:Nat.beq N N=true:=by simp
      simp only[bQ,this,fU];refine S3 fun p hp=>?_
      rcases mw.1 hp with hp|hp
      ·obtain⟨t,_,rfl⟩:=qb.1 hp;simp only;omega
      ·exact ahK s' p hp
     rw[ajY] at O5;obtain⟨hB1,hB2,hB3⟩:=Ub hS hds VS hM' wr hwr O5<|hT s'
     have erc:({busy zZ with state:=if(none:auz Code).isNone then .ready else .done,pending:=none}:Loop)=zZ:=by rw[SN];rfl
     refine⟨_,_,run_endRound none hb3.1,H3,afR w0 H0 N ((N,.mb (w.heap.size+1) zZ)::dz s') aD W1.heap.size (fun b=>∃p∈(N,bN.mb (w.heap.size+1) zZ)::dz s',p.2.owns (W3.putObj (w.heap.size+1)<| .loop zZ) (aX aD p.1) b) (agA s') WZ hDl,rfl,?_,?_,?_,.inl ⟨rfl,s',Lx,_,rfl⟩⟩
     ·rw[erc];exact⟨hB1,fun b=>Iff.rfl⟩
     ·rw[erc];exact hB2
     ·rintro b ⟨p,hp,hb⟩;exact hB3 p hp b hb
    |ret=>
     obtain⟨G,hG,H3,hS3⟩:=hq3;have hb3:=hS3.holds (N,.mb (w.heap.size+1)<|busy zZ) (by simp);have O5:=IH (l:=w.heap.size+1) (rc:=busy zZ) (rc':=Yc) hS3 (k:=N) (by simp);have ajY:bQ N ((N,bN.mb (w.heap.size+1)<|busy zZ)::(pins N T (fun t=>aX aD t)++G))=pins N T (fun t=>aX aD t)++G:=by
      have:Nat.beq N N=true:=by simp
      simp only[bQ,this,fU];refine S3 fun p hp=>?_
      rcases mw.1 hp with hp|hp
      ·obtain⟨t,_,rfl⟩:=qb.1 hp;simp only;omega
      ·exact Nat.ne_of_lt (lV (hTx G hG) hp).1
     rw[ajY] at O5;obtain⟨hB1,hB2,hB3⟩:=Ub hS hds VS hM' wr hwr O5<|hTx G hG
     have erc:({busy zZ with state:=if(some Code.ret:auz Code).isNone then .ready else .done,pending:=some .ret}:Loop)=Yc:=by rw[adb];rfl
     refine⟨_,_,run_endRound (some .ret) hb3.1,H3,afR w0 H0 N ((N,.mb (w.heap.size+1) Yc)::G) aD W1.heap.size (fun b=>∃p∈(N,bN.mb (w.heap.size+1) Yc)::G,p.2.owns (W3.putObj (w.heap.size+1)<| .loop Yc) (aX aD p.1) b) (alT G hG) WZ hDl,rfl,?_,?_,?_,.inr ⟨rfl,G,hG,_,rfl⟩⟩
     ·rw[erc];exact⟨hB1,fun b=>Iff.rfl⟩
     ·rw[erc];exact hB2
     ·rintro b ⟨p,hp,hb⟩;exact hB3 p hp b hb
    |exit id=>exact hq3.elim
    |goto t=>exact hq3.elim
    |panic ch=>exact hq3.elim
    |outgrown=>exact hq3.elim
   |ret=>exact hq.elim
   |exit id=>exact hq.elim
   |goto t=>exact hq.elim
   |panic ch=>exact hq.elim
   |outgrown=>exact hq.elim
  ·
   rintro e w3 ⟨⟨v,rfl⟩,H',I',hp,arI,(⟨s,hK,M,rfl⟩|⟨G,hG,M,rfl⟩)⟩
   ·obtain⟨hS,_⟩:=hp;obtain⟨OX,_,_⟩:=hS.holds (N,.mb (w.heap.size+1) zZ) (by simp);have hel:=run_endLoop (P:=P) OX (by rw[SN];simp);have epe:zZ.pending=none:=by rw[SN]
    rw[epe] at hel;refine⟨none,_,hel,?_⟩;have h5:=IH (l:=w.heap.size+1) (rc:=zZ) (rc':={zZ with state:= .exhausted,pending:=none}) hS (k:=N) (by simp);have h6:Sat w0 H0 N (dz s) aD (w3.putObj (w.heap.size+1)<| .loop {zZ with state:= .exhausted,pending:=none}) H':=h5.weaken fun q hq=>by
     refine fY _<|mi ?_<|ahK s q hq
     exact fY _ hq
    have:=kk s hK aD _ H' h6;rw[<-haD] at this;exact this
   ·obtain⟨hS,_⟩:=hp;obtain⟨OX,_,_⟩:=hS.holds (N,.mb (w.heap.size+1) Yc) (by simp);have hel:=run_endLoop (P:=P) OX (by rw[adb];simp);have epe:Yc.pending=some .ret:=by rw[adb]
    rw[epe] at hel;refine⟨some .ret,_,hel,?_⟩;refine wpIn_ret ?_;have h5:=IH (l:=w.heap.size+1) (rc:=Yc) (rc':={Yc with state:= .exhausted,pending:=some .ret}) hS (k:=N) (by simp);have h6:Sat w0 H0 N G aD (w3.putObj (w.heap.size+1)<| .loop {Yc with state:= .exhausted,pending:=some .ret}) H':=h5.weaken fun q hq=>by
     refine fY _<|mi ?_<|Nat.ne_of_lt (lV (hTx G hG) hq).1
     exact fY _ hq
    have:=kx G hG aD _ H' h6;rw[<-haD] at this;exact this
end
section
variable[D:DR]
def an.iter(P:ast)(w:aq5):an P:=⟨w,Tl,none,true,[],w.heap.size,bG _,fun _ h=>h.elim⟩
end
section
variable[D:DR]
variable{P:Program}{w0:an P}{H0:HV}{N:Nat}{Q:Exit->Act->World->Prop}{Γ ay:Ctx}
variable{σ ρ:Type}{r:ρ}{J:σ->Inv->Prop}{I:Inv}{α:Type}{Jx:Inv->Prop}{enc:α->asv Ty}{ts:asv Nat}{fn:Func}{s:σ}{ops:auA Oper}{xs:asv asu}{ty:asr}{pos:String}{af:auA Edge}{K:σ->auz ρ}{a:Act}{w:aq5}{H:HV}{Bd:(σ->auz ρ)->α->σ->auz ρ}{l:Nat}{next:σ->auz ρ}{x:α}{t dy dn:Nat}{ta:auA asr}{Qb tb:asr}{pos':String}{Qv:auA Edge}{qq:Ctx}
def ahb{σ ρ:Type}(K:σ->auz ρ)(r:ρ)(J:σ->Inv->Prop)(Jx:Inv->Prop)(e:Ending)(w':aq5):Prop:=
 (∃v,e= .returned v)/\∃H' I',I'.p w' H'/\(∀r o,H' r=some o->w'.heap[r]? =some o)/\((∃s,K s=some r/\J s I')\/Jx I')
def aeD(P:ast)(fn:Func)(R:Ending->aq5->Prop):Exit->Act->aq5->Prop:=bodyPostM (iP none) 0 P fn R
def xM(l:Nat):Ty:=XH (.func (.yield l) #[] #[]) rfl
def Q9(hX:(w0.ds,w0.rd)=([],none))(hr:fn.results= #[])(hI:look Γ N=some (.inv I))(hK:(∃s,K s=some r/\J s I)\/Jx I)
 (hs:Sat w0 H0 N Γ a w H):LeavesInM (iP none) 0 P fn a.tmps (ahb K r J Jx) a.defers .returning w:=by
 refine tq (congrArg (fun p=>p.1) hX) (congrArg (fun p=>p.2) hX) (a:=a) (ds:=a.defers) hs fun w H hs=>?_
 refine⟨.tuple #[],?_,⟨_,rfl⟩,H,I,(hs.holds _<|az hI).1,hs.sub,hK⟩;rw[za (rs:=[]) (by rw[hr])];simp
def S6(hX:(w0.ds,w0.rd)=([],none))(hr:fn.results= #[])(hI:look Γ N=some (.inv I))(hK:K s=some r)(hJ:J s I):
  me w0 H0 N (fun a w=>aeD P fn (ahb K r J Jx) .normal a w) Γ:=fun _ _ _ hs=>Q9 hX hr hI (.inl ⟨s,hK,hJ⟩) hs
def Nf(hX:(w0.ds,w0.rd)=([],none))(hr:fn.results= #[])(hI:look Γ N=some (.inv I))(hJ:Jx I):
  me w0 H0 N (fun a w=>aeD P fn (ahb K r J Jx) .ret a w) Γ:=fun _ _ _ hs=>Q9 hX hr hI (.inr hJ) hs
def CZ{gf:FuncId}{c:Code}{pL:asv Ty}{L:asv α}{N:Nat}(hf:P.funcs[gf]? =some fn)(hb:fn.body=some c)(hN:fn.ntmps=N)(hn:pL.length+1<=N)(hc:eN P gf=true)
 (h:∀{σ ρ:Type} (Bd:(σ->auz ρ)->α->σ->auz ρ) (K:σ->auz ρ) (s0:σ) (r:ρ),KH L Bd s0 K=some r->∀(l:Nat) (J:σ->Inv->Prop) (Jx:Inv->Prop) (w:aq5) (H:HV) (I0:Inv),J s0 I0->I0.n=w.heap.size->
 JY P l enc Bd r J Jx w.heap.size->Goal P (an.iter P w) H N c (aeD P fn<|ahb K r J Jx) ((N,.inv I0)::lQ 0 (xM l::pL))):zV P gf pL enc L:=by
 subst hN;refine⟨hc,fun Bd K s0 r hm l J Jx w H cvs I0 sub gl gS hJ hI hIp hy=>?_⟩;have ajb:Ct H (xM l::pL) (.func (.yield l) #[] #[]::cvs):=⟨_,_,rfl,rfl,gS⟩;have hS:=Ri (P:=P) (n:=fn.ntmps) sub gl ajb (by simpa using hn);refine(callsIn_wide (n:=0)).1<|callsIn_of_wp_marks (F:=Fence.wide) hf hb trivial<|h Bd K s0 r hm l J Jx w H I0 hJ hI hy _ w H ?_
 have OU:∀p∈lQ 0 (xM l::pL),p.2.jD=false/\∀v b,¬p.2.owns w v b:=by
  have:∀(l:asv Ty) (i:Nat),∀p∈lQ i l,p.2.jD=false:=by
   intro l
   induction l with
   |nil=>intro i p hp;simp[lQ] at hp
   |cons τ l ih=>
    intro i p hp;simp only[lQ,bP] at hp;rcases hp with e|hp
    ·subst e;rfl
    ·exact ih _ p hp
  exact fun p hp=>⟨this _ _ p hp,fun v b=>HC p hp⟩
 refine⟨trivial,hS.sz,⟨rfl,rfl,rfl,bG _,bG _,fun _ _ _ _=>rfl⟩,fun _ _ _ _=>rfl,hS.sub,?_,?_,hS.gl⟩
 ·intro p hp;rcases bP.1 hp with e|hp
  ·subst e;exact⟨hIp,hI⟩
  ·exact bN.qe (OU p hp).1 (hS.holds p hp) fun b hb=>absurd hb<|(OU p hp).2 _ b
 ·intro p hp q hq hne b hb jQ;rcases bP.1 hp with e|hp
  ·rcases bP.1 hq with e'|hq
   ·subst e;subst e';exact hne rfl
   ·exact(OU q hq).2 _ b jQ
  ·exact(OU p hp).2 _ b hb
def ZL{w':aq5}{H':HV}{k:Nat}{I':Inv}(hv:w0.Qa=true)(GV:w0.lo=w0.n)(hs:Sat w0 H0 N Γ a w H)(hk:(k,.inv I)∈Γ)(OU:∀q∈bQ k Γ,q.2.jD=false)
 (hy:JZ I.M w H w' H')(hI:I'.n=w0.n)(hp:I'.p w' H')(hM:∀b,I'.M b->I.M b\/w.heap.size<=b):Sat w0 H0 N ((k,.inv I')::bQ k Γ) a w' H':=by
 have hIk:=hs.holds _ hk;have other:∀q∈bQ k Γ,∀b,q.2.owns w (aX a q.1) b-> ¬I.M b:=fun q hq b hb hm=>hs.sep q (bI q hq).1 _ hk (bI q hq).2 b hb hm
 have VV:∀q∈bQ k Γ,∀b,q.2.owns w (aX a q.1) b->w'.heap[b]? =w.heap[b]? /\H' b=H b:=fun q hq b hb=>
  hy.lr b (bN.mh (hs.holds q (bI q hq).1) hb).1 (other q hq b hb)
 have key:∀q∈bQ k Γ,q.2.holds w0 a w' H' (aX a q.1)/\∀b,q.2.owns w' (aX a q.1) b↔q.2.owns w (aX a q.1) b:=fun q hq=>by
  refine bN.v8 (n:=0) (hs.holds q (bI q hq).1) (fun hi=>by rw[OU q hq] at hi;cases hi) ?_;exact⟨hy.size,hy.os,hy.tape,hy.output,hy.drawn,hy.le,fun b _ h=>h.elim (fun h=>by omega)<|fun h=>(VV q hq b h).1,fun b _ h=>h.elim (fun h=>by omega)<|fun h=>(VV q hq b h).2,hy.sub⟩
 refine⟨?_,hs.sz,?_,fun h=>by(rw[hv] at h;cases h),hy.sub,?_,?_,hs.gl.mono hy.le⟩
 ·refine hs.nd.kept fun D _ h1 h2=>?_
  have hn: ¬I.M D:=fun hm=>by
   obtain⟨_,_,o,ho,WY⟩:=I.lt hIk.1 hm;rw[h1] at ho;cases ho;exact WY
  have:=hy.lr D (lt_of_heap h1) hn;exact⟨by rw[this.1];exact h1,by rw[this.2];exact h2⟩
 ·exact⟨hy.os.trans hs.below.os,hy.tape.trans hs.below.tape,hy.output.trans hs.below.output,fZ hs.below.drawn hy.drawn,fZ hs.below.size hy.size,fun h=>by rw[hv] at h;cases h⟩
 ·intro q hq;rcases bP.1 hq with e|hq
  ·subst e;exact⟨hp,by rw[GV];exact hI⟩
  ·exact(key q hq).1
 ·have low:∀q∈bQ k Γ,∀b,q.2.owns w' (aX a q.1) b-> ¬I'.M b:=fun q hq b hb hm=>by
   have hb:=((key q hq).2 b).1 hb;rcases hM b hm with h|h
   ·exact other q hq b hb h
   ·have:=(bN.mh (hs.holds q (bI q hq).1) hb).1;omega
  intro q hq r hr hne b hb jQ;rcases bP.1 hq with e|hq<;>rcases bP.1 hr with e'|hr
  ·subst e;subst e';exact hne rfl
  ·subst e;exact low r hr b jQ hb
  ·subst e';exact low q hq b hb jQ
  ·exact hs.sep q (bI q hq).1 r (bI r hr).1 hne b (((key q hq).2 b).1 hb)<|((key r hr).2 b).1 jQ
def fP.aij{l:asv Oper}(h:fP P w0 N ops l Γ ay):pU l=true->∀(l2:asv Oper) (H0:HV) (a:Act) (w:aq5) (H:HV),Sat w0 H0 N Γ a w H->∀(Q:Exit->Act->aq5->Prop),
  (∀a' w' H',Sat w0 H0 N ay a' w' H'->wpListIn (iP w0.rd) 0 P ops Q l2 a' w')->wpListIn (iP w0.rd) 0 P ops Q (l++l2) a w:=by
 induction h with
 |done=>exact fun _ _ _ _ _ H hs _ k=>k _ _ H hs
 |fin h=>exact fun _ _ _ _ _ H hs _ k=>k _ _ H<|hs.weaken h.sub
 | @cons _ _ _ o l h _ ih=>
  intro gS l2 H0 a w H hs Q k;have yc:=h w0 H0 a w H hs (wpListIn (iP w0.rd) 0 P ops Q<|l++l2) Q fun a' w' H' pN=>ih (Om gS) l2 H0 a' w' H' pN Q k
  show wpListIn _ _ _ _ _ (o::(l++l2)) a w;unfold wpListIn;split
  ·rename_i hw;rw[if_pos hw] at yc;exact IU (Cn gS (by simp)) yc
  ·rename_i hw;rw[if_neg hw] at yc;exact⟨fun _ _=>trivial,yc⟩
 |ghost h _ ih=>
  intro gS l2 H0 a w H hs Q k;obtain⟨H',pN⟩:=h H0 a w H hs;exact ih gS l2 H0 a w H' pN Q k
def yOk(N dy dn:Nat)(Γ:Ctx):Bool:=Γ.all fun p=>p.1 !=N&&p.1 !=dy&&p.1 !=dn&&p.2.bO.all (fun t=>t !=dy&&t !=dn)&& !p.2.jD
def NW
 {Q:Exit->Act->aq5->Prop}
 (hv:(w0.Qa,w0.rd,w0.X)=(true,none,Tl))(GV:w0.lo=w0.n)(hy:JY P l enc Bd r J Jx w0.n)
 (hm:Bd next x s=some r)(hJ:J s I)(ht:look Γ t=some (.val<|xM l))(ha:aJ Γ xs (enc x))(hI:look Γ N=some (.inv I))(C2:vi Γ ts qq)(gS:yOk N dy dn qq=true)(hdy:dy<N)(hdn:dn<N)
 (kt:∀s' I',next s'=some r->J s' I'->me w0 H0 N (Q .normal) ((dn,.val<|aZ false)::(N,.inv I')::qq))(kf:∀I',Jx I'->me w0 H0 N (Q .normal) ((dn,.val<|aZ true)::(N,.inv I')::qq))
 (hs:Sat w0 H0 N Γ a w H):
  wpListIn (iP w0.rd) 0 P ops Q [⟨some dy,.call ⟨.value<| .tmp t,xs.toArray,ta⟩,ty,pos,af,none⟩,⟨some dn,.unOp .not tb<| .tmp dy,Qb,pos',Qv,none⟩] a w:=by
 obtain⟨hv1,hv2,hv3⟩:w0.Qa=true/\w0.rd=none/\w0.X=Tl:=by
  refine⟨congrArg (fun p=>p.1) hv,congrArg (fun p=>p.2.1) hv,congrArg (fun p=>p.2.2) hv⟩
 have e1:a.eval (.tmp t)= .func (.yield l) #[] #[]:=hs.holds _<|az ht
 have hI0:=hs.holds _<|az hI
 have hIn:I.n=w0.n:=by rw[<-GV];exact hI0.2
 obtain⟨fn,tmps,assign,body,qQ,ai7⟩:=hy next x s I w H (xs.map a.eval) hm hJ hIn hI0.1 hs.sub hs.gl<|ha.ok hs
 unfold wpListIn;have hw:Region.wanted (⟨some dy,.call ⟨.value<| .tmp t,xs.toArray,ta⟩,ty,pos,af,none⟩:Oper) (yielded ops a.tmps)=true:=rfl;rw[if_pos hw];refine⟨fun _ _=>trivial,?_⟩;rw[Oper.semAt_eq _ _ _ (by intro c e;cases e)];have e0:execOp a.eval ⟨some dy,.call ⟨.value<| .tmp t,xs.toArray,ta⟩,ty,pos,af,none⟩=Instr.yield l (#[]++xs.toArray.map a.eval++ #[]):=by
  simp only[execOp,resolve,e1,Deferred.ofValue,pure_bind]
  rfl
 have e2:(#[]++xs.toArray.map a.eval++ #[])=(xs.map a.eval).toArray:=by simp
 rw[e0,e2,qQ];refine⟨(fun e=>by cases e),?_⟩;rw[hv2];refine RoundIn.mono ai7 ?_;rintro e w' ⟨H',I',aqd,aqc,alJ,hM,amv⟩;have atC:∀q∈qq,q∈bQ N Γ:=fun q hq=>by
  have h1:=dC.1 gS q hq;simp only[cW,p9,ne_eq] at h1;exact mi (C2.sub q hq) h1.1.1.1.1
 have hinv:∀q∈bQ N ((N,.inv I)::qq),q.2.jD=false:=fun q hq=>by
  have hq':=bI q hq;rcases bP.1 hq'.1 with e|h
  ·subst e;exact absurd rfl hq'.2
  ·have h1:=dC.1 gS q h;simp only[cW,jj] at h1;exact h1.2
 have hs1:Sat w0 H0 N ((N,.inv I)::qq) a w H:=hs.weaken fun q hq=>by
  rcases bP.1 hq with e|h
  ·subst e;exact az hI
  ·exact C2.sub q h
 have OS:=ZL hv1 GV hs1 (k:=N) (by simp) hinv alJ aqd aqc hM;have hfr:∀d,(d=dy\/d=dn)->nF d ((N,.inv I')::qq)=true:=by
  intro d hd;simp only[nF,sE,cW,dC,p9,ne_eq];refine⟨⟨by rcases hd with h|h<;>subst h<;>omega,by simp[bN.bO]⟩,fun q hq=>?_⟩;have h1:=dC.1 gS q hq;simp only[cW,p9,ne_eq,dC] at h1;obtain⟨⟨⟨⟨h2,h3⟩,h4⟩,h5⟩,h6⟩:=h1;refine⟨by rcases hd with h|h<;>subst h<;>assumption,?_⟩;simp only[jj,Jy,lq];intro hm;have:=h5 d hm;rcases hd with h|h<;>subst h
  ·exact this.1 rfl
  ·exact this.2 rfl
 have hs3:Sat w0 H0 N ((N,.inv I')::qq) a w' H':=OS.weaken fun q hq=>by
  rcases bP.1 hq with e|h
  ·subst e;simp
  ·refine fY _ (mi (fY _ h) ?_);have h1:=dC.1 gS q h;simp only[cW,p9,ne_eq] at h1;exact h1.1.1.1.1
 have fin:∀b:Bool,e= .returned (.bool b)->me w0 H0 N (Q .normal) ((dn,.val<|aZ !b)::(N,.inv I')::qq)->
   (match e with
   | .returned v=>wpListIn (iP none) 0 P ops Q [⟨some dn,.unOp .not tb<| .tmp dy,Qb,pos',Qv,none⟩] (a.put (some dy) v) w'
   | .panicked chain=>Q (.panic chain) a w'
   | .outgrown=>LetsOut Q):=by
  intro b eb kk;subst eb;have hs4:=pT hs3 hdy (hfr dy<| .inl rfl) (s:= .val<|aZ b) (v:= .bool b) (by simp[bN.bO]) rfl<|fun c h=>h.elim
  have SS:fP P w0 N ops [⟨some dn,.unOp .not tb<| .tmp dy,Qb,pos',Qv,none⟩] ((dy,.val<|aZ b)::(N,.inv I')::qq) ((dn,.val<|aZ !b)::del dn ((dy,.val<|aZ b)::(N,.inv I')::qq)):=
   fP.cons (Step.over (iN (Arg.t (t:=dy) (by simp[look]))) rfl rfl hdn rfl) fP.done
  have:=SS.sound rfl H0 _ w' H' hs4 Q (fun a' w' H' pN=>kk a' w' H' (pN.weaken fun q hq=>by
   rcases bP.1 hq with e|h
   ·subst e;simp
   ·refine fY _ (qI (fY _ h) ?_ ?_)
    ·exact(xg (hfr dn<| .inr rfl) q h).1
    ·exact(xg (hfr dn<| .inr rfl) q h).2))
  rw[hv2] at this;exact this
 rcases amv with⟨rfl,s',Lx,hJ'⟩|⟨rfl,hJ'⟩
 ·exact fin true rfl<|kt s' I' Lx hJ'
 ·exact fin false rfl<|kf I' hJ'
def Y0
 {l1:asv Oper}{id:Nat}{DN:Ctx}
 (hv:(w0.Qa,w0.rd,w0.X)=(true,none,Tl))(GV:w0.lo=w0.n)(hy:JY P l enc Bd r J Jx w0.n)
 (hm:Bd next x s=some r)(hJ:J s I)(ai9:ops=List.toArray (l1++([⟨some dy,.call ⟨.value<| .tmp t,xs.toArray,ta⟩,ty,pos,af,none⟩,⟨some dn,.unOp .not tb<| .tmp dy,Qb,pos',Qv,none⟩]:asv Oper)))(aja:pU l1=true)(SS:fP P w0 N ops l1 Γ DN)
 (ht:look DN t=some (.val<|xM l))(ha:aJ DN xs (enc x))(hI:look DN N=some (.inv I))(C2:vi DN ts qq)(gS:yOk N dy dn qq=true)(hdy:dy<N)(hdn:dn<N)
 (kt:∀s' I',next s'=some r->J s' I'->me w0 H0 N (Q .normal) ((dn,.val<|aZ false)::(N,.inv I')::qq))(kf:∀I',Jx I'->me w0 H0 N (Q .normal) ((dn,.val<|aZ true)::(N,.inv I')::qq)):
  Goal P w0 H0 N (.region id ops false) Q Γ:=by
 subst ai9;exact fun a w H hs=>wpIn_region_lit<|SS.aij aja _ H0 a w H hs Q fun a' w' H' pN=>NW hv GV hy hm hJ ht ha hI C2 gS hdy hdn kt kf pN
def Vl
 {id k:Nat}{DN:Ctx}{tsr:asv Nat}{S:asv Ctx}
 (hv:(w0.Qa,w0.rd,w0.X)=(true,none,Tl))(GV:w0.lo=w0.n)(hy:JY P l enc Bd r J Jx w0.n)
 (hm:Bd next x s=some r)(hJ:J s I)(kl:asv (asv<|Nat×asv Nat))(L:asv Nat)(av jb:asv (asv Nat))(ja:asv Bool)(JH:P.follows .mixedOrders=true)(hc:(B4 ops av&&S4 k kl jb ja L av&&yL ops k av)=true)
 (aja:pU (ops.toList.take k)=true)(hp:bT P N ops Γ [] (ops.toList.take k) jb ja S)(Qn:S.reverse.map Gf=kl)(hL:sF Γ=L)(hsl:vi (S.flatten++Γ) ts DN)
 (ai9:ops.toList.drop k=[⟨some dy,.call ⟨.value<| .tmp t,xs.toArray,ta⟩,ty,pos,af,none⟩,⟨some dn,.unOp .not tb<| .tmp dy,Qb,pos',Qv,none⟩])
 (ht:look DN t=some (.val<|xM l))(ha:aJ DN xs (enc x))(hI:look DN N=some (.inv I))(C2:vi DN tsr qq)(gS:yOk N dy dn qq=true)(hdy:dy<N)(hdn:dn<N)
 (kt:∀s' I',next s'=some r->J s' I'->me w0 H0 N (Q .normal) ((dn,.val<|aZ false)::(N,.inv I')::qq))(kf:∀I',Jx I'->me w0 H0 N (Q .normal) ((dn,.val<|aZ true)::(N,.inv I')::qq)):
  Goal P w0 H0 N (.region id ops true) Q Γ:=by
 simp only[cW] at hc;refine fun a w H hs=>XO JH aja hc.1.1 hc.1.2 hc.2 Qn hL hp hsl (H0:=H0) (fun a w H hs=>?_) hs
 rw[ai9];exact NW hv GV hy hm hJ ht ha hI C2 gS hdy hdn kt kf hs
def akD{P:ast}{α σ ρ:Type}(w0:an P)(H0:HV)(N:Nat)(J:σ->Inv->Prop)(st:α->σ)(Ng:α->Ctx)(k:α->auz ρ)(r:ρ)(a:Act)(w:aq5):Prop:=
 ∃i I,k i=some r/\J (st i) I/\∃H,Sat w0 H0 N ((N,.inv I)::Ng i) a w H
def agX(st:α->σ)(Ng:α->Ctx){K:α->auz ρ}{E:(α->auz ρ)->auz ρ}{x:Code}(hm:jn K E=some r)
 (h:∀k,E k=some r->Goal P w0 H0 N x (Exit.then (akD w0 H0 N J st Ng k r) Q) Γ)(kk:∀i I,K i=some r->J (st i) I->me w0 H0 N (Q .normal) ((N,.inv I)::Ng i)):Goal P w0 H0 N x Q Γ:=
 fun a w H hs=>CF (h K hm a w H hs) fun e a' w' q=>by
  cases e with
  |normal=>obtain⟨i,I,hi,hJ,H',pN⟩:=q;exact kk i I hi hJ a' w' H' pN
  |_=>exact q
def HF{st:α->σ}{Ng:α->Ctx}{k:α->auz ρ}{i:α}(hm:k i=some r)(hJ:J (st i) I)(h:vi Γ ts ((N,.inv I)::Ng i)):
  me w0 H0 N (fun a w=>akD w0 H0 N J st Ng k r a w) Γ:=fun _ _ H hs=>⟨i,I,hm,hJ,H,hs.weaken h.sub⟩
def JO{τ:Type}(st:τ->σ)(dz:τ->Ctx){n:Nat}{B:(τ->auz ρ)->τ->auz ρ}{s0:τ}{I0:Inv}{c:Code}(hm:lp n B s0=some r)(hJ:J (st s0) I0)(h0:vi Γ ts ((N,.inv I0)::dz s0))
 (round:∀(k:τ->auz ρ) (s:τ) (I:Inv),B k s=some r->J (st s) I->Goal P w0 H0 N c (Exit.then (akD w0 H0 N J st dz k r) Q) ((N,.inv I)::dz s)):Goal P w0 H0 N (.loop c) Q Γ:=by
 intro a w H hs;refine wp_loop_ghost (fun(i:Nat×τ) a w=>lp i.1 B i.2=some r/\∃I H,J (st i.2) I/\Sat w0 H0 N ((N,.inv I)::dz i.2) a w H) (fun i=>i.1) (n,s0) ⟨hm,I0,H,hJ,hs.weaken h0.sub⟩ ?_;rintro⟨m,s⟩ a w ⟨hl,I,H,hJ,hs⟩;cases m with
 |zero=>cases hl
 |succ m=>
  refine CF (round (lp m B) s I hl hJ a w H hs) fun e a' w' q=>?_
  cases e with
  |normal=>obtain⟨i,I',hi,hJ',H',pN⟩:=q;exact⟨(m,i),⟨hi,I',H',hJ',pN⟩,Nat.lt_succ_self m⟩
  |_=>exact q
def Co{o:auz (asv α)}{f:FuncId}{pL:asv Ty}{d:auz Tmp}{g:auz (Nat×Bool)}(ha:aJ Γ xs pL)(h:∀L,o=some L->zV P f pL enc L):
  bK P Γ ⟨d,.makeFunc (.func f) #[] xs.toArray,ty,pos,af,g⟩ (.val<|Tf P enc o):=
 bh fun _ _ _ a w H hs=>by
  refine⟨.func (.func f) #[] (xs.map a.eval).toArray,?_,⟨f,_,pL,rfl,by simpa using ha.ok hs,h⟩,rfl⟩;simp[execOp,Instr.makeFunc]
end
section
variable[D:DR]
variable{P:Program}{w0:an P}{H0:HV}{N:Nat}{ops:Array Oper}{Q:Exit->Act->World->Prop}{Γ ay:Ctx}{d:Option Tmp}{ty:TypeId}{pos:String}{af:Array Edge}{g:Option (Nat×Bool)}
variable{w:aq5}{a:Act}{H:HV}{B:an P}{i t p:Nat}{T:asr}{gg:Bool}{v:aq6}{off:Nat}{T':asr}
def fE:asv mc->Nat->Nat
 |[],_=>0
 |_::_,0=>0
 |p::l,i+1=>p.n+fE l i
def pv(p:mc)(off:Nat)(cs:asv aq6):aq6:=KA p.agg ((cs.drop off).take p.n).toArray
def tj{w:aq5}{b:Nat}:∀{ps:asv mc} {cs:asv aq6},py w b ps cs↔∃(i:Nat) (p:mc),ps[i]? =some p/\p.owns w (pv p (fE ps i) cs) b
 |[],cs=>by simp[py]
 |p::l,cs=>by
  simp only[py,tj (ps:=l)];constructor
  ·rintro(h|⟨i,q,h1,h2⟩)
   ·exact⟨0,p,rfl,by simpa[pv,fE] using h⟩
   ·exact⟨i+1,q,by simpa using h1,by simpa[pv,fE,ji] using h2⟩
  ·rintro⟨i,q,h1,h2⟩;cases i with
   |zero=>simp at h1;subst h1;exact .inl (by simpa[pv,fE] using h2)
   |succ i=>exact .inr ⟨i,q,by simpa using h1,by simpa[pv,fE,ji] using h2⟩
def N6{w:aq5}:∀{ps:asv mc} {cs:asv aq6},L0 w ps cs↔∀(i j:Nat) (p q:mc),i<j->ps[i]? =some p->ps[j]? =some q->∀b,p.owns w (pv p (fE ps i) cs) b-> ¬q.owns w (pv q (fE ps j) cs) b
 |[],cs=>by simp[L0]
 |p::l,cs=>by
  simp only[L0,N6 (ps:=l)];constructor
  ·rintro⟨h1,h2⟩ i j a b VU ha hb c hc AL;cases j with
   |zero=>omega
   |succ j=>
    have jQ:l[j]? =some b:=by simpa using hb
    have Ve:b.owns w (pv b (fE l j)<|cs.drop p.n) c:=by simpa[pv,fE,ji] using AL
    cases i with
    |zero=>
     simp at ha;subst ha;exact h1 c (by simpa[pv,fE] using hc)<|tj.2 ⟨j,b,jQ,Ve⟩
    |succ i=>exact h2 i j a b (by omega) (by simpa using ha) jQ c (by simpa[pv,fE,ji] using hc) Ve
  ·intro h;refine⟨fun b hb ho=>?_,fun i j a b VU ha hb c hc AL=>?_⟩
   ·obtain⟨j,q,h1,h2⟩:=tj.1 ho;exact h 0 (j+1) p q (by omega) rfl (by simpa using h1) b (by simpa[pv,fE] using hb) (by simpa[pv,fE,ji] using h2)
   ·exact h (i+1) (j+1) a b (by omega) (by simpa using ha) (by simpa using hb) c (by simpa[pv,fE,ji] using hc) (by simpa[pv,fE,ji] using AL)
def y6{n:Nat}{agg:Bool}(h:Shape n agg v):v.cells.toList.length=n:=by simpa using h.size
def EA{B:an P}{a:Act}{w:aq5}{H:HV}:∀{ps:asv mc} {cs:asv aq6} {i:Nat} {p:mc},Q1 B a w H ps cs->ps[i]? =some p->
  fE ps i+p.n<=cs.length/\Shape p.n p.agg (pv p (fE ps i) cs)/\p.holds B a w H (pv p (fE ps i) cs)/\(pv p (fE ps i) cs).cells.toList=(cs.drop<|fE ps i).take p.n
 |[],_,i,_,_,h=>by simp at h
 |p::l,_,0,q,⟨v,rest,e,oY,hv,hr⟩,h=>by
  simp at h;subst h;subst e;have hl:=y6 oY;have e1:pv p (fE (p::l) 0) (v.cells.toList++rest)=v:=by simpa[pv,fE] using(oT (rest:=rest) oY).1
  rw[e1];refine⟨by simp[fE];have:=oY.size;omega,oY,hv,?_⟩;simp only[fE,yF];rw[<-hl,MK]
 |p::l,_,i+1,q,⟨v,rest,e,oY,hv,hr⟩,h=>by
  simp at h;subst e;obtain⟨h1,h2,h3,h4⟩:=EA hr h;have hd:List.drop (fE (p::l)<|i+1) (v.cells.toList++rest)=List.drop (fE l i) rest:=by
   simp only[fE];rw[<-y6 oY,zH];simp
  have e1:pv q (fE (p::l)<|i+1) (v.cells.toList++rest)=pv q (fE l i) rest:=by simp only[pv,hd]
  rw[e1,hd];refine⟨?_,h2,h3,h4⟩;have:=oY.size;simp[fE];omega
def Yj{B:an P}{a:Act}{w:aq5}{H:HV}:∀{ps:asv mc} {cs:asv aq6} {i:Nat} {p q:mc} {x:aq6},Q1 B a w H ps cs->ps[i]? =some p->Shape q.n q.agg x->q.n=p.n->q.holds B a w H x->
  Q1 B a w H (ps.set i q) (cs.take (fE ps i)++x.cells.toList++cs.drop (fE ps i+p.n))/\fE (ps.set i q) i=fE ps i/\pv q (fE ps i) (cs.take (fE ps i)++x.cells.toList++cs.drop (fE ps i+p.n))=x/\
  ∀(j:Nat) (r:mc),j≠i->ps[j]? =some r->fE (ps.set i q) j=fE ps j/\pv r (fE ps j) (cs.take (fE ps i)++x.cells.toList++cs.drop (fE ps i+p.n))=pv r (fE ps j) cs
 |[],_,i,_,_,_,_,h,_,_,_=>by simp at h
 |p::l,_,0,q,r,x,⟨v,rest,e,oY,hv,hr⟩,h,hx,hn,hq=>by
  simp at h;subst h;subst e;have hl:=y6 oY;have GS:=y6 hx;have hd:List.drop (fE (p::l) 0+p.n) (v.cells.toList++rest)=rest:=by
   simp only[fE,wG];rw[<-hl,FE]
  rw[hd];simp only[List.set_cons_zero,fE,List.take_zero,AF];refine⟨⟨x,rest,rfl,hx,hq,hr⟩,trivial,by simpa[pv] using(oT (rest:=rest) hx).1,?_⟩;intro j s hj hs;cases j with
  |zero=>exact absurd rfl hj
  |succ j=>
   simp only[fE,hn,true_and,pv];have e1:List.drop (p.n+fE l j) (x.cells.toList++rest)=List.drop (fE l j) rest:=by rw[<-hn,<-GS,zH];simp
   have e2:List.drop (p.n+fE l j) (v.cells.toList++rest)=List.drop (fE l j) rest:=by rw[<-hl,zH];simp
   rw[e1,e2]
 |p::l,_,i+1,q,r,x,⟨v,rest,e,oY,hv,hr⟩,h,hx,hn,hq=>by
  simp at h;subst e;have hl:=y6 oY;obtain⟨h1,h2,h3,h4⟩:=Yj hr h hx hn hq;have et:List.take (fE (p::l)<|i+1) (v.cells.toList++rest)=v.cells.toList++List.take (fE l i) rest:=by
   simp only[fE];rw[<-hl,Jt];simp[fe]
  have ed:List.drop (fE (p::l) (i+1)+q.n) (v.cells.toList++rest)=List.drop (fE l i+q.n) rest:=by
   simp only[fE];rw[<-hl,uj,zH];simp
   done
  have ec:List.take (fE (p::l)<|i+1) (v.cells.toList++rest)++x.cells.toList++List.drop (fE (p::l) (i+1)+q.n) (v.cells.toList++rest)=v.cells.toList++(List.take (fE l i) rest++x.cells.toList++List.drop (fE l i+q.n) rest):=by
   rw[et,ed];simp[rq]
  rw[ec];have sh:∀(s:mc) (o:Nat) (Bs:asv aq6),pv s (p.n+o) (v.cells.toList++Bs)=pv s o Bs:=fun s o Bs=>by
   simp only[pv];have:List.drop (p.n+o) (v.cells.toList++Bs)=List.drop o Bs:=by
    rw[zH,xE (by omega),hl];simp
   rw[this]
  refine⟨⟨v,_,rfl,oY,hv,h1⟩,by simp[fE,h2],?_,?_⟩
  ·simp only[fE];rw[sh];exact h3
  ·intro j s hj hs;cases j with
   |zero=>
    simp at hs;subst hs;refine⟨rfl,?_⟩;simp only[fE];have g1:=(oT (rest:=List.take (fE l i) rest++x.cells.toList++List.drop (fE l i+q.n) rest) oY).1;have g2:=(oT (rest:=rest) oY).1;simp only[pv,yF];rw[g1,g2]
   |succ j=>
    obtain⟨k1,k2⟩:=h4 j s (by omega) (by simpa using hs);refine⟨by simp[fE,k1],?_⟩;simp only[fE];rw[sh,sh];exact k2
def Hz{α:Type}{l:asv α}{j:Nat}{x:α}(h:j≠i):(l.set i x)[j]? =l[j]? :=by
 rw[List.getElem?_set_ne<|Ne.symm h]
def Oj{ps:asv mc}{cs:asv aq6}{p q:mc}{x:aq6}(h:Q1 B a w H ps cs)(hs:L0 w ps cs)(hi:ps[i]? =some p)(hx:Shape q.n q.agg x)(hn:q.n=p.n)(hq:q.holds B a w H x)
 (ada:∀b,q.owns w x b->p.owns w (pv p (fE ps i) cs) b\/ ¬py w b ps cs):
  ∃Bs,Bs=cs.take (fE ps i)++x.cells.toList++cs.drop (fE ps i+p.n)/\Q1 B a w H (ps.set i q) Bs/\L0 w (ps.set i q) Bs/\
   (∀b,py w b (ps.set i q) Bs->q.owns w x b\/(py w b ps cs/\ ¬p.owns w (pv p (fE ps i) cs) b)):=by
 obtain⟨h1,h2,h3,h4⟩:=Yj h hi hx hn hq;have hlt:=(jk.1 hi).1;have at':∀j s,(ps.set i q)[j]? =some s->(j=i/\s=q)\/(j≠i/\ps[j]? =some s):=fun j s hj=>by
  by_cases e:j=i
  ·subst e;rw[FL hlt] at hj;exact .inl ⟨rfl,(fG hj).symm⟩
  ·exact .inr ⟨e,by rwa [Hz e] at hj⟩
 have pN:=N6.1 hs;have sym:∀j s,j≠i->ps[j]? =some s->∀b,s.owns w (pv s (fE ps j) cs) b-> ¬p.owns w (pv p (fE ps i) cs) b:=fun j s hj hjs b hb jQ=>by
  rcases Nat.lt_or_gt_of_ne hj with h|h
  ·exact pN j i s p h hjs hi b hb jQ
  ·exact pN i j p s h hi hjs b jQ hb
 have alg:∀j s,j≠i->ps[j]? =some s->∀b,s.owns w (pv s (fE ps j) cs) b-> ¬q.owns w x b:=fun j s hj hjs b hb jQ=>by
  rcases ada b jQ with h|h
  ·exact sym j s hj hjs b hb h
  ·exact h<|tj.2 ⟨j,s,hjs,hb⟩
 refine⟨_,rfl,h1,N6.2 ?_,fun b hb=>?_⟩
 ·intro j k s t hjk hj hk b hb jQ;rcases at' j s hj with⟨rfl,rfl⟩|⟨nj,ej⟩<;>rcases at' k t hk with⟨rfl,rfl⟩|⟨nk,ek⟩
  ·omega
  ·rw[h2,h3] at hb;rw[(h4 k t nk ek).1,(h4 k t nk ek).2] at jQ;exact alg k t nk ek b jQ hb
  ·rw[h2,h3] at jQ;rw[(h4 j s nj ej).1,(h4 j s nj ej).2] at hb;exact alg j s nj ej b hb jQ
  ·rw[(h4 j s nj ej).1,(h4 j s nj ej).2] at hb;rw[(h4 k t nk ek).1,(h4 k t nk ek).2] at jQ;exact pN j k s t hjk ej ek b hb jQ
 ·obtain⟨j,s,hj,hb⟩:=tj.1 hb;rcases at' j s hj with⟨rfl,rfl⟩|⟨nj,ej⟩
  ·rw[h2,h3] at hb;exact .inl hb
  ·rw[(h4 j s nj ej).1,(h4 j s nj ej).2] at hb;exact .inr ⟨tj.2 ⟨j,s,ej,hb⟩,sym j s nj ej b hb⟩
def Ye{ps:asv mc}{cs:asv aq6}{p:mc}(h:Q1 B a w H ps cs)(hi:ps[i]? =some p):
  cs.take (fE ps i)++(pv p (fE ps i) cs).cells.toList++cs.drop (fE ps i+p.n)=cs:=by
 obtain⟨h1,_,_,h4⟩:=EA h hi;rw[h4,<-ji,rq,zN,zN]
def Kn{dd:Nat}{s s' sd:bN}(hs:Sat w0 H0 N Γ a w H)(ht:(t,s)∈Γ)(nU:dd<N)(hne:dd≠t)(hl:dd∉sd.bO)
 (pN:s'.holds w0 (a.put (some dd) v) w H (aX a t))(hv:sd.holds w0 a w H v)(o1:∀b,s'.owns w (aX a t) b->s.owns w (aX a t) b)(o2:∀b,sd.owns w v b->s.owns w (aX a t) b)
 (o3:∀b,sd.owns w v b-> ¬s'.owns w (aX a t) b):Sat w0 H0 N ((dd,sd)::(t,s')::del dd (bQ t Γ)) (a.put (some dd) v) w H:=by
 have sub:∀q∈del dd (bQ t Γ),q∈Γ/\q.1≠t:=fun q hq=>bI q<|lh q hq
 have h1:Sat w0 H0 N ((dd,sd)::del dd (bQ t Γ)) (a.put (some dd) v) w H:=
  pT (hs.weaken fun q hq=>(sub q hq).1) nU qk hl hv fun b hb q hq U7=>hs.sep _ ht q (sub q hq).1 (fun e=>(sub q hq).2 e.symm) b (o2 b hb) U7
 have et:aX (a.put (some dd) v) t=aX a t:=l6 hne;have ed:aX (a.put (some dd) v) dd=v:=tw (by rw[hs.sz];exact nU);have eo:∀q∈del dd (bQ t Γ),aX (a.put (some dd) v) q.1=aX a q.1:=fun q hq=>l6 (Pm hq).1.symm
 have key:∀q∈(dd,sd)::del dd (bQ t Γ),∀b,s'.owns w (aX a t) b-> ¬q.2.owns w (aX (a.put (some dd) v) q.1) b:=fun q hq b hb U7=>by
  rcases bP.1 hq with e|hq
  ·subst e;rw[ed] at U7;exact o3 b U7 hb
  ·rw[eo q hq] at U7;exact hs.sep _ ht q (sub q hq).1 (fun e=>(sub q hq).2 e.symm) b (o1 b hb) U7
 have h2:Sat w0 H0 N ((t,s')::(dd,sd)::del dd (bQ t Γ)) (a.put (some dd) v) w H:=by
  refine⟨h1.nd,h1.sz,h1.below,h1.J4,h1.sub,?_,?_,h1.gl⟩
  ·intro q hq;rcases bP.1 hq with e|hq
   ·subst e;simp only;rw[et];exact pN
   ·exact h1.holds q hq
  ·intro q hq r hr hn b hb jQ;rcases bP.1 hq with e|hq<;>rcases bP.1 hr with e'|hr
   ·subst e;subst e';exact hn rfl
   ·subst e;simp only at hb;rw[et] at hb;exact key r hr b hb jQ
   ·subst e';simp only at jQ;rw[et] at jQ;exact key q hq b jQ hb
   ·exact h1.sep q hq r hr hn b hb jQ
 refine h2.weaken fun q hq=>?_
 simp only[bP] at hq⊢;rcases hq with h|h|h
 ·exact .inr<| .inl h
 ·exact .inl h
 ·exact .inr<| .inr h
inductive jF(Γ:Ctx):Nat->Nat->Nat->Prop where
 |ptr {p t off:Nat} (h:look Γ p=some (.ptr t off)):jF Γ p t off
 |box {t:Nat} {T:asr} {g:Bool} {ps:asv mc} (h:look Γ t=some (.rC T g ps)):jF Γ t t 0
def jF.ok{ps:asv mc}(h:jF Γ p t off)(ht:look Γ t=some (.rC T gg ps))(hs:Sat w0 H0 N Γ a w H):
  ∃b cs,aX a t= .pointer (some ⟨b,0,none⟩)/\a.eval (.tmp p)= .pointer (some ⟨b,off,none⟩)/\w.heap[b]? =some (.cells cs T (0,0))/\H b=none/\w0.mY b/\Q1 w0 a w H ps cs.toList/\L0 w ps cs.toList/\ ¬py w b ps cs.toList:=by
 obtain⟨b,cs,e,hb,hn,hm,ho,L8,hx⟩:=hs.holds _<|az ht
 simp only at e;refine⟨b,cs,e,?_,hb,hn,hm,ho,L8,hx⟩;cases h with
 |ptr h=>
  obtain⟨b',e1,e2⟩:=hs.holds _<|az h
  simp only at e1 e2;rw[e] at e1;cases e1;exact e2
 |box h=>exact e
def Ou{ps:asv mc}(h:look Γ t=some (.rC T' gg ps)):bK P Γ ⟨d,.move<| .tmp t,ty,pos,af,g⟩ (.ptr t 0):=
 bh fun _ _ _ a w _ hs=>by
  obtain⟨b,cs,e,_⟩:=hs.holds _<|az h
  exact⟨aX a t,by simp[execOp];rfl,⟨b,e,e⟩,rfl⟩
def yq{o:Nat}(h:look Γ p=some (.ptr t o)):bK P Γ ⟨d,.nilCheck<| .tmp p,ty,pos,af,g⟩ (.ptr t o):=
 bh fun _ _ _ a w _ hs=>by
  obtain⟨b,e1,e2⟩:=hs.holds _<|az h
  have e':a.eval (.tmp p)= .pointer (some ⟨b,o,none⟩):=e2;exact⟨.pointer<|some ⟨b,o,none⟩,by simp[execOp,e',Instr.sureAddr],⟨b,e1,rfl⟩,rfl⟩
def tS{x:asu}{τ:Ty}(h:Arg Γ x (nY τ)):bK P Γ ⟨d,.nilCheck x,ty,pos,af,g⟩ (.val<|nY τ):=
 bh fun _ _ _ a w _ hs=>by
  obtain⟨b,o,cs,E,fr,e,hb,hl,hx⟩:=h.ok hs;exact⟨.pointer<|some ⟨b,o,none⟩,by simp[execOp,e,Instr.sureAddr],⟨b,o,cs,E,fr,rfl,hb,hl,hx⟩,rfl⟩
def Ko{p:mc}{b:Nat}{cs:auA aq6}{E:asr}{w':aq5}{ps:asv mc}(hT:eG P T p.n p.agg=true)(hb:w.heap[b]? =some (.cells cs E (0,0)))(h:Q1 B a w' H ps cs.toList)(hi:ps[i]? =some p):
  (loadVar T ⟨b,fE ps i,none⟩).run P w= .ok (pv p (fE ps i) cs.toList) w:=by
 obtain⟨h1,_,_,_⟩:=EA h hi;exact mg hT hb (by simpa using h1)
def Sb{u:Nat}{ps:asv mc}(hp:jF Γ p t off)(ht:look Γ t=some (.rC T' gg ps))(hi:ps[i]? =some (.sm u))(ho:fE ps i=off)(hT:eG P T 1 false=true):
  bK P Γ ⟨d,.load T<| .tmp p,ty,pos,af,g⟩ (.same u):=
 bh fun _ _ _ a w _ hs=>by
  obtain⟨b,cs,e,ep,hb,_,_,gS,_⟩:=hp.ok ht hs;subst ho;obtain⟨_,_,h3,_⟩:=EA gS hi;refine⟨_,?_,h3.1,rfl⟩;simp[execOp,ep,Instr.loadAt,Instr.sureAddr,Ko (p:= .sm u) hT hb gS hi]
def Yh{u:Nat}{U:asr}{gu:Bool}{ps pu:asv mc}(hp:jF Γ p t off)(ht:look Γ t=some (.rC T' gg ps))(hi:ps[i]? =some (.sm u))(ho:fE ps i=off)(hu:look Γ u=some (.rC U gu pu))(hT:eG P T 1 false=true):
  bK P Γ ⟨d,.load T<| .tmp p,ty,pos,af,g⟩ (.ptr u 0):=
 bh fun _ _ _ a w _ hs=>by
  obtain⟨b,cs,e,ep,hb,_,_,gS,_⟩:=hp.ok ht hs;obtain⟨c,_,eu,_⟩:=hs.holds _<|az hu
  subst ho;obtain⟨_,_,h3,_⟩:=EA gS hi;have DI:pv (.sm u) (fE ps i) cs.toList=aX a u:=h3.1;refine⟨pv (.sm u) (fE ps i) cs.toList,?_,⟨c,eu,?_⟩,rfl⟩
  ·simp[execOp,ep,Instr.loadAt,Instr.sureAddr,Ko (p:= .sm u) hT hb gS hi]
  ·rw[DI];exact eu
def mc.sty:mc->bN
 | .buf E sz l=> .buf E sz l
 | .map K E Eb sz mG=> .oQ K E Eb sz mG
 |_=> .gone
def mc.ZH:∀{p:mc},p.holds B a w H v->p.sty.holds B a w H v
 | .val _,_=>trivial
 | .any _ _,_=>trivial
 | .sm _,_=>trivial
 | .buf _ _ _,h=>h
 | .map _ _ _ _ _,h=>h
end
end Trn
